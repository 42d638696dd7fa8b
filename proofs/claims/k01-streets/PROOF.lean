import PyProof.Rows.All
import Wide.All
import OpenK.AllK
import Wide.FinOn
import HandS.ForMost
import HandS.ForExc
import HandS.HeadHook2
import HandS.Lambda
import HandS.TupAny
import HandS.TupMul
import HandS.Wide
import HandS.IsInst
import HandS.Style
import HandS.Zip
import HandS.Walk
import KE.GoesNew
import HandS.Iter
import HandS.SortInts
import HandS.ExcCtx
import HandS.Conv
import HandS.Text
import HandS.Comp
import HandS.ExcOwn
import HandS.Defaults
import HandS.HotCalls
import HandS.ExcIs
import HandS.HeadHook4
import HandS.HeadWalk
import HandS.Head0
import HandS.Head1
import HandS.Head2
import HandS.HeadEnd
import PySem.Challenge.RW_anysun_k01_streets_scripts_and_leans_kno
section
set_option Elab.async false
set_option maxRecDepth 100000
set_option linter.all false
/-! Ev1: a small language over plain data, and its evaluator. No machine in sight. -/
namespace Ev
open PySem
abbrev D := PyData

/-- what an owned thing holds: a list; an instance of the class with this name -/
inductive Ct where
  | lst (ds : List D)
  | obj (C : Str) (fs : List (Str × D))
/-- a local name: nothing known; shared data; a thing of its own; a thing of the caller's -/
inductive Slot where
  | non
  | d (x : D)
  | own (c : Ct)
  | par (c : Ct)
abbrev Rho := List Slot

inductive R (α : Type) where
  | ok (a : α) (r : Rho)
  | ex (c : Str) (r : Rho)
  | no
def R.bind {α β : Type} (x : R α) (f : α → Rho → R β) : R β := match x with
  | .ok a r => f a r
  | .ex c r => .ex c r
  | .no => .no
@[simp] theorem R.bind_ok {α β : Type} (a : α) (r : Rho) (f : α → Rho → R β) : (R.ok a r).bind f = f a r := rfl
@[simp] theorem R.bind_ex {α β : Type} (c : Str) (r : Rho) (f : α → Rho → R β) : (R.ex c r : R α).bind f = .ex c r := rfl
@[simp] theorem R.bind_no {α β : Type} (f : α → Rho → R β) : (R.no : R α).bind f = .no := rfl
/-- a value that may be lacking, the names as they are -/
def R.of {α : Type} (r : Rho) : Option α → R α
  | some a => .ok a r
  | none => .no
@[simp] theorem R.of_some {α : Type} (r : Rho) (a : α) : R.of r (some a) = .ok a r := rfl
@[simp] theorem R.of_none {α : Type} (r : Rho) : R.of r (none : Option α) = .no := rfl

/-! ### operations by values -/
def lenLim : Nat := 16000000
def b2z (b : Bool) : Int := if b then 1 else 0
def dAdd : D → D → Option D
  | .int i, .int j => some (.int (i + j))
  | .str x, .str y => if x.length + y.length ≤ lenLim then some (.str (x ++ y)) else none
  | .list xs, .list ys => if xs.length + ys.length ≤ lenLim then some (.list (xs ++ ys)) else none
  | .tuple xs, .tuple ys => if xs.length + ys.length ≤ lenLim then some (.tuple (xs ++ ys)) else none
  | .bool a, .int j => some (.int (b2z a + j))
  | _, _ => none
def dSub : D → D → Option D
  | .int i, .int j => some (.int (i - j))
  | .bool a, .bool b => some (.int (b2z a - b2z b))
  | .bool a, .int j => some (.int (b2z a - j))
  | _, _ => none
/-- xs * k as the rules know it -/
def dMul : D → D → Option D
  | .int i, .int j => if i.natAbs.log2 + j.natAbs.log2 < 1000000 then some (.int (i * j)) else none
  | .list xs, .int k => if xs.length ≤ 1000 ∧ 0 ≤ k ∧ k ≤ 1000 then some (.list (List.replicate k.toNat xs).flatten) else none
  | .tuple xs, .int k => if xs.length ≤ 1000 ∧ xs ≠ [] ∧ 1 ≤ k ∧ k ≤ 1000 then some (.tuple (List.replicate k.toNat xs).flatten) else none
  | _, _ => none
def dDiv : D → D → Option D
  | .int i, .int j => if 0 < j ∧ j.natAbs.log2 < 9000 then some (.int (i / j)) else none
  | _, _ => none
def dMod : D → D → Option D
  | .int i, .int j => if 0 < j then some (.int (i % j)) else none
  | _, _ => none
def dPow : D → D → Option D
  | .int i, .int j => if 0 ≤ j ∧ j ≤ 1000 ∧ i.natAbs < 1000 then some (.int (i ^ j.toNat)) else none
  | _, _ => none
def dBin : Operator → D → D → Option D
  | .Add => dAdd
  | .Sub => dSub
  | .Mult => dMul
  | .FloorDiv => dDiv
  | .Mod => dMod
  | .Pow => dPow
  | _ => fun _ _ => none
def shaped2 (a b : D) : Bool := SeqAt.shaped a && SeqAt.shaped b
def flatD : D → Bool
  | .none => true
  | .bool _ => true
  | .int _ => true
  | .str _ => true
  | _ => false
def dIn (x : D) : D → Option Bool
  | .list ys => if flatD x && ys.all flatD then some (ys.any fun y => PyData.eqv y x) else none
  | .tuple ys => if flatD x && ys.all flatD then some (ys.any fun y => PyData.eqv y x) else none
  | .str z => match x with
    | .str y => some (!(Builtin.Str.occurrences z y 0 z.length 1).isEmpty)
    | _ => none
  | _ => none
def dIs (x : D) : D → Option Bool
  | .none => some (match x with | .none => true | _ => false)
  | .bool b => match x with
    | .bool a => some (decide (a = b))
    | _ => none
  | _ => none
def dCmp (op : CmpOp) (x y : D) : Option D :=
  match op with
  | .Eq => if shaped2 x y then some (.bool (PyData.eqv x y)) else none
  | .NotEq => if shaped2 x y then some (.bool (!PyData.eqv x y)) else none
  | .Lt => match x, y with | .int i, .int j => some (.bool (decide (i < j))) | _, _ => none
  | .LtE => match x, y with | .int i, .int j => some (.bool (decide (i ≤ j))) | _, _ => none
  | .Gt => match x, y with | .int i, .int j => some (.bool (decide (j < i))) | _, _ => none
  | .GtE => match x, y with | .int i, .int j => some (.bool (decide (j ≤ i))) | _, _ => none
  | .In => (dIn x y).map .bool
  | .NotIn => (dIn x y).map fun b => .bool (!b)
  | .Is => (dIs x y).map .bool
  | .IsNot => (dIs x y).map fun b => .bool (!b)

/-- built-in functions by name, of written arguments -/
inductive Bi where
  | len | abs | all | any | tuple | list | int | str | bool | min | max | sorted
  deriving DecidableEq
def allB : List D → Option (List Bool)
  | [] => some []
  | .bool b :: r => (allB r).map (b :: ·)
  | _ => none
def intD (d : D) : Option D := match d with
  | .int i => some (.int i)
  | .bool b => some (.int (b2z b))
  | .str x => if x.length ≤ 640 then (intText? x).map .int else none
  | _ => none
def intsD : List D → Option (List Int)
  | [] => some []
  | .int i :: r => (intsD r).map (i :: ·)
  | _ => none
/-- put into an ascending list -/
def insAsc (x : Int) : List Int → List Int
  | [] => [x]
  | y :: ys => if x ≤ y then x :: y :: ys else y :: insAsc x ys
def srtI : List Int → List Int
  | [] => []
  | x :: xs => insAsc x (srtI xs)
def dBi : Bi → List D → Option D
  | .len, [.list xs] => some (.int xs.length)
  | .len, [.tuple xs] => some (.int xs.length)
  | .len, [.str z] => if z.length ≤ lenLim then some (.int z.length) else none
  | .abs, [.int i] => some (.int (if i < 0 then -i else i))
  | .all, [.list xs] => (allB xs).map fun bs => .bool (bs.all id)
  | .any, [.list xs] => (allB xs).map fun bs => .bool (bs.any id)
  | .tuple, [.list xs] => some (.tuple xs)
  | .tuple, [.tuple xs] => some (.tuple xs)
  | .list, [.list xs] => some (.list xs)
  | .list, [.tuple xs] => some (.list xs)
  | .int, [d] => intD d
  | .str, [.int i] => if i.natAbs.log2 < 1920 then some (.str (Str.ofString (toString i))) else none
  | .bool, [.int i] => some (.bool (i != 0))
  | .bool, [.bool b] => some (.bool b)
  | .min, [.int i, .int j] => some (.int (if j < i then j else i))
  | .max, [.int i, .int j] => some (.int (if j > i then j else i))
  | .sorted, [.list xs] => (intsD xs).map fun ns => .list ((srtI ns).map .int)
  | _, _ => none
inductive Ty where
  | int | bool | str | tuple | list
  deriving DecidableEq
def dIsi : D → Ty → Option Bool
  | .none, _ => some false
  | .bool _, .int => some true
  | .bool _, t => some (t == .bool)
  | .int _, t => some (t == .int)
  | .str _, t => some (t == .str)
  | .list _, t => some (t == .list)
  | .tuple _, t => some (t == .tuple)
  | .dict _, _ => none
/-- a place in a list of n items -/
def ixP (n : Nat) (i : Int) : Option Nat := if 0 ≤ i then (if i < n then some i.toNat else none) else if -(n : Int) ≤ i then some (i + n).toNat else none
def atP {α : Type} (xs : List α) (i : Int) : Option α := (ixP xs.length i).bind fun j => xs[j]?
def dIx : D → D → Option D
  | .list xs, .int i => atP xs i
  | .tuple xs, .int i => atP xs i
  | .str z, .int i => if z.length ≤ lenLim then (atP z.cps.toList i).map fun c => .str ⟨#[c]⟩ else none
  | _, _ => none
/-- where a slice's end falls among n items; e where none is said -/
def sEnd (n e : Nat) (o : Option Int) : Nat := o.elim e fun v => (if v < 0 then v + n else min v n).toNat
def cutP {α : Type} (xs : List α) (lo hi : Option Int) : List α := (xs.drop (sEnd xs.length 0 lo)).take (sEnd xs.length xs.length hi - sEnd xs.length 0 lo)
def dSl (d : D) (lo hi : Option Int) : Option D := match d with
  | .list xs => some (.list (cutP xs lo hi))
  | .tuple xs => some (.tuple (cutP xs lo hi))
  | .str z => if z.length ≤ lenLim then some (.str ⟨(cutP z.cps.toList lo hi).toArray⟩) else none
  | _ => none
def dRev : D → Option D
  | .list xs => some (.list xs.reverse)
  | _ => none
def dRevT : D → Option D
  | .tuple xs => some (.tuple xs.reverse)
  | _ => none
def asInt : D → Option Int
  | .int i => some i
  | _ => none
def strsOf : List D → Option (List Str)
  | [] => some []
  | .str z :: r => (strsOf r).map (z :: ·)
  | _ => none
/-- methods of texts, of tuples -/
inductive Mt where
  | join | split
  deriving DecidableEq
def dMt : Mt → D → List D → Option D
  | .join, .str sep, [.list xs] => (strsOf xs).bind fun zs => if (zs.map (·.length)).sum + zs.length * sep.length ≤ lenLim then some (.str (Txt.join sep zs)) else none
  | .split, .str z, [.str sep] => if sep.length ≠ 0 ∧ z.length + 2 ≤ lenLim then some (.list ((Txt.split z sep).map .str)) else none
  | _, _, _ => none

/-! ### the language -/
/-- where a loop puts its item: a name's place; one part after another -/
inductive Tg where
  | nm (i : Nat)
  | tp (ts : Tg)
  | nil
  | cons (a b : Tg)
inductive E where
  | nil | cons (a b : E)
  | kI (i : Int) | kS (s : Str) | kB (b : Bool) | kN
  | v (i : Nat)
  | gl (j : Nat)
  | bin (op : Operator) (a b : E)
  | neg (a : E)
  | nt (a : E)
  | band (a b : E) | bor (a b : E) | one (a : E)
  | cmp (op : CmpOp) (a b : E)
  | chn (op op' : CmpOp) (a b c : E)
  | ite (c a b : E)
  | call (f : Nat) (as : E)
  | bi (b : Bi) (as : E)
  | isi (a : E) (t : Ty)
  | tup (as : E) | lst (as : E)
  | ix (a b : E)
  | sl (a lo hi : E)
  | rev (a : E)
  | revT (a : E)
  | lc (elt it : E) (t : Tg) (cond : E) (own : List Nat)
  | iStr (a : E)
  | iSeq (a : E) | iRng (a b : E) | iZip (a b : E) | iEnum (a : E)
  | lRng (a : E)
  | nilB (i : Nat) (op : CmpOp) | lenB (i : Nat) | ixB (i : Nat) (k : Int) | popB (i : Nat) (k : Int)
  | mt (m : Mt) (a as : E)
  | tell (h : Nat) (b : E)
inductive S where
  | skip
  | seq (a b : S)
  | set (i : Nat) (e : E)
  | setO (i : Nat) (e : E)
  | asg (t : Tg) (e : E)
  | par (ts : List (Nat × Bool)) (es : E)
  | app (i : Nat) (e : E)
  | setIx (i : Nat) (k : Int) (e : E)
  | fr (t : Tg) (it : E) (b : S)
  | wh (c : E) (b : S)
  | ifs (c : E) (a b : S)
  | ret (e : E) | retO (i : Nat) | retF (e : E) | retN
  | rs (c : Str)
  | ex (e : E)
  | brk | cnt

/-! ### calls -/
inductive Arg where
  | d (x : D)
  | ob (c : Ct)
/-- what comes back: data; a new list that nobody else holds; the j-th argument itself -/
inductive Rv where
  | d (x : D)
  | fr (ds : List D)
  | par (j : Nat)
inductive RC where
  | ok (r : Rv) (outs : List Ct)
  | ex (c : Str) (outs : List Ct)
  | no
abbrev Calls := Nat → List Arg → RC
/-- an argument: data, or the thing that a name owns -/
inductive AV where
  | d (x : D)
  | sl (i : Nat)
def ctAt (r : Rho) (i : Nat) : Option Ct := match r[i]? with
  | some (.own c) => some c
  | some (.par c) => some c
  | _ => none
/-- what the names own, each once -/
def gather (r : Rho) (seen : List Nat) : List AV → Option (List Arg)
  | [] => some []
  | .d x :: as => (gather r seen as).map (.d x :: ·)
  | .sl i :: as => if i ∈ seen then none else (ctAt r i).bind fun c => (gather r (i :: seen) as).map (.ob c :: ·)
def putC (r : Rho) (i : Nat) (c : Ct) : Rho := match r[i]? with
  | some (.own _) => r.set i (.own c)
  | some (.par _) => r.set i (.par c)
  | _ => r
def putBack (r : Rho) : List AV → List Ct → Rho
  | [], _ => r
  | .d _ :: as, outs => putBack r as outs
  | .sl i :: as, c :: outs => putBack (putC r i c) as outs
  | .sl _ :: _, [] => r
/-- reading a name: what it owns is shared from then on -/
def readV (r : Rho) (i : Nat) : R D := match r[i]? with
  | some (.d x) => .ok x r
  | some (.own (.lst ds)) => .ok (.list ds) (r.set i (.d (.list ds)))
  | _ => .no
def unList : D → Option (List D)
  | .list xs => some xs
  | .tuple xs => some xs
  | _ => none
/-- a text's signs -/
def signsD (z : Str) : List D := z.cps.toList.map fun c => .str ⟨#[c]⟩
def unStr : D → Option (List D)
  | .str z => some (signsD z)
  | _ => none
def unTup : D → Option (List D)
  | .tuple xs => some xs
  | _ => none
def unBool : D → Option Bool
  | .bool b => some b
  | _ => none
/-- a name's place may be stored to: nothing of the caller's stands there -/
def free? (r : Rho) (i : Nat) : Bool := match r[i]? with
  | some (.par _) => false
  | some _ => true
  | none => false
def put (r : Rho) (i : Nat) (x : Slot) : Option Rho := if free? r i then some (r.set i x) else none
mutual
def asgT : Tg → D → Rho → Option Rho
  | .nm i, x, r => put r i (.d x)
  | .tp ts, x, r => (unTup x).bind fun xs => asgL ts xs r
  | _, _, _ => none
def asgL : Tg → List D → Rho → Option Rho
  | .nil, [], r => some r
  | .cons a b, x :: xs, r => (asgT a x r).bind fun r' => asgL b xs r'
  | _, _, _ => none
end
end Ev
end
section
set_option Elab.async false
set_option maxRecDepth 100000
set_option linter.all false
/-! Ev2: the evaluator. -/
namespace Ev
open PySem

def lstAt (r : Rho) (i : Nat) : Option (List D) := match r[i]? with
  | some (.own (.lst ds)) => some ds
  | some (.par (.lst ds)) => some ds
  | some (.d (.list ds)) => some ds
  | _ => none
def mutAt (r : Rho) (i : Nat) : Option (List D) := match r[i]? with
  | some (.own (.lst ds)) => some ds
  | some (.par (.lst ds)) => some ds
  | _ => none
def R.noex {α : Type} : R α → R α
  | .ok a r => .ok a r
  | _ => .no
/-- turns of a comprehension: each gives an item or none -/
def lcLoop (step : D → Rho → R (Option D)) : List D → Rho → R (List D)
  | [], r => .ok [] r
  | x :: xs, r => (step x r).bind fun o r1 => (lcLoop step xs r1).bind fun ys r2 => .ok (o.toList ++ ys) r2
def wipeR (r : Rho) : List Nat → Rho
  | [] => r
  | i :: is => (wipeR r is).set i .non
def loose? (r : Rho) (own : List Nat) : Bool := own.all fun i => match r[i]? with
  | some .non => true
  | some (.d _) => true
  | _ => false
def backR (r0 r : Rho) : List Nat → Rho
  | [] => r
  | i :: is => (backR r0 r is).set i (r0.getD i .non)
def rngOk (a b : Int) : Bool := decide (-1000000000 ≤ a ∧ a ≤ 1000000000 ∧ -1000000000 ≤ b ∧ b ≤ 1000000000 ∧ b - a ≤ 16000000)
def rngD (a b : Int) : List D := (List.range (b - a).toNat).map fun i => .int (a + (i : Nat))
def zipD (xs ys : List D) : List D := List.zipWith (fun x y => .tuple [x, y]) xs ys
def enumD : Nat → List D → List D
  | _, [] => []
  | n, x :: xs => .tuple [.int (n : Nat), x] :: enumD (n + 1) xs
def ofRv (r : Rho) : Rv → R D
  | .d x => .ok x r
  | .fr ds => .ok (.list ds) r
  | .par _ => .no

/-- what a helper of the law makes of a lambda's outcome: the value, or the error's class -/
def telOf (o : RC) (r : Rho) : R D := match o with
  | .ok (.d y) [] => .ok y r
  | _ => .no
def telEv (g : List Arg → RC) (x : R D) : R D := match x with
  | .ok y r => telOf (g [.d y]) r
  | .ex c r => telOf (g [.d (.str c), .d .none]) r
  | .no => .no
/-- an argument: a name that owns something hands it on -/
def avOf (e : E) (f : Rho → R D) (r : Rho) : R AV := match e with
  | .v i => (match r[i]? with
    | some (.own _) => .ok (.sl i) r
    | some (.par _) => .ok (.sl i) r
    | some (.d x) => .ok (.d x) r
    | _ => .no)
  | _ => (f r).bind fun x r1 => .ok (.d x) r1
/-- a slice's end -/
def optI (e : E) (f : Rho → R D) (r : Rho) : R (Option Int) := match e with
  | .nil => .ok none r
  | _ => (f r).bind fun x r1 => match x with
    | .int i => .ok (some i) r1
    | _ => .no
/-- a comprehension's test -/
def optB (e : E) (f : Rho → R D) (r : Rho) : R Bool := match e with
  | .nil => .ok true r
  | _ => (f r).bind fun x r1 => match x with
    | .bool b => .ok b r1
    | _ => .no
def optZ (e : E) (f : Rho → R D) (r : Rho) : R D := match e with
  | .nil => .ok (.int 0) r
  | _ => f r
section
variable (C : Calls) (gl : List D)
def doCall (f : Nat) (avs : List AV) (r : Rho) : R Rv := match gather r [] avs with
  | none => .no
  | some args => match C f args with
    | .ok rv outs => .ok rv (putBack r avs outs)
    | .ex c outs => .ex c (putBack r avs outs)
    | .no => .no
mutual
/-- an expression's value -/
def evE : E → Rho → R D
  | .nil, _ => .no
  | .cons _ _, _ => .no
  | .kI i, r => .ok (.int i) r
  | .kS s, r => .ok (.str s) r
  | .kB b, r => .ok (.bool b) r
  | .kN, r => .ok .none r
  | .v i, r => readV r i
  | .gl j, r => R.of r gl[j]?
  | .bin op a b, r => (evE a r).bind fun x r1 => (evE b r1).bind fun y r2 => R.of r2 (dBin op x y)
  | .neg a, r => (evE a r).bind fun x r1 => match x with
    | .int i => .ok (.int (-i)) r1
    | _ => .no
  | .nt a, r => (evE a r).bind fun x r1 => match x with
    | .bool b => .ok (.bool (!b)) r1
    | _ => .no
  | .band a b, r => (evE a r).bind fun x r1 => match x with
    | .bool true => evE b r1
    | .bool false => .ok (.bool false) r1
    | _ => .no
  | .bor a b, r => (evE a r).bind fun x r1 => match x with
    | .bool true => .ok (.bool true) r1
    | .bool false => evE b r1
    | _ => .no
  | .one a, r => evE a r
  | .cmp op a b, r => (evE a r).bind fun x r1 => (evE b r1).bind fun y r2 => R.of r2 (dCmp op x y)
  | .chn op op' a b c, r => (evE a r).bind fun x r1 => (evE b r1).bind fun y r2 => match dCmp op x y with
    | some (.bool true) => (evE c r2).bind fun z r3 => R.of r3 (dCmp op' y z)
    | some (.bool false) => .ok (.bool false) r2
    | _ => .no
  | .ite c a b, r => (evE c r).bind fun x r1 => match x with
    | .bool true => evE a r1
    | .bool false => evE b r1
    | _ => .no
  | .call f as, r => (evAs as r).bind fun avs r1 => (doCall C f avs r1).bind fun rv r2 => ofRv r2 rv
  | .bi b as, r => (evDs as r).bind fun xs r1 => R.of r1 (dBi b xs)
  | .isi a t, r => (evE a r).bind fun x r1 => R.of r1 ((dIsi x t).map .bool)
  | .tup as, r => (evDs as r).bind fun xs r1 => if xs.length ≤ lenLim then .ok (.tuple xs) r1 else .no
  | .lst as, r => (evDs as r).bind fun xs r1 => if xs.length ≤ lenLim then .ok (.list xs) r1 else .no
  | .ix a b, r => (evE a r).bind fun x r1 => (evE b r1).bind fun y r2 => R.of r2 (dIx x y)
  | .sl a lo hi, r => (evE a r).bind fun x r1 => (optI lo (evE lo) r1).bind fun l r2 => (optI hi (evE hi) r2).bind fun h r3 => R.of r3 (dSl x l h)
  | .rev a, r => (evE a r).bind fun x r1 => R.of r1 (dRev x)
  | .revT a, r => (evE a r).bind fun x r1 => R.of r1 (dRevT x)
  | .lc elt it t cond own, r => (evI it r).bind fun items r1 =>
    if loose? r1 own && decide (items.length ≤ lenLim) then
      (lcLoop (fun x r => ((R.of r ((asgT t x r).map fun r' => ((), r'))).bind fun p _ => (optB cond (evE cond) p.2).bind fun b r3 =>
        if b then (evE elt r3).bind fun y r4 => .ok (some y) (wipeR r4 own) else .ok none (wipeR r3 own)).noex) items (wipeR r1 own)).bind fun ys r5 => .ok (.list ys) (backR r1 r5 own)
    else .no
  | .iStr _, _ => .no
  | .iSeq _, _ => .no
  | .iRng _ _, _ => .no
  | .iZip _ _, _ => .no
  | .iEnum _, _ => .no
  | .lRng a, r => (evE a r).bind fun x r1 => match x with
    | .int n => if rngOk 0 n then .ok (.list (rngD 0 n)) r1 else .no
    | _ => .no
  | .nilB i op, r => match lstAt r i with
    | some ds => if SeqAt.shaped (.list ds) then match op with
      | .Eq => .ok (.bool ds.isEmpty) r
      | .NotEq => .ok (.bool (!ds.isEmpty)) r
      | _ => .no
      else .no
    | none => .no
  | .lenB i, r => match lstAt r i with
    | some ds => .ok (.int ds.length) r
    | none => .no
  | .ixB i k, r => match lstAt r i with
    | some ds => R.of r (atP ds k)
    | none => .no
  | .popB i k, r => match mutAt r i with
    | some ds => match ixP ds.length k with
      | some j => match ds[j]? with
        | some x => .ok x (putC r i (.lst (ds.eraseIdx j)))
        | none => .no
      | none => .no
    | none => .no
  | .mt m a as, r => (evE a r).bind fun x r1 => match x with
    | .str z => (evDs as r1).bind fun xs r2 => R.of r2 (dMt m (.str z) xs)
    | _ => .no
  | .tell h b, r => telEv (C (1000 + h)) (evE b r)
/-- a list of values -/
def evDs : E → Rho → R (List D)
  | .nil, r => .ok [] r
  | .cons a b, r => (evE a r).bind fun x r1 => (evDs b r1).bind fun xs r2 => .ok (x :: xs) r2
  | _, _ => .no
/-- arguments -/
def evAs : E → Rho → R (List AV)
  | .nil, r => .ok [] r
  | .cons a b, r => (avOf a (evE a) r).bind fun x r1 => (evAs b r1).bind fun xs r2 => .ok (x :: xs) r2
  | _, _ => .no
/-- what is walked -/
def evI : E → Rho → R (List D)
  | .iStr a, r => (evE a r).bind fun x r1 => R.of r1 (unStr x)
  | .iSeq a, r => (evE a r).bind fun x r1 => R.of r1 (unList x)
  | .iRng a b, r => (optZ a (evE a) r).bind fun x r1 => (evE b r1).bind fun y r2 => match x, y with
    | .int m, .int n => if rngOk m n then .ok (rngD m n) r2 else .no
    | _, _ => .no
  | .iZip a b, r => (evE a r).bind fun x r1 => (evE b r1).bind fun y r2 => match unList x, unList y with
    | some xs, some ys => .ok (zipD xs ys) r2
    | _, _ => .no
  | .iEnum a, r => (evE a r).bind fun x r1 => R.of r1 ((unList x).map (enumD 0))
  | _, _ => .no
end
end
end Ev
end
section
set_option Elab.async false
set_option maxRecDepth 100000
set_option linter.all false
set_option autoImplicit false
set_option maxHeartbeats 1200000
/-! Ev3: data as it lies in the tracked heap; what is kept. -/
namespace Ev
open PySem PySem.Spec PyProof.Rows L2

/-- a list of the written part -/
def KL (K : PySem.W.Frag) (a : Addr) (vs : List V) : Prop :=
  ∃ (o : Obj) (its : Array Value) (n : Nat), K.lookup a = some o ∧ o.cls = .type "list" ∧ o.dict = none ∧ o.data = .seq its n ∧ its.size ≤ sizeLine ∧ Vals vs its.toList
/-- a list to be read, not one of A -/
def LsAt (K : PySem.W.Frag) (A : Addr → Prop) (H : Hp) (a : Addr) (vs : List V) : Prop := (Rd H a (.lst vs) ∧ ¬ A a) ∨ KL K a vs
theorem LsAt.sq {K : PySem.W.Frag} {A : Addr → Prop} {H : Hp} {a : Addr} {vs : List V} (h : LsAt K A H a vs) : SqL K H a vs := h.elim (fun q => .inl q.1) .inr
mutual
inductive Rl (K : PySem.W.Frag) (A : Addr → Prop) (H : Hp) : D → V → Prop
  | non : Rl K A H .none .non
  | bl (b : Bool) : Rl K A H (.bool b) (.bl b)
  | int (i : Int) : Rl K A H (.int i) (.int i)
  | str (x : Str) : Rl K A H (.str x) (.str x)
  | lst {a : Addr} {vs : List V} {ds : List D} : LsAt K A H a vs → RlL K A H ds vs → Rl K A H (.list ds) (.ref a)
  | tup {a : Addr} {vs : List V} {ds : List D} : SqT K H a vs → RlL K A H ds vs → Rl K A H (.tuple ds) (.ref a)
inductive RlL (K : PySem.W.Frag) (A : Addr → Prop) (H : Hp) : List D → List V → Prop
  | nil : RlL K A H [] []
  | cons {d : D} {ds : List D} {v : V} {vs : List V} : Rl K A H d v → RlL K A H ds vs → RlL K A H (d :: ds) (v :: vs)
end
section
variable {K : PySem.W.Frag} {A A' : Addr → Prop} {H H' : Hp}
mutual
theorem Rl.imp (hl : ∀ a vs, LsAt K A H a vs → LsAt K A' H' a vs) (ht : ∀ a vs, SqT K H a vs → SqT K H' a vs) : ∀ {d : D} {v : V}, Rl K A H d v → Rl K A' H' d v
  | _, _, .non => .non
  | _, _, .bl b => .bl b
  | _, _, .int i => .int i
  | _, _, .str x => .str x
  | _, _, .lst h r => .lst (hl _ _ h) (RlL.imp hl ht r)
  | _, _, .tup h r => .tup (ht _ _ h) (RlL.imp hl ht r)
theorem RlL.imp (hl : ∀ a vs, LsAt K A H a vs → LsAt K A' H' a vs) (ht : ∀ a vs, SqT K H a vs → SqT K H' a vs) : ∀ {d : List D} {v : List V}, RlL K A H d v → RlL K A' H' d v
  | _, _, .nil => .nil
  | _, _, .cons h r => .cons (Rl.imp hl ht h) (RlL.imp hl ht r)
end
theorem Rl.less (h : ∀ a, A' a → A a) {d : D} {v : V} (r : Rl K A H d v) : Rl K A' H d v := r.imp (fun _ _ q => q.elim (fun q => .inl ⟨q.1, fun z => q.2 (h _ z)⟩) .inr) fun _ _ q => q
theorem RlL.less (h : ∀ a, A' a → A a) {d : List D} {v : List V} (r : RlL K A H d v) : RlL K A' H d v := r.imp (fun _ _ q => q.elim (fun q => .inl ⟨q.1, fun z => q.2 (h _ z)⟩) .inr) fun _ _ q => q
theorem RlL.length : ∀ {ds : List D} {vs : List V}, RlL K A H ds vs → ds.length = vs.length
  | _, _, .nil => rfl
  | _, _, .cons _ r => congrArg Nat.succ (RlL.length r)
theorem RlL.append : ∀ {ds es : List D} {vs ws : List V}, RlL K A H ds vs → RlL K A H es ws → RlL K A H (ds ++ es) (vs ++ ws)
  | _, _, _, _, .nil, q => q
  | _, _, _, _, .cons a r, q => .cons a (RlL.append r q)
theorem RlL.get : ∀ {ds : List D} {vs : List V} {i : Nat} {d : D}, RlL K A H ds vs → ds[i]? = some d → ∃ v, vs[i]? = some v ∧ Rl K A H d v
  | _, _, 0, _, .cons a _, e => by simp at e; subst e; exact ⟨_, rfl, a⟩
  | _, _, i + 1, _, .cons _ r, e => by
    obtain ⟨v, h1, h2⟩ := RlL.get (i := i) r (by simpa using e)
    exact ⟨v, by simpa using h1, h2⟩
theorem RlL.getV : ∀ {ds : List D} {vs : List V} {i : Nat} {v : V}, RlL K A H ds vs → vs[i]? = some v → ∃ d, ds[i]? = some d ∧ Rl K A H d v
  | _, _, 0, _, .cons a _, e => by simp at e; subst e; exact ⟨_, rfl, a⟩
  | _, _, i + 1, _, .cons _ r, e => by
    obtain ⟨v, h1, h2⟩ := RlL.getV (i := i) r (by simpa using e)
    exact ⟨v, by simpa using h1, h2⟩
theorem RlL.take : ∀ {ds : List D} {vs : List V} (n : Nat), RlL K A H ds vs → RlL K A H (ds.take n) (vs.take n)
  | _, _, 0, _ => .nil
  | _, _, _ + 1, .nil => .nil
  | _, _, n + 1, .cons a r => .cons a (RlL.take n r)
theorem RlL.drop : ∀ {ds : List D} {vs : List V} (n : Nat), RlL K A H ds vs → RlL K A H (ds.drop n) (vs.drop n)
  | _, _, 0, r => r
  | _, _, _ + 1, .nil => .nil
  | _, _, n + 1, .cons _ r => RlL.drop n r
theorem RlL.set {d : D} {v : V} (q : Rl K A H d v) : ∀ {ds : List D} {vs : List V} (i : Nat), RlL K A H ds vs → RlL K A H (ds.set i d) (vs.set i v)
  | _, _, _, .nil => .nil
  | _, _, 0, .cons _ r => .cons q r
  | _, _, i + 1, .cons a r => .cons a (RlL.set q i r)
theorem RlL.erase : ∀ {ds : List D} {vs : List V} (i : Nat), RlL K A H ds vs → RlL K A H (ds.eraseIdx i) (vs.eraseIdx i)
  | _, _, _, .nil => .nil
  | _, _, 0, .cons _ r => r
  | _, _, i + 1, .cons a r => .cons a (RlL.erase i r)
theorem RlL.reverse {ds : List D} {vs : List V} (r : RlL K A H ds vs) : RlL K A H ds.reverse vs.reverse := by
  induction ds generalizing vs with
  | nil => cases r; exact .nil
  | cons d ds ih =>
    cases r with
    | cons a r => rw [List.reverse_cons, List.reverse_cons]; exact (ih r).append (.cons a .nil)
theorem RlL.nil_iff {ds : List D} {vs : List V} (r : RlL K A H ds vs) : ds = [] ↔ vs = [] := by cases r <;> simp
theorem RlL.ints : ∀ (ns : List Int), RlL K A H (ns.map .int) (ns.map V.int)
  | [] => .nil
  | n :: ns => .cons (.int n) (RlL.ints ns)
theorem RlL.strs : ∀ (ns : List Str), RlL K A H (ns.map .str) (ns.map V.str)
  | [] => .nil
  | n :: ns => .cons (.str n) (RlL.strs ns)
theorem RlL.rep {ds : List D} {vs : List V} (r : RlL K A H ds vs) : ∀ n, RlL K A H (List.replicate n ds).flatten (List.replicate n vs).flatten
  | 0 => .nil
  | n + 1 => by rw [List.replicate_succ, List.replicate_succ, List.flatten_cons, List.flatten_cons]; exact r.append (RlL.rep r n)
mutual
theorem Rl.dp : ∀ {d : D} {v : V}, Rl K A H d v → Dp K H v d
  | _, _, .non => .non
  | _, _, .bl b => .bl b
  | _, _, .int i => .int i
  | _, _, .str x => .str x
  | _, _, .lst h r => .lst h.sq (RlL.dp r)
  | _, _, .tup h r => .tup h (RlL.dp r)
theorem RlL.dp : ∀ {d : List D} {v : List V}, RlL K A H d v → DpAll K H v d
  | _, _, .nil => .nil
  | _, _, .cons h r => .cons (Rl.dp h) (RlL.dp r)
end
end

/-! ### what is kept -/
class Tbls where
  T : List (Addr × Str)
/-- the things that a frame was handed, by the names' places -/
class Fr where
  P : Nat → Option Addr
variable [Tbls] [Fr]
/-- not a table of code objects -/
abbrev Nt (o : HO) : Prop := ∀ ps, o ≠ .tbl ps
/-- something stands there, no table -/
def Th (H : Hp) (a : Addr) : Prop := ∃ o, H a = some o ∧ Nt o
/-- all but what A has, and the tables, stays -/
abbrev Kp (A : Addr → Prop) (H H' : Hp) : Prop := ∀ a o, H a = some o → ¬ A a → Nt o → H' a = some o
structure Ext (O : Addr → Prop) (H : Hp) (O' : Addr → Prop) (H' : Hp) : Prop where
  keep : Kp O H H'
  dom : ∀ a, Th H a → Th H' a
  own : ∀ a, O' a → Th H a → O a
  tab : LamX.Tabs Tbls.T H → LamX.Tabs Tbls.T H'
/-- a thing that may be changed stands there -/
def Mu (H : Hp) (a : Addr) : Prop := (∃ xs, H a = some (.lst xs)) ∨ ∃ C dx fs, H a = some (.ins C dx fs)
theorem Mu.ne {H : Hp} {a : Addr} (h : Mu H a) : H a ≠ none := by
  rcases h with ⟨_, e⟩ | ⟨_, _, _, e⟩ <;> rw [e] <;> simp
theorem Mu.notup {H : Hp} {a : Addr} {xs : List V} (h : Mu H a) : H a ≠ some (.tup xs) := by
  rcases h with ⟨_, e⟩ | ⟨_, _, _, e⟩ <;> rw [e] <;> simp
theorem Mu.nt {H : Hp} {a : Addr} {o : HO} (h : Mu H a) (e : H a = some o) : Nt o := by
  rcases h with ⟨_, q⟩ | ⟨_, _, _, q⟩ <;> (rw [q] at e; cases e; exact fun _ z => nomatch z)
theorem Mu.th {H : Hp} {a : Addr} (h : Mu H a) : Th H a := by
  rcases h with ⟨_, q⟩ | ⟨_, _, _, q⟩ <;> exact ⟨_, q, fun _ z => nomatch z⟩
theorem no_th {H : Hp} {a : Addr} (h : H a = none) : ¬ Th H a := fun ⟨o, e, _⟩ => by rw [h] at e; cases e
theorem tabs_upd {T : List (Addr × Str)} {H : Hp} {a : Addr} {o : HO} (h : Mu H a) (t : LamX.Tabs T H) : LamX.Tabs T (upd H a o) := fun p hp => by
  obtain ⟨ps, h1, h2, h3⟩ := t p hp
  have n1 : p.1 ≠ a := fun e => by
    rw [e] at h1
    exact h.nt h1 ps rfl
  refine ⟨ps, (upd_ne n1).trans h1, h2, fun pos cv hc => ?_⟩
  obtain ⟨c, e1, e2⟩ := h3 _ cv hc
  refine ⟨c, e1, (upd_ne fun e => ?_).trans e2⟩
  rw [e] at e2
  rcases h with ⟨_, q⟩ | ⟨_, _, _, q⟩ <;> (rw [q] at e2; cases e2)
theorem Mu.nofrz {H : Hp} {a : Addr} {o : Obj} {u : HO} (h : Mu H a) : H a ≠ some (.frz o u) := by
  rcases h with ⟨_, e⟩ | ⟨_, _, _, e⟩ <;> rw [e] <;> simp
abbrev Av (O G : Addr → Prop) : Addr → Prop := fun a => O a ∨ G a
section
variable {O O' O'' G : Addr → Prop} {H H' H'' : Hp} {K : PySem.W.Frag}
theorem Ext.refl : Ext O H O H := ⟨fun _ _ e _ _ => e, fun _ e => e, fun _ h _ => h, id⟩
theorem Ext.trans (a : Ext O H O' H') (b : Ext O' H' O'' H'') : Ext O H O'' H'' :=
  ⟨fun x o e n m => b.keep x o (a.keep x o e n m) (fun z => n (a.own x z ⟨o, e, m⟩)) m, fun x e => b.dom x (a.dom x e), fun x z e => a.own x (b.own x z (a.dom x e)) e, fun t => b.tab (a.tab t)⟩
theorem Ext.same (s : Same H H') : Ext O H O H' := ⟨fun a o e _ _ => s a o e, fun a e => e.imp fun o q => ⟨s a o q.1, q.2⟩, fun _ h _ => h, fun t => t.ext s⟩
theorem SqT.ext {a : Addr} {vs : List V} (wf : ∀ a, O a → Mu H a) (e : Ext O H O' H') (h : SqT K H a vs) : SqT K H' a vs := by
  rcases h with (h | ⟨ob, h⟩) | h
  · exact .inl (.inl (e.keep _ _ h (fun z => (wf a z).notup h) fun _ z => nomatch z))
  · exact .inl (.inr ⟨ob, e.keep _ _ h (fun z => (wf a z).nofrz h) fun _ z => nomatch z⟩)
  · exact .inr h
theorem LsAt.ext {a : Addr} {vs : List V} (e : Ext O H O' H') (h : LsAt K (Av O G) H a vs) : LsAt K (Av O' G) H' a vs := by
  rcases h with ⟨h, n⟩ | h
  · refine .inl ⟨?_, fun z => ?_⟩
    · rcases h with h | ⟨o, h⟩
      · exact .inl (e.keep _ _ h (fun z => n (.inl z)) fun _ z => nomatch z)
      · exact .inr ⟨o, e.keep _ _ h (fun z => n (.inl z)) fun _ z => nomatch z⟩
    · rcases z with z | z
      · refine n (.inl (e.own a z ?_))
        rcases h with h | ⟨o, h⟩ <;> exact ⟨_, h, fun _ z => nomatch z⟩
      · exact n (.inr z)
  · exact .inr h
theorem Rl.ext (wf : ∀ a, O a → Mu H a) (e : Ext O H O' H') {d : D} {v : V} (r : Rl K (Av O G) H d v) : Rl K (Av O' G) H' d v := r.imp (fun _ _ q => q.ext e) fun _ _ q => SqT.ext wf e q
theorem RlL.ext (wf : ∀ a, O a → Mu H a) (e : Ext O H O' H') {d : List D} {v : List V} (r : RlL K (Av O G) H d v) : RlL K (Av O' G) H' d v := r.imp (fun _ _ q => q.ext e) fun _ _ q => SqT.ext wf e q
theorem SqT.same {a : Addr} {vs : List V} (e : Same H H') (h : SqT K H a vs) : SqT K H' a vs := by
  rcases h with (h | ⟨ob, h⟩) | h
  · exact .inl (.inl (e _ _ h))
  · exact .inl (.inr ⟨_, e _ _ h⟩)
  · exact .inr h
theorem LsAt.same {A : Addr → Prop} {a : Addr} {vs : List V} (e : Same H H') (h : LsAt K A H a vs) : LsAt K A H' a vs := by
  rcases h with ⟨h, n⟩ | h
  · refine .inl ⟨?_, n⟩
    rcases h with h | ⟨o, h⟩
    · exact .inl (e _ _ h)
    · exact .inr ⟨_, e _ _ h⟩
  · exact .inr h
theorem Rl.same {A : Addr → Prop} (e : Same H H') {d : D} {v : V} (r : Rl K A H d v) : Rl K A H' d v := r.imp (fun _ _ q => q.same e) fun _ _ q => SqT.same e q
theorem RlL.same {A : Addr → Prop} (e : Same H H') {d : List D} {v : List V} (r : RlL K A H d v) : RlL K A H' d v := r.imp (fun _ _ q => q.same e) fun _ _ q => SqT.same e q
theorem same_upd {p : Addr} {o : HO} (h : H p = none) : Same H (upd H p o) := fun b u e => by rw [upd_ne (ne_of_none e h)]; exact e
end

/-! ### the names -/
def FsR (K : PySem.W.Frag) (A : Addr → Prop) (H : Hp) : List (Str × D) → List (Str × V) → Prop
  | [], [] => True
  | p :: ps, q :: qs => (p.1 = q.1 ∧ Rl K A H p.2 q.2) ∧ FsR K A H ps qs
  | _, _ => False
def CtR (K : PySem.W.Frag) (A : Addr → Prop) (H : Hp) : Ct → Addr → Prop
  | .lst ds, a => ∃ vs, H a = some (.lst vs) ∧ RlL K A H ds vs
  | .obj C fs, a => ∃ dx gs, H a = some (.ins (He.ga K C) dx gs) ∧ FsR K A H fs gs
theorem FsR.imp {K : PySem.W.Frag} {A A' : Addr → Prop} {H H' : Hp} (h : ∀ d v, Rl K A H d v → Rl K A' H' d v) : ∀ {ps : List (Str × D)} {qs : List (Str × V)}, FsR K A H ps qs → FsR K A' H' ps qs
  | [], [], _ => trivial
  | _ :: _, _ :: _, r => ⟨⟨r.1.1, h _ _ r.1.2⟩, FsR.imp h r.2⟩
  | [], _ :: _, r => r.elim
  | _ :: _, [], r => r.elim
theorem RlL.imp' {K : PySem.W.Frag} {A A' : Addr → Prop} {H H' : Hp} (h : ∀ d v, Rl K A H d v → Rl K A' H' d v) : ∀ {ps : List D} {qs : List V}, RlL K A H ps qs → RlL K A' H' ps qs
  | _, _, .nil => .nil
  | _, _, .cons a r => .cons (h _ _ a) (RlL.imp' h r)
theorem CtR.imp {K : PySem.W.Frag} {A A' : Addr → Prop} {H H' : Hp} {c : Ct} {a : Addr} (h : ∀ d v, Rl K A H d v → Rl K A' H' d v) (e : H' a = H a) (r : CtR K A H c a) : CtR K A' H' c a := by
  cases c with
  | lst ds =>
    obtain ⟨vs, q, r⟩ := r
    exact ⟨vs, e.trans q, r.imp' h⟩
  | obj C fs =>
    obtain ⟨dx, gs, q, r⟩ := r
    exact ⟨dx, gs, e.trans q, r.imp h⟩
theorem CtR.mu {K : PySem.W.Frag} {A : Addr → Prop} {H : Hp} {c : Ct} {a : Addr} (r : CtR K A H c a) : Mu H a := by
  cases c with
  | lst ds => obtain ⟨vs, q, _⟩ := r; exact .inl ⟨vs, q⟩
  | obj C fs => obtain ⟨dx, gs, q, _⟩ := r; exact .inr ⟨_, _, _, q⟩
def SlotR (K : PySem.W.Frag) (O G : Addr → Prop) (H : Hp) : Slot → Option V → Prop
  | .non, _ => True
  | .d x, o => ∃ v, o = some v ∧ Rl K (Av O G) H x v
  | .own c, o => ∃ a, o = some (.ref a) ∧ O a ∧ CtR K (Av O G) H c a
  | .par c, o => ∃ a, o = some (.ref a) ∧ O a ∧ CtR K (Av O G) H c a
def isOwn : Option Slot → Bool
  | some (.own _) => true
  | some (.par _) => true
  | _ => false
def kd : Option Slot → Nat
  | some (.own _) => 1
  | some (.par _) => 2
  | _ => 0
/-- the names as they stand: G belongs to others who wait -/
structure Stt (K : PySem.W.Frag) (G O : Addr → Prop) (H : Hp) (r : Rho) (σ : L2.St) : Prop where
  wf : ∀ a, O a → Mu H a
  wg : ∀ a, G a → Mu H a ∧ ¬ O a
  len : r.length = σ.length
  sl : ∀ (i : Nat) (s : Slot), r[i]? = some s → SlotR K O G H s (σ[i]?.join)
  ap : ∀ (i j : Nat) (a : Addr), isOwn r[i]? = true → isOwn r[j]? = true → σ[i]?.join = some (.ref a) → σ[j]?.join = some (.ref a) → i = j
  pf : ∀ (j : Nat) (a : Addr), Fr.P j = some a → O a
  pq : ∀ (i : Nat), (kd r[i]? = 2 → ∃ a, σ[i]?.join = some (.ref a) ∧ Fr.P i = some a) ∧ (kd r[i]? = 1 → ∀ (j : Nat) (a : Addr), Fr.P j = some a → σ[i]?.join ≠ some (.ref a))
  tb : LamX.Tabs Tbls.T H
section
variable {K : PySem.W.Frag} {G O O' : Addr → Prop} {H H' : Hp} {r : Rho} {σ : L2.St}
theorem Mu.of_eq {a : Addr} (e : H' a = H a) (h : Mu H a) : Mu H' a := by
  rcases h with ⟨xs, q⟩ | ⟨C, dx, fs, q⟩
  · exact .inl ⟨xs, e.trans q⟩
  · exact .inr ⟨C, dx, fs, e.trans q⟩
theorem Mu.same {a : Addr} (s : Same H H') (h : Mu H a) : Mu H' a := by
  rcases h with ⟨xs, q⟩ | ⟨C, dx, fs, q⟩
  · exact .inl ⟨xs, s _ _ q⟩
  · exact .inr ⟨C, dx, fs, s _ _ q⟩
theorem CtR.same {A : Addr → Prop} {c : Ct} {a : Addr} (s : Same H H') (x : CtR K A H c a) : CtR K A H' c a := by
  refine x.imp (fun _ _ q => q.same s) ?_
  rcases x.mu with ⟨xs, q⟩ | ⟨C, dx, fs, q⟩ <;> rw [q, s _ _ q]
theorem SlotR.same {s : Slot} {o : Option V} (e : Same H H') (h : SlotR K O G H s o) : SlotR K O G H' s o := by
  cases s with
  | non => trivial
  | d x => obtain ⟨v, q, z⟩ := h; exact ⟨v, q, z.same e⟩
  | own c => obtain ⟨a, q, z, y⟩ := h; exact ⟨a, q, z, y.same e⟩
  | par c => obtain ⟨a, q, z, y⟩ := h; exact ⟨a, q, z, y.same e⟩
theorem Stt.same (x : Stt K G O H r σ) (s : Same H H') : Stt K G O H' r σ :=
  ⟨fun a z => (x.wf a z).same s, fun a z => ⟨(x.wg a z).1.same s, (x.wg a z).2⟩, x.len, fun i t e => (x.sl i t e).same s, x.ap, x.pf, x.pq, x.tb.ext s⟩
theorem Stt.avd (x : Stt K G O H r σ) : ∀ a, Av O G a → H a ≠ none := fun a z => z.elim (fun z => (x.wf a z).ne) fun z => (x.wg a z).1.ne
end

/-! ### what comes of an evaluation -/
/-- r has come, from O and H on: then Q -/
def Got {α β : Type} (K : PySem.W.Frag) (G : Addr → Prop) (Rel : (Addr → Prop) → Hp → α → β → Prop) (W : WX) (σ : L2.St) (O : Addr → Prop) (H : Hp) (r : R α) (Q : β → Hp → Prop) : Prop := match r with
  | .ok a r' => ∀ O' H' b, Ext O H O' H' → Stt K G O' H' r' σ → Rel O' H' a b → Q b H'
  | .ex c r' => ∀ O' H', Ext O H O' H' → Stt K G O' H' r' σ → W (.ref (He.ga K c)) none σ H'
  | .no => False
section
variable {α β γ δ : Type} {K : PySem.W.Frag} {G O O1 : Addr → Prop} {H H1 : Hp} {W : WX} {σ : L2.St} {Rel RelA : (Addr → Prop) → Hp → α → β → Prop} {RelC : (Addr → Prop) → Hp → γ → δ → Prop}
theorem Got.shift {r : R α} {Q : β → Hp → Prop} (e : Ext O H O1 H1) (h : Got K G Rel W σ O H r Q) : Got K G Rel W σ O1 H1 r Q := by
  cases r with
  | ok a r' => exact fun O' H' b e' s q => h O' H' b (e.trans e') s q
  | ex c r' => exact fun O' H' e' s => h O' H' (e.trans e') s
  | no => exact h
theorem Got.imp {r : R α} {Q Q' : β → Hp → Prop} (h : Got K G Rel W σ O H r Q) (k : ∀ b H', Q b H' → Q' b H') : Got K G Rel W σ O H r Q' := by
  cases r with
  | ok a r' => exact fun O' H' b e' s q => k _ _ (h O' H' b e' s q)
  | ex c r' => exact h
  | no => exact h
theorem Got.bind {r : R α} {f : α → Rho → R γ} {Q : δ → Hp → Prop} (h : Got K G RelC W σ O H (r.bind f) Q) :
    Got K G RelA W σ O H r (fun b H1 => ∃ O1 r1 a, Ext O H O1 H1 ∧ Stt K G O1 H1 r1 σ ∧ RelA O1 H1 a b ∧ Got K G RelC W σ O1 H1 (f a r1) Q) := by
  cases r with
  | ok a r' => exact fun O' H' b e s q => ⟨O', r', a, e, s, q, Got.shift e h⟩
  | ex c r' => exact h
  | no => exact h
end
abbrev RD (K : PySem.W.Frag) (G : Addr → Prop) : (Addr → Prop) → Hp → D → V → Prop := fun O' H' d v => Rl K (Av O' G) H' d v
abbrev RDs (K : PySem.W.Frag) (G : Addr → Prop) : (Addr → Prop) → Hp → List D → List V → Prop := fun O' H' d v => RlL K (Av O' G) H' d v
/-- the reading of an evaluation -/
def tGot {α β : Type} (K : PySem.W.Frag) (Rel : (Addr → Prop) → (Addr → Prop) → Hp → α → β → Prop) (W : WX) (ev : Rho → R α) : L2.St → Hp → (β → Hp → Prop) → Prop :=
  fun σ H Q => ∃ G O r, Stt K G O H r σ ∧ Got K G (Rel G) W σ O H (ev r) Q
abbrev tE (K : PySem.W.Frag) (W : WX) (ev : Rho → R D) : TE := tGot K (RD K) W ev
abbrev tDs (K : PySem.W.Frag) (W : WX) (ev : Rho → R (List D)) : TA := tGot K (RDs K) W ev
theorem PE.imp {X : Cx} {e : Expr} {t t' : TE} (h : PE X e t) (w : ∀ σ H Q, t' σ H Q → t σ H Q) : PE X e t' := ⟨fun pins s σ H Q I q => h.run pins s σ H Q I (w σ H Q q)⟩
theorem PT.imp {X : Cx} {e : Expr} {t t' : TT} (h : PT X e t) (w : ∀ σ H Q, t' σ H Q → t σ H Q) : PT X e t' := ⟨fun pins s σ H Q I q => h.run pins s σ H Q I (w σ H Q q)⟩
theorem PW.imp {X : Cx} {e : Expr} {t t' : TT} (h : PW X e t) (w : ∀ σ H Q, t' σ H Q → t σ H Q) : PW X e t' := ⟨fun wh pins s σ H Q I q => h.run wh pins s σ H Q I (w σ H Q q)⟩
theorem PA.imp {X : Cx} {e : List Expr} {t t' : TA} (h : PA X e t) (w : ∀ σ H Q, t' σ H Q → t σ H Q) : PA X e t' := ⟨fun pos pins s σ H Q I q => h.run pos pins s σ H Q I (w σ H Q q)⟩
theorem PS.imp {X : Cx} {e : Stmt} {t t' : TS} (h : PS X e t) (w : ∀ D σ H, t' D σ H → t D σ H) : PS X e t' := ⟨fun pins s σ H D I q => h.run pins s σ H D I (w D σ H q)⟩
theorem PSs.imp {X : Cx} {e : List Stmt} {t t' : TS} (h : PSs X e t) (w : ∀ D σ H, t' D σ H → t D σ H) : PSs X e t' := ⟨fun pins s σ H D I q => h.run pins s σ H D I (w D σ H q)⟩
end Ev
end
section
set_option Elab.async false
set_option maxRecDepth 100000
set_option linter.all false
set_option autoImplicit false
set_option maxHeartbeats 1200000
/-! Ev4: the operations by values, over the machine. -/
namespace Ev
open PySem PySem.Spec PyProof.Rows L2
variable [Tbls] [Fr]

/-- an answer d: in the heap as it was, or in one that has grown -/
def Ans (K : PySem.W.Frag) (A : Addr → Prop) (H : Hp) (d : D) (Q : VK) : Prop := ∀ H' v, Same H H' → Rl K A H' d v → Q v H'
/-- two values in, one out, by f -/
def rB (K : PySem.W.Frag) (f : D → D → Option D) : R2 := fun x y H Q => ∃ (A : Addr → Prop) (dx dy d : D), (∀ a, A a → H a ≠ none) ∧ Rl K A H dx x ∧ Rl K A H dy y ∧ f dx dy = some d ∧ Ans K A H d Q
section
variable {X : Cx}
theorem Ans.here {K : PySem.W.Frag} {A : Addr → Prop} {H : Hp} {d : D} {Q : VK} (h : Ans K A H d Q) {v : V} (r : Rl K A H d v) : Q v H := h H v (Same.refl H) r
theorem Ans.lst {K : PySem.W.Frag} {A : Addr → Prop} {H : Hp} {ds : List D} {vs : List V} {Q : VK} (hA : ∀ a, A a → H a ≠ none) (h : Ans K A H (.list ds) Q) (r : RlL K A H ds vs) {p : Addr} (hp : H p = none) : Q (.ref p) (upd H p (.lst vs)) :=
  h _ _ (same_upd hp) (.lst (.inl ⟨.inl upd_same, fun z => hA p z hp⟩) (r.same (same_upd hp)))
theorem Ans.tup {K : PySem.W.Frag} {A : Addr → Prop} {H : Hp} {ds : List D} {vs : List V} {Q : VK} (h : Ans K A H (.tuple ds) Q) (r : RlL K A H ds vs) {p : Addr} (hp : H p = none) : Q (.ref p) (upd H p (.tup vs)) :=
  h _ _ (same_upd hp) (.tup (.inl (.inl upd_same)) (r.same (same_upd hp)))
theorem line_lim : lenLim ≤ sizeLine := by rw [sizeLine_eq]; decide
/-- a list to be read, as its object stands -/
theorem list_there {pins : List (Addr × Obj)} {s : Shared} {σ : L2.St} {H : Hp} {l : Addr} {xs : List V} (I : L2.Inv X pins σ H s) (h : SqL X.K H l xs) :
    ∃ (us : List Value) (n : Nat) (sl : Array (Option Value)), Vals xs us ∧ xs.length = us.length ∧ s.heap.get? l = some { cls := .type "list", dict := none, data := .seq us.toArray n, slots := sl } := by
  obtain ⟨us, rel, ⟨⟨_, _, _, sl⟩, n, there, rfl, rfl, rfl⟩, _⟩ := I.list h
  exact ⟨us, n, sl, rel, rel.length, there⟩
/-- list + list, also of lists that stand elsewhere -/
theorem op_catS : OpR X (binaryOp .Add) (fun x y H Q => ∃ l b xs zs, x = .ref l ∧ y = .ref b ∧ SqL X.K H l xs ∧ SqL X.K H b zs ∧ xs.length + zs.length ≤ sizeLine ∧ ∀ p, H p = none → Q (.ref p) (upd H p (.lst (xs ++ zs)))) := by
  rintro pins s σ H x y v u Q I rx ry ⟨l, b, xs, zs, rfl, rfl, one, two, fits, fin⟩
  obtain ⟨us, n, sl, ru, lu, eu⟩ := list_there I one
  obtain ⟨ws, m, sm, rw', lw, ew⟩ := list_there I two
  cases rx
  cases ry
  have short : us.toArray.size + ws.toArray.size ≤ sizeLine := by simpa [← lu, ← lw] using fits
  have made := I.lnew (t' := s.toks) (ru.append rw') (by rw [List.length_append]; exact fits)
  refine concat_meets ⟨_, eu, rfl⟩ ⟨_, ew, rfl⟩ noFill_list_add seq_list_add PySem.F.slot_list_add PySem.F.entry_list_add (PySem.F.args_list_add_2 _ _) (list_addW l b _ _ n m none none sl sm short) ⟨eu, ew, ?_⟩
  rw [List.append_toArray]
  exact ⟨.ref s.heap.objs.size, _, made, rfl, fin _ I.fresh⟩
theorem op_add' : OpR X (binaryOp .Add) (rB X.K dAdd) := by
  intro ps s σ H x y v u Q I rx ry h
  obtain ⟨A, dx, dy, d, hA, r1, r2, e, q⟩ := h
  cases r1 with
  | int i =>
    cases r2 with
    | int j => cases e; exact op_add ps s σ H _ _ v u Q I rx ry ⟨i, j, rfl, rfl, q.here (.int _)⟩
    | _ => cases e
  | str i =>
    cases r2 with
    | str j =>
      simp only [dAdd] at e
      split at e
      · rename_i hl
        cases e
        exact op_add_str ps s σ H _ _ v u Q I rx ry ⟨i, j, rfl, rfl, Nat.le_trans hl line_lim, q.here (.str _)⟩
      · cases e
    | _ => cases e
  | lst h1 a1 =>
    cases r2 with
    | lst h2 a2 =>
      simp only [dAdd] at e
      split at e
      · rename_i hl
        cases e
        exact op_catS ps s σ H _ _ v u Q I rx ry ⟨_, _, _, _, rfl, rfl, h1.sq, h2.sq, by rw [← a1.length, ← a2.length]; exact Nat.le_trans hl line_lim, fun p hp => q.lst hA (a1.append a2) hp⟩
      · cases e
    | _ => cases e
  | tup h1 a1 =>
    cases r2 with
    | tup h2 a2 =>
      simp only [dAdd] at e
      split at e
      · rename_i hl
        cases e
        refine op_catA ps s σ H _ _ v u Q I rx ry ⟨_, _, _, _, rfl, rfl, h1, h2, by rw [← a1.length, ← a2.length]; exact Nat.le_trans hl line_lim, fun z => ?_, fun _ z => ?_, fun _ _ p hp => q.tup (a1.append a2) hp⟩
        · subst z
          cases a1
          exact q.here (.tup h2 a2)
        · subst z
          cases a2
          refine q.here ?_
          rw [List.append_nil]
          exact .tup h1 a1
      · cases e
    | _ => cases e
  | bl i =>
    cases r2 with
    | int j =>
      cases e
      cases rx
      obtain ⟨_, rfl⟩ := ry
      exact PySem.IntBool.add_bool_int ⟨.int (b2z i + j), H, I.tok _, ⟨_, rfl⟩, q.here (.int _)⟩
    | _ => cases e
  | _ => cases e
theorem op_sub' : OpR X (binaryOp .Sub) (rB X.K dSub) := by
  intro ps s σ H x y v u Q I rx ry h
  obtain ⟨A, dx, dy, d, hA, r1, r2, e, q⟩ := h
  cases r1 with
  | int i =>
    cases r2 with
    | int j => cases e; exact op_sub ps s σ H _ _ v u Q I rx ry ⟨i, j, rfl, rfl, q.here (.int _)⟩
    | _ => cases e
  | bl i =>
    cases r2 with
    | bl j =>
      cases e
      cases rx
      cases ry
      exact PyProof.Rows.sub_bool ⟨.int (b2z i - b2z j), H, I.tok _, ⟨_, rfl⟩, q.here (.int _)⟩
    | int j =>
      cases e
      cases rx
      obtain ⟨_, rfl⟩ := ry
      exact PySem.IntBool.sub_bool_int ⟨.int (b2z i - j), H, I.tok _, ⟨_, rfl⟩, q.here (.int _)⟩
    | _ => cases e
  | _ => cases e
/-- a tuple times one is itself -/
theorem tuple_once (l : Addr) (items : Array Value) (n : Nat) (dd : Option Addr) (sl : Array (Option Value)) (u : Tok) :
    Meets (Builtin.«tuple.__mul__» ⟨[.ref l, .int 1 u], []⟩) (fun _ R s => s.heap.get? l = some ⟨.type "tuple", dd, .seq items n, sl⟩ ∧ R (.ok (.ret (Value.ref l))) s) := by
  apply Meets.of_wp
  rintro prog w A R ⟨hp, gens, drawn, toks, os⟩ ⟨there, fin⟩
  have place := AutoSeq1.idx_int
  have small : (decide ((1 : Int) < -(2 ^ 63)) || decide ((1 : Int) ≥ 2 ^ 63)) = false := by decide
  have once : (items.isEmpty || (1 : Int) == 1) = true := by simp
  wp_walk using wpAny_loadPart' there
  repeat (first
    | (refine wpAny_ite_false (decide_eq_false (by simp [small])) ?_; wp_walk using wpAny_loadPart' there)
    | (refine wpAny_ite_true (decide_eq_true (by simp [once])) ?_; wp_walk using wpAny_loadPart' there))
  exact ⟨_, rfl, fin⟩
theorem op_rep1 : OpR X (binaryOp .Mult) (fun x y H Q => ∃ l xs, x = .ref l ∧ y = .int 1 ∧ SqT X.K H l xs ∧ Q (.ref l) H) := by
  rintro pins s σ H x y v u Q I rx ry ⟨l, xs, rfl, rfl, tup, fin⟩
  cases rx
  obtain ⟨t, rfl⟩ := ry
  obtain ⟨us, _, ⟨⟨_, dd, _, sl⟩, there, rfl, n, rfl⟩, _⟩ := I.tuple tup
  have isT : s.TypeIs (.ref l) "tuple" := ⟨_, there, rfl⟩
  have isI : ∀ s' : Shared, s'.TypeIs (.int 1 t) "int" := fun s' => typeIs_int s' 1 t
  refine wpAny_binaryOp_repeat_ref (T := "tuple") (U := "int") (by decide) isT isI noFill_tuple_mul PySem.F.fills_int_mul PySem.F.slot_int_rmul repeat_tuple PySem.F.slot_int_index.lookup ?_
  refine call_meets PySem.F.slot_int_rmul (isI s) PySem.F.entry_int_rmul (PySem.F.args_int_rmul_2 _ _) (int_rmul_tuple 1 t l us.toArray n dd sl) ⟨there, rfl, isT, ?_⟩
  exact call_meets PySem.F.slot_tuple_mul isT PySem.F.entry_tuple_mul (PySem.F.args_tuple_mul_2 _ _) (tuple_once l us.toArray n dd sl t) ⟨there, ⟨.ref l, H, I, rfl, fin⟩⟩
/-- the items of so many lists, one behind another -/
theorem many_joined (us : List Value) : ∀ (m : Nat) (acc : List Value), List.foldl (fun x y => x ++ y) acc.toArray (List.replicate m us.toArray) = (acc ++ (List.replicate m us).flatten).toArray
  | 0, acc => by simp
  | m + 1, acc => by
    rw [List.replicate_succ, List.foldl_cons, List.append_toArray, many_joined us m (acc ++ us), List.replicate_succ, List.flatten_cons, List.append_assoc]
theorem flat_len {α : Type} (us : List α) : ∀ m : Nat, (List.replicate m us).flatten.length = m * us.length
  | 0 => by simp
  | m + 1 => by rw [List.replicate_succ, List.flatten_cons, List.length_append, flat_len us m, Nat.succ_mul, Nat.add_comm]
/-- an int asked to multiply a list declines -/
theorem declines (k : Int) (t : Tok) (l : Addr) (items : Array Value) (n : Nat) (sl : Array (Option Value)) :
    Meets (Builtin.«int.__rmul__» ⟨[.int k t, .ref l], []⟩) (fun _ R s => s.heap.get? l = some ⟨.type "list", none, .seq items n, sl⟩ ∧ R (.ok (.ret Value.notImplemented)) s) := by
  apply Meets.of_wp
  rintro prog w A R ⟨hp, gens, drawn, toks, os⟩ ⟨there, fin⟩
  wp_walk
  exact ⟨_, rfl, fin⟩
/-- a list times an int is a new list -/
theorem list_often (l : Addr) (items : Array Value) (n : Nat) (sl : Array (Option Value)) (k : Int) (t : Tok) (index : ¬ (!Builtin.List.listFitsIndex k) = true) (below : ¬ items.size * k.toNat > (2 ^ 63 - 1) / 8) (short : ¬ Builtin.List.listTooLong (items.size * k.toNat) = true) :
    Meets (Builtin.«list.__mul__» ⟨[.ref l, .int k t], []⟩) (fun _ R s => s.heap.get? l = some ⟨.type "list", none, .seq items n, sl⟩ ∧ R (.ok (.ret (Value.ref s.heap.objs.size)))
      { s with heap := s.heap.push { cls := Value.type "list", data := Data.seq (List.foldl (fun x1 x2 => x1 ++ x2) #[] (List.replicate (if items.isEmpty = true then 0 else k.toNat) items)) }, toks := s.toks }) := by
  apply Meets.of_wp
  rintro prog w A R ⟨hp, gens, drawn, toks, os⟩ ⟨there, fin⟩
  have fits := AutoListH.joined_fits short
  wp_walk
  refine wpAny_ite_false (decide_eq_false (Nat.not_lt.mpr fits)) ?_
  wp_walk
  exact ⟨_, rfl, fin⟩
theorem op_repS : OpR X (binaryOp .Mult) (fun x y H Q => ∃ l k xs, x = .ref l ∧ y = .int k ∧ SqL X.K H l xs ∧ 0 ≤ k ∧ k ≤ 1000 ∧ xs.length ≤ 1000 ∧ ∀ p, H p = none → Q (.ref p) (upd H p (.lst (List.replicate k.toNat xs).flatten))) := by
  rintro pins s σ H x y v u Q I rx ry ⟨l, k, xs, rfl, rfl, lst, k0, k1, few, fin⟩
  obtain ⟨us, n, sl, ru, lu, there⟩ := list_there I lst
  cases rx
  obtain ⟨t, rfl⟩ := ry
  have isL : s.TypeIs (.ref l) "list" := ⟨_, there, rfl⟩
  have size : us.toArray.size * k.toNat ≤ 1000000 := by
    rw [List.size_toArray, ← lu]
    exact Nat.mul_le_mul few (show k.toNat ≤ 1000 by omega)
  have room : us.toArray.size * k.toNat ≤ sizeLine := Nat.le_trans size (by rw [sizeLine_eq]; decide)
  have below : ¬ us.toArray.size * k.toNat > (2 ^ 63 - 1) / 8 := Nat.not_lt.mpr (Nat.le_trans size (by decide))
  have index : ¬ (!Builtin.List.listFitsIndex k) = true := fun z => by
    rw [fitsIndex_both (show -(2 ^ 63) ≤ k by omega) (show k < 2 ^ 63 by omega)] at z
    cases z
  have short : ¬ Builtin.List.listTooLong (us.toArray.size * k.toNat) = true := fun z => by
    rw [notLongL room] at z
    cases z
  have all : List.foldl (fun x1 x2 => x1 ++ x2) #[] (List.replicate (if us.toArray.isEmpty = true then 0 else k.toNat) us.toArray) = (List.replicate k.toNat us).flatten.toArray := by
    have some := many_joined us k.toNat []
    rw [List.nil_append] at some
    cases us with
    | nil => simp
    | cons a r => exact some
  have made := I.lnew (t' := s.toks) (ru.rep k.toNat) (by rw [flat_len, Nat.mul_comm, lu, ← List.size_toArray]; exact room)
  refine wpAny_binaryOp_repeat_ref (T := "list") (U := "int") (by decide) isL (fun z => typeIs_int z k t) noFill_list_mul F.fills_int_mul F.slot_int_rmul repeat_list F.slot_int_index.lookup ?_
  refine call_meets PySem.F.slot_int_rmul (typeIs_int s k t) PySem.F.entry_int_rmul (PySem.F.args_int_rmul_2 _ _) (declines k t l us.toArray n sl) ⟨there, rfl, isL, ?_⟩
  refine call_meets PySem.F.slot_list_mul isL PySem.F.entry_list_mul (PySem.F.args_list_mul_2 _ _) (list_often l us.toArray n sl k t index below short) ⟨there, ?_⟩
  rw [all]
  exact ⟨.ref _, _, made, rfl, fin _ I.fresh⟩
theorem op_mul' : OpR X (binaryOp .Mult) (rB X.K dMul) := by
  intro ps s σ H x y v u Q I rx ry h
  obtain ⟨A, dx, dy, d, hA, r1, r2, e, q⟩ := h
  cases r1 with
  | int i =>
    cases r2 with
    | int j =>
      simp only [dMul] at e
      split at e
      · rename_i hl
        cases e
        exact op_mulW ps s σ H _ _ v u Q I rx ry ⟨i, j, rfl, rfl, hl, q.here (.int _)⟩
      · cases e
    | _ => cases e
  | @lst a vs ds h1 a1 =>
    cases r2 with
    | int k =>
      simp only [dMul] at e
      split at e
      · rename_i hl
        cases e
        exact op_repS ps s σ H _ _ v u Q I rx ry ⟨_, k, _, rfl, rfl, h1.sq, hl.2.1, hl.2.2, by rw [← a1.length]; exact hl.1, fun p hp => q.lst hA (a1.rep _) hp⟩
      · cases e
    | _ => cases e
  | @tup a vs ds h1 a1 =>
    cases r2 with
    | int k =>
      simp only [dMul] at e
      split at e
      · rename_i hl
        cases e
        obtain ⟨z1, z2, z3, z4⟩ := hl
        by_cases hk : k = 1
        · subst hk
          refine op_rep1 ps s σ H _ _ v u Q I rx ry ⟨_, _, rfl, rfl, h1, q.here ?_⟩
          have e1 : (List.replicate (1 : Int).toNat ds).flatten = ds := by simp
          rw [e1]
          exact .tup h1 a1
        · exact op_repT ps s σ H _ _ v u Q I rx ry ⟨_, k, _, rfl, rfl, h1, fun z => z2 (a1.nil_iff.mpr z), by omega, z4, by rw [← a1.length]; exact z1, fun p hp => q.tup (a1.rep _) hp⟩
      · cases e
    | _ => cases e
  | _ => cases e
theorem op_div' : OpR X (binaryOp .FloorDiv) (rB X.K dDiv) := by
  intro ps s σ H x y v u Q I rx ry h
  obtain ⟨A, dx, dy, d, hA, r1, r2, e, q⟩ := h
  cases r1 with
  | int i =>
    cases r2 with
    | int j =>
      simp only [dDiv] at e
      split at e
      · rename_i hl
        cases e
        exact op_fdivW ps s σ H _ _ v u Q I rx ry ⟨i, j, rfl, rfl, hl, q.here (.int _)⟩
      · cases e
    | _ => cases e
  | _ => cases e
theorem op_mod' : OpR X (binaryOp .Mod) (rB X.K dMod) := by
  intro ps s σ H x y v u Q I rx ry h
  obtain ⟨A, dx, dy, d, hA, r1, r2, e, q⟩ := h
  cases r1 with
  | int i =>
    cases r2 with
    | int j =>
      simp only [dMod] at e
      split at e
      · rename_i hl
        cases e
        exact op_mod ps s σ H _ _ v u Q I rx ry ⟨i, j, rfl, rfl, hl, q.here (.int _)⟩
      · cases e
    | _ => cases e
  | _ => cases e
theorem op_pow' : OpR X (binaryOp .Pow) (rB X.K dPow) := by
  intro ps s σ H x y v u Q I rx ry h
  obtain ⟨A, dx, dy, d, hA, r1, r2, e, q⟩ := h
  cases r1 with
  | int i =>
    cases r2 with
    | int j =>
      simp only [dPow] at e
      split at e
      · rename_i hl
        cases e
        exact op_pow ps s σ H _ _ v u Q I rx ry ⟨i, j, rfl, rfl, ⟨hl.1, by omega, Nat.lt_trans hl.2.2 (by decide)⟩, q.here (.int _)⟩
      · cases e
    | _ => cases e
  | _ => cases e
theorem op_bin' (op : Operator) : OpR X (binaryOp op) (rB X.K (dBin op)) := by
  cases op
  case Add => exact op_add'
  case Sub => exact op_sub'
  case Mult => exact op_mul'
  case FloorDiv => exact op_div'
  case Mod => exact op_mod'
  case Pow => exact op_pow'
  all_goals (intro pins s σ H x y v u Q I rx ry h; obtain ⟨A, dx, dy, d, hA, r1, r2, e, q⟩ := h; cases e)
/-! ### comparisons -/
theorem flat_of {K : PySem.W.Frag} {A : Addr → Prop} {H : Hp} {d : D} {v : V} (r : Rl K A H d v) (f : flatD d = true) : flatV v = true := by
  cases r <;> first | rfl | cases f
theorem eqv_flat {K : PySem.W.Frag} {A : Addr → Prop} {H : Hp} {d e : D} {v w : V} (r : Rl K A H d v) (q : Rl K A H e w) (f : flatD d = true) (g : flatD e = true) : eqV v w = PyData.eqv d e := by
  cases r with
  | non => cases q <;> first | rfl | exact absurd g Bool.false_ne_true | simp only [eqV, PyData.eqv]
  | bl a => cases q <;> first | rfl | exact absurd g Bool.false_ne_true | simp only [eqV, PyData.eqv]
  | int a => cases q <;> first | rfl | exact absurd g Bool.false_ne_true | simp only [eqV, PyData.eqv]
  | str a => cases q <;> first | rfl | exact absurd g Bool.false_ne_true | simp only [eqV, PyData.eqv]
  | lst _ _ => exact absurd f Bool.false_ne_true
  | tup _ _ => exact absurd f Bool.false_ne_true
theorem flats_of {K : PySem.W.Frag} {A : Addr → Prop} {H : Hp} : ∀ {ds : List D} {vs : List V}, RlL K A H ds vs → ds.all flatD = true → vs.all flatV = true
  | _, _, .nil, _ => rfl
  | _, _, .cons a r, h => by
    rw [List.all_cons] at h ⊢
    have both := Bool.and_eq_true_iff.mp h
    exact Bool.and_eq_true_iff.mpr ⟨flat_of a both.1, flats_of r both.2⟩
theorem any_flat {K : PySem.W.Frag} {A : Addr → Prop} {H : Hp} {x : D} {y : V} (rx : Rl K A H x y) (fx : flatD x = true) : ∀ {ds : List D} {vs : List V}, RlL K A H ds vs → ds.all flatD = true → inV y vs = ds.any fun z => PyData.eqv z x
  | _, _, .nil, _ => rfl
  | _, _, .cons a r, h => by
    rw [List.all_cons] at h; replace h := Bool.and_eq_true_iff.mp h
    have ih := any_flat rx fx r h.2
    unfold inV at ih ⊢
    rw [List.any_cons, List.any_cons, ih, eqv_flat a rx h.1 fx]
theorem in_core {neg : Bool} {pins : List (Addr × Obj)} {s : Shared} {σ : L2.St} {H : Hp} {x y : V} {v u : Value} {Q : VK} (I : L2.Inv X pins σ H s) (rx : RelV x v) (ry : RelV y u) {A : Addr → Prop} {dx dy : D} {b : Bool} (r1 : Rl X.K A H dx x) (r2 : Rl X.K A H dy y)
    (e : dIn dx dy = some b) (q : Q (.bl (if neg then !b else b)) H) : wpAny (model X.prog X.w) X.A (compareOp (if neg then .NotIn else .In) v u) (EP X pins σ Q) X.xe s := by
  cases r2 with
  | @lst a vs ds h2 a2 =>
    simp only [dIn] at e
    split at e
    · rename_i hl
      rw [Bool.and_eq_true] at hl
      cases e
      have z : Q (.bl (if neg then !inV x vs else inV x vs)) H := by rw [any_flat r1 hl.1 a2 hl.2]; exact q
      cases neg with
      | false => exact op_in_seq pins s σ H _ _ v u Q I rx ry ⟨_, _, rfl, .inl h2.sq, flat_of r1 hl.1, flats_of a2 hl.2, z⟩
      | true => exact op_notIn_seq pins s σ H _ _ v u Q I rx ry ⟨_, _, rfl, .inl h2.sq, flat_of r1 hl.1, flats_of a2 hl.2, z⟩
    · cases e
  | @tup a vs ds h2 a2 =>
    simp only [dIn] at e
    split at e
    · rename_i hl
      rw [Bool.and_eq_true] at hl
      cases e
      have z : Q (.bl (if neg then !inV x vs else inV x vs)) H := by rw [any_flat r1 hl.1 a2 hl.2]; exact q
      cases neg with
      | false => exact op_in_seq pins s σ H _ _ v u Q I rx ry ⟨_, _, rfl, .inr h2, flat_of r1 hl.1, flats_of a2 hl.2, z⟩
      | true => exact op_notIn_seq pins s σ H _ _ v u Q I rx ry ⟨_, _, rfl, .inr h2, flat_of r1 hl.1, flats_of a2 hl.2, z⟩
    · cases e
  | str z =>
    cases r1 with
    | str y =>
      cases e
      cases neg with
      | false => exact op_in_str pins s σ H _ _ v u Q I rx ry ⟨_, _, rfl, rfl, q⟩
      | true => exact op_notin_str pins s σ H _ _ v u Q I rx ry ⟨_, _, rfl, rfl, q⟩
    | _ => cases e
  | _ => cases e
theorem is_core {neg : Bool} {pins : List (Addr × Obj)} {s : Shared} {σ : L2.St} {H : Hp} {x y : V} {v u : Value} {Q : VK} (I : L2.Inv X pins σ H s) (rx : RelV x v) (ry : RelV y u) {A : Addr → Prop} {dx dy : D} {b : Bool} (r1 : Rl X.K A H dx x) (r2 : Rl X.K A H dy y)
    (e : dIs dx dy = some b) (q : Q (.bl (if neg then !b else b)) H) : wpAny (model X.prog X.w) X.A (compareOp (if neg then .IsNot else .Is) v u) (EP X pins σ Q) X.xe s := by
  cases r2 with
  | non =>
    have eb : b = decide (x = V.non) := by
      cases r1 <;> (cases e; simp)
    subst eb
    cases neg with
    | false => exact op_isN pins s σ H _ _ v u Q I rx ry ⟨rfl, q⟩
    | true => exact op_notN pins s σ H _ _ v u Q I rx ry ⟨rfl, q⟩
  | bl c =>
    cases r1 with
    | bl a =>
      cases e
      cases neg with
      | false => exact op_isBl pins s σ H _ _ v u Q I rx ry ⟨_, _, rfl, rfl, q⟩
      | true => exact op_notBl pins s σ H _ _ v u Q I rx ry ⟨_, _, rfl, rfl, q⟩
    | _ => cases e
  | _ => cases e
theorem op_cmp' (hu : X.A.units + 64 < cLine) (op : CmpOp) : OpR X (compareOp op) (rB X.K (dCmp op)) := by
  intro ps s σ H x y v u Q I rx ry h
  obtain ⟨A, dx, dy, d, hA, r1, r2, e, q⟩ := h
  cases op
  case Eq =>
    simp only [dCmp] at e
    split at e
    · rename_i hl
      cases e
      rw [shaped2, Bool.and_eq_true] at hl
      exact op_eqD hu ps s σ H _ _ v u Q I rx ry ⟨dx, dy, r1.dp, r2.dp, hl.1, hl.2, q.here (.bl _)⟩
    · cases e
  case NotEq =>
    simp only [dCmp] at e
    split at e
    · rename_i hl
      cases e
      rw [shaped2, Bool.and_eq_true] at hl
      exact op_neD hu ps s σ H _ _ v u Q I rx ry ⟨dx, dy, r1.dp, r2.dp, hl.1, hl.2, q.here (.bl _)⟩
    · cases e
  case Lt =>
    cases r1 with
    | int i =>
      cases r2 with
      | int j => cases e; exact op_lt ps s σ H _ _ v u Q I rx ry ⟨i, j, rfl, rfl, q.here (.bl _)⟩
      | _ => cases e
    | _ => cases e
  case LtE =>
    cases r1 with
    | int i =>
      cases r2 with
      | int j => cases e; exact op_le ps s σ H _ _ v u Q I rx ry ⟨i, j, rfl, rfl, q.here (.bl _)⟩
      | _ => cases e
    | _ => cases e
  case Gt =>
    cases r1 with
    | int i =>
      cases r2 with
      | int j => cases e; exact op_gt ps s σ H _ _ v u Q I rx ry ⟨i, j, rfl, rfl, q.here (.bl _)⟩
      | _ => cases e
    | _ => cases e
  case GtE =>
    cases r1 with
    | int i =>
      cases r2 with
      | int j => cases e; exact op_ge ps s σ H _ _ v u Q I rx ry ⟨i, j, rfl, rfl, q.here (.bl _)⟩
      | _ => cases e
    | _ => cases e
  case In =>
    obtain ⟨b, e1, rfl⟩ := Option.map_eq_some_iff.mp e
    exact in_core (neg := false) I rx ry r1 r2 e1 (q.here (.bl _))
  case NotIn =>
    obtain ⟨b, e1, rfl⟩ := Option.map_eq_some_iff.mp e
    exact in_core (neg := true) I rx ry r1 r2 e1 (q.here (.bl _))
  case Is =>
    obtain ⟨b, e1, rfl⟩ := Option.map_eq_some_iff.mp e
    exact is_core (neg := false) I rx ry r1 r2 e1 (q.here (.bl _))
  case IsNot =>
    obtain ⟨b, e1, rfl⟩ := Option.map_eq_some_iff.mp e
    exact is_core (neg := true) I rx ry r1 r2 e1 (q.here (.bl _))
end
end Ev
end
section
set_option Elab.async false
set_option maxRecDepth 100000
set_option linter.all false
set_option autoImplicit false
set_option maxHeartbeats 1200000
/-! Ev5: what is walked: zip and enumerate over lists and tuples in any mix. -/
namespace Ev
open PySem PySem.Spec PyProof.Rows L2
variable [Tbls] [Fr]

def SrcIt (k : Bool) (h : Heap) (it a : Addr) (i : Nat) : Prop := match k with
  | true => h.IsListIter it a i
  | false => h.IsTupleIter it a i
def SrcH (k : Bool) (h : Heap) (a : Addr) (items : Array Value) : Prop := match k with
  | true => h.IsList a items
  | false => h.IsTuple a items
def SrcA (K : PySem.W.Frag) (k : Bool) (H : Hp) (a : Addr) (xs : List V) : Prop := match k with
  | true => SqL K H a xs
  | false => SqT K H a xs
def srcO (k : Bool) (a : Addr) : Obj := match k with
  | true => { cls := .type "list_iterator", data := .fields #[.ref a, .int 0 0] }
  | false => { cls := .type "tuple_iterator", data := .fields #[.ref a, .int 0 0] }
theorem SrcIt.at {k : Bool} {h h' : Heap} {it a : Addr} {i : Nat} (s : SrcIt k h it a i) (e : ∀ o, h.get? it = some o → h'.get? it = some o) : SrcIt k h' it a i := by
  cases k with
  | true => exact Heap.IsListIter.at s e
  | false => exact Heap.IsTupleIter.at s e
theorem SrcIt.obj {k : Bool} {h : Heap} {it a : Addr} {i : Nat} (s : SrcIt k h it a i) : ∃ o, h.get? it = some o ∧ ∀ v, o.data ≠ .cell v := by
  cases k with
  | true => obtain ⟨o, e, c, d⟩ := (show h.IsListIter it a i from s); exact ⟨o, e, fun v z => by rw [d] at z; cases z⟩
  | false => obtain ⟨o, e, c, d⟩ := (show h.IsTupleIter it a i from s); exact ⟨o, e, fun v z => by rw [d] at z; cases z⟩
theorem draws_src {prog : Program} {w : World} {A : Around} (hh : A.handled = none) (k : Bool) (it a : Addr) (hne : a ≠ it) (items : Array Value) :
    Draws prog w A it [it, a] items.size (fun i v => items[i]? = some v) (fun i h => SrcIt k h it a i ∧ SrcH k h a items) := by
  cases k with
  | true => exact Draws.list hh it a hne items
  | false => exact Draws.tuple hh it a hne items
theorem begins_src (k : Bool) (a : Addr) (items : Array Value) : Begins (.ref a) (srcO k a) (fun h => SrcH k h a items) := by
  cases k with
  | true => exact begins_list a items
  | false => exact begins_tuple a items
theorem srcIt_new {k : Bool} {h : Heap} {it a : Addr} (e : h.get? it = some (srcO k a)) : SrcIt k h it a 0 := by
  cases k with
  | true => exact ⟨_, e, rfl, rfl⟩
  | false => exact ⟨_, e, rfl, rfl⟩
section
variable {X : Cx} {pins : List (Addr × Obj)} {σ : L2.St} {H : Hp} {s : Shared} {a : Addr} {xs ys : List V} {k : Bool}
theorem src_of (I : L2.Inv X pins σ H s) (h : SrcA X.K k H a xs) : ∃ its : List Value, Vals xs its ∧ SrcH k s.heap a its.toArray := by
  cases k with
  | true => obtain ⟨its, r, p, _⟩ := I.list h; exact ⟨its, r, p.isList⟩
  | false => obtain ⟨its, r, p, _⟩ := I.tuple h; exact ⟨its, r, p⟩
theorem src_inj (I : L2.Inv X pins σ H s) (h : SrcA X.K k H a xs) (h' : SrcA X.K k H a ys) : xs = ys := by
  cases k with
  | true => exact I.list_inj h h'
  | false => exact I.tuple_inj h h'
end
theorem SrcH.lt {k : Bool} {h : Heap} {a : Addr} {items : Array Value} (s : SrcH k h a items) : a < h.objs.size := by
  cases k with
  | true => obtain ⟨o, e, _⟩ := (show h.IsList a items from s); exact Heap.lt_size e
  | false => obtain ⟨o, e, _⟩ := (show h.IsTuple a items from s); exact Heap.lt_size e

/-! ### a turn that gives a new tuple -/
section
variable {X : Cx} {pins : List (Addr × Obj)} {σ : L2.St} {H : Hp} {s : Shared} {tg : Expr} {J : It} {fp fq wr : List Addr} {it : Addr} {n i : Nat} {St tn : Nat → Heap → Prop} {Y : Nat → Heap → Value → Heap → Prop}
/-- what a turn brings: a new tuple of values that are tracked -/
def Brings (J : It) (i : Nat) (H : Hp) (h h' : Heap) (u : Value) : Prop := ∃ (T : Addr) (vs : List V) (us : List Value), u = .ref T ∧ h.objs.size ≤ T ∧ vs.length ≤ sizeLine ∧ Vals vs us ∧ h'.IsTuple T us.toArray ∧ J.yld i H (.ref T) (upd H T (.tup vs))
theorem brings_item {E : Value → Shared → Prop} (I : L2.Inv X pins σ H s) (hf : ∀ b ∈ fp, FpOk X pins H b) (hlt : ∀ b ∈ fp, b < s.heap.objs.size) (W : GoesN X.prog X.w X.A tg it fq wr n Y St) (hw : ∀ b ∈ wr, b ∈ fp) (hi : i < n) (st : St i s.heap)
    (post : ∀ u h', Y i s.heap u h' → St (i + 1) h' → tn (i + 1) h' ∧ Brings J i H s.heap h' u) :
    wpAny (model X.prog X.w) X.A (pyNext (.ref it)) (fun r s1 => ∃ u, r = some u ∧ wpAny (model X.prog X.w) X.A (letOwnedTupleGo tg (.ref it) u)
      (fun _ s2 => ∃ x H', L2.Inv X pins σ H' s2 ∧ L2.RelV x u ∧ J.yld i H x H' ∧ tn (i + 1) s2.heap ∧ ∀ b ∈ fp, H' b = none) E s1) E s := by
  refine W.goes i s _ E hi st fun u h' tk y st' same _ => ?_
  obtain ⟨next, T, vs, us, rfl, above, short, vals, stands, given⟩ := post u h' y st'
  have told : ObjOk X.prog X.w (upd H T (.tup vs)) h' T (.tup vs) := ⟨short, us, vals, stands⟩
  exact ⟨.ref T, upd H T (.tup vs), I.turnedNew (fun b o nb e => same b o (fun m => nb (hw b m)) e) hf above told, rfl, given, next, fun b m =>
    (upd_ne (Nat.ne_of_lt (Nat.lt_of_lt_of_le (hlt b m) above))).trans (hf b m).1⟩
theorem brings_done {E : Value → Shared → Prop} (I : L2.Inv X pins σ H s) (hf : ∀ b ∈ fp, FpOk X pins H b) (W : GoesN X.prog X.w X.A tg it fq wr n Y St) (hw : ∀ b ∈ wr, b ∈ fp) (st : St n s.heap) :
    wpAny (model X.prog X.w) X.A (pyNext (.ref it)) (fun r s1 => r = none ∧ L2.Inv X pins σ H s1) E s :=
  W.stops s _ E st fun h' tk same _ => I.turnedL (fun b o nb e => same b o (fun m => nb (hw b m)) e) hf
end
theorem two_fit : 2 ≤ sizeLine := by decide
theorem live_lt {h : Heap} {fp : List Addr} (o : ∀ b ∈ fp, ∃ ob, h.get? b = some ob ∧ ∀ v, ob.data ≠ .cell v) : ∀ b ∈ fp, b < h.objs.size := fun b m => Heap.lt_size (o b m).choose_spec.1
theorem place_of {its : List Value} {j : Nat} {u : Value} (e : its[j]? = some u) : j < its.toArray.size ∧ its.toArray[j]? = some u := ⟨by simpa using (List.getElem?_eq_some_iff.mp e).1, by simpa using e⟩

/-! ### zip -/
def ItzX (K : PySem.W.Frag) (k1 k2 : Bool) (a b : Addr) : It where
  go i H := ∃ (p : List V × List V) (x y : V), (SrcA K k1 H a p.1 ∧ SrcA K k2 H b p.2) ∧ p.1[i]? = some x ∧ p.2[i]? = some y
  yld i H v H' := ∃ T x y, v = .ref T ∧ H T = none ∧ H' = upd H T (.tup [x, y]) ∧ (∀ l, SrcA K k1 H a l → l[i]? = some x) ∧ ∀ l, SrcA K k2 H b l → l[i]? = some y
  stop i H := ∃ p : List V × List V, (SrcA K k1 H a p.1 ∧ SrcA K k2 H b p.2) ∧ i = min p.1.length p.2.length
theorem walk_zipX {K : PySem.W.Frag} {k1 k2 : Bool} {a b : Addr} {ls ms : List V} : Walk (ItzX K k1 k2 a b) (min ls.length ms.length) (fun H => SrcA K k1 H a ls ∧ SrcA K k2 H b ms) (YPair (fun i => ls[i]?) (fun i => ms[i]?)) where
  goes i H hi both := ⟨(ls, ms), ls[i]'(by omega), ms[i]'(by omega), both, List.getElem?_eq_getElem _, List.getElem?_eq_getElem _⟩
  stops H both := ⟨(ls, ms), both, rfl⟩
  yields i H v H' _ both := fun ⟨T, x, y, ev, fresh, eH, one, two⟩ => ⟨T, x, y, ev, fresh, eH, one ls both.1, two ms both.2⟩
/-- the zip object z, its two tuples, its two iterators -/
def ZipAt (k1 k2 : Bool) (a b z TI TO i1 i2 : Addr) (i : Nat) (h : Heap) : Prop := IsZip h z TI TO .none ∧ IsTupOf2 h TI (.ref i1) (.ref i2) ∧ (∃ x y, IsTupOf2 h TO x y) ∧ SrcIt k1 h i1 a i ∧ SrcIt k2 h i2 b i
theorem ZipAt.live {k1 k2 : Bool} {a b z TI TO i1 i2 : Addr} {i : Nat} {h : Heap} (st : ZipAt k1 k2 a b z TI TO i1 i2 i h) : ∀ c ∈ [z, TI, TO, i1, i2], ∃ o, h.get? c = some o ∧ ∀ v, o.data ≠ .cell v := by
  obtain ⟨o1, o2, ⟨x, y, o3⟩, o4, o5⟩ := st
  simp only [List.mem_cons, List.not_mem_nil, or_false, forall_eq_or_imp, forall_eq]
  exact ⟨⟨_, o1, nofun⟩, ⟨_, o2, nofun⟩, ⟨_, o3, nofun⟩, o4.obj, o5.obj⟩
theorem ZipAt.keep {k1 k2 : Bool} {a b z TI TO i1 i2 : Addr} {i : Nat} {h h' : Heap} (st : ZipAt k1 k2 a b z TI TO i1 i2 i h) (same : ∀ c ∈ [z, TI, TO, i1, i2], ∀ o, h.get? c = some o → h'.get? c = some o) : ZipAt k1 k2 a b z TI TO i1 i2 i h' := by
  simp only [List.mem_cons, List.not_mem_nil, or_false, forall_eq_or_imp, forall_eq] at same
  obtain ⟨s1, s2, s3, s4, s5⟩ := same
  exact ⟨s1 _ st.1, s2 _ st.2.1, st.2.2.1.imp fun x q => q.imp fun y q => s3 _ q, st.2.2.2.1.at s4, st.2.2.2.2.at s5⟩
/-- the machine's zip over two sources in a state of X -/
def zip_goes {X : Cx} {elts : List Expr} {kk : Nat} {tpos : Pos} {k1 k2 : Bool} {a b z TI TO i1 i2 : Addr} (D : ZipSep2 z TI TO i1 i2 [i1, a] [i2, b]) (na : a ≠ i1) (nb : b ≠ i2) (calm : X.A.handled = none) (us ws : List Value) :=
  GoesN.zip2 (prog := X.prog) (w := X.w) (A := X.A) (elts := elts) (x1 := kk) (pos := tpos) D (draws_src (A := X.A.in1) calm k1 i1 a na us.toArray) (draws_src (A := X.A.in1) calm k2 i2 b nb ws.toArray)
theorem turn_zipX {P : Program} {w : World} {K : PySem.W.Frag} {elts : List Expr} {kk : Nat} {tpos : Pos} {k1 k2 : Bool} {a b z TI TO i1 i2 : Addr} (D : ZipSep2 z TI TO i1 i2 [i1, a] [i2, b]) (na : a ≠ i1) (nb : b ≠ i2) :
    Turn P w K (.Tuple elts kk tpos) (ItzX K k1 k2 a b) [z, TI, TO, i1, i2] z (ZipAt k1 k2 a b z TI TO i1 i2) where
  mem := List.mem_cons_self
  obj _ _ st := st.live
  keep _ _ _ st same := st.keep same
  self _ _ _ _ _ st q := wpAny_pyIter_zip st.1 q
  item X eP ew eK calm i pins s σ H E I hf st go := by
    subst eP ew eK
    obtain ⟨⟨ls, ms⟩, x, y, ⟨one, two⟩, hx, hy⟩ := go
    obtain ⟨us, ru, pu⟩ := src_of I one
    obtain ⟨ws, rw', pw⟩ := src_of I two
    obtain ⟨u, eu, xu⟩ := ru.get hx
    obtain ⟨v, ev, yv⟩ := rw'.get hy
    refine brings_item I hf (live_lt st.live) (zip_goes D na nb (I.ok.hd calm) us ws) (by simp) (by have := (place_of eu).1; have := (place_of ev).1; omega) ⟨st.1, st.2.1, st.2.2.1, ⟨st.2.2.2.1, pu⟩, ⟨st.2.2.2.2, pw⟩⟩ fun r h' given st' => ?_
    obtain ⟨T, u', v', er, above, pl1, pl2, tup⟩ := given
    cases (place_of eu).2.symm.trans pl1
    cases (place_of ev).2.symm.trans pl2
    exact ⟨⟨st'.1, st'.2.1, st'.2.2.1, st'.2.2.2.1.1, st'.2.2.2.2.1⟩, T, [x, y], [u, v], er, above, two_fit, .cons xu (.cons yv .nil), tup, T, x, y, rfl, I.hok.fresh above, rfl,
      fun l hl => src_inj I one hl ▸ hx, fun l hl => src_inj I two hl ▸ hy⟩
  done X eP ew eK calm i pins s σ H E I hf st halt := by
    subst eP ew eK
    obtain ⟨⟨ls, ms⟩, ⟨one, two⟩, ei⟩ := halt
    obtain ⟨us, ru, pu⟩ := src_of I one
    obtain ⟨ws, rw', pw⟩ := src_of I two
    have en : i = min us.toArray.size ws.toArray.size := by simpa [ru.length, rw'.length] using ei
    subst en
    exact brings_done I hf (zip_goes (elts := elts) (kk := kk) (tpos := tpos) D na nb (I.ok.hd calm) us ws) (by simp) ⟨st.1, st.2.1, st.2.2.1, ⟨st.2.2.2.1, pu⟩, ⟨st.2.2.2.2, pw⟩⟩
/-- places above all that stands are free -/
theorem above_ok {X : Cx} {pins : List (Addr × Obj)} {σ : L2.St} {H : Hp} {s : Shared} (I : L2.Inv X pins σ H s) {cs : List Addr} (up : ∀ c ∈ cs, s.heap.objs.size ≤ c) : ∀ c ∈ cs, FpOk X pins H c := fun c m => I.fpOk (up c m) (I.hok.fresh (up c m))
def iZipX (K : PySem.W.Frag) (ta : TA) : TI := fun σ H R => ta σ H fun vs H1 => ∃ k1 k2 a b xs ys, vs = [.ref a, .ref b] ∧ SrcA K k1 H1 a xs ∧ SrcA K k2 H1 b ys ∧ R (ItzX K k1 k2 a b) H1
theorem pi_zipX {X : Cx} {e e2 : Expr} {ta : TA} {p pos tpos : Pos} {elts : List Expr} {kk : Nat} (hg : Gl X "zip") (hm : X.mg "zip" = none) (ha : PA X [e, e2] ta)
    (hs : starEach [e, e2] X.env = (false, eval e X.env) :: starEach [e2] X.env) (hpl : (backTo pos (starEach [e2] X.env)).any (·.1) = false) :
    PI X (.Tuple elts kk tpos) (.Call (.Name "zip" p) [e, e2] [] pos) (iZipX X.K ta) where
  run pins s σ H R I h := by
    have parts := ha.run pos pins s σ H _ I h
    refine Call_ (ld_blt I hg hm PyProof.Rows.boot_zip (PyProof.Rows.callWith_type1 (thn parts fun us s1 got => ?_) hs hpl))
    obtain ⟨_, H1, I1, rel, k1, k2, a, b, xs, ys, rfl, one, two, go⟩ := got
    match us, rel with
    | [_, _], .cons ea (.cons eb .nil) =>
      cases ea
      cases eb
      obtain ⟨vs, _, pa⟩ := src_of I1 one
      obtain ⟨ws, _, pb⟩ := src_of I1 two
      have la := pa.lt
      have lb := pb.lt
      refine zip_begins2 (begins_src k1 a vs.toArray) (begins_src k2 b ws.toArray) pa pb fun h' zz zi zo ia ib _ same => wpAny_pyIter_zip zz ?_
      have sep := zip_sep2 (N := s1.heap.objs.size) (fp1 := [a]) (fp2 := [b]) (by simpa using la) (by simpa using lb)
      exact ⟨_, [s1.heap.objs.size + 4, s1.heap.objs.size + 2, s1.heap.objs.size + 3, s1.heap.objs.size, s1.heap.objs.size + 1], _, _, H1, rfl, I1.kept (t' := s1.toks) same, turn_zipX sep (Nat.ne_of_lt la) (Nat.ne_of_lt (Nat.lt_succ_of_lt lb)),
        ⟨zz, zi, ⟨_, _, zo⟩, srcIt_new ia, srcIt_new ib⟩, above_ok I1 (by simp <;> omega), go⟩

/-! ### enumerate -/
/-- the machine makes the enumerate object over any source -/
theorem enum_made {v : Value} {o : Obj} {Src : Heap → Prop} (B : Begins v o Src) : Meets (Builtin.«enumerate.__new__» ⟨[.type "enumerate", v], []⟩) (fun _ R s => Src s.heap ∧
    R (.ok (.ret (.ref (s.heap.push o).objs.size))) { s with heap := (s.heap.push o).push { cls := .type "enumerate", data := .fields #[.none, .bool false, .ref s.heap.objs.size, rawInt 0, .none, .none] } }) := by
  apply Meets.of_wp
  rintro prog w A R ⟨hp, gens, drawn, toks, os⟩ ⟨src, fin⟩
  have sub := sub_enumerate
  have iter : ∀ {A' : Around} {E Q : Value → Shared → Prop}, Q (.ref hp.objs.size) ⟨hp.push o, gens, drawn, toks, os⟩ → wpAny (model prog w) A' (pyIter v) Q E ⟨hp, gens, drawn, toks, os⟩ := B.iter prog w _ _ ⟨hp, gens, drawn, toks, os⟩ _ src
  wp_walk using iter
  refine wpAny_stack_any fun _ => wpAny_pure ?_
  split
  all_goals try (rename_i c _ _ _ _ _; cases (c == Value.type "enumerate"))
  all_goals (wp_walk using iter; exact ⟨_, rfl, fin⟩)
theorem enum_called {prog : Program} {w : World} {A : Around} {E : Value → Shared → Prop} {s : Shared} {v : Value} {o : Obj} {Src : Heap → Prop} {Q : Value → Shared → Prop} (B : Begins v o Src) (src : Src s.heap)
    (fin : ∀ h', IsEnum h' (s.heap.objs.size + 1) s.heap.objs.size 0 .none → h'.get? s.heap.objs.size = some o → (∀ b u, s.heap.get? b = some u → h'.get? b = some u) → Q (.ref (s.heap.objs.size + 1)) { s with heap := h' }) :
    wpAny (model prog w) A (call (.type "enumerate") [v]) Q E s := by
  have top : (s.heap.push o).objs.size = s.heap.objs.size + 1 := Heap.size_push ..
  have en : IsEnum ((s.heap.push o).push { cls := .type "enumerate", data := .fields #[.none, .bool false, .ref s.heap.objs.size, rawInt 0, .none, .none] }) (s.heap.objs.size + 1) s.heap.objs.size 0 .none := by
    rw [← top]
    exact Heap.get?_push_size (s.heap.push o) rfl
  refine callType_new F.called_enumerate (by decide) (F.typeCall_enumerate_1 _) (F.newCall_enumerate_1 _) (fun obj => F.args_object_init_2 obj _) F.entry_enumerate_new (enum_made B) ⟨src, ?_⟩
  rw [top]
  exact ⟨⟨_, en, rfl⟩, fin _ en (Heap.get?_push_of_some _ (Heap.get?_push_size _ B.free)) fun b u e => Heap.get?_push_of_some _ (Heap.get?_push_of_some _ e)⟩
def IteX (K : PySem.W.Frag) (k : Bool) (a : Addr) : It where
  go i H := ∃ (l : List V) (x : V), SrcA K k H a l ∧ l[i]? = some x
  yld i H v H' := ∃ T x, v = .ref T ∧ H T = none ∧ H' = upd H T (.tup [.int (i : Nat), x]) ∧ ∀ l, SrcA K k H a l → l[i]? = some x
  stop i H := ∃ l : List V, SrcA K k H a l ∧ i = l.length
theorem walk_enumX {K : PySem.W.Frag} {k : Bool} {a : Addr} {ls : List V} : Walk (IteX K k a) ls.length (fun H => SrcA K k H a ls) (YPair (fun i => some (.int (i : Nat))) (fun i => ls[i]?)) where
  goes i H hi src := ⟨ls, ls[i], src, List.getElem?_eq_getElem hi⟩
  stops H src := ⟨ls, src, rfl⟩
  yields i H v H' _ src := fun ⟨T, x, ev, fresh, eH, one⟩ => ⟨T, .int (i : Nat), x, ev, fresh, eH, rfl, one ls src⟩
def EnumAt (k : Bool) (a e it : Addr) (i : Nat) (h : Heap) : Prop := (∃ old, IsEnum h e it (0 + (i : Int)) old) ∧ SrcIt k h it a i
theorem EnumAt.live {k : Bool} {a e it : Addr} {i : Nat} {h : Heap} (st : EnumAt k a e it i h) : ∀ c ∈ [e, it], ∃ o, h.get? c = some o ∧ ∀ v, o.data ≠ .cell v := by
  obtain ⟨⟨old, o1⟩, o2⟩ := st
  simp only [List.mem_cons, List.not_mem_nil, or_false, forall_eq_or_imp, forall_eq]
  exact ⟨⟨_, o1, nofun⟩, o2.obj⟩
def enum_goes {X : Cx} {elts : List Expr} {kk : Nat} {tpos : Pos} {k : Bool} {a e it : Addr} (n1 : e ≠ it) (n2 : e ≠ a) (n3 : a ≠ it) (calm : X.A.handled = none) (us : List Value) :=
  GoesN.enumFrom (prog := X.prog) (w := X.w) (A := X.A) (elts := elts) (x1 := kk) (pos := tpos) 0 (draws_src (A := X.A.in1) calm k it a n3 us.toArray) e n1 (by simp [n1, n2]) (by simp)
theorem turn_enumX {P : Program} {w : World} {K : PySem.W.Frag} {elts : List Expr} {kk : Nat} {tpos : Pos} {k : Bool} {a e it : Addr} (n1 : e ≠ it) (n2 : e ≠ a) (n3 : a ≠ it) : Turn P w K (.Tuple elts kk tpos) (IteX K k a) [e, it] e (EnumAt k a e it) where
  mem := List.mem_cons_self
  obj _ _ st := st.live
  keep _ _ _ st same := ⟨st.1.imp fun _ q => same e (by simp) _ q, st.2.at (same it (by simp))⟩
  self _ _ _ _ _ st q := wpAny_pyIter_enum st.1.choose_spec q
  item X eP ew eK calm i pins s σ H E I hf st go := by
    subst eP ew eK
    obtain ⟨ls, x, src, hx⟩ := go
    obtain ⟨us, ru, pu⟩ := src_of I src
    obtain ⟨u, eu, xu⟩ := ru.get hx
    refine brings_item I hf (live_lt st.live) (enum_goes n1 n2 n3 (I.ok.hd calm) us) (by simp) (place_of eu).1 ⟨st.1, ⟨st.2, pu⟩⟩ fun r h' given st' => ?_
    obtain ⟨T, t, u', er, above, pl, tup⟩ := given
    cases (place_of eu).2.symm.trans pl
    have num : (0 : Int) + ((i : Nat) : Int) = (i : Int) := Int.zero_add _
    rw [num] at tup
    exact ⟨⟨st'.1, st'.2.1⟩, T, [.int (i : Nat), x], [.int (i : Int) t, u], er, above, two_fit, .cons ⟨t, rfl⟩ (.cons xu .nil), tup, T, x, rfl, I.hok.fresh above, rfl, fun l hl => src_inj I src hl ▸ hx⟩
  done X eP ew eK calm i pins s σ H E I hf st halt := by
    subst eP ew eK
    obtain ⟨ls, src, ei⟩ := halt
    obtain ⟨us, ru, pu⟩ := src_of I src
    have en : i = us.toArray.size := by simpa [ru.length] using ei
    subst en
    exact brings_done I hf (enum_goes (elts := elts) (kk := kk) (tpos := tpos) n1 n2 n3 (I.ok.hd calm) us) (by simp) ⟨st.1, ⟨st.2, pu⟩⟩
def iEnumX (K : PySem.W.Frag) (ta : TA) : TI := fun σ H R => ta σ H fun vs H1 => ∃ k a xs, vs = [.ref a] ∧ SrcA K k H1 a xs ∧ R (IteX K k a) H1
theorem pi_enumX {X : Cx} {e : Expr} {ta : TA} {p pos tpos : Pos} {elts : List Expr} {kk : Nat} (hg : Gl X "enumerate") (hm : X.mg "enumerate" = none) (ha : PA X [e] ta) (hs : starEach [e] X.env = [(false, eval e X.env)]) :
    PI X (.Tuple elts kk tpos) (.Call (.Name "enumerate" p) [e] [] pos) (iEnumX X.K ta) where
  run pins s σ H R I h := by
    have parts := ha.run pos pins s σ H _ I h
    refine Call_ (ld_blt I hg hm boot_enumerate (PyProof.Rows.callWith_type1 (thn parts fun us s1 got => ?_) hs rfl))
    obtain ⟨_, H1, I1, rel, k, a, xs, rfl, src, go⟩ := got
    match us, rel with
    | [_], .cons ea .nil =>
      cases ea
      obtain ⟨vs, _, pa⟩ := src_of I1 src
      have la := pa.lt
      refine enum_called (begins_src k a vs.toArray) pa fun h' en ia same => wpAny_pyIter_enum en ?_
      exact ⟨_, [s1.heap.objs.size + 1, s1.heap.objs.size], _, _, H1, rfl, I1.kept (t' := s1.toks) same, turn_enumX (k := k) (a := a) (Nat.succ_ne_self _) (Nat.ne_of_gt (Nat.lt_succ_of_lt la)) (Nat.ne_of_lt la), ⟨⟨.none, en⟩, srcIt_new ia⟩, above_ok I1 (by simp <;> omega), go⟩
end Ev
end
section
set_option Elab.async false
set_option maxRecDepth 100000
set_option linter.all false
set_option autoImplicit false
set_option maxHeartbeats 1200000
/-! Ev6: built-in functions, subscripts, slices, methods by values. -/
namespace Ev
open PySem PySem.Spec PyProof.Rows L2
variable [Tbls] [Fr]

def rC (K : PySem.W.Frag) (f : List D → Option D) : List V → Hp → VK → Prop := fun vs H Q => ∃ (A : Addr → Prop) (ds : List D) (d : D), (∀ a, A a → H a ≠ none) ∧ RlL K A H ds vs ∧ f ds = some d ∧ Ans K A H d Q
def biName : Bi → String
  | .len => "len" | .abs => "abs" | .all => "all" | .any => "any" | .tuple => "tuple" | .list => "list" | .int => "int" | .str => "str" | .bool => "bool" | .min => "min" | .max => "max" | .sorted => "sorted"
def biVal : Bi → Value
  | .len => .builtin "len" | .abs => .builtin "abs" | .all => .builtin "all" | .any => .builtin "any" | .tuple => .type "tuple" | .list => .type "list" | .int => .type "int" | .str => .type "str" | .bool => .type "bool"
  | .min => .builtin "min" | .max => .builtin "max" | .sorted => .builtin "sorted"
section
variable {X : Cx}
theorem one_of {K : PySem.W.Frag} {A : Addr → Prop} {H : Hp} {d : D} {vs : List V} (r : RlL K A H [d] vs) : ∃ v, vs = [v] ∧ Rl K A H d v := by
  cases r with
  | cons a r => cases r; exact ⟨_, rfl, a⟩
theorem two_of {K : PySem.W.Frag} {A : Addr → Prop} {H : Hp} {d e : D} {vs : List V} (r : RlL K A H [d, e] vs) : ∃ v w, vs = [v, w] ∧ Rl K A H d v ∧ Rl K A H e w := by
  cases r with
  | cons a r =>
    obtain ⟨w, rfl, b⟩ := one_of r
    exact ⟨_, _, rfl, a, b⟩
theorem allB_vals {K : PySem.W.Frag} {A : Addr → Prop} {H : Hp} : ∀ {ds : List D} {vs : List V} {bs : List Bool}, RlL K A H ds vs → allB ds = some bs → vs = bs.map V.bl
  | _, _, _, .nil, e => by cases e; rfl
  | _, _, bs, .cons a r, e => by
    cases a with
    | bl b =>
      obtain ⟨bs', e', rfl⟩ := Option.map_eq_some_iff.mp (show (allB _).map (b :: ·) = some bs from e)
      rw [allB_vals r e']
      rfl
    | _ => cases e
theorem strsOf_vals {K : PySem.W.Frag} {A : Addr → Prop} {H : Hp} : ∀ {ds : List D} {vs : List V} {bs : List Str}, RlL K A H ds vs → strsOf ds = some bs → vs = bs.map V.str
  | _, _, _, .nil, e => by cases e; rfl
  | _, _, bs, .cons a r, e => by
    cases a with
    | str b =>
      obtain ⟨bs', e', rfl⟩ := Option.map_eq_some_iff.mp (show (strsOf _).map (b :: ·) = some bs from e)
      rw [strsOf_vals r e']
      rfl
    | _ => cases e
theorem intsD_vals {K : PySem.W.Frag} {A : Addr → Prop} {H : Hp} : ∀ {ds : List D} {vs : List V} {ns : List Int}, RlL K A H ds vs → intsD ds = some ns → vs = ns.map V.int
  | _, _, _, .nil, e => by cases e; rfl
  | _, _, ns, .cons a r, e => by
    cases a with
    | int b =>
      obtain ⟨ms, e', rfl⟩ := Option.map_eq_some_iff.mp (show (intsD _).map (b :: ·) = some ns from e)
      rw [intsD_vals r e']
      rfl
    | _ => cases e
theorem insI_perm (x : Int) : ∀ ys : List Int, (insAsc x ys).Perm (x :: ys)
  | [] => .refl _
  | y :: ys => by
    unfold insAsc
    split
    · exact .refl _
    · exact ((insI_perm x ys).cons y).trans (.swap x y ys)
theorem srtI_perm : ∀ xs : List Int, (srtI xs).Perm xs
  | [] => .refl _
  | x :: xs => (insI_perm x (srtI xs)).trans ((srtI_perm xs).cons x)
theorem insI_up (x : Int) : ∀ {ys : List Int}, ys.Pairwise (· ≤ ·) → (insAsc x ys).Pairwise (· ≤ ·)
  | [], _ => List.pairwise_singleton _ _
  | y :: ys, h => by
    obtain ⟨h1, h2⟩ := (List.pairwise_cons.mp h)
    unfold insAsc
    split
    · rename_i le
      refine List.pairwise_cons.mpr ⟨fun z hz => ?_, h⟩
      rcases (List.mem_cons.mp hz) with rfl | hz
      · exact le
      · exact Int.le_trans le (h1 z hz)
    · rename_i nle
      refine List.pairwise_cons.mpr ⟨fun z hz => ?_, insI_up x h2⟩
      rcases List.mem_cons.mp ((insI_perm x ys).mem_iff.mp hz) with rfl | hz
      · omega
      · exact h1 z hz
theorem srtI_up : ∀ xs : List Int, (srtI xs).Pairwise (· ≤ ·)
  | [] => .nil
  | x :: xs => insI_up x (srtI_up xs)
theorem call_bi' (hc : X.calm = true) (b : Bi) : CallR X (biVal b) (rC X.K (dBi b)) := by
  intro ps s σ H xs us Q I r h
  obtain ⟨A, ds, d, hA, rs, e, q⟩ := h
  match b, ds, e with
  | .len, [.list zs], e =>
    obtain ⟨v, rfl, rv⟩ := one_of rs
    cases e
    cases rv with
    | lst h1 a1 => exact call_len_seq ps s σ H _ us Q I r ⟨_, _, rfl, .inl h1.sq, by rw [← a1.length]; exact q.here (.int _)⟩
  | .len, [.tuple zs], e =>
    obtain ⟨v, rfl, rv⟩ := one_of rs
    cases e
    cases rv with
    | tup h1 a1 => exact call_len_seq ps s σ H _ us Q I r ⟨_, _, rfl, .inr h1, by rw [← a1.length]; exact q.here (.int _)⟩
  | .len, [.str z], e =>
    obtain ⟨v, rfl, rv⟩ := one_of rs
    simp only [dBi] at e
    split at e
    · rename_i hl
      cases e
      cases rv
      exact call_len_str ps s σ H _ us Q I r ⟨_, rfl, Nat.le_trans hl line_lim, q.here (.int _)⟩
    · cases e
  | .abs, [.int i], e =>
    obtain ⟨v, rfl, rv⟩ := one_of rs
    cases e
    cases rv
    exact call_abs ps s σ H _ us Q I r ⟨_, rfl, q.here (.int _)⟩
  | .all, [.list zs], e =>
    obtain ⟨v, rfl, rv⟩ := one_of rs
    obtain ⟨bs, e1, rfl⟩ := Option.map_eq_some_iff.mp (show (allB zs).map _ = some d from e)
    cases rv with
    | lst h1 a1 => exact cr_all hc ps s σ H _ us Q I r ⟨_, bs, rfl, by rw [← allB_vals a1 e1]; exact h1.sq, q.here (.bl _)⟩
  | .any, [.list zs], e =>
    obtain ⟨v, rfl, rv⟩ := one_of rs
    obtain ⟨bs, e1, rfl⟩ := Option.map_eq_some_iff.mp (show (allB zs).map _ = some d from e)
    cases rv with
    | lst h1 a1 => exact cr_any hc ps s σ H _ us Q I r ⟨_, bs, rfl, by rw [← allB_vals a1 e1]; exact h1.sq, q.here (.bl _)⟩
  | .tuple, [.list zs], e =>
    obtain ⟨v, rfl, rv⟩ := one_of rs
    cases e
    cases rv with
    | lst h1 a1 => exact call_tuple_of ps s σ H _ us Q I r ⟨_, _, rfl, .inl ⟨h1.sq, fun l hl => q.tup a1 hl⟩⟩
  | .tuple, [.tuple zs], e =>
    obtain ⟨v, rfl, rv⟩ := one_of rs
    cases e
    cases rv with
    | tup h1 a1 => exact call_tuple_of ps s σ H _ us Q I r ⟨_, _, rfl, .inr ⟨h1, q.here (.tup h1 a1)⟩⟩
  | .list, [.list zs], e =>
    obtain ⟨v, rfl, rv⟩ := one_of rs
    cases e
    cases rv with
    | lst h1 a1 => exact call_list_of ps s σ H _ us Q I r ⟨_, _, rfl, .inl h1.sq, fun l hl => q.lst hA a1 hl⟩
  | .list, [.tuple zs], e =>
    obtain ⟨v, rfl, rv⟩ := one_of rs
    cases e
    cases rv with
    | tup h1 a1 => exact call_list_of ps s σ H _ us Q I r ⟨_, _, rfl, .inr h1, fun l hl => q.lst hA a1 hl⟩
  | .int, [z], e =>
    obtain ⟨v, rfl, rv⟩ := one_of rs
    cases rv with
    | int i => cases e; exact call_int1 ps s σ H _ us Q I r (.inl ⟨_, rfl, q.here (.int _)⟩)
    | bl i => cases e; exact call_int1 ps s σ H _ us Q I r (.inr ⟨_, rfl, q.here (.int _)⟩)
    | str x =>
      have e : (if x.length ≤ 640 then (intText? x).map PyData.int else none) = some d := e
      split at e
      · rename_i hl
        obtain ⟨n, e1, rfl⟩ := Option.map_eq_some_iff.mp e
        exact call_int_str ps s σ H _ us Q I r ⟨_, n, rfl, e1, hl, q.here (.int _)⟩
      · cases e
    | _ => cases e
  | .str, [.int i], e =>
    obtain ⟨v, rfl, rv⟩ := one_of rs
    simp only [dBi] at e
    split at e
    · rename_i hl
      cases e
      cases rv
      exact call_str_int ps s σ H _ us Q I r ⟨_, rfl, hl, q.here (.str _)⟩
    · cases e
  | .bool, [.int i], e =>
    obtain ⟨v, rfl, rv⟩ := one_of rs
    cases e
    cases rv
    exact call_bool1 ps s σ H _ us Q I r (.inl ⟨_, rfl, q.here (.bl _)⟩)
  | .bool, [.bool i], e =>
    obtain ⟨v, rfl, rv⟩ := one_of rs
    cases e
    cases rv
    exact call_bool1 ps s σ H _ us Q I r (.inr ⟨_, rfl, q.here (.bl _)⟩)
  | .sorted, [.list zs], e =>
    obtain ⟨v, rfl, rv⟩ := one_of rs
    obtain ⟨ns, e1, rfl⟩ := Option.map_eq_some_iff.mp (show (intsD zs).map _ = some d from e)
    cases rv with
    | lst h1 a1 =>
      refine cr_sortedI ps s σ H _ us Q I r ⟨_, ns, rfl, by rw [← intsD_vals a1 e1]; exact h1.sq, fun ns' p hp ho hn => ?_⟩
      have same := PySem.W.ksm_same (hp.trans (srtI_perm ns).symm) ho (srtI_up ns)
      subst same
      exact q.lst hA (RlL.ints (srtI ns)) hn
  | .min, [.int i, .int j], e =>
    obtain ⟨v, w, rfl, rv, rw⟩ := two_of rs
    cases e
    cases rv
    cases rw
    exact call_min2 hc ps s σ H _ us Q I r ⟨_, _, rfl, q.here (.int _)⟩
  | .max, [.int i, .int j], e =>
    obtain ⟨v, w, rfl, rv, rw⟩ := two_of rs
    cases e
    cases rv
    cases rw
    exact call_max2 hc ps s σ H _ us Q I r ⟨_, _, rfl, q.here (.int _)⟩
/-! ### isinstance -/
def tyN : Ty → String
  | .int => "int" | .bool => "bool" | .str => "str" | .tuple => "tuple" | .list => "list"
def rIs1 (K : PySem.W.Frag) (t : Ty) : V → Hp → VK → Prop := fun x H Q => ∃ (A : Addr → Prop) (d : D) (b : Bool), Rl K A H d x ∧ dIsi d t = some b ∧ Q (.bl b) H
theorem tyx_of {K : PySem.W.Frag} {A : Addr → Prop} {H : Hp} {d : D} {x : V} (r : Rl K A H d x) : ∃ n, TyX K H x (.type n) ∧ ∀ t b, dIsi d t = some b → PySem.W.kitOne K (.type n) (.type (tyN t)) = some b := by
  cases r with
  | non => exact ⟨"NoneType", .base .non, fun t b e => by cases t <;> (cases e; exact kit_ty (by decide +kernel))⟩
  | bl c => exact ⟨"bool", .base (.bl c), fun t b e => by cases t <;> (cases e; exact kit_ty (by decide +kernel))⟩
  | int i => exact ⟨"int", .base (.int i), fun t b e => by cases t <;> (cases e; exact kit_ty (by decide +kernel))⟩
  | str z => exact ⟨"str", .base (.str z), fun t b e => by cases t <;> (cases e; exact kit_ty (by decide +kernel))⟩
  | lst h a =>
    refine ⟨"list", ?_, fun t b e => by cases t <;> (cases e; exact kit_ty (by decide +kernel))⟩
    rcases h with ⟨h | ⟨o, h⟩, _⟩ | ⟨o, its, n, h1, h2, _⟩
    · exact .base (.lst h)
    · exact .base (.frz h)
    · exact .kList h1 h2
  | tup h a =>
    refine ⟨"tuple", ?_, fun t b e => by cases t <;> (cases e; exact kit_ty (by decide +kernel))⟩
    rcases h with (h | ⟨o, h⟩) | ⟨o, its, n, h1, h2, _⟩
    · exact .base (.tup h)
    · exact .fTuple h
    · exact .kTuple h1 h2
theorem isi_core {pins : List (Addr × Obj)} {s : Shared} {σ : L2.St} {H : Hp} {x : V} {v : Value} {Q : VK} {t : Ty} (I : L2.Inv X pins σ H s) (r : L2.RelV x v) (h : rIs1 X.K t x H Q) :
    wpAny (model X.prog X.w) X.A (call (.builtin "isinstance") [v, .type (tyN t)]) (EP X pins σ Q) X.xe s := by
  obtain ⟨A, d, b, rd, e, q⟩ := h
  obtain ⟨n, ty, k⟩ := tyx_of rd
  exact call_isi pins s σ H [x, .ty (tyN t)] _ Q I (.cons r (.cons rfl .nil)) ⟨x, .ty (tyN t), _, _, b, rfl, .ty _, ty, k t b e, q⟩
/-! ### subscripts -/
theorem ix_all : IxR X (rB X.K dIx) := by
  intro value slice ps s σ H x y v u Q I rx ry h hs
  obtain ⟨A, dx, dy, d, hA, r1, r2, e, q⟩ := h
  cases r1 with
  | @lst a vs ds h1 a1 =>
    cases r2 with
    | int i =>
      obtain ⟨j, e1, e2⟩ := Option.bind_eq_some_iff.mp (show (ixP ds.length i).bind (fun j => ds[j]?) = some d from e)
      obtain ⟨w, e3, rw⟩ := a1.get e2
      refine ix_list value slice ps s σ H _ _ v u Q I rx ry ⟨_, _, i, w, rfl, rfl, h1.sq, ?_, q.here rw⟩ hs
      show (ixP vs.length i).bind _ = _
      rw [← a1.length, e1]
      exact e3
    | _ => cases e
  | @tup a vs ds h1 a1 =>
    cases r2 with
    | int i =>
      obtain ⟨j, e1, e2⟩ := Option.bind_eq_some_iff.mp (show (ixP ds.length i).bind (fun j => ds[j]?) = some d from e)
      obtain ⟨w, e3, rw⟩ := a1.get e2
      refine ix_tup value slice ps s σ H _ _ v u Q I rx ry ⟨_, _, i, w, rfl, rfl, h1, ?_, q.here rw⟩ hs
      show (ixP vs.length i).bind _ = _
      rw [← a1.length, e1]
      exact e3
    | _ => cases e
  | str z =>
    cases r2 with
    | int i =>
      have e : (if z.length ≤ lenLim then (atP z.cps.toList i).map fun c => PyData.str ⟨#[c]⟩ else none) = some d := e
      split at e
      · rename_i hl
        obtain ⟨c, e1, rfl⟩ := Option.map_eq_some_iff.mp e
        exact ix_str value slice ps s σ H _ _ v u Q I rx ry ⟨_, i, c, rfl, rfl, Nat.le_trans hl line_lim, e1, q.here (.str _)⟩ hs
      · cases e
    | _ => cases e
  | _ => cases e
theorem sIx_eq (n d : Nat) (o : Option Int) : sEnd n d o = HT.sIx n d o := by
  cases o with
  | none => rfl
  | some v =>
    show (if v < 0 then v + (n : Int) else min v n).toNat = if v < 0 then _ else _
    split <;> omega
theorem cut_rl {K : PySem.W.Frag} {A : Addr → Prop} {H : Hp} {ds : List D} {vs : List V} (r : RlL K A H ds vs) (lo hi : Option Int) : RlL K A H (cutP ds lo hi) (cutV vs lo hi) := by
  unfold cutP cutV
  rw [r.length, sIx_eq, sIx_eq]
  exact (r.drop _).take _
def rS (K : PySem.W.Frag) : V → Option Int → Option Int → Hp → VK → Prop := fun x lo hi H Q => ∃ (A : Addr → Prop) (dx d : D), (∀ a, A a → H a ≠ none) ∧ Rl K A H dx x ∧ dSl dx lo hi = some d ∧ Ans K A H d Q
theorem sl_all : SlR X (rS X.K) := by
  intro ps s σ H x v vl vu lo hi sl Q I rx hs pl pu h
  obtain ⟨A, dx, d, hA, r1, e, q⟩ := h
  cases r1 with
  | @lst a vs ds h1 a1 =>
    cases e
    exact sl_list ps s σ H _ v vl vu lo hi sl Q I rx hs pl pu ⟨_, _, rfl, h1.sq, fun p hp => q.lst hA (cut_rl a1 lo hi) hp⟩
  | @tup a vs ds h1 a1 =>
    cases e
    refine sl_tupA ps s σ H _ v vl vu lo hi sl Q I rx hs pl pu ⟨_, _, rfl, h1, fun z => ?_, fun _ p hp => q.tup (cut_rl a1 lo hi) hp⟩
    refine q.here (.tup h1 ?_)
    have c := cut_rl a1 lo hi
    have e1 : cutV vs lo hi = vs := by
      unfold cutV
      rw [z.1, z.2, List.drop_zero, Nat.sub_zero, List.take_length]
    rw [e1] at c
    exact c
  | str z =>
    have e : (if z.length ≤ lenLim then some (PyData.str ⟨(cutP z.cps.toList lo hi).toArray⟩) else none) = some d := e
    split at e
    · rename_i hl
      cases e
      refine sl_str ps s σ H _ v vl vu lo hi sl Q I rx hs pl pu ⟨_, rfl, Nat.le_trans hl line_lim, ?_⟩
      have e1 : cutS z lo hi = ⟨(cutP z.cps.toList lo hi).toArray⟩ := by
        unfold cutS cutP
        simp only [sIx_eq, Array.length_toList]
        rfl
      rw [e1]
      exact q.here (.str _)
    · cases e
  | _ => cases e
end
end Ev
end
section
set_option Elab.async false
set_option maxRecDepth 100000
set_option linter.all false
set_option autoImplicit false
set_option maxHeartbeats 1200000
/-! Ev7: a def's promise by the evaluator; arguments handed over and taken back. -/
namespace Ev
open PySem PySem.Spec PyProof.Rows L2
variable [Tbls] [Fr]

def noStar : Expr → Bool
  | .Starred _ _ => false
  | _ => true
theorem star_cons {e : Expr} {es : List Expr} {env : Env} (h : noStar e = true) : starEach (e :: es) env = (false, eval e env) :: starEach es env := by
  cases e <;> first | rfl | cases h
theorem star_all {env : Env} {pos : Pos} : ∀ {es : List Expr}, es.all noStar = true → (backTo pos (starEach es env)).any (·.1) = false
  | [], _ => rfl
  | e :: es, h => by
    rw [List.all_cons] at h; replace h := Bool.and_eq_true_iff.mp h
    rw [star_cons h.1]
    show (false || (backTo pos (starEach es env)).any (·.1)) = false
    rw [star_all h.2]
    rfl
def plainB : Expr → Bool
  | .Slice _ _ _ _ => false
  | _ => true
theorem plain_ix {b : Expr} (h : plainB b = true) : PlainIx b := by
  intro o i
  cases b <;> first | rfl | cases h
def attrB : Expr → Bool
  | .Call (.Name _ _) [] [] _ => false
  | _ => true
theorem attr_ok {e : Expr} {env : Env} {name : Str} (h : attrB e = true) : attributeBase e name env (eval e env) = eval e env := by
  unfold attributeBase
  split
  · cases h
  · rfl
def testB : Expr → Bool
  | .UnaryOp .Not _ _ => false
  | .BoolOp _ _ _ => false
  | .IfExp _ _ _ _ => false
  | .Compare _ _ _ _ => false
  | _ => true
theorem test_ok {e : Expr} {env : Env} (h : testB e = true) : ∀ whole, isTrue e env whole = (do let v ← whole; standAt e.pos; holding [v] (truthy v)) := by
  intro whole
  cases e with
  | UnaryOp op a p => cases op <;> first | rfl | cases h
  | _ => first | rfl | cases h
def swapB : Expr → Bool
  | .ListComp _ _ _ _ => false
  | .SetComp _ _ _ _ => false
  | .DictComp _ _ _ _ _ => false
  | _ => true
theorem swap_no {e : Expr} {t : Option Expr} {l : Nat} {env : Env} (h : swapB e = true) : swapsWith e t l env = pure false := by
  cases e <;> first | rfl | cases h
def setB : Expr → Bool
  | .Set _ _ _ => false
  | _ => true
theorem set_no {e : Expr} {env : Env} (h : setB e = true) : ∀ x, foldedSetIterable e env x = pure x := by
  intro x
  cases e <;> first | rfl | cases h
theorem asg_len {env : Env} : ∀ {es : List Expr}, (assignEach es env).length = es.length
  | [] => rfl
  | e :: es => by
    cases e <;> (show (_ :: assignEach es env).length = _; rw [List.length_cons, List.length_cons, asg_len])
theorem asg_cons {e : Expr} {es : List Expr} {env : Env} (h : noStar e = true) : assignEach (e :: es) env = (false, assign e env) :: assignEach es env := by
  cases e <;> first | rfl | cases h
theorem asg_find {env : Env} : ∀ {es : List Expr}, es.all noStar = true → (assignEach es env).findIdx? (·.1) = none
  | [], _ => rfl
  | e :: es, h => by
    rw [List.all_cons] at h; replace h := Bool.and_eq_true_iff.mp h
    rw [asg_cons h.1, List.findIdx?_cons]
    simp [asg_find h.2]

/-! ### promises -/
def isOb : Option Arg → Bool
  | some (.ob _) => true
  | _ => false
def ArgR (K : PySem.W.Frag) (A O : Addr → Prop) (H : Hp) : Arg → V → Prop
  | .d x, v => Rl K A H x v
  | .ob c, v => ∃ a, v = .ref a ∧ O a ∧ CtR K A H c a
def OutsR (K : PySem.W.Frag) (A : Addr → Prop) (H : Hp) : List Arg → List V → List Ct → Prop
  | [], [], [] => True
  | .d _ :: as, _ :: vs, outs => OutsR K A H as vs outs
  | .ob _ :: as, v :: vs, c :: outs => (∃ a, v = .ref a ∧ CtR K A H c a) ∧ OutsR K A H as vs outs
  | _, _, _ => False
def RvR (K : PySem.W.Frag) (G O' : Addr → Prop) (H H' : Hp) (args : List Arg) (vs : List V) : Rv → V → Prop
  | .d x, v => Rl K (Av O' G) H' x v
  | .fr ds, v => ∃ p ws, v = .ref p ∧ O' p ∧ ¬ Th H p ∧ H' p = some (.lst ws) ∧ RlL K (Av O' G) H' ds ws
  | .par j, v => vs[j]? = some v ∧ isOb args[j]? = true
/-- the arguments as they are handed over -/
structure Hand (K : PySem.W.Frag) (G O : Addr → Prop) (H : Hp) (args : List Arg) (vs : List V) : Prop where
  len : args.length = vs.length
  wf : ∀ a, O a → Mu H a
  wg : ∀ a, G a → Mu H a ∧ ¬ O a
  at_ : ∀ (i : Nat) (x : Arg) (v : V), args[i]? = some x → vs[i]? = some v → ArgR K (Av O G) O H x v
  ap : ∀ (i j : Nat) (a : Addr), isOb args[i]? = true → isOb args[j]? = true → vs[i]? = some (.ref a) → vs[j]? = some (.ref a) → i = j
  cov : ∀ a, O a → ∃ i : Nat, isOb args[i]? = true ∧ vs[i]? = some (.ref a)
  tb : LamX.Tabs Tbls.T H
/-- what a call promises, run being what the evaluator makes of it -/
def spF (K : PySem.W.Frag) (n : Nat) (run : List Arg → RC) : Sp := fun vs H Q E => vs.length = n ∧ ∃ (G O : Addr → Prop) (args : List Arg), Hand K G O H args vs ∧
  match run args with
  | .ok rv outs => ∀ O' H' v, Ext O H O' H' → (∀ a, O a → O' a) → OutsR K (Av O' G) H' args vs outs → RvR K G O' H H' args vs rv v → Q v H'
  | .ex c outs => ∀ O' H', Ext O H O' H' → (∀ a, O a → O' a) → OutsR K (Av O' G) H' args vs outs → E (.ref (He.ga K c)) none H'
  | .no => False

/-! ### arguments out of names -/
def slots : List AV → List Nat
  | [] => []
  | .d _ :: as => slots as
  | .sl i :: as => i :: slots as
def AvR (K : PySem.W.Frag) (G : Addr → Prop) (σ : L2.St) : (Addr → Prop) → Hp → AV → V → Prop := fun O' H' a v => match a with
  | .d x => Rl K (Av O' G) H' x v
  | .sl i => σ[i]?.join = some v
inductive AvsR (K : PySem.W.Frag) (G : Addr → Prop) (σ : L2.St) (O : Addr → Prop) (H : Hp) : List AV → List V → Prop
  | nil : AvsR K G σ O H [] []
  | cons {a : AV} {as : List AV} {v : V} {vs : List V} : AvR K G σ O H a v → AvsR K G σ O H as vs → AvsR K G σ O H (a :: as) (v :: vs)
section
variable {K : PySem.W.Frag} {G O O' : Addr → Prop} {H H' : Hp} {r : Rho} {σ : L2.St}
theorem AvR.ext (wf : ∀ a, O a → Mu H a) (e : Ext O H O' H') {a : AV} {v : V} (q : AvR K G σ O H a v) : AvR K G σ O' H' a v := by
  cases a with
  | d x => exact Rl.ext (G := G) wf e q
  | sl i => exact q
theorem AvsR.ext (wf : ∀ a, O a → Mu H a) (e : Ext O H O' H') : ∀ {a : List AV} {v : List V}, AvsR K G σ O H a v → AvsR K G σ O' H' a v
  | _, _, .nil => .nil
  | _, _, .cons a r => .cons (a.ext wf e) (AvsR.ext wf e r)
theorem AvsR.length : ∀ {a : List AV} {v : List V}, AvsR K G σ O H a v → a.length = v.length
  | _, _, .nil => rfl
  | _, _, .cons _ r => congrArg Nat.succ (AvsR.length r)
/-- what gather found, place by place -/
inductive Gath (r : Rho) : List AV → List Arg → Prop
  | nil : Gath r [] []
  | d {x : D} {as : List AV} {bs : List Arg} : Gath r as bs → Gath r (.d x :: as) (.d x :: bs)
  | sl {i : Nat} {c : Ct} {as : List AV} {bs : List Arg} : ctAt r i = some c → Gath r as bs → Gath r (.sl i :: as) (.ob c :: bs)
theorem gath_of : ∀ {avs : List AV} {seen : List Nat} {args : List Arg}, gather r seen avs = some args → Gath r avs args ∧ (slots avs).Nodup ∧ ∀ i ∈ slots avs, i ∉ seen
  | [], _, _, h => by cases h; exact ⟨.nil, List.nodup_nil, fun _ z => nomatch z⟩
  | .d x :: as, seen, _, h => by
    obtain ⟨bs, e, rfl⟩ := Option.map_eq_some_iff.mp (show (gather r seen as).map _ = _ from h)
    obtain ⟨g, n, s⟩ := gath_of e
    exact ⟨.d g, n, s⟩
  | .sl i :: as, seen, args, h => by
    have h : (if i ∈ seen then none else (ctAt r i).bind fun c => (gather r (i :: seen) as).map (.ob c :: ·)) = some args := h
    split at h
    · cases h
    · rename_i hi
      obtain ⟨c, e1, h⟩ := Option.bind_eq_some_iff.mp h
      obtain ⟨bs, e, rfl⟩ := Option.map_eq_some_iff.mp h
      obtain ⟨g, n, s⟩ := gath_of e
      refine ⟨.sl e1 g, List.nodup_cons.mpr ⟨fun z => s i z List.mem_cons_self, n⟩, fun j hj => ?_⟩
      rcases List.mem_cons.mp hj with rfl | hj
      · exact hi
      · exact fun z => s j hj (List.mem_cons_of_mem _ z)
theorem ctAt_own {i : Nat} {c : Ct} (h : ctAt r i = some c) : isOwn r[i]? = true ∧ (r[i]? = some (.own c) ∨ r[i]? = some (.par c)) := by
  unfold ctAt at h
  split at h
  · rename_i e; cases h; rw [e]; exact ⟨rfl, .inl rfl⟩
  · rename_i e; cases h; rw [e]; exact ⟨rfl, .inr rfl⟩
  · cases h
theorem Stt.ct (x : Stt K G O H r σ) {i : Nat} {c : Ct} (h : ctAt r i = some c) : ∃ a, σ[i]?.join = some (.ref a) ∧ O a ∧ CtR K (Av O G) H c a := by
  rcases (ctAt_own h).2 with e | e
  · exact x.sl i _ e
  · exact x.sl i _ e
/-- the places that are handed over -/
def Pp (σ : L2.St) (is : List Nat) : Addr → Prop := fun a => ∃ i, i ∈ is ∧ σ[i]?.join = some (.ref a)
/-- those of the others meanwhile -/
def Gp (σ : L2.St) (is : List Nat) (O G : Addr → Prop) : Addr → Prop := fun a => (O a ∨ G a) ∧ ¬ Pp σ is a
theorem gath_own : ∀ {avs : List AV} {args : List Arg}, Gath r avs args → ∀ i ∈ slots avs, ∃ c, ctAt r i = some c
  | _, _, .nil, _, none_ => nomatch none_
  | _, _, .d g, i, h => gath_own g i h
  | _, _, .sl (i := j) (c := c) e g, i, h => by
    rcases List.mem_cons.mp h with here | h
    · subst here
      exact ⟨c, e⟩
    · exact gath_own g i h
theorem Pp.own (x : Stt K G O H r σ) {avs : List AV} {args : List Arg} (g : Gath r avs args) {a : Addr} (h : Pp σ (slots avs) a) : O a := by
  obtain ⟨i, hi, e⟩ := h
  obtain ⟨c, hc⟩ := gath_own g i hi
  obtain ⟨b, e1, ob, _⟩ := x.ct hc
  rw [e] at e1
  cases e1
  exact ob
theorem Av_hand (x : Stt K G O H r σ) {avs : List AV} {args : List Arg} (g : Gath r avs args) (a : Addr) : Av (Pp σ (slots avs)) (Gp σ (slots avs) O G) a ↔ Av O G a := by
  constructor
  · rintro (h | h)
    · exact .inl (Pp.own x g h)
    · exact h.1
  · intro h
    by_cases q : Pp σ (slots avs) a
    · exact .inl q
    · exact .inr ⟨h, q⟩
theorem gath_len : ∀ {avs : List AV} {args : List Arg}, Gath r avs args → args.length = avs.length
  | _, _, .nil => rfl
  | _, _, .d g => congrArg Nat.succ (gath_len g)
  | _, _, .sl _ g => congrArg Nat.succ (gath_len g)
theorem gath_at : ∀ {avs : List AV} {args : List Arg} {vs : List V}, Gath r avs args → AvsR K G σ O H avs vs → ∀ (i : Nat) (b : Arg) (v : V), args[i]? = some b → vs[i]? = some v →
    (∃ x, b = .d x ∧ Rl K (Av O G) H x v) ∨ ∃ j c, avs[i]? = some (.sl j) ∧ b = .ob c ∧ ctAt r j = some c ∧ σ[j]?.join = some v
  | _, _, _, .nil, .nil, i, b, v, h, _ => by simp at h
  | _, _, _, .d g, .cons q qs, 0, b, v, h, h' => by
    simp at h h'
    subst h h'
    exact .inl ⟨_, rfl, q⟩
  | _, _, _, .d g, .cons q qs, i + 1, b, v, h, h' => gath_at g qs i b v (by simpa using h) (by simpa using h')
  | _, _, _, .sl e g, .cons q qs, 0, b, v, h, h' => by
    simp at h h'
    subst h h'
    exact .inr ⟨_, _, rfl, rfl, e, q⟩
  | _, _, _, .sl e g, .cons q qs, i + 1, b, v, h, h' => gath_at g qs i b v (by simpa using h) (by simpa using h')
theorem slots_at : ∀ {avs : List AV} {i j k : Nat}, (slots avs).Nodup → avs[i]? = some (.sl k) → avs[j]? = some (.sl k) → i = j
  | [], i, _, _, _, h, _ => by simp at h
  | .d x :: as, 0, _, _, _, h, _ => by simp at h
  | .d x :: as, i + 1, 0, _, _, _, h => by simp at h
  | .d x :: as, i + 1, j + 1, _, n, h, h' => congrArg Nat.succ (slots_at (avs := as) n (by simpa using h) (by simpa using h'))
  | .sl a :: as, 0, 0, _, _, _, _ => rfl
  | .sl a :: as, 0, j + 1, k, n, h, h' => by
    simp at h
    subst h
    exact absurd (slot_mem (by simpa using h')) (List.nodup_cons.mp n).1
  | .sl a :: as, i + 1, 0, k, n, h, h' => by
    simp at h'
    subst h'
    exact absurd (slot_mem (by simpa using h)) (List.nodup_cons.mp n).1
  | .sl a :: as, i + 1, j + 1, k, n, h, h' => congrArg Nat.succ (slots_at (avs := as) (List.nodup_cons.mp n).2 (by simpa using h) (by simpa using h'))
where
  slot_mem : ∀ {avs : List AV} {i k : Nat}, avs[i]? = some (.sl k) → k ∈ slots avs
  | [], i, _, h => by simp at h
  | .d x :: as, 0, _, h => by simp at h
  | .d x :: as, i + 1, k, h => slot_mem (avs := as) (i := i) (by simpa using h)
  | .sl a :: as, 0, k, h => by simp at h; subst h; exact List.mem_cons_self
  | .sl a :: as, i + 1, k, h => List.mem_cons_of_mem _ (slot_mem (avs := as) (i := i) (by simpa using h))
theorem gath_cov : ∀ {avs : List AV} {args : List Arg} {vs : List V}, Gath r avs args → AvsR K G σ O H avs vs → ∀ (i : Nat) (a : Addr), i ∈ slots avs → σ[i]?.join = some (.ref a) → ∃ j : Nat, isOb args[j]? = true ∧ vs[j]? = some (.ref a)
  | _, _, _, .nil, .nil, i, a, h, _ => nomatch h
  | _, _, _, .d g, .cons q qs, i, a, h, e => by
    obtain ⟨j, h1, h2⟩ := gath_cov g qs i a h e
    exact ⟨j + 1, by simpa using h1, by simpa using h2⟩
  | _, _, _, .sl (i := k) e0 g, .cons (v := v) q qs, i, a, h, e => by
    rcases List.mem_cons.mp h with here | h
    · subst here
      have q : σ[i]?.join = some v := q
      rw [e] at q
      cases q
      exact ⟨0, rfl, rfl⟩
    · obtain ⟨j, h1, h2⟩ := gath_cov g qs i a h e
      exact ⟨j + 1, by simpa using h1, by simpa using h2⟩
/-- handed over -/
theorem hand_of (x : Stt K G O H r σ) {avs : List AV} {args : List Arg} {vs : List V} (g : Gath r avs args) (n : (slots avs).Nodup) (q : AvsR K G σ O H avs vs) : Hand K (Gp σ (slots avs) O G) (Pp σ (slots avs)) H args vs where
  len := (gath_len g).trans q.length
  wf := fun a h => x.wf a (Pp.own x g h)
  wg := fun a h => ⟨h.1.elim (fun z => x.wf a z) fun z => (x.wg a z).1, h.2⟩
  at_ := fun i b v h h' => by
    rcases gath_at g q i b v h h' with ⟨y, rfl, ry⟩ | ⟨j, c, e0, rfl, e, e'⟩
    · exact ry.less fun a z => (Av_hand x g a).mp z
    · obtain ⟨a, e1, oa, ca⟩ := x.ct e
      rw [e'] at e1
      cases e1
      refine ⟨a, rfl, ⟨j, slots_at.slot_mem e0, e'⟩, ca.imp (fun _ _ z => z.less fun b z => (Av_hand x g b).mp z) rfl⟩
  ap := fun i j a h1 h2 e1 e2 => by
    obtain ⟨b1, hb1, c1, rfl⟩ : ∃ b, args[i]? = some b ∧ ∃ c, b = .ob c := by
      cases z : args[i]? with
      | none => rw [z] at h1; cases h1
      | some b => cases b with
        | d y => rw [z] at h1; cases h1
        | ob c => exact ⟨_, rfl, c, rfl⟩
    obtain ⟨b2, hb2, c2, rfl⟩ : ∃ b, args[j]? = some b ∧ ∃ c, b = .ob c := by
      cases z : args[j]? with
      | none => rw [z] at h2; cases h2
      | some b => cases b with
        | d y => rw [z] at h2; cases h2
        | ob c => exact ⟨_, rfl, c, rfl⟩
    rcases gath_at g q i _ _ hb1 e1 with ⟨y, z, _⟩ | ⟨k1, d1, a1, _, t1, s1⟩
    · cases z
    · rcases gath_at g q j _ _ hb2 e2 with ⟨y, z, _⟩ | ⟨k2, d2, a2, _, t2, s2⟩
      · cases z
      · have e := x.ap k1 k2 a (ctAt_own t1).1 (ctAt_own t2).1 s1 s2
        subst e
        exact slots_at n a1 a2
  cov := fun a ⟨i, hi, e⟩ => gath_cov g q i a hi e
  tb := x.tb
/-! ### taken back -/
theorem putC_len {i : Nat} {c : Ct} : (putC r i c).length = r.length := by
  unfold putC
  split <;> simp
theorem putBack_len : ∀ {avs : List AV} {outs : List Ct} {r : Rho}, (putBack r avs outs).length = r.length
  | [], _, _ => rfl
  | .d _ :: as, outs, r => putBack_len (avs := as)
  | .sl i :: as, c :: outs, r => (putBack_len (avs := as)).trans putC_len
  | .sl _ :: _, [], _ => rfl
theorem putC_own {i j : Nat} {c : Ct} : isOwn (putC r i c)[j]? = isOwn r[j]? := by
  unfold putC
  split
  · rename_i e
    by_cases hj : i = j
    · subst hj
      have hl : i < r.length := (List.getElem?_eq_some_iff.mp e).1
      rw [List.getElem?_set_self hl, e] <;> rfl
    · rw [List.getElem?_set_ne hj]
  · rename_i e
    by_cases hj : i = j
    · subst hj
      have hl : i < r.length := (List.getElem?_eq_some_iff.mp e).1
      rw [List.getElem?_set_self hl, e] <;> rfl
    · rw [List.getElem?_set_ne hj]
  · rfl
theorem putC_kd {i j : Nat} {c : Ct} : kd (putC r i c)[j]? = kd r[j]? := by
  unfold putC
  split
  · rename_i e
    by_cases hj : i = j
    · subst hj
      have hl : i < r.length := (List.getElem?_eq_some_iff.mp e).1
      rw [List.getElem?_set_self hl, e] <;> rfl
    · rw [List.getElem?_set_ne hj]
  · rename_i e
    by_cases hj : i = j
    · subst hj
      have hl : i < r.length := (List.getElem?_eq_some_iff.mp e).1
      rw [List.getElem?_set_self hl, e] <;> rfl
    · rw [List.getElem?_set_ne hj]
  · rfl
theorem putC_ne {i j : Nat} {c : Ct} (h : i ≠ j) : (putC r i c)[j]? = r[j]? := by
  unfold putC
  split
  · rw [List.getElem?_set_ne h]
  · rw [List.getElem?_set_ne h]
  · rfl
theorem putC_at {i : Nat} {c c' : Ct} (h : ctAt r i = some c') : (putC r i c)[i]? = some (.own c) ∨ (putC r i c)[i]? = some (.par c) := by
  rcases (ctAt_own h).2 with e | e
  · have hl : i < r.length := (List.getElem?_eq_some_iff.mp e).1
    left
    unfold putC
    rw [e]
    exact List.getElem?_set_self hl
  · have hl : i < r.length := (List.getElem?_eq_some_iff.mp e).1
    right
    unfold putC
    rw [e]
    exact List.getElem?_set_self hl
theorem putBack_own : ∀ {avs : List AV} {outs : List Ct} {r : Rho} {j : Nat}, isOwn (putBack r avs outs)[j]? = isOwn r[j]?
  | [], _, _, _ => rfl
  | .d _ :: as, outs, r, j => putBack_own (avs := as)
  | .sl i :: as, c :: outs, r, j => (putBack_own (avs := as)).trans putC_own
  | .sl _ :: _, [], _, _ => rfl
theorem putBack_kd : ∀ {avs : List AV} {outs : List Ct} {r : Rho} {j : Nat}, kd (putBack r avs outs)[j]? = kd r[j]?
  | [], _, _, _ => rfl
  | .d _ :: as, outs, r, j => putBack_kd (avs := as)
  | .sl i :: as, c :: outs, r, j => (putBack_kd (avs := as)).trans putC_kd
  | .sl _ :: _, [], _, _ => rfl
theorem Gath.other {r' : Rho} : ∀ {avs : List AV} {args : List Arg}, Gath r avs args → (∀ i ∈ slots avs, ctAt r' i = ctAt r i) → Gath r' avs args
  | _, _, .nil, _ => .nil
  | _, _, .d g, h => .d (Gath.other g h)
  | _, _, .sl e g, h => .sl ((h _ List.mem_cons_self).trans e) (Gath.other g fun i hi => h i (List.mem_cons_of_mem _ hi))
theorem back_slots {A2 : Addr → Prop} (hA : ∀ a, Av O G a → A2 a) : ∀ {avs : List AV} {args : List Arg} {vs : List V} {outs : List Ct} {r : Rho}, (slots avs).Nodup → Gath r avs args →
    (∀ i ∈ slots avs, ∃ a, σ[i]?.join = some (.ref a) ∧ O a) → (∀ (i k : Nat) (v : V), avs[i]? = some (.sl k) → vs[i]? = some v → σ[k]?.join = some v) → OutsR K A2 H' args vs outs →
    (∀ (i : Nat) (s : Slot), r[i]? = some s → i ∉ slots avs → SlotR K O G H' s (σ[i]?.join)) → ∀ (i : Nat) (s : Slot), (putBack r avs outs)[i]? = some s → SlotR K O G H' s (σ[i]?.join)
  | [], _, _, _, _, _, .nil, _, _, _, h, i, s, e => h i s e (fun z => nomatch z)
  | .d x :: as, _, v :: vs, outs, r, n, .d g, ho, hv, ou, h, i, s, e => back_slots hA (avs := as) n g ho (fun i k w a b => hv (i + 1) k w (by simpa using a) (by simpa using b)) ou h i s e
  | .sl k :: as, _, v :: vs, c :: outs, r, n, .sl (c := c0) ec g, ho, hv, ou, h, i, s, e => by
    obtain ⟨⟨a, ev, ca⟩, ou⟩ := ou
    have n' := List.nodup_cons.mp n
    have e0 := hv 0 k v rfl rfl
    refine back_slots hA (avs := as) (r := putC r k c) n'.2 (g.other fun j hj => ?_) (fun j hj => ho j (List.mem_cons_of_mem _ hj)) (fun i k w a b => hv (i + 1) k w (by simpa using a) (by simpa using b)) ou (fun j t et hj => ?_) i s e
    · have hkj : k ≠ j := fun z => n'.1 (by rw [z]; exact hj)
      unfold ctAt
      rw [putC_ne hkj]
    · by_cases hk : k = j
      · subst hk
        obtain ⟨b, e1, ob⟩ := ho k List.mem_cons_self
        rw [e0, ev] at e1
        cases e1
        have cc : CtR K (Av O G) H' c a := ca.imp (fun _ _ z => z.less hA) rfl
        rcases putC_at (c := c) ec with z | z
        · rw [z] at et; cases et; exact ⟨a, by rw [e0, ev], ob, cc⟩
        · rw [z] at et; cases et; exact ⟨a, by rw [e0, ev], ob, cc⟩
      · rw [putC_ne hk] at et
        exact h j t et fun z => (List.mem_cons.mp z).elim (fun z => hk z.symm) hj
  | .d x :: as, _, [], outs, r, n, .d g, ho, hv, ou, h, i, s, e => by cases outs <;> exact (show False from ou).elim
  | .sl k :: as, _, [], outs, r, n, .sl _ g, ho, hv, ou, h, i, s, e => by cases outs <;> exact (show False from ou).elim
  | .sl k :: as, _, _ :: _, [], r, n, .sl _ g, ho, hv, ou, h, i, s, e => (show False from ou).elim
theorem avs_sl : ∀ {avs : List AV} {vs : List V}, AvsR K G σ O H avs vs → ∀ (i k : Nat) (v : V), avs[i]? = some (.sl k) → vs[i]? = some v → σ[k]?.join = some v
  | _, _, .nil, i, _, _, h, _ => by simp at h
  | _, _, .cons q qs, 0, k, v, h, h' => by simp at h h'; subst h h'; exact q
  | _, _, .cons q qs, i + 1, k, v, h, h' => avs_sl qs i k v (by simpa using h) (by simpa using h')
theorem outs_mu {A : Addr → Prop} : ∀ {avs : List AV} {args : List Arg} {vs : List V} {outs : List Ct}, Gath r avs args → AvsR K G σ O H avs vs → OutsR K A H' args vs outs → ∀ a, Pp σ (slots avs) a → Mu H' a
  | _, _, _, _, .nil, _, _, a, ⟨_, h, _⟩ => nomatch h
  | _, _, _, outs, .d g, .cons _ q, ou, a, h => outs_mu g q (show OutsR K A H' _ _ outs from ou) a h
  | _, _, _, [], .sl e g, .cons q qs, ou, a, _ => (show False from ou).elim
  | _, _, _, c :: outs, .sl (i := k) e g, .cons q qs, ou, a, ⟨i, hi, ei⟩ => by
    obtain ⟨⟨b, ev, cb⟩, ou⟩ := ou
    rcases List.mem_cons.mp hi with rfl | hi
    · rw [show σ[i]?.join = _ from q, ev] at ei
      cases ei
      exact cb.mu
    · exact outs_mu g qs ou a ⟨i, hi, ei⟩
/-- behind the call: the names, with what was handed over as it came back -/
theorem back_of (x : Stt K G O H r σ) {avs : List AV} {args : List Arg} {vs : List V} {outs : List Ct} (g : Gath r avs args) (n : (slots avs).Nodup) (q : AvsR K G σ O H avs vs)
    (e : Ext (Pp σ (slots avs)) H O' H') (ho : ∀ a, Pp σ (slots avs) a → O' a) (ou : OutsR K (Av O' (Gp σ (slots avs) O G)) H' args vs outs) :
    Stt K G O H' (putBack r avs outs) σ ∧ Ext O H O H' := by
  have hA : ∀ a, Av O G a → Av O' (Gp σ (slots avs) O G) a := fun a z => by
    by_cases p : Pp σ (slots avs) a
    · exact .inl (ho a p)
    · exact .inr ⟨z, p⟩
  have ex : Ext O H O H' := ⟨fun a o h1 h2 h3 => e.keep a o h1 (fun z => h2 (Pp.own x g z)) h3, e.dom, fun a z _ => z, e.tab⟩
  refine ⟨⟨fun a z => ?_, fun a z => ⟨?_, (x.wg a z).2⟩, putBack_len.trans x.len, ?_, fun i j a h1 h2 => x.ap i j a (by rw [← h1, putBack_own]) (by rw [← h2, putBack_own]), x.pf, fun i => by rw [putBack_kd]; exact x.pq i, e.tab x.tb⟩, ex⟩
  · by_cases p : Pp σ (slots avs) a
    · exact outs_mu g q ou a p
    · refine (x.wf a z).of_eq ?_
      cases h : H a with
      | none => exact absurd h (x.wf a z).ne
      | some o => exact e.keep a o h p ((x.wf a z).nt h)
  · refine (x.wg a z).1.of_eq ?_
    cases h : H a with
    | none => exact absurd h (x.wg a z).1.ne
    | some o => exact e.keep a o h (fun p => (x.wg a z).2 (Pp.own x g p)) ((x.wg a z).1.nt h)
  · refine back_slots hA n g (fun i hi => ?_) (avs_sl q) ou fun i s hs hi => ?_
    · obtain ⟨c, hc⟩ := gath_own g i hi
      obtain ⟨a, e1, oa, _⟩ := x.ct hc
      exact ⟨a, e1, oa⟩
    · have sr := x.sl i s hs
      have rl : ∀ d v, Rl K (Av O G) H d v → Rl K (Av O G) H' d v := fun d v z => z.ext x.wf ex
      have own : ∀ a c, isOwn r[i]? = true → σ[i]?.join = some (.ref a) → CtR K (Av O G) H c a → CtR K (Av O G) H' c a := fun a c w ea ca => by
        refine ca.imp rl ?_
        have np : ¬ Pp σ (slots avs) a := fun ⟨j, hj, ej⟩ => by
          obtain ⟨c', hc'⟩ := gath_own g j hj
          have z := x.ap i j a w (ctAt_own hc').1 ea ej
          subst z
          exact hi hj
        cases h : H a with
        | none => exact absurd h ca.mu.ne
        | some o => exact e.keep a o h np (ca.mu.nt h)
      cases s with
      | non => trivial
      | d y => obtain ⟨v, e1, r1⟩ := sr; exact ⟨v, e1, rl _ _ r1⟩
      | own c => obtain ⟨a, e1, oa, ca⟩ := sr; exact ⟨a, e1, oa, own a c (by rw [hs]; rfl) e1 ca⟩
      | par c => obtain ⟨a, e1, oa, ca⟩ := sr; exact ⟨a, e1, oa, own a c (by rw [hs]; rfl) e1 ca⟩
end
end Ev
end
section
set_option Elab.async false
set_option maxRecDepth 100000
set_option linter.all false
set_option autoImplicit false
set_option maxHeartbeats 1200000
/-! Ev8: does a term of the small language stand for a piece of the text? Facts; targets; walks. -/
namespace Ev
open PySem PySem.Spec PyProof.Rows L2
open He (ba)
variable [Tbls] [Fr]

/-- what the text's names mean -/
structure Lex where
  fnm : List (Option Str)
  gln : List (Option Str)
  gl : List D
  exn : List Str
  tel : List Str := []
def bltNames : List Str := ["len", "abs", "all", "any", "tuple", "list", "int", "str", "bool", "min", "max", "isinstance", "range", "zip", "enumerate", "sorted"]
def nmB (N : List Str) (i : Nat) (x : Str) : Bool := decide (N[i]? = some x)
def visB (sc : Scope) (x : Str) : Bool := match sc.names.lookup x with
  | some .local => true
  | some .cell => true
  | some .free => true
  | _ => false
def dunB (x : Str) : Bool := (x == ("__debug__" : Str)) == false && (x == ("__classdict__" : Str)) == false
def globB (sc : Scope) (x : Str) : Bool := match sc.names.lookup x with
  | some .globalImplicit => true
  | _ => false
def locB (sc : Scope) (fx : Str → Bool) (x : Str) : Bool := match sc.names.lookup x with
  | some .local => true
  | some .cell => fx x
  | _ => false
def noPar (a : Arguments) : Bool := a.posonlyargs.isEmpty && (a.args.isEmpty && (a.vararg.isNone && (a.kwonlyargs.isEmpty && (a.kw_defaults.isEmpty && (a.kwarg.isNone && a.defaults.isEmpty)))))
def tupB : Expr → Bool
  | .Tuple _ _ _ => true
  | _ => false
section
variable (N : List Str)
mutual
def chkT (sc : Scope) (fx : Str → Bool) : Tg → Expr → Bool
  | .nm i => fun e => match e with
    | .Name x _ => nmB N i x && locB sc fx x
    | _ => false
  | .tp ts => fun e => match e with
    | .Tuple es _ _ => chkTL sc fx ts es
    | _ => false
  | _ => fun _ => false
def chkTL (sc : Scope) (fx : Str → Bool) : Tg → List Expr → Bool
  | .nil => fun es => match es with
    | [] => true
    | _ => false
  | .cons a b => fun es => match es with
    | e :: r => noStar e && (chkT sc fx a e && chkTL sc fx b r)
    | _ => false
  | _ => fun _ => false
end
def tgSlots : Tg → List Nat
  | .nm i => [i]
  | .tp ts => tgSlots ts
  | .nil => []
  | .cons a b => tgSlots a ++ tgSlots b
/-- an int as it is written -/
def litI (k : Int) : Expr → Bool
  | .Constant (.int j) _ _ => decide (j = k)
  | .UnaryOp .USub (.Constant (.int j) _ _) _ => decide (-j = k)
  | _ => false
def mtName : Mt → Str
  | .join => "join"
  | .split => "split"
/-- may stand as a test -/
def testOk : E → Bool
  | .ite _ _ _ => false
  | .nt a => testOk a
  | .band a b => testOk a && testOk b
  | .bor a b => testOk a && testOk b
  | .one a => testOk a
  | _ => true
def isNil : E → Bool
  | .nil => true
  | _ => false
variable (L : Lex)
mutual
def chkE (sc : Scope) (fx : Str → Bool) : E → Expr → Bool
  | .kI i => fun e => match e with
    | .Constant (.int j) _ _ => decide (i = j)
    | _ => false
  | .kS s => fun e => match e with
    | .Constant (.str j) _ _ => decide (s = j)
    | _ => false
  | .kB b => fun e => match e with
    | .Constant (.bool j) _ _ => decide (b = j)
    | _ => false
  | .kN => fun e => match e with
    | .Constant .none _ _ => true
    | _ => false
  | .v i => fun e => match e with
    | .Name x _ => nmB N i x && (visB sc x && dunB x)
    | _ => false
  | .gl j => fun e => match e with
    | .Name x _ => decide (L.gln[j]?.join = some x) && (globB sc x && dunB x)
    | _ => false
  | .bin op a b => fun e => match e with
    | .BinOp l o r _ => decide (o = op) && (chkE sc fx a l && chkE sc fx b r)
    | _ => false
  | .neg a => fun e => match e with
    | .UnaryOp .USub x _ => chkE sc fx a x
    | _ => false
  | .nt a => fun e => match e with
    | .UnaryOp .Not x _ => chkE sc fx a x
    | _ => false
  | .band a b => fun e => match e with
    | .BoolOp .And (x :: y :: r) p => chkE sc fx a x && chkE sc fx b (.BoolOp .And (y :: r) p)
    | _ => false
  | .bor a b => fun e => match e with
    | .BoolOp .Or (x :: y :: r) p => chkE sc fx a x && chkE sc fx b (.BoolOp .Or (y :: r) p)
    | _ => false
  | .one a => fun e => match e with
    | .BoolOp _ [x] _ => chkE sc fx a x
    | _ => false
  | .cmp op a b => fun e => match e with
    | .Compare l [o] [r] _ => decide (o = op) && (!behindInMarks op r && (chkE sc fx a l && chkE sc fx b r))
    | _ => false
  | .chn op op' a b c => fun e => match e with
    | .Compare l [o, o'] [m, r] _ => decide (o = op ∧ o' = op' ∧ op ≠ .In ∧ op ≠ .NotIn ∧ op' ≠ .In ∧ op' ≠ .NotIn) && (chkE sc fx a l && (chkE sc fx b m && chkE sc fx c r))
    | _ => false
  | .ite c a b => fun e => match e with
    | .IfExp t x y _ => testOk c && (chkE sc fx c t && (chkE sc fx a x && chkE sc fx b y))
    | _ => false
  | .call f as => fun e => match e with
    | .Call (.Name x _) (y :: r) [] _ => decide (L.fnm[f]?.join = some x) && (globB sc x && (dunB x && (noStar y && (r.all noStar && chkL sc fx as (y :: r)))))
    | _ => false
  | .bi b as => fun e => match e with
    | .Call (.Name x _) (y :: r) [] _ => decide (x = Str.ofString (biName b)) && (globB sc x && (noStar y && (r.all noStar && chkL sc fx as (y :: r))))
    | _ => false
  | .isi a t => fun e => match e with
    | .Call (.Name x _) [y, .Name z _] [] _ => decide (x = Str.ofString "isinstance" ∧ z = Str.ofString (tyN t)) && (globB sc x && (globB sc z && (noStar y && chkE sc fx a y)))
    | _ => false
  | .tup as => fun e => match e with
    | .Tuple es _ _ => chkL sc fx as es
    | _ => false
  | .lst as => fun e => match e with
    | .List es _ => chkL sc fx as es
    | _ => false
  | .ix a b => fun e => match e with
    | .Subscript x i _ => plainB i && (chkE sc fx a x && chkE sc fx b i)
    | _ => false
  | .sl a lo hi => fun e => match e with
    | .Subscript x (.Slice l u none _) _ => chkE sc fx a x && ((match l with
        | none => isNil lo
        | some l => !isNil lo && chkE sc fx lo l) && (match u with
        | none => isNil hi
        | some u => !isNil hi && chkE sc fx hi u))
    | _ => false
  | .rev a => fun e => match e with
    | .Subscript x (.Slice none none (some (.UnaryOp .USub (.Constant (.int 1) _ _) _)) _) _ => chkE sc fx a x
    | _ => false
  | .revT a => fun e => match e with
    | .Subscript x (.Slice none none (some (.UnaryOp .USub (.Constant (.int 1) _ _) _)) _) _ => chkE sc fx a x
    | _ => false
  | .lc elt it t cond own => fun e => match e with
    | .ListComp y [⟨tg, iter, ifs, 0⟩] scope _ =>
      !(scope.names.lookup (Str.ofString "<lambda>") == some .cell) && (blkC N sc scope (own.filterMap fun i => N[i]?.map fun x => (x, i)) && (decide (own.all fun i => (N[i]?).isSome) && (setB iter && (chkI sc fx it (tupB tg) iter &&
        ((tgSlots t).all (fun i => decide (i ∈ own)) && (chkT N (relS scope sc) (fun x => scope.names.lookup x == some .cell) t tg &&
        (chkE (relS scope sc) (fun x => scope.names.lookup x == some .cell) elt y && (match ifs with
          | [] => isNil cond
          | [c] => !isNil cond && (testOk cond && chkE (relS scope sc) (fun x => scope.names.lookup x == some .cell) cond c)
          | _ => false))))))))
    | _ => false
  | .lRng a => fun e => match e with
    | .Call (.Name x _) [.Call (.Name z _) [y] [] _] [] _ => decide (x = Str.ofString "list" ∧ z = Str.ofString "range") && (globB sc x && (globB sc z && (noStar y && chkE sc fx a y)))
    | _ => false
  | .nilB i op => fun e => match e with
    | .Compare (.Name x _) [o] [.List [] _] _ => decide (o = op) && (nmB N i x && (visB sc x && dunB x))
    | _ => false
  | .lenB i => fun e => match e with
    | .Call (.Name z _) [.Name x _] [] _ => decide (z = Str.ofString "len") && (globB sc z && (nmB N i x && (visB sc x && dunB x)))
    | _ => false
  | .ixB i k => fun e => match e with
    | .Subscript (.Name x _) y _ => litI k y && (nmB N i x && (visB sc x && dunB x))
    | _ => false
  | .popB i k => fun e => match e with
    | .Call (.Attribute (.Name x _) m p) [y] [] q => decide (m = Str.ofString "pop" ∧ p.endLine = q.line ∧ -1000 ≤ k ∧ k ≤ 1000) && (litI k y && (nmB N i x && (visB sc x && dunB x)))
    | _ => false
  | .mt m a as => fun e => match e with
    | .Call (.Attribute x n p) [y] [] q => decide (n = mtName m ∧ p.endLine = q.line) && (attrB x && (noStar y && (chkE sc fx a x && chkL sc fx as [y])))
    | _ => false
  | .tell h b => fun e => match e with
    | .Call (.Name x _) [.Lambda params body scope _] [] _ => decide (L.tel[h]? = some x) && (globB sc x && (dunB x && (fx (Str.ofString "<lambda>") && (LamX.lamSB sc scope && (noPar params && chkE scope (fun _ => false) b body)))))
    | _ => false
  | _ => fun _ => false
def chkL (sc : Scope) (fx : Str → Bool) : E → List Expr → Bool
  | .nil => fun es => match es with
    | [] => true
    | _ => false
  | .cons a b => fun es => match es with
    | e :: r => noStar e && (chkE sc fx a e && chkL sc fx b r)
    | _ => false
  | _ => fun _ => false
def chkI (sc : Scope) (fx : Str → Bool) : E → Bool → Expr → Bool
  | .iStr a => fun _ e => chkE sc fx a e
  | .iSeq a => fun _ e => chkE sc fx a e
  | .iRng a b => fun _ e => match e with
    | .Call (.Name x _) [y] [] _ => decide (x = Str.ofString "range") && (globB sc x && (isNil a && (noStar y && chkE sc fx b y)))
    | .Call (.Name x _) [y, z] [] _ => decide (x = Str.ofString "range") && (globB sc x && (!isNil a && (noStar y && (noStar z && (chkE sc fx a y && chkE sc fx b z)))))
    | _ => false
  | .iZip a b => fun t e => match e with
    | .Call (.Name x _) [y, z] [] _ => t && (decide (x = Str.ofString "zip") && (globB sc x && (noStar y && (noStar z && (chkE sc fx a y && chkE sc fx b z)))))
    | _ => false
  | .iEnum a => fun t e => match e with
    | .Call (.Name x _) [y] [] _ => t && (decide (x = Str.ofString "enumerate") && (globB sc x && (noStar y && chkE sc fx a y)))
    | _ => false
  | _ => fun _ _ => false
end
end

/-! ### where one stands -/
/-- a lambda may be made here -/
def LamOk (X : Cx) (k : Nat) : Prop := Room (3 * k + 5) X.A ∧ ∃ c P, X.env.code = .ref c ∧ LamX.TabB X.base X.mg c P ∧ (P, X.env.qual ++ "<lambda>") ∈ Tbls.T ∧ ∀ p ∈ Tbls.T, p.1 = P → p.2 = X.env.qual ++ "<lambda>"
structure Cok (X : Cx) (N : List Str) (sc : Scope) (fx : Str → Bool) (W : WX) (k : Nat) : Prop where
  eN : X.N = N
  nd : N.Nodup
  sc : X.env.scope = sc
  fxn : ∀ x, fx x = true → X.fn x = true
  calm : X.calm = true
  tk : L2N.Takes X W
  rm : Room (3 * k + 3) X.A
  lm : fx (Str.ofString "<lambda>") = true → LamOk X k
/-- the lambda's context, its errors told with what they bear -/
def lamN (X : Cx) (A : Around) (outer : List Env) (s : Shared) (H : Hp) (E : XK) (scope : Scope) (f c' : Addr) : Cx :=
  { LamX.lamCx X A outer s H E scope f c' with
    xe := fun u t => wpAny (model X.prog X.w) (A.deeper (LamX.lamEnv X scope s.heap.objs.size f c')) (leaving (LamX.lamEnv X scope s.heap.objs.size f c') u) (fun _ z => L2N.CX X.prog X.w outer H s E u z) (fun y z => L2N.CX X.prog X.w outer H s E y z) t }
/-- the helper x serves lambdas: g tells what it makes of their outcome -/
def TelOk (X : Cx) (x : Str) (k : Nat) (g : List Arg → RC) : Prop := ∀ (W : WX) (ev : Rho → R D) (params : Arguments) (body : Expr) (scope : Scope) (p lpos pos : Pos),
  Gl X x → (x == ("__debug__" : Str)) = false → LamOk X k → X.calm = true → L2N.Takes X W → noPar params = true → LamX.LamS X.env.scope scope →
  (∀ (A : Around) (outer : List Env) (s : Shared) (H : Hp) (E : XK) (f c' : Addr), Room (3 * k + 3) (A.deeper (LamX.lamEnv X scope s.heap.objs.size f c')) → PE (lamN X A outer s H E scope f c') body (tE X.K (fun cls d _ H' => E cls d H') ev)) →
  PE X (.Call (.Name x p) [.Lambda params body scope lpos] [] pos) (tE X.K W fun r => telEv g (ev r))
structure Fx (X : Cx) (L : Lex) (k : Nat) (C : Calls) : Prop where
  blt : ∀ x ∈ bltNames, X.mg x = none
  gl : ∀ (j : Nat) x d, L.gln[j]?.join = some x → L.gl[j]? = some d → ∃ v u, X.mg x = some u ∧ L2.RelV v u ∧ ∀ A H, Rl X.K A H d v
  fn : ∀ (f : Nat) x, L.fnm[f]?.join = some x → ∃ g fd ps, X.mg x = some (.ref g) ∧ PySem.W.keepIn X.K (.ref g) = true ∧ Binds X.K fd ps [] ∧ (∀ args, C f args ≠ .no → args.length = ps.length) ∧ FnOk X.prog X.w X.K X.mg X.base (L2N.CX X.prog X.w) (3 * k + 3) g fd ps (spF X.K ps.length (C f))
  ex : ∀ c ∈ L.exn, X.mg c = some (.ref (He.ga X.K c)) ∧ PySem.W.excIn X.K (He.ga X.K c) He.veBase "ValueError.__new__" = true ∧ PySem.W.keepIn X.K (.ref (He.ga X.K c)) = true ∧
    PySem.W.subIn X.K (.ref (He.ga X.K c)) (.type "BaseException") = some true ∧ PySem.W.typeIn X.K (.ref (He.ga X.K c)) = some (.type "type")
  tl : ∀ (h : Nat) x, L.tel[h]? = some x → ∀ Y : Cx, Y.prog = X.prog → Y.w = X.w → Y.K = X.K → Y.mg = X.mg → Y.base = X.base → TelOk Y x k (C (1000 + h))
section
variable {X : Cx} {N : List Str} {sc : Scope} {fx : Str → Bool} {W : WX} {k : Nat} {L : Lex} {C : Calls}
theorem Cok.vis (c : Cok X N sc fx W k) {x : Str} (h : visB sc x = true) : Vis X.env.scope x := by
  rw [c.sc]
  unfold visB at h
  unfold Vis
  split at h
  · rename_i e; exact .inl e
  · rename_i e; exact .inr (.inl e)
  · rename_i e; exact .inr (.inr e)
  · cases h
theorem Cok.gl (c : Cok X N sc fx W k) {x : Str} (h : globB sc x = true) : Gl X x := by
  unfold Gl PySem.Env.kindOf
  rw [c.sc]
  unfold globB at h
  split at h
  · rename_i e; exact e
  · cases h
theorem dun_ok {x : Str} (h : dunB x = true) : (x == ("__debug__" : Str)) = false ∧ (x == ("__classdict__" : Str)) = false := by
  obtain ⟨h1, h2⟩ := ba h
  exact ⟨by simpa using h1, by simpa using h2⟩
theorem Cok.nm (c : Cok X N sc fx W k) {i : Nat} {x : Str} (h : nmB N i x = true) : X.N[i]? = some x := by
  rw [c.eN]
  exact of_decide_eq_true h
/-! ### targets -/
/-- the reading of a target -/
def tTg (K : PySem.W.Frag) (t : Tg) : TG := fun v σ H Q => ∃ G O r d r', Stt K G O H r σ ∧ Rl K (Av O G) H d v ∧ asgT t d r = some r' ∧
  ∀ σ', Stt K G O H r' σ' → σ'.length = σ.length → (∀ j, j ∉ tgSlots t → σ'[j]? = σ[j]?) → Q σ' H
def tTgs (K : PySem.W.Frag) (t : Tg) : TGs := fun vs σ H Q => ∃ G O r ds r', Stt K G O H r σ ∧ RlL K (Av O G) H ds vs ∧ asgL t ds r = some r' ∧
  ∀ σ', Stt K G O H r' σ' → σ'.length = σ.length → (∀ j, j ∉ tgSlots t → σ'[j]? = σ[j]?) → Q σ' H
theorem Stt.put {K : PySem.W.Frag} {G O : Addr → Prop} {H : Hp} {r r' : Rho} {σ : L2.St} (s : Stt K G O H r σ) {i : Nat} {x : D} {v : V} (q : Rl K (Av O G) H x v) (e : put r i (.d x) = some r') : Stt K G O H r' (σ.set i (some v)) := by
  unfold Ev.put at e
  split at e
  · rename_i hf
    cases e
    have hl : i < r.length := by
      unfold free? at hf
      split at hf
      · cases hf
      · rename_i e; exact (List.getElem?_eq_some_iff.mp e).1
      · cases hf
    refine ⟨s.wf, s.wg, by simp [s.len], fun j t et => ?_, fun j l a h1 h2 e1 e2 => ?_, s.pf, fun j => ?_, s.tb⟩
    · by_cases hj : i = j
      · subst hj
        rw [List.getElem?_set_self hl] at et
        cases et
        exact ⟨v, by rw [List.getElem?_set_self (by rw [← s.len]; exact hl)]; rfl, q⟩
      · rw [List.getElem?_set_ne hj] at et
        rw [List.getElem?_set_ne hj]
        exact s.sl j t et
    · have nj : i ≠ j := fun z => by subst z; rw [List.getElem?_set_self hl] at h1; cases h1
      have nl : i ≠ l := fun z => by subst z; rw [List.getElem?_set_self hl] at h2; cases h2
      rw [List.getElem?_set_ne nj] at h1 e1
      rw [List.getElem?_set_ne nl] at h2 e2
      exact s.ap j l a h1 h2 e1 e2
    · by_cases hj : i = j
      · subst hj
        rw [List.getElem?_set_self hl]
        exact ⟨(fun z => nomatch z), (fun z => nomatch z)⟩
      · rw [List.getElem?_set_ne hj, List.getElem?_set_ne hj]
        exact s.pq j
  · cases e
theorem PG.imp {t t' : TG} {e : Expr} (h : PG X e t) (w : ∀ v σ H Q, t' v σ H Q → t v σ H Q) : PG X e t' := ⟨fun pins s σ H v u Q I r q => h.run pins s σ H v u Q I r (w v σ H Q q)⟩
theorem PGs.imp {t t' : TGs} {e : List Expr} (h : PGs X e t) (w : ∀ v σ H Q, t' v σ H Q → t v σ H Q) : PGs X e t' := ⟨fun pins s σ H v u Q I r q => h.run pins s σ H v u Q I r (w v σ H Q q)⟩
theorem RlL.cons_inv {K : PySem.W.Frag} {A : Addr → Prop} {H : Hp} {d : D} {ds : List D} {vs : List V} (r : RlL K A H (d :: ds) vs) : ∃ v w, vs = v :: w ∧ Rl K A H d v ∧ RlL K A H ds w := by
  cases r with
  | cons one more => exact ⟨_, _, rfl, one, more⟩
theorem chkTL_len : ∀ {t : Tg} {es : List Expr} {ds : List D} {r r' : Rho}, chkTL N sc fx t es = true → asgL t ds r = some r' → ds.length = es.length
  | .nil, [], [], _, _, _, _ => rfl
  | .nil, [], _ :: _, _, _, _, e => by cases e
  | .nil, _ :: _, _, _, _, h, _ => by cases h
  | .cons a b, [], _, _, _, h, _ => by cases h
  | .cons a b, _ :: _, [], _, _, _, e => by cases e
  | .cons a b, _ :: es, x :: ds, r, r', h, e => by
    obtain ⟨r1, _, e2⟩ := Option.bind_eq_some_iff.mp (show (asgT a x r).bind _ = some r' from e)
    exact congrArg Nat.succ (chkTL_len (ba (ba h).2).2 e2)
  | .nm _, _, _, _, _, h, _ => by cases h
  | .tp _, _, _, _, _, h, _ => by cases h
theorem chkTL_star : ∀ {t : Tg} {es : List Expr}, chkTL N sc fx t es = true → es.all noStar = true
  | .nil, [], _ => rfl
  | .nil, _ :: _, h => by cases h
  | .cons a b, [], h => by cases h
  | .cons a b, e :: es, h => by
    rw [List.all_cons, Bool.and_eq_true]
    exact ⟨(ba h).1, chkTL_star (ba (ba h).2).2⟩
  | .nm _, _, h => by cases h
  | .tp _, _, h => by cases h
mutual
theorem so_tg (c : Cok X N sc fx W k) : ∀ {t : Tg} {e : Expr}, chkT N sc fx t e = true → PG X e (tTg X.K t)
  | .nm i, e, h => by
    cases e with
    | Name x p =>
      obtain ⟨h1, h2⟩ := ba h
      have hl : L2.Loc X.env.scope x ∧ (X.fn x = true ∨ X.env.scope.names.lookup x = some .local) := by
        rw [c.sc]
        unfold locB at h2
        unfold L2.Loc
        split at h2
        · rename_i e; exact ⟨.inl e, .inr e⟩
        · rename_i e; exact ⟨.inr e, .inl (c.fxn x h2)⟩
        · cases h2
      refine PG.imp (pg_name (by rw [c.eN]; exact c.nd) (c.nm h1) hl.1 hl.2) fun v σ H Q ⟨G, O, r, d, r', s, q, e, k⟩ => ?_
      exact k _ (s.put q e) (by simp) fun j hj => List.getElem?_set_ne (fun z => hj (by simp [tgSlots, z]))
    | _ => cases h
  | .tp ts, e, h => by
    cases e with
    | Tuple es kk p =>
      have h : chkTL N sc fx ts es = true := h
      refine PG.imp (pg_tup (n := es.length) c.calm (so_tgs c h) asg_len (asg_find (chkTL_star h))) fun v σ H Q ⟨G, O, r, d, r', s, q, e, k⟩ => ?_
      obtain ⟨ds, e1, e2⟩ := Option.bind_eq_some_iff.mp (show (unTup d).bind _ = some r' from e)
      cases q with
      | tup h1 a1 =>
        cases e1
        exact ⟨_, _, rfl, h1, by rw [← a1.length, chkTL_len h e2], G, O, r, _, r', s, a1, e2, k⟩
      | _ => cases e1
    | _ => cases h
  | .nil, _, h => by cases h
  | .cons _ _, _, h => by cases h
theorem so_tgs (c : Cok X N sc fx W k) : ∀ {t : Tg} {es : List Expr}, chkTL N sc fx t es = true → PGs X es (tTgs X.K t)
  | .nil, [], _ => by
    refine PGs.imp pgs_nil fun vs σ H Q ⟨G, O, r, ds, r', s, q, e, k⟩ => ?_
    cases q with
    | nil =>
      cases e
      exact ⟨rfl, k σ s rfl fun _ _ => rfl⟩
    | cons _ _ => cases e
  | .nil, _ :: _, h => by cases h
  | .cons a b, [], h => by cases h
  | .cons a b, e :: es, h => by
    obtain ⟨h0, h⟩ := ba h
    obtain ⟨h1, h2⟩ := ba h
    refine PGs.imp (pgs_cons (so_tg c h1) (so_tgs c h2) (by rw [asg_cons h0] <;> rfl)) fun vs σ H Q ⟨G, O, r, ds, r', s, q, e, k⟩ => ?_
    cases ds with
    | nil => cases e
    | cons x ds =>
      obtain ⟨r1, e1, e2⟩ := Option.bind_eq_some_iff.mp (show (asgT a x r).bind _ = some r' from e)
      obtain ⟨v, w, rfl, q1, q2⟩ := q.cons_inv
      refine ⟨v, w, rfl, G, O, r, x, r1, s, q1, e1, fun σ1 s1 l1 k1 => ?_⟩
      refine ⟨G, O, r1, ds, r', s1, q2, e2, fun σ2 s2 l2 k2 => k σ2 s2 (l2.trans l1) fun j hj => ?_⟩
      have hj : j ∉ tgSlots a ++ tgSlots b := hj
      rw [k2 j fun z => hj (List.mem_append_right _ z), k1 j fun z => hj (List.mem_append_left _ z)]
  | .nm _, _, h => by cases h
  | .tp _, _, h => by cases h
end
end
end Ev
end
section
set_option Elab.async false
set_option maxRecDepth 100000
set_option linter.all false
set_option autoImplicit false
set_option maxHeartbeats 1200000
/-! Ev9: each expression of the small language keeps the machine's road. -/
namespace Ev
open PySem PySem.Spec PyProof.Rows L2
open He (ba)
variable [Tbls] [Fr]

section
variable {K : PySem.W.Frag} {A1 A' : Addr → Prop} {H1 H' : Hp}
theorem Rl.move (wf : ∀ a, A1 a → Mu H1 a) (h1 : ∀ a, A' a → Th H1 a → A1 a) (h2 : Kp A1 H1 H') {d : D} {v : V} (r : Rl K A1 H1 d v) : Rl K A' H' d v := by
  refine r.imp (fun a vs q => ?_) fun a vs q => ?_
  · rcases q with ⟨q, n⟩ | q
    · refine .inl ⟨?_, fun z => n (h1 a z ?_)⟩
      · rcases q with q | ⟨o, q⟩
        · exact .inl (h2 _ _ q n fun _ z => nomatch z)
        · exact .inr ⟨o, h2 _ _ q n fun _ z => nomatch z⟩
      · rcases q with q | ⟨o, q⟩ <;> exact ⟨_, q, fun _ z => nomatch z⟩
    · exact .inr q
  · rcases q with (q | ⟨o, q⟩) | q
    · exact .inl (.inl (h2 _ _ q (fun z => (wf a z).notup q) fun _ z => nomatch z))
    · exact .inl (.inr ⟨o, h2 _ _ q (fun z => (wf a z).nofrz q) fun _ z => nomatch z⟩)
    · exact .inr q
end

/-! ### walks over data -/
def WalkD (K : PySem.W.Frag) (A1 : Addr → Prop) (H1 : Hp) (items : List D) (J : It) : Prop := ∃ Gd : Hp → Prop,
  Walk J items.length Gd (fun i H x H2 => ∀ A' : Addr → Prop, (∀ a, A' a → Th H1 a → A1 a) → Kp A1 H1 H → Same H H2 ∧ ∃ d, items[i]? = some d ∧ Rl K A' H2 d x) ∧
  ∀ H, Kp A1 H1 H → Gd H
def tI (K : PySem.W.Frag) (W : WX) (ev : Rho → R (List D)) : TI := fun σ H R => ∃ G O r, Stt K G O H r σ ∧ match ev r with
  | .ok items r' => ∀ O' H' J, Ext O H O' H' → Stt K G O' H' r' σ → WalkD K (Av O' G) H' items J → R J H'
  | .ex c r' => ∀ O' H', Ext O H O' H' → Stt K G O' H' r' σ → W (.ref (He.ga K c)) none σ H'
  | .no => False
section
variable {K : PySem.W.Frag} {A1 : Addr → Prop} {H1 : Hp}
theorem srcA_ls {a : Addr} {vs : List V} (h : LsAt K A1 H1 a vs) : (∀ H, Kp A1 H1 H → SqL K H a vs) := by
  intro H k
  rcases h with ⟨h | ⟨o, h⟩, n⟩ | h
  · exact .inl (.inl (k _ _ h n fun _ z => nomatch z))
  · exact .inl (.inr ⟨o, k _ _ h n fun _ z => nomatch z⟩)
  · exact .inr h
theorem srcA_tp (wf : ∀ a, A1 a → Mu H1 a) {a : Addr} {vs : List V} (h : SqT K H1 a vs) : (∀ H, Kp A1 H1 H → SqT K H a vs) := by
  intro H k
  rcases h with (h | ⟨ob, h⟩) | h
  · exact .inl (.inl (k _ _ h (fun z => (wf a z).notup h) fun _ z => nomatch z))
  · exact .inl (.inr ⟨ob, k _ _ h (fun z => (wf a z).nofrz h) fun _ z => nomatch z⟩)
  · exact .inr h
/-- a list's or a tuple's source -/
theorem src_data (wf : ∀ a, A1 a → Mu H1 a) {x : D} {items : List D} {v : V} (r : Rl K A1 H1 x v) (e : unList x = some items) :
    ∃ k a vs, v = .ref a ∧ RlL K A1 H1 items vs ∧ ∀ H, Kp A1 H1 H → SrcA K k H a vs := by
  cases r with
  | lst h q => cases e; exact ⟨true, _, _, rfl, q, srcA_ls h⟩
  | tup h q => cases e; exact ⟨false, _, _, rfl, q, srcA_tp wf h⟩
  | _ => cases e
def ItS (K : PySem.W.Frag) (k : Bool) (a : Addr) : It := match k with
  | true => Itl K a
  | false => Itt K a
theorem walk_src {k : Bool} {a : Addr} {xs : List V} : Walk (ItS K k a) xs.length (fun H => SrcA K k H a xs) (YAt xs) := by
  cases k with
  | true => exact walk_list
  | false => exact walk_tup
theorem walkD_src (wf : ∀ a, A1 a → Mu H1 a) {k : Bool} {a : Addr} {items : List D} {vs : List V} (q : RlL K A1 H1 items vs) (s : ∀ H, Kp A1 H1 H → SrcA K k H a vs) : WalkD K A1 H1 items (ItS K k a) := by
  refine ⟨fun H => SrcA K k H a vs, ?_, s⟩
  rw [q.length]
  refine walk_src.mono (fun _ h => h) fun i H x H2 _ _ y A' h1 h2 => ?_
  obtain ⟨e, hx⟩ := y
  subst e
  obtain ⟨d, e1, r1⟩ := q.getV hx
  exact ⟨Same.refl _, d, e1, r1.move wf h1 h2⟩
theorem walkD_range {a b : Int} : WalkD K A1 H1 (rngD a b) (Itr a (b - a).toNat) := by
  refine ⟨fun _ => True, ?_, fun _ _ => trivial⟩
  have e : (rngD a b).length = (b - a).toNat := by simp [rngD]
  rw [e]
  refine walk_range.mono (fun _ h => h) fun i H x H2 hi _ y A' h1 h2 => ?_
  obtain ⟨e, hx⟩ := y
  subst e hx
  exact ⟨Same.refl _, .int (a + i), by unfold rngD; rw [List.getElem?_map, List.getElem?_range hi]; rfl, .int _⟩
theorem zipD_get {xs ys : List D} {i : Nat} {x y : D} (h1 : xs[i]? = some x) (h2 : ys[i]? = some y) : (zipD xs ys)[i]? = some (.tuple [x, y]) := by
  unfold zipD
  rw [List.getElem?_zipWith, h1, h2]
theorem walkD_zip (wf : ∀ a, A1 a → Mu H1 a) {k1 k2 : Bool} {a b : Addr} {xs ys : List D} {vs ws : List V} (q1 : RlL K A1 H1 xs vs) (q2 : RlL K A1 H1 ys ws) (s1 : ∀ H, Kp A1 H1 H → SrcA K k1 H a vs)
    (s2 : ∀ H, Kp A1 H1 H → SrcA K k2 H b ws) : WalkD K A1 H1 (zipD xs ys) (ItzX K k1 k2 a b) := by
  refine ⟨fun H => SrcA K k1 H a vs ∧ SrcA K k2 H b ws, ?_, fun H h => ⟨s1 H h, s2 H h⟩⟩
  have e : (zipD xs ys).length = min vs.length ws.length := by simp [zipD, q1.length, q2.length]
  rw [e]
  refine walk_zipX.mono (fun _ h => h) fun i H v H2 hi _ y A' h1 h2 => ?_
  obtain ⟨T, x, z, rfl, hT, rfl, e1, e2⟩ := y
  obtain ⟨d1, g1, r1⟩ := q1.getV e1
  obtain ⟨d2, g2, r2⟩ := q2.getV e2
  exact ⟨same_upd hT, _, zipD_get g1 g2, .tup (.inl (.inl upd_same)) (.cons ((r1.move wf h1 h2).same (same_upd hT)) (.cons ((r2.move wf h1 h2).same (same_upd hT)) .nil))⟩
theorem enumD_len : ∀ (n : Nat) (xs : List D), (enumD n xs).length = xs.length
  | _, [] => rfl
  | n, _ :: xs => congrArg Nat.succ (enumD_len (n + 1) xs)
theorem enumD_get : ∀ {xs : List D} {n i : Nat} {x : D}, xs[i]? = some x → (enumD n xs)[i]? = some (.tuple [.int ((n + i : Nat) : Int), x])
  | [], _, _, _, found => by simp at found
  | y :: xs, n, 0, x, h => by simp at h; subst h; rfl
  | y :: xs, n, i + 1, x, h => by
    have := enumD_get (n := n + 1) (i := i) (show xs[i]? = some x by simpa using h)
    rw [show n + 1 + i = n + (i + 1) by omega] at this
    simpa [enumD] using this
theorem walkD_enum (wf : ∀ a, A1 a → Mu H1 a) {k : Bool} {a : Addr} {xs : List D} {vs : List V} (q1 : RlL K A1 H1 xs vs) (s1 : ∀ H, Kp A1 H1 H → SrcA K k H a vs) : WalkD K A1 H1 (enumD 0 xs) (IteX K k a) := by
  refine ⟨fun H => SrcA K k H a vs, ?_, s1⟩
  rw [enumD_len, q1.length]
  refine walk_enumX.mono (fun _ h => h) fun i H v H2 hi _ y A' h1 h2 => ?_
  obtain ⟨T, x, z, rfl, hT, rfl, e1, e2⟩ := y
  cases e1
  obtain ⟨d2, g2, r2⟩ := q1.getV e2
  refine ⟨same_upd hT, _, enumD_get g2, .tup (.inl (.inl upd_same)) (.cons ?_ (.cons ((r2.move wf h1 h2).same (same_upd hT)) .nil))⟩
  rw [Nat.zero_add]
  exact .int _
theorem turn_src {P : Program} {w : World} {tg : Expr} (k : Bool) (a it : Addr) : Turn P w K tg (ItS K k a) [it] it (fun i h => SrcIt k h it a i) := by
  cases k
  · exact turn_tuple a it
  · exact turn_list a it
end
theorem pi_src {X : Cx} {tg l : Expr} {tl : TE} (hl : PE X l tl) : PI X tg l (fun σ H R => tl σ H fun x H1 => ∃ k a xs, x = .ref a ∧ SrcA X.K k H1 a xs ∧ R (ItS X.K k a) H1) where
  run pins s σ H R I ask := by
    have val := hl.run pins s σ H _ I ask
    refine thn val fun u s1 got => ?_
    obtain ⟨_, H1, I1, rel, k, a, xs, rfl, src, go⟩ := got
    cases rel
    obtain ⟨us, _, stands⟩ := src_of I1 src
    have B := begins_src k a us.toArray
    refine B.iter X.prog X.w _ _ _ _ stands ?_
    exact ⟨_, [s1.heap.objs.size], _, _, H1, rfl, I1.kept (t' := s1.toks) fun b o e => Heap.get?_push_of_some _ e, turn_src k a _, srcIt_new (Heap.get?_push_size _ B.free), above_ok I1 (by simp), go⟩
theorem PI.imp {X : Cx} {tg e : Expr} {t t' : TI} (h : PI X tg e t) (w : ∀ σ H R, t' σ H R → t σ H R) : PI X tg e t' := ⟨fun pins s σ H R I q => h.run pins s σ H R I (w σ H R q)⟩
theorem PO.imp {X : Cx} {e : Option Expr} {t t' : TO} (h : PO X e t) (w : ∀ σ H R, t' σ H R → t σ H R) : PO X e t' := ⟨fun pins s σ H R I q => h.run pins s σ H R I (w σ H R q)⟩

/-! ### the claims -/
section
variable (C : Calls) (L : Lex) (k : Nat) (ir : E)
def SoE : Prop := ∀ (X : Cx) (N : List Str) (sc : Scope) (fx : Str → Bool) (W : WX) (e : Expr), Cok X N sc fx W k → Fx X L k C → chkE N L sc fx ir e = true → PE X e (tE X.K W (evE C L.gl ir))
def SoT : Prop := ∀ (X : Cx) (N : List Str) (sc : Scope) (fx : Str → Bool) (W : WX) (e : Expr), Cok X N sc fx W k → Fx X L k C → testOk ir = true → chkE N L sc fx ir e = true → PT X e (tTest (tE X.K W (evE C L.gl ir)))
def SoW : Prop := ∀ (X : Cx) (N : List Str) (sc : Scope) (fx : Str → Bool) (W : WX) (op : BoolOp) (vs : List Expr) (p : Pos), Cok X N sc fx W k → Fx X L k C → testOk ir = true → chkE N L sc fx ir (.BoolOp op vs p) = true → PW X (.BoolOp op vs p) (tTest (tE X.K W (evE C L.gl ir)))
def SoDs : Prop := ∀ (X : Cx) (N : List Str) (sc : Scope) (fx : Str → Bool) (W : WX) (es : List Expr), Cok X N sc fx W k → Fx X L k C → chkL N L sc fx ir es = true → PA X es (tDs X.K W (evDs C L.gl ir))
abbrev tAs (K : PySem.W.Frag) (W : WX) (ev : Rho → R (List AV)) : TA := fun σ H Q => ∃ G O r, Stt K G O H r σ ∧ Got K G (AvsR K G σ) W σ O H (ev r) Q
def SoAs : Prop := ∀ (X : Cx) (N : List Str) (sc : Scope) (fx : Str → Bool) (W : WX) (es : List Expr), Cok X N sc fx W k → Fx X L k C → chkL N L sc fx ir es = true → PA X es (tAs X.K W (evAs C L.gl ir))
def SoI : Prop := ∀ (X : Cx) (N : List Str) (sc : Scope) (fx : Str → Bool) (W : WX) (tg e : Expr) (b : Bool), Cok X N sc fx W k → Fx X L k C → (b = true → tupB tg = true) → chkI N L sc fx ir b e = true → PI X tg e (tI X.K W (evI C L.gl ir))
structure So : Prop where
  e : SoE C L k ir
  t : SoT C L k ir
  w : SoW C L k ir
  ds : SoDs C L k ir
  as : SoAs C L k ir
  i : SoI C L k ir
end
section
variable {C : Calls} {L : Lex} {k : Nat} {X : Cx} {N : List Str} {sc : Scope} {fx : Str → Bool} {W : WX}
variable {K : PySem.W.Frag} {G O : Addr → Prop} {H : Hp} {r : Rho} {σ : L2.St}
theorem g_ans {o : Option D} {Q : VK} (g : Got K G (RD K G) W σ O H (R.of r o) Q) (s : Stt K G O H r σ) : ∃ d, o = some d ∧ Ans K (Av O G) H d Q := by
  cases o with
  | none => exact g.elim
  | some d => exact ⟨d, rfl, fun H' v sm rv => g O H' v (.same sm) (s.same sm) rv⟩
theorem g_here {β α : Type} {Rel : (Addr → Prop) → Hp → α → β → Prop} {a : α} {b : β} {Q : β → Hp → Prop} (g : Got K G Rel W σ O H (.ok a r) Q) (s : Stt K G O H r σ) (q : Rel O H a b) : Q b H := g O H b .refl s q
/-- one value, then on -/
theorem g1 {γ δ : Type} {RelC : (Addr → Prop) → Hp → γ → δ → Prop} {x : R D} {f : D → Rho → R γ} {Q : δ → Hp → Prop} (g : Got K G RelC W σ O H (x.bind f) Q) {Q' : VK}
    (h : ∀ O1 H1 r1 d v, Ext O H O1 H1 → Stt K G O1 H1 r1 σ → Rl K (Av O1 G) H1 d v → Got K G RelC W σ O1 H1 (f d r1) Q → Q' v H1) : Got K G (RD K G) W σ O H x Q' :=
  (Got.bind (RelA := RD K G) g).imp fun v H1 ⟨O1, r1, d, e, s, q, g'⟩ => h O1 H1 r1 d v e s q g'
theorem gs {γ δ : Type} {RelC : (Addr → Prop) → Hp → γ → δ → Prop} {x : R (List D)} {f : List D → Rho → R γ} {Q : δ → Hp → Prop} (g : Got K G RelC W σ O H (x.bind f) Q) {Q' : List V → Hp → Prop}
    (h : ∀ O1 H1 r1 ds vs, Ext O H O1 H1 → Stt K G O1 H1 r1 σ → RlL K (Av O1 G) H1 ds vs → Got K G RelC W σ O1 H1 (f ds r1) Q → Q' vs H1) : Got K G (RDs K G) W σ O H x Q' :=
  (Got.bind (RelA := RDs K G) g).imp fun v H1 ⟨O1, r1, d, e, s, q, g'⟩ => h O1 H1 r1 d v e s q g'

/-- a value's term: as a test too -/
theorem so_val {ir : E} (hE : SoE C L k ir) (hb : ∀ (N : List Str) (sc : Scope) (fx : Str → Bool) (e : Expr), chkE N L sc fx ir e = true → testB e = true) (hl : ∀ (N : List Str) (sc : Scope) (fx : Str → Bool) (es : List Expr), chkL N L sc fx ir es ≠ true)
    (hi : ∀ (N : List Str) (sc : Scope) (fx : Str → Bool) (b : Bool) (e : Expr), chkI N L sc fx ir b e ≠ true) : So C L k ir where
  e := hE
  t := fun X N sc fx W e c F _ h => PT.imp (pt_val (hE X N sc fx W e c F h) (test_ok (hb N sc fx e h))) fun σ H Q q => q
  w := fun X N sc fx W op vs p c F _ h => by have := hb N sc fx _ h; cases this
  ds := fun X N sc fx W es c F h => absurd h (hl N sc fx es)
  as := fun X N sc fx W es c F h => absurd h (hl N sc fx es)
  i := fun X N sc fx W tg e b c F _ h => absurd h (hi N sc fx b e)

theorem so_kI (i : Int) : SoE C L k (.kI i) := fun X N sc fx W e c F h => by
  cases e with
  | Constant z j p =>
    cases z with
    | int z =>
      have e : i = z := of_decide_eq_true h
      subst e
      exact PE.imp pe_int fun σ H Q ⟨G, O, r, s, g⟩ => g_here g s (.int _)
    | _ => cases h
  | _ => cases h
theorem so_kS (i : Str) : SoE C L k (.kS i) := fun X N sc fx W e c F h => by
  cases e with
  | Constant z j p =>
    cases z with
    | str z =>
      have e : i = z := of_decide_eq_true h
      subst e
      exact PE.imp pe_str fun σ H Q ⟨G, O, r, s, g⟩ => g_here g s (.str _)
    | _ => cases h
  | _ => cases h
theorem so_kB (i : Bool) : SoE C L k (.kB i) := fun X N sc fx W e c F h => by
  cases e with
  | Constant z j p =>
    cases z with
    | bool z =>
      have e : i = z := of_decide_eq_true h
      subst e
      exact PE.imp pe_bl fun σ H Q ⟨G, O, r, s, g⟩ => g_here g s (.bl _)
    | _ => cases h
  | _ => cases h
theorem so_kN : SoE C L k .kN := fun X N sc fx W e c F h => by
  cases e with
  | Constant z j p =>
    cases z with
    | none => exact PE.imp pe_non fun σ H Q ⟨G, O, r, s, g⟩ => g_here g s .non
    | _ => cases h
  | _ => cases h
/-- what a name owns becomes shared -/
theorem Stt.freeze (s : Stt K G O H r σ) {i : Nat} {ds : List D} (e : r[i]? = some (.own (.lst ds))) :
    ∃ a O', σ[i]?.join = some (.ref a) ∧ Ext O H O' H ∧ Stt K G O' H (r.set i (.d (.list ds))) σ ∧ Rl K (Av O' G) H (.list ds) (.ref a) := by
  obtain ⟨a, e1, oa, vs, hv, q⟩ := s.sl i _ e
  have ll : ∀ b, Av (fun b => O b ∧ b ≠ a) G b → Av O G b := fun b z => z.elim (fun z => .inl z.1) .inr
  have rl : Rl K (Av (fun b => O b ∧ b ≠ a) G) H (.list ds) (.ref a) := .lst (.inl ⟨.inl hv, fun z => z.elim (fun z => z.2 rfl) fun z => (s.wg a z).2 oa⟩) (q.less ll)
  have hl : i < r.length := (List.getElem?_eq_some_iff.mp e).1
  refine ⟨a, fun b => O b ∧ b ≠ a, e1, ⟨fun b o h _ _ => h, fun b h => h, fun b z _ => z.1, id⟩, ⟨fun b z => s.wf b z.1, fun b z => ⟨(s.wg b z).1, fun w => (s.wg b z).2 w.1⟩, by simp [s.len], fun j t et => ?_, fun j l b h1 h2 e1 e2 => ?_, fun j b e => ⟨s.pf j b e, fun z => (s.pq i).2 (by rw [‹r[i]? = _›]; rfl) j b e (z ▸ e1)⟩, fun j => ?_, s.tb⟩, rl⟩
  · by_cases hj : i = j
    · subst hj
      rw [List.getElem?_set_self hl] at et
      cases et
      exact ⟨_, e1, rl⟩
    · rw [List.getElem?_set_ne hj] at et
      have sr := s.sl j t et
      have own : ∀ (c : Ct) (b : Addr), isOwn r[j]? = true → σ[j]?.join = some (.ref b) → b ≠ a := fun c b w eb z => by
        subst z
        exact hj (s.ap i j b (by rw [e]; rfl) w e1 eb)
      cases t with
      | non => trivial
      | d y => obtain ⟨v, e2, r2⟩ := sr; exact ⟨v, e2, r2.less ll⟩
      | own c => obtain ⟨b, e2, ob, cb⟩ := sr; exact ⟨b, e2, ⟨ob, own c b (by rw [et]; rfl) e2⟩, cb.imp (fun _ _ z => z.less ll) rfl⟩
      | par c => obtain ⟨b, e2, ob, cb⟩ := sr; exact ⟨b, e2, ⟨ob, own c b (by rw [et]; rfl) e2⟩, cb.imp (fun _ _ z => z.less ll) rfl⟩
  · have nj : i ≠ j := fun z => by subst z; rw [List.getElem?_set_self hl] at h1; cases h1
    have nl : i ≠ l := fun z => by subst z; rw [List.getElem?_set_self hl] at h2; cases h2
    rw [List.getElem?_set_ne nj] at h1
    rw [List.getElem?_set_ne nl] at h2
    exact s.ap j l b h1 h2 e1 e2
  · by_cases hj : i = j
    · subst hj
      rw [List.getElem?_set_self hl]
      exact ⟨(fun z => nomatch z), (fun z => nomatch z)⟩
    · rw [List.getElem?_set_ne hj]
      exact s.pq j
theorem join_some {σ : L2.St} {i : Nat} {v : V} (h : σ[i]?.join = some v) : σ[i]? = some (some v) := by
  cases e : σ[i]? with
  | none => simp [e, kd, isOb, isOwn] at h
  | some o => rw [e] at h; cases o with
    | none => cases h
    | some w => cases h; rfl
theorem so_v (i : Nat) : SoE C L k (.v i) := fun X N sc fx W e c F h => by
  cases e with
  | Name x p =>
    obtain ⟨h1, h⟩ := ba h
    obtain ⟨h2, h3⟩ := ba h
    obtain ⟨d1, d2⟩ := dun_ok h3
    refine PE.imp (pe_var (c.nm h1) (c.vis h2) d1 d2) fun σ H Q ⟨G, O, r, s, g⟩ => ?_
    have g : Got X.K G (RD X.K G) W σ O H (readV r i) Q := g
    unfold readV at g
    split at g
    · rename_i e
      obtain ⟨v, e1, q⟩ := s.sl i _ e
      exact ⟨v, join_some e1, g_here g s q⟩
    · rename_i e
      obtain ⟨a, O', e1, ex, s', q⟩ := s.freeze e
      exact ⟨_, join_some e1, g O' H _ ex s' q⟩
    · exact g.elim
  | _ => cases h
theorem so_gl (j : Nat) : SoE C L k (.gl j) := fun X N sc fx W e c F h => by
  cases e with
  | Name x p =>
    obtain ⟨h1, h⟩ := ba h
    obtain ⟨h2, h3⟩ := ba h
    obtain ⟨d1, d2⟩ := dun_ok h3
    have h1 : L.gln[j]?.join = some x := of_decide_eq_true h1
    cases e : L.gl[j]? with
    | none =>
      refine ⟨fun pins z σ H Q I ⟨G, O, r, s, g⟩ => ?_⟩
      have g : Got X.K G (RD X.K G) W σ O H (R.of r L.gl[j]?) Q := g
      rw [e] at g
      exact g.elim
    | some d =>
      obtain ⟨v, u, hm, rv, q⟩ := F.gl j x d h1 e
      refine PE.imp (pe_glob (c.gl h2) hm rv d1) fun σ H Q ⟨G, O, r, s, g⟩ => ?_
      have g : Got X.K G (RD X.K G) W σ O H (R.of r L.gl[j]?) Q := g
      rw [e] at g
      exact g_here g s (q _ _)
  | _ => cases h
theorem so_bin {op : Operator} {a b : E} (ha : SoE C L k a) (hb : SoE C L k b) : SoE C L k (.bin op a b) := fun X N sc fx W e c F h => by
  cases e with
  | BinOp l o rr p =>
    obtain ⟨h1, h⟩ := ba h
    obtain ⟨h2, h3⟩ := ba h
    have e : o = op := of_decide_eq_true h1
    subst e
    refine PE.imp (pe_op (op_bin' o) (ha X N sc fx W _ c F h2) (hb X N sc fx W _ c F h3)) fun σ H Q ⟨G, O, r, s, g⟩ => ?_
    refine ⟨G, O, r, s, g1 g fun O1 H1 r1 dx x e1 s1 q1 g' => ⟨G, O1, r1, s1, g1 g' fun O2 H2 r2 dy y e2 s2 q2 g'' => ?_⟩⟩
    obtain ⟨d, ed, an⟩ := g_ans g'' s2
    exact ⟨Av O2 G, dx, dy, d, s2.avd, q1.ext s1.wf e2, q2, ed, an⟩
  | _ => cases h
theorem so_neg {a : E} (ha : SoE C L k a) : SoE C L k (.neg a) := fun X N sc fx W e c F h => by
  cases e with
  | UnaryOp op x p =>
    cases op with
    | USub =>
      refine PE.imp (pe_un un_neg (ha X N sc fx W _ c F h)) fun σ H Q ⟨G, O, r, s, g⟩ => ?_
      refine ⟨G, O, r, s, g1 g fun O1 H1 r1 dx x e1 s1 q1 g' => ?_⟩
      cases q1 with
      | int i => exact ⟨i, rfl, g_here g' s1 (.int _)⟩
      | _ => exact g'.elim
    | _ => cases h
  | _ => cases h
theorem so_nt {a : E} (ha : SoE C L k a) : SoE C L k (.nt a) := fun X N sc fx W e c F h => by
  cases e with
  | UnaryOp op x p =>
    cases op with
    | Not =>
      refine PE.imp (pe_not (ha X N sc fx W _ c F h)) fun σ H Q ⟨G, O, r, s, g⟩ => ?_
      refine ⟨G, O, r, s, g1 g fun O1 H1 r1 dx x e1 s1 q1 g' => ?_⟩
      cases q1 with
      | bl i => exact ⟨i, rfl, g_here g' s1 (.bl _)⟩
      | _ => exact g'.elim
    | _ => cases h
  | _ => cases h
theorem so_ntT {a : E} (ha : SoT C L k a) : SoT C L k (.nt a) := fun X N sc fx W e c F ht h => by
  cases e with
  | UnaryOp op x p =>
    cases op with
    | Not =>
      refine PT.imp (pt_not (ha X N sc fx W _ c F ht h)) fun σ H Q ⟨G, O, r, s, g⟩ => ?_
      refine ⟨G, O, r, s, g1 g fun O1 H1 r1 dx x e1 s1 q1 g' => ?_⟩
      cases q1 with
      | bl i =>
        obtain ⟨z, e, q⟩ := g_here g' s1 (Rl.bl (!i))
        cases e
        exact ⟨i, rfl, q⟩
      | _ => exact g'.elim
    | _ => cases h
  | _ => cases h
theorem so_band {a b : E} (ha : SoE C L k a) (hb : SoE C L k b) : SoE C L k (.band a b) := fun X N sc fx W e c F h => by
  cases e with
  | BoolOp op vs p =>
    cases op with
    | And =>
      match vs, h with
      | x :: y :: rr, h =>
        obtain ⟨h1, h2⟩ := ba h
        refine PE.imp (pe_and (ha X N sc fx W _ c F h1) (hb X N sc fx W _ c F h2)) fun σ H Q ⟨G, O, r, s, g⟩ => ?_
        refine ⟨G, O, r, s, g1 g fun O1 H1 r1 dx x e1 s1 q1 g' => ?_⟩
        cases q1 with
        | bl i =>
          cases i with
          | true => exact ⟨true, rfl, iteT (⟨G, O1, r1, s1, g'⟩)⟩
          | false => exact ⟨false, rfl, iteF (g_here g' s1 (.bl _))⟩
        | _ => exact g'.elim
    | Or => cases h
  | _ => cases h
theorem so_bandW {a b : E} (ha : SoT C L k a) (hb : SoW C L k b) : SoW C L k (.band a b) := fun X N sc fx W op vs p c F ht h => by
  obtain ⟨t1, t2⟩ := ba (show (testOk a && testOk b) = true from ht)
  cases op with
  | And =>
    match vs, h with
    | x :: y :: rr, h =>
      obtain ⟨h1, h2⟩ := ba h
      refine PW.imp (pw_and (ha X N sc fx W _ c F t1 h1) (hb X N sc fx W _ _ _ c F t2 h2)) fun σ H Q ⟨G, O, r, s, g⟩ => ?_
      refine ⟨G, O, r, s, g1 g fun O1 H1 r1 dx x e1 s1 q1 g' => ?_⟩
      cases q1 with
      | bl i =>
        cases i with
        | true => exact ⟨true, rfl, iteT (⟨G, O1, r1, s1, g'⟩)⟩
        | false =>
          refine ⟨false, rfl, ?_⟩
          refine iteF ?_
          obtain ⟨z, e, q⟩ := g_here g' s1 (Rl.bl false)
          cases e
          exact q
      | _ => exact g'.elim
  | Or => cases h
theorem so_bor {a b : E} (ha : SoE C L k a) (hb : SoE C L k b) : SoE C L k (.bor a b) := fun X N sc fx W e c F h => by
  cases e with
  | BoolOp op vs p =>
    cases op with
    | Or =>
      match vs, h with
      | x :: y :: rr, h =>
        obtain ⟨h1, h2⟩ := ba h
        refine PE.imp (pe_or (ha X N sc fx W _ c F h1) (hb X N sc fx W _ c F h2)) fun σ H Q ⟨G, O, r, s, g⟩ => ?_
        refine ⟨G, O, r, s, g1 g fun O1 H1 r1 dx x e1 s1 q1 g' => ?_⟩
        cases q1 with
        | bl i =>
          cases i with
          | true => exact ⟨true, rfl, iteT (g_here g' s1 (.bl _))⟩
          | false => exact ⟨false, rfl, iteF (⟨G, O1, r1, s1, g'⟩)⟩
        | _ => exact g'.elim
    | And => cases h
  | _ => cases h
theorem so_borW {a b : E} (ha : SoT C L k a) (hb : SoW C L k b) : SoW C L k (.bor a b) := fun X N sc fx W op vs p c F ht h => by
  obtain ⟨t1, t2⟩ := ba (show (testOk a && testOk b) = true from ht)
  cases op with
  | Or =>
    match vs, h with
    | x :: y :: rr, h =>
      obtain ⟨h1, h2⟩ := ba h
      refine PW.imp (pw_or (ha X N sc fx W _ c F t1 h1) (hb X N sc fx W _ _ _ c F t2 h2)) fun σ H Q ⟨G, O, r, s, g⟩ => ?_
      refine ⟨G, O, r, s, g1 g fun O1 H1 r1 dx x e1 s1 q1 g' => ?_⟩
      cases q1 with
      | bl i =>
        cases i with
        | true =>
          refine ⟨true, rfl, ?_⟩
          refine iteT ?_
          obtain ⟨z, e, q⟩ := g_here g' s1 (Rl.bl true)
          cases e
          exact q
        | false => exact ⟨false, rfl, iteF (⟨G, O1, r1, s1, g'⟩)⟩
      | _ => exact g'.elim
  | And => cases h
theorem so_one {a : E} (ha : SoE C L k a) : SoE C L k (.one a) := fun X N sc fx W e c F h => by
  cases e with
  | BoolOp op vs p =>
    match vs, h with
    | [x], h => exact PE.imp (pe_one (ha X N sc fx W _ c F h)) fun σ H Q q => q
  | _ => cases h
theorem so_oneW {a : E} (ha : SoT C L k a) : SoW C L k (.one a) := fun X N sc fx W op vs p c F ht h => by
  match vs, h with
  | [x], h =>
    cases op with
    | And => exact PW.imp (pw_and1 (ha X N sc fx W _ c F ht h)) fun σ H Q q => q
    | Or => exact PW.imp (pw_or1 (ha X N sc fx W _ c F ht h)) fun σ H Q q => q
theorem so_boolT {ir : E} (hw : SoW C L k ir) (hb : ∀ (N : List Str) (sc : Scope) (fx : Str → Bool) (e : Expr), chkE N L sc fx ir e = true → ∃ op vs p, e = .BoolOp op vs p) : SoT C L k ir := fun X N sc fx W e c F ht h => by
  obtain ⟨op, vs, p, rfl⟩ := hb N sc fx e h
  exact (hw X N sc fx W op vs p c F ht h).pt
theorem so_cmp {op : CmpOp} {a b : E} (ha : SoE C L k a) (hb : SoE C L k b) : SoE C L k (.cmp op a b) := fun X N sc fx W e c F h => by
  cases e with
  | Compare l os rs p =>
    match os, rs, h with
    | [o], [rr], h =>
      obtain ⟨h1, h⟩ := ba h
      obtain ⟨h2, h⟩ := ba h
      obtain ⟨h3, h4⟩ := ba h
      have e : o = op := of_decide_eq_true h1
      subst e
      refine PE.imp (pe_cmpR (op_cmp' c.rm.units o) (ha X N sc fx W _ c F h3) (hb X N sc fx W _ c F h4) (by simpa using h2)) fun σ H Q ⟨G, O, r, s, g⟩ => ?_
      refine ⟨G, O, r, s, g1 g fun O1 H1 r1 dx x e1 s1 q1 g' => ⟨G, O1, r1, s1, g1 g' fun O2 H2 r2 dy y e2 s2 q2 g'' => ?_⟩⟩
      obtain ⟨d, ed, an⟩ := g_ans g'' s2
      exact ⟨Av O2 G, dx, dy, d, s2.avd, q1.ext s1.wf e2, q2, ed, an⟩
  | _ => cases h
theorem so_cmpT {op : CmpOp} {a b : E} (ha : SoE C L k a) (hb : SoE C L k b) : SoT C L k (.cmp op a b) := fun X N sc fx W e c F _ h => by
  cases e with
  | Compare l os rs p =>
    match os, rs, h with
    | [o], [rr], h =>
      obtain ⟨h1, h⟩ := ba h
      obtain ⟨h2, h⟩ := ba h
      obtain ⟨h3, h4⟩ := ba h
      have e : o = op := of_decide_eq_true h1
      subst e
      refine PT.imp (pt_cmpR (op_cmp' c.rm.units o) (ha X N sc fx W _ c F h3) (hb X N sc fx W _ c F h4) (by simpa using h2)) fun σ H Q ⟨G, O, r, s, g⟩ => ?_
      refine ⟨G, O, r, s, g1 g fun O1 H1 r1 dx x e1 s1 q1 g' => ⟨G, O1, r1, s1, g1 g' fun O2 H2 r2 dy y e2 s2 q2 g'' => ?_⟩⟩
      obtain ⟨d, ed, an⟩ := g_ans g'' s2
      exact ⟨Av O2 G, dx, dy, d, s2.avd, q1.ext s1.wf e2, q2, ed, an⟩
  | _ => cases h
theorem chn_core {op op' : CmpOp} {a b cc : E} {Q : VK} (s : Stt K G O H r σ) (g : Got K G (RD K G) W σ O H (evE C L.gl (.chn op op' a b cc) r) Q) :
    tChain (rB K (dCmp op)) (rB K (dCmp op')) (tE K W (evE C L.gl a)) (tE K W (evE C L.gl b)) (tE K W (evE C L.gl cc)) σ H Q := by
  refine ⟨G, O, r, s, g1 g fun O1 H1 r1 dx x e1 s1 q1 g' => ⟨G, O1, r1, s1, g1 g' fun O2 H2 r2 dy y e2 s2 q2 g'' => ?_⟩⟩
  split at g''
  · rename_i ed
    refine ⟨Av O2 G, dx, dy, _, s2.avd, q1.ext s1.wf e2, q2, ed, fun H3 v sm rv => ?_⟩
    cases rv
    refine ⟨true, rfl, ?_⟩
    refine iteT ?_
    refine ⟨G, O2, r2, s2.same sm, g1 (g''.shift (.same sm)) fun O4 H4 r4 dz z e4 s4 q4 g4 => ?_⟩
    obtain ⟨d, ed, an⟩ := g_ans g4 s4
    exact ⟨Av O4 G, dy, dz, d, s4.avd, (q2.same sm).ext (s2.same sm).wf e4, q4, ed, an⟩
  · rename_i ed
    refine ⟨Av O2 G, dx, dy, _, s2.avd, q1.ext s1.wf e2, q2, ed, fun H3 v sm rv => ?_⟩
    cases rv
    refine ⟨false, rfl, ?_⟩
    refine iteF ?_
    exact g'' O2 H3 _ (.same sm) (s2.same sm) (.bl _)
  · exact g''.elim
end
end Ev
end
section
set_option Elab.async false
set_option maxRecDepth 100000
set_option linter.all false
set_option autoImplicit false
set_option maxHeartbeats 1200000
/-! Ev10: the rest of the expressions; all of them by induction. -/
namespace Ev
open PySem PySem.Spec PyProof.Rows L2
open He (ba)
variable [Tbls] [Fr]
section
variable {C : Calls} {L : Lex} {k : Nat} {X : Cx} {N : List Str} {sc : Scope} {fx : Str → Bool} {W : WX}
variable {K : PySem.W.Frag} {G O : Addr → Prop} {H : Hp} {r : Rho} {σ : L2.St}
theorem marks0 {o o' : CmpOp} {m rr : Expr} (h : o ≠ .In ∧ o ≠ .NotIn ∧ o' ≠ .In ∧ o' ≠ .NotIn) : lastMarks [o, o'] [m, rr] = false := by
  show behindInMarks o' rr = false
  exact nobehind rr h.2.2.1 h.2.2.2
theorem so_chn {op op' : CmpOp} {a b cc : E} (ha : SoE C L k a) (hb : SoE C L k b) (hcc : SoE C L k cc) : SoE C L k (.chn op op' a b cc) := fun X N sc fx W e c F h => by
  cases e with
  | Compare l os rs p =>
    match os, rs, h with
    | [o, o'], [m, rr], h =>
      obtain ⟨h1, h⟩ := ba h
      obtain ⟨h2, h⟩ := ba h
      obtain ⟨h3, h4⟩ := ba h
      obtain ⟨e1, e2, hn⟩ : o = op ∧ o' = op' ∧ _ := of_decide_eq_true h1
      subst e1 e2
      exact PE.imp (pe_chain (op_cmp' c.rm.units o) (op_cmp' c.rm.units o') (ha X N sc fx W _ c F h2) (hb X N sc fx W _ c F h3) (hcc X N sc fx W _ c F h4) (marks0 hn)) fun σ H Q ⟨G, O, r, s, g⟩ => chn_core s g
  | _ => cases h
theorem so_chnT {op op' : CmpOp} {a b cc : E} (ha : SoE C L k a) (hb : SoE C L k b) (hcc : SoE C L k cc) : SoT C L k (.chn op op' a b cc) := fun X N sc fx W e c F _ h => by
  cases e with
  | Compare l os rs p =>
    match os, rs, h with
    | [o, o'], [m, rr], h =>
      obtain ⟨h1, h⟩ := ba h
      obtain ⟨h2, h⟩ := ba h
      obtain ⟨h3, h4⟩ := ba h
      obtain ⟨e1, e2, hn⟩ : o = op ∧ o' = op' ∧ _ := of_decide_eq_true h1
      subst e1 e2
      exact PT.imp (pt_chain (op_cmp' c.rm.units o) (op_cmp' c.rm.units o') (ha X N sc fx W _ c F h2) (hb X N sc fx W _ c F h3) (hcc X N sc fx W _ c F h4) (marks0 hn)) fun σ H Q ⟨G, O, r, s, g⟩ => chn_core s g
  | _ => cases h
theorem so_ite {t a b : E} (ht : SoT C L k t) (ha : SoE C L k a) (hb : SoE C L k b) : SoE C L k (.ite t a b) := fun X N sc fx W e c F h => by
  cases e with
  | IfExp y z w p =>
    obtain ⟨h1, h⟩ := ba h
    obtain ⟨h2, h⟩ := ba h
    obtain ⟨h3, h4⟩ := ba h
    refine PE.imp (pe_ifExp (ht X N sc fx W _ c F h1 h2) (ha X N sc fx W _ c F h3) (hb X N sc fx W _ c F h4)) fun σ H Q ⟨G, O, r, s, g⟩ => ?_
    refine ⟨G, O, r, s, g1 g fun O1 H1 r1 dx x e1 s1 q1 g' => ?_⟩
    cases q1 with
    | bl i =>
      cases i with
      | true => exact ⟨true, rfl, iteT ⟨G, O1, r1, s1, g'⟩⟩
      | false => exact ⟨false, rfl, iteF ⟨G, O1, r1, s1, g'⟩⟩
    | _ => exact g'.elim
  | _ => cases h
/-! ### lists of parts -/
theorem so_nilDs : SoDs C L k .nil := fun X N sc fx W es c F h => by
  cases es with
  | nil => exact PA.imp pa_nil fun σ H Q ⟨G, O, r, s, g⟩ => g_here g s .nil
  | cons _ _ => cases h
theorem so_consDs {a b : E} (ha : SoE C L k a) (hb : SoDs C L k b) : SoDs C L k (.cons a b) := fun X N sc fx W es c F h => by
  cases es with
  | nil => cases h
  | cons e es =>
    obtain ⟨h1, h⟩ := ba h
    obtain ⟨h2, h3⟩ := ba h
    refine PA.imp (pa_cons (ha X N sc fx W _ c F h2) (hb X N sc fx W _ c F h3) (star_cons h1)) fun σ H Q ⟨G, O, r, s, g⟩ => ?_
    refine ⟨G, O, r, s, g1 g fun O1 H1 r1 dx x e1 s1 q1 g' => ⟨G, O1, r1, s1, gs g' fun O2 H2 r2 ds vs e2 s2 q2 g'' => ?_⟩⟩
    exact g_here g'' s2 (.cons (q1.ext s1.wf e2) q2)
theorem so_nilAs : SoAs C L k .nil := fun X N sc fx W es c F h => by
  cases es with
  | nil => exact PA.imp pa_nil fun σ H Q ⟨G, O, r, s, g⟩ => g_here g s .nil
  | cons _ _ => cases h
/-- one argument -/
theorem so_av {a : E} (ha : SoE C L k a) {e : Expr} (c : Cok X N sc fx W k) (F : Fx X L k C) (h : chkE N L sc fx a e = true) :
    PE X e (fun σ H Q => ∃ G O r, Stt X.K G O H r σ ∧ Got X.K G (AvR X.K G σ) W σ O H (avOf a (evE C L.gl a) r) Q) := by
  have pe := ha X N sc fx W e c F h
  have dflt : (∀ r, avOf a (evE C L.gl a) r = (evE C L.gl a r).bind fun x r1 => .ok (.d x) r1) → PE X e (fun σ H Q => ∃ G O r, Stt X.K G O H r σ ∧ Got X.K G (AvR X.K G σ) W σ O H (avOf a (evE C L.gl a) r) Q) := fun he =>
    PE.imp pe fun σ H Q ⟨G, O, r, s, g⟩ => by
      rw [he] at g
      exact ⟨G, O, r, s, g1 g fun O1 H1 r1 dx x e1 s1 q1 g' => g_here g' s1 (show AvR X.K G σ O1 H1 (.d dx) x from q1)⟩
  cases a with
  | v i =>
    cases e with
    | Name x p =>
      obtain ⟨h1, h⟩ := ba h
      obtain ⟨h2, h3⟩ := ba h
      obtain ⟨d1, d2⟩ := dun_ok h3
      refine PE.imp (pe_var (c.nm h1) (c.vis h2) d1 d2) fun σ H Q ⟨G, O, r, s, g⟩ => ?_
      have g : Got X.K G (AvR X.K G σ) W σ O H (match r[i]? with
        | some (.own _) => .ok (.sl i) r
        | some (.par _) => .ok (.sl i) r
        | some (.d x) => .ok (.d x) r
        | _ => .no) Q := g
      split at g
      · rename_i e
        obtain ⟨a, e1, _⟩ := s.sl i _ e
        exact ⟨_, join_some e1, g_here g s e1⟩
      · rename_i e
        obtain ⟨a, e1, _⟩ := s.sl i _ e
        exact ⟨_, join_some e1, g_here g s e1⟩
      · rename_i e
        obtain ⟨v, e1, q⟩ := s.sl i _ e
        exact ⟨v, join_some e1, g_here g s q⟩
      · exact g.elim
    | _ => cases h
  | _ => exact dflt fun _ => rfl
theorem so_consAs {a b : E} (ha : SoE C L k a) (hb : SoAs C L k b) : SoAs C L k (.cons a b) := fun X N sc fx W es c F h => by
  cases es with
  | nil => cases h
  | cons e es =>
    obtain ⟨h1, h⟩ := ba h
    obtain ⟨h2, h3⟩ := ba h
    refine PA.imp (pa_cons (so_av ha c F h2) (hb X N sc fx W _ c F h3) (star_cons h1)) fun σ H Q ⟨G, O, r, s, g⟩ => ?_
    refine ⟨G, O, r, s, (Got.bind (RelA := AvR X.K G σ) g).imp fun x H1 ⟨O1, r1, d, e1, s1, q1, g'⟩ => ⟨G, O1, r1, s1, (Got.bind (RelA := AvsR X.K G σ) g').imp fun vs H2 ⟨O2, r2, ds, e2, s2, q2, g''⟩ => ?_⟩⟩
    exact g_here g'' s2 (.cons (AvR.ext s1.wf e2 q1) q2)
/-! ### calls -/
def GotC (K : PySem.W.Frag) (G : Addr → Prop) (W : WX) (σ : L2.St) (O : Addr → Prop) (H : Hp) (r : R Rv) (Q : VK) : Prop := match r with
  | .ok (.d x) r' => ∀ O' H' v, Ext O H O' H' → Stt K G O' H' r' σ → Rl K (Av O' G) H' x v → Q v H'
  | .ok (.fr ds) r' => ∀ O' H' p ws, Ext O H O' H' → Stt K G O' H' r' σ → ¬ O' p → ¬ G p → H' p = some (.lst ws) → Stt K G (fun a => O' a ∨ a = p) H' r' σ → RlL K (Av (fun a => O' a ∨ a = p) G) H' ds ws → ¬ Th H p → Q (.ref p) H'
  | .ok (.par _) _ => False
  | .ex c r' => ∀ O' H', Ext O H O' H' → Stt K G O' H' r' σ → W (.ref (He.ga K c)) none σ H'
  | .no => False
theorem Stt.more (s : Stt K G O H r σ) {p : Addr} (mu : Mu H p) (ng : ¬ G p) (no : ¬ O p) (sl : ∀ (i : Nat) (t : Slot), r[i]? = some t → SlotR K (fun a => O a ∨ a = p) G H t (σ[i]?.join)) : Stt K G (fun a => O a ∨ a = p) H r σ :=
  ⟨fun a z => z.elim (fun z => s.wf a z) fun z => by rw [z]; exact mu, fun a z => ⟨(s.wg a z).1, fun w => w.elim (s.wg a z).2 fun w => ng (w ▸ z)⟩, s.len, sl, s.ap, fun j a e => .inl (s.pf j a e), s.pq, s.tb⟩
theorem call_got {f : Nat} {avs : List AV} {vs : List V} {n : Nat} {Q : VK} (s : Stt K G O H r σ) (q : AvsR K G σ O H avs vs) (g : GotC K G W σ O H (doCall C f avs r) Q) (har : ∀ args, C f args ≠ .no → args.length = n) : spF K n (C f) vs H Q (WE W σ) := by
  unfold doCall at g
  cases hg : gather r [] avs with
  | none => rw [hg] at g; exact g.elim
  | some args =>
    rw [hg] at g
    obtain ⟨ga, nd, _⟩ := gath_of hg
    have hn : vs.length = n := by
      rw [← q.length, ← gath_len ga]
      refine har args fun z => ?_
      simp only [z] at g
      exact g
    refine ⟨hn, Gp σ (slots avs) O G, Pp σ (slots avs), args, hand_of s ga nd q, ?_⟩
    cases hc : C f args with
    | no => simp only [hc] at g; exact g.elim
    | ex c outs =>
      simp only [hc] at g ⊢
      intro O' H' e po ou
      obtain ⟨s', ex⟩ := back_of s ga nd q e po ou
      exact g O H' ex s'
    | ok rv outs =>
      simp only [hc] at g ⊢
      intro O' H' v e po ou rr
      obtain ⟨s', ex⟩ := back_of s ga nd q e po ou
      have av : ∀ a, Av O G a → Av O' (Gp σ (slots avs) O G) a := fun a z => by
        by_cases p : Pp σ (slots avs) a
        · exact .inl (po a p)
        · exact .inr ⟨z, p⟩
      cases rv with
      | d x => exact g O H' v ex s' (Rl.less av rr)
      | par j => exact g.elim
      | fr ds =>
        obtain ⟨p, ws, rfl, op, hp, hw, qs⟩ := rr
        have no : ¬ O p := fun z => hp (s.wf p z).th
        have ng : ¬ G p := fun z => hp (s.wg p z).1.th
        have av' : ∀ a, Av (fun a => O a ∨ a = p) G a → Av O' (Gp σ (slots avs) O G) a := fun a z => by
          rcases z with (z | z) | z
          · exact av a (.inl z)
          · rw [z]; exact .inl op
          · exact av a (.inr z)
        refine g O H' p ws ex s' no ng hw ?_ (qs.less av') hp
        -- the old slots avoid p, as they did not know it
        refine s'.more (.inl ⟨ws, hw⟩) ng no ?_
        have hA : ∀ a, Av (fun a => O a ∨ a = p) G a → Av O' (Gp σ (slots avs) O G) a := av'
        have ex2 : Ext O H (fun a => O a ∨ a = p) H' := ⟨ex.keep, ex.dom, fun a z h => z.elim id fun z => absurd (z ▸ h) hp, ex.tab⟩
        have rl : ∀ d v, Rl K (Av O G) H d v → Rl K (Av (fun a => O a ∨ a = p) G) H' d v := fun d v z => z.ext s.wf ex2
        -- by the same road as back_of, at the wider set
        refine back_slots (O := fun a => O a ∨ a = p) (H' := H') (A2 := Av O' (Gp σ (slots avs) O G)) hA nd ga (fun i hi => ?_) (avs_sl q) ou fun i t hs hi => ?_
        · obtain ⟨c, hc'⟩ := gath_own ga i hi
          obtain ⟨a, e1, oa, _⟩ := s.ct hc'
          exact ⟨a, e1, .inl oa⟩
        · have sr := s.sl i t hs
          have own : ∀ a c, isOwn r[i]? = true → σ[i]?.join = some (.ref a) → CtR K (Av O G) H c a → CtR K (Av (fun a => O a ∨ a = p) G) H' c a := fun a c w ea ca => by
            refine ca.imp rl ?_
            have np : ¬ Pp σ (slots avs) a := fun ⟨j, hj, ej⟩ => by
              obtain ⟨c', hc'⟩ := gath_own ga j hj
              have z := s.ap i j a w (ctAt_own hc').1 ea ej
              subst z
              exact hi hj
            cases h : H a with
            | none => exact absurd h ca.mu.ne
            | some o => exact e.keep a o h np (ca.mu.nt h)
          cases t with
          | non => trivial
          | d y => obtain ⟨v, e1, r1⟩ := sr; exact ⟨v, e1, rl _ _ r1⟩
          | own c => obtain ⟨a, e1, oa, ca⟩ := sr; exact ⟨a, e1, .inl oa, own a c (by rw [hs]; rfl) e1 ca⟩
          | par c => obtain ⟨a, e1, oa, ca⟩ := sr; exact ⟨a, e1, .inl oa, own a c (by rw [hs]; rfl) e1 ca⟩
/-- a call as a value, whatever is new shared -/
theorem gotC_d {x : R Rv} {Q : VK} (g : Got K G (RD K G) W σ O H (x.bind fun rv r2 => ofRv r2 rv) Q) : GotC K G W σ O H x Q := by
  cases x with
  | no => exact g
  | ex c r' => exact g
  | ok rv r' =>
    cases rv with
    | d x => exact g
    | par j => exact g.elim
    | fr ds =>
      intro O' H' p ws e s no ng hw s' qs hp
      exact g O' H' (.ref p) e s (.lst (.inl ⟨.inl hw, fun z => z.elim no ng⟩) (qs.less fun a z => z.elim (fun z => .inl (.inl z)) .inr))
theorem GotC.shift {x : R Rv} {Q : VK} {O1 : Addr → Prop} {H1 : Hp} (e : Ext O H O1 H1) (g : GotC K G W σ O H x Q) : GotC K G W σ O1 H1 x Q := by
  cases x with
  | no => exact g
  | ex c r' => exact fun O' H' e' s => g O' H' (e.trans e') s
  | ok rv r' =>
    cases rv with
    | d x => exact fun O' H' v e' s q => g O' H' v (e.trans e') s q
    | par j => exact g
    | fr ds =>
      intro O' H' p ws e' s no ng hw s' qs hp
      exact g O' H' p ws (e.trans e') s no ng hw s' qs fun t => hp (e.dom p t)
/-- the arguments, then the call -/
theorem GotC.bind {x : R (List AV)} {f : List AV → Rho → R Rv} {Q : VK} (h : GotC K G W σ O H (x.bind f) Q) :
    Got K G (AvsR K G σ) W σ O H x (fun vs H1 => ∃ O1 r1 avs, Ext O H O1 H1 ∧ Stt K G O1 H1 r1 σ ∧ AvsR K G σ O1 H1 avs vs ∧ GotC K G W σ O1 H1 (f avs r1) Q) := by
  cases x with
  | no => exact h
  | ex c r' => exact h
  | ok a r' => exact fun O' H' b e s q => ⟨O', r', a, e, s, q, GotC.shift e h⟩
theorem pe_callG {f : Nat} {as : E} (ha : SoAs C L k as) {e : Expr} (c : Cok X N sc fx W k) (F : Fx X L k C) (h : chkE N L sc fx (.call f as) e = true) :
    PE X e (fun σ H Q => ∃ G O r, Stt X.K G O H r σ ∧ GotC X.K G W σ O H ((evAs C L.gl as r).bind fun avs r1 => doCall C f avs r1) Q) := by
  cases e with
  | Call fn args kws p =>
    cases fn with
    | Name x q =>
      match args, kws, h with
      | y :: rr, [], h =>
        obtain ⟨h1, h⟩ := ba h
        obtain ⟨h2, h⟩ := ba h
        obtain ⟨h3, h⟩ := ba h
        obtain ⟨h4, h⟩ := ba h
        obtain ⟨h5, h6⟩ := ba h
        obtain ⟨d1, _⟩ := dun_ok h3
        obtain ⟨g, fd, ps, hm, kp, bd, har, ok⟩ := F.fn f x (of_decide_eq_true h1)
        refine PE.imp (pe_callS (E := WE W) ok c.rm (c.gl h2) hm kp bd (fun σ => L2N.passAt c.tk σ) (ha X N sc fx W _ c F h6) d1 (star_cons h4) (star_all h5)) fun σ H Q ⟨G, O, r, s, gg⟩ => ?_
        refine ⟨G, O, r, s, (GotC.bind gg).imp fun vs H1 ⟨O1, r1, avs, e1, s1, q1, g'⟩ => ?_⟩
        exact call_got s1 q1 g' har
    | _ => cases h
  | _ => cases h
theorem so_call {f : Nat} {as : E} (ha : SoAs C L k as) : SoE C L k (.call f as) := fun X N sc fx W e c F h =>
  PE.imp (pe_callG ha c F h) fun σ H Q ⟨G, O, r, s, g⟩ => ⟨G, O, r, s, gotC_d (by
    have e : evE C L.gl (.call f as) r = ((evAs C L.gl as r).bind fun avs r1 => doCall C f avs r1).bind fun rv r2 => ofRv r2 rv := by
      show (evAs C L.gl as r).bind _ = _
      cases evAs C L.gl as r <;> rfl
    rw [← e]
    exact g)⟩
theorem so_bi {b : Bi} {as : E} (ha : SoDs C L k as) : SoE C L k (.bi b as) := fun X N sc fx W e c F h => by
  cases e with
  | Call fn args kws p =>
    cases fn with
    | Name x q =>
      match args, kws, h with
      | y :: rr, [], h =>
        obtain ⟨h1, h⟩ := ba h
        obtain ⟨h2, h⟩ := ba h
        obtain ⟨h3, h⟩ := ba h
        obtain ⟨h4, h5⟩ := ba h
        have ex : x = Str.ofString (biName b) := of_decide_eq_true h1
        subst ex
        have hm : X.mg (Str.ofString (biName b)) = none := F.blt _ (by cases b <;> simp [bltNames, biName])
        have pa := ha X N sc fx W _ c F h5
        have fin : PE X (.Call (.Name (Str.ofString (biName b)) q) (y :: rr) [] p) (tCB (rC X.K (dBi b)) (tDs X.K W (evDs C L.gl as))) := by
          cases b
          case len => exact pe_callB (call_bi' c.calm .len) (c.gl h2) hm (by decide +kernel) pa (by decide +kernel) (by decide +kernel) (star_cons h3) (star_all h4)
          case abs => exact pe_callB (call_bi' c.calm .abs) (c.gl h2) hm (by decide +kernel) pa (by decide +kernel) (by decide +kernel) (star_cons h3) (star_all h4)
          case all => exact pe_callB (call_bi' c.calm .all) (c.gl h2) hm (by decide +kernel) pa (by decide +kernel) (by decide +kernel) (star_cons h3) (star_all h4)
          case any => exact pe_callB (call_bi' c.calm .any) (c.gl h2) hm (by decide +kernel) pa (by decide +kernel) (by decide +kernel) (star_cons h3) (star_all h4)
          case min => exact pe_callB (call_bi' c.calm .min) (c.gl h2) hm (by decide +kernel) pa (by decide +kernel) (by decide +kernel) (star_cons h3) (star_all h4)
          case max => exact pe_callB (call_bi' c.calm .max) (c.gl h2) hm (by decide +kernel) pa (by decide +kernel) (by decide +kernel) (star_cons h3) (star_all h4)
          case sorted => exact pe_callB (call_bi' c.calm .sorted) (c.gl h2) hm (by decide +kernel) pa (by decide +kernel) (by decide +kernel) (star_cons h3) (star_all h4)
          case tuple => exact pe_callTy (call_bi' c.calm .tuple) (c.gl h2) hm (by decide +kernel) pa (by decide +kernel) (by decide +kernel) (star_cons h3) (star_all h4)
          case list => exact pe_callTy (call_bi' c.calm .list) (c.gl h2) hm (by decide +kernel) pa (by decide +kernel) (by decide +kernel) (star_cons h3) (star_all h4)
          case int => exact pe_callTy (call_bi' c.calm .int) (c.gl h2) hm (by decide +kernel) pa (by decide +kernel) (by decide +kernel) (star_cons h3) (star_all h4)
          case str => exact pe_callTy (call_bi' c.calm .str) (c.gl h2) hm (by decide +kernel) pa (by decide +kernel) (by decide +kernel) (star_cons h3) (star_all h4)
          case bool => exact pe_callTy (call_bi' c.calm .bool) (c.gl h2) hm (by decide +kernel) pa (by decide +kernel) (by decide +kernel) (star_cons h3) (star_all h4)
        refine PE.imp fin fun σ H Q ⟨G, O, r, s, g⟩ => ⟨G, O, r, s, gs g fun O1 H1 r1 ds vs e1 s1 q1 g' => ?_⟩
        obtain ⟨d, ed, an⟩ := g_ans g' s1
        exact ⟨Av O1 G, ds, d, s1.avd, q1, ed, an⟩
    | _ => cases h
  | _ => cases h
theorem so_isi {a : E} {t : Ty} (ha : SoE C L k a) : SoE C L k (.isi a t) := fun X N sc fx W e c F h => by
  cases e with
  | Call fn args kws p =>
    cases fn with
    | Name x q =>
      match args, kws, h with
      | [y, .Name z p2], [], h =>
        obtain ⟨h1, h⟩ := ba h
        obtain ⟨h2, h⟩ := ba h
        obtain ⟨h3, h⟩ := ba h
        obtain ⟨h4, h5⟩ := ba h
        obtain ⟨ex, ez⟩ : x = Str.ofString "isinstance" ∧ z = Str.ofString (tyN t) := of_decide_eq_true h1
        subst ex ez
        have hm : X.mg (Str.ofString "isinstance") = none := F.blt _ (by simp [bltNames])
        have hm2 : X.mg (Str.ofString (tyN t)) = none := F.blt _ (by cases t <;> simp [bltNames, tyN])
        have pz : PE X (.Name (Str.ofString (tyN t)) p2) (tC (.ty (tyN t))) := by
          cases t <;> exact pe_bltn (c.gl h3) hm2 (by decide +kernel) rfl (by decide +kernel) (by decide +kernel)
        have pa := pa_cons (ha X N sc fx W _ c F h5) (pa_cons pz pa_nil (by rfl)) (star_cons h4)
        refine PE.imp (pe_callB call_isi (c.gl h2) hm (by decide +kernel) pa (by decide +kernel) (by decide +kernel) (star_cons h4) (by rfl)) fun σ H Q ⟨G, O, r, s, g⟩ => ?_
        refine ⟨G, O, r, s, g1 g fun O1 H1 r1 dx x e1 s1 q1 g' => ?_⟩
        cases hb : dIsi dx t with
        | none => rw [hb] at g'; exact g'.elim
        | some b =>
          rw [hb] at g'
          obtain ⟨n, ty, kk⟩ := tyx_of q1
          exact ⟨x, .ty (tyN t), _, _, b, rfl, .ty _, ty, kk t b hb, g_here g' s1 (.bl b)⟩
    | _ => cases h
  | _ => cases h
theorem so_tup {as : E} (ha : SoDs C L k as) : SoE C L k (.tup as) := fun X N sc fx W e c F h => by
  cases e with
  | Tuple es kk p =>
    refine PE.imp (pe_tup (ha X N sc fx W _ c F h)) fun σ H Q ⟨G, O, r, s, g⟩ => ⟨G, O, r, s, gs g fun O1 H1 r1 ds vs e1 s1 q1 g' => ?_⟩
    split at g'
    · rename_i hl
      refine ⟨by rw [← q1.length]; exact Nat.le_trans hl line_lim, fun p hp => ?_⟩
      exact g' O1 _ _ (.same (same_upd hp)) (s1.same (same_upd hp)) (.tup (.inl (.inl upd_same)) (q1.same (same_upd hp)))
    · exact g'.elim
  | _ => cases h
theorem so_lst {as : E} (ha : SoDs C L k as) : SoE C L k (.lst as) := fun X N sc fx W e c F h => by
  cases e with
  | List es p =>
    refine PE.imp (pe_lst (ha X N sc fx W _ c F h)) fun σ H Q ⟨G, O, r, s, g⟩ => ⟨G, O, r, s, gs g fun O1 H1 r1 ds vs e1 s1 q1 g' => ?_⟩
    split at g'
    · rename_i hl
      refine ⟨by rw [← q1.length]; exact Nat.le_trans hl line_lim, fun p hp => ?_⟩
      exact g' O1 _ _ (.same (same_upd hp)) (s1.same (same_upd hp)) (.lst (.inl ⟨.inl upd_same, fun z => s1.avd p z hp⟩) (q1.same (same_upd hp)))
    · exact g'.elim
  | _ => cases h
theorem so_ix {a b : E} (ha : SoE C L k a) (hb : SoE C L k b) : SoE C L k (.ix a b) := fun X N sc fx W e c F h => by
  cases e with
  | Subscript x i p =>
    have h : (plainB i && (chkE N L sc fx a x && chkE N L sc fx b i)) = true := h
    obtain ⟨h1, h⟩ := ba h
    obtain ⟨h2, h3⟩ := ba h
    refine PE.imp (pe_ix ix_all (ha X N sc fx W _ c F h2) (hb X N sc fx W _ c F h3) (plain_ix h1)) fun σ H Q ⟨G, O, r, s, g⟩ => ?_
    refine ⟨G, O, r, s, g1 g fun O1 H1 r1 dx x e1 s1 q1 g' => ⟨G, O1, r1, s1, g1 g' fun O2 H2 r2 dy y e2 s2 q2 g'' => ?_⟩⟩
    obtain ⟨d, ed, an⟩ := g_ans g'' s2
    exact ⟨Av O2 G, dx, dy, d, s2.avd, q1.ext s1.wf e2, q2, ed, an⟩
  | _ => cases h
/-- a slice's part -/
def RO : (Addr → Prop) → Hp → Option Int → Option Int → Prop := fun _ _ o o' => o = o'
def chkO (N : List Str) (L : Lex) (sc : Scope) (fx : Str → Bool) (lo : E) : Option Expr → Bool
  | none => isNil lo
  | some l => !isNil lo && chkE N L sc fx lo l
theorem so_po {lo : E} (hl : SoE C L k lo) {l : Option Expr} (c : Cok X N sc fx W k) (F : Fx X L k C) (h : chkO N L sc fx lo l = true) :
    PO X l (fun σ H Q => ∃ G O r, Stt X.K G O H r σ ∧ Got X.K G RO W σ O H (optI lo (evE C L.gl lo) r) Q) := by
  cases l with
  | none =>
    cases lo with
    | nil => exact PO.imp po_none fun σ H Q ⟨G, O, r, s, g⟩ => g_here g s rfl
    | _ => cases h
  | some l =>
    obtain ⟨h1, h2⟩ := ba (show (!isNil lo && chkE N L sc fx lo l) = true from h)
    have e : ∀ r, optI lo (evE C L.gl lo) r = (evE C L.gl lo r).bind fun x r1 => match x with
      | .int i => .ok (some i) r1
      | _ => .no := by
      intro r
      cases lo with
      | nil => cases h1
      | _ => rfl
    refine PO.imp (po_some (hl X N sc fx W _ c F h2)) fun σ H Q ⟨G, O, r, s, g⟩ => ?_
    rw [e] at g
    refine ⟨G, O, r, s, g1 g fun O1 H1 r1 dx x e1 s1 q1 g' => ?_⟩
    cases q1 with
    | int i => exact ⟨i, rfl, g_here g' s1 rfl⟩
    | _ => exact g'.elim
theorem so_sl {a lo hi : E} (ha : SoE C L k a) (hl : SoE C L k lo) (hh : SoE C L k hi) : SoE C L k (.sl a lo hi) := fun X N sc fx W e c F h => by
  cases e with
  | Subscript x i p =>
    cases i with
    | Slice l u st p2 =>
      cases st with
      | none =>
        obtain ⟨h1, h⟩ := ba h
        obtain ⟨h2, h3⟩ := ba h
        have h2 : chkO N L sc fx lo l = true := by cases l <;> exact h2
        have h3 : chkO N L sc fx hi u = true := by cases u <;> exact h3
        refine PE.imp (pe_slice sl_all (ha X N sc fx W _ c F h1) (so_po hl c F h2) (so_po hh c F h3)) fun σ H Q ⟨G, O, r, s, g⟩ => ?_
        refine ⟨G, O, r, s, g1 g fun O1 H1 r1 dx x e1 s1 q1 g' => ⟨G, O1, r1, s1, (Got.bind (RelA := RO) g').imp fun o H2 ⟨O2, r2, o', e2, s2, q2, g2⟩ => ⟨G, O2, r2, s2, (Got.bind (RelA := RO) g2).imp fun o3 H3 ⟨O3, r3, o3', e3, s3, q3, g3⟩ => ?_⟩⟩⟩
        cases q2
        cases q3
        obtain ⟨d, ed, an⟩ := g_ans g3 s3
        exact ⟨Av O3 G, dx, d, s3.avd, (q1.ext s1.wf e2).ext s2.wf e3, ed, an⟩
      | some _ => cases h
    | _ => cases h
  | _ => cases h
theorem so_lRng {a : E} (ha : SoE C L k a) : SoE C L k (.lRng a) := fun X N sc fx W e c F h => by
  cases e with
  | Call fn args kws p =>
    cases fn with
    | Name x q =>
      match args, kws, h with
      | [.Call (.Name z q2) [y] [] p2], [], h =>
        obtain ⟨h1, h⟩ := ba h
        obtain ⟨h2, h⟩ := ba h
        obtain ⟨h3, h⟩ := ba h
        obtain ⟨h4, h5⟩ := ba h
        obtain ⟨ex, ez⟩ : x = Str.ofString "list" ∧ z = Str.ofString "range" := of_decide_eq_true h1
        subst ex ez
        refine PE.imp (pe_listRg c.calm (c.gl h2) (F.blt _ (by simp [bltNames])) (prg_1 (c.gl h3) (F.blt _ (by simp [bltNames])) (ha X N sc fx W _ c F h5) (star_cons h4)) (by rfl)) fun σ H Q ⟨G, O, r, s, g⟩ => ?_
        refine ⟨G, O, r, s, g1 g fun O1 H1 r1 dx x e1 s1 q1 g' => ?_⟩
        cases q1 with
        | int n =>
          refine ⟨n, rfl, ?_⟩
          simp only at g'
          split at g'
          · rename_i hr
            have hr := of_decide_eq_true hr
            refine ⟨⟨by omega, by omega, by omega, by omega, by omega⟩, fun p hp => ?_⟩
            have rl : RlL X.K (Av O1 G) H1 (rngD 0 n) (rgV 0 n) := by
              unfold rngD rgV
              generalize (List.range (n - 0).toNat) = l
              induction l with
              | nil => exact .nil
              | cons m l ih => exact .cons (.int _) ih
            exact g' O1 _ _ (.same (same_upd hp)) (s1.same (same_upd hp)) (.lst (.inl ⟨.inl upd_same, fun z => s1.avd p z hp⟩) (rl.same (same_upd hp)))
          · exact g'.elim
        | _ => exact g'.elim
    | _ => cases h
  | _ => cases h
/-! ### names that are only looked at -/
theorem lst_at (s : Stt K G O H r σ) {i : Nat} {ds : List D} (e : lstAt r i = some ds) : ∃ a vs, σ[i]? = some (some (.ref a)) ∧ SqL K H a vs ∧ RlL K (Av O G) H ds vs := by
  unfold lstAt at e
  split at e
  · rename_i e0
    cases e
    obtain ⟨a, e1, oa, vs, hv, q⟩ := s.sl i _ e0
    exact ⟨a, vs, join_some e1, .of hv, q⟩
  · rename_i e0
    cases e
    obtain ⟨a, e1, oa, vs, hv, q⟩ := s.sl i _ e0
    exact ⟨a, vs, join_some e1, .of hv, q⟩
  · rename_i e0
    cases e
    obtain ⟨v, e1, q⟩ := s.sl i _ e0
    cases q with
    | lst h q => exact ⟨_, _, join_some e1, h.sq, q⟩
  · cases e
theorem so_lenB (i : Nat) : SoE C L k (.lenB i) := fun X N sc fx W e c F h => by
  cases e with
  | Call fn args kws p =>
    cases fn with
    | Name z q =>
      match args, kws, h with
      | [.Name x p2], [], h =>
        obtain ⟨h1, h⟩ := ba h
        obtain ⟨h2, h⟩ := ba h
        obtain ⟨h3, h⟩ := ba h
        obtain ⟨h4, h5⟩ := ba h
        obtain ⟨d1, d2⟩ := dun_ok h5
        have ez : z = Str.ofString "len" := of_decide_eq_true h1
        subst ez
        refine PE.imp (pe_callB call_len_seq (c.gl h2) (F.blt _ (by simp [bltNames])) (by decide +kernel) (pa_cons (pe_var (c.nm h3) (c.vis h4) d1 d2) pa_nil (by rfl)) (by decide +kernel) (by decide +kernel) (by rfl) (by rfl)) fun σ H Q ⟨G, O, r, s, g⟩ => ?_
        have g : Got X.K G (RD X.K G) W σ O H (match lstAt r i with
          | some ds => .ok (.int ds.length) r
          | none => .no) Q := g
        split at g
        · rename_i ds e
          obtain ⟨a, vs, e1, hs, ql⟩ := lst_at s e
          exact ⟨_, e1, a, vs, rfl, .inl hs, by rw [← ql.length]; exact g_here g s (.int _)⟩
        · exact g.elim
    | _ => cases h
  | _ => cases h
/-- an int as written -/
theorem pe_lit {kk : Int} {y : Expr} (h : litI kk y = true) : PE X y (tC (.int kk)) := by
  cases y with
  | Constant z j p =>
    cases z with
    | int i =>
      have e : i = kk := of_decide_eq_true h
      subst e
      exact pe_int
    | _ => cases h
  | UnaryOp op y p =>
    cases op with
    | USub =>
      cases y with
      | Constant z j p =>
        cases z with
        | int i =>
          have e : -i = kk := of_decide_eq_true h
          subst e
          exact PE.imp (pe_un un_neg pe_int) fun σ H Q q => ⟨i, rfl, q⟩
        | _ => cases h
      | _ => cases h
    | _ => cases h
  | _ => cases h
theorem plain_lit {kk : Int} {y : Expr} (h : litI kk y = true) : PlainIx y := plain_ix (by cases y <;> first | rfl | cases h)
theorem star_lit {kk : Int} {y : Expr} (h : litI kk y = true) : noStar y = true := by cases y <;> first | rfl | cases h
theorem so_ixB (i : Nat) (kk : Int) : SoE C L k (.ixB i kk) := fun X N sc fx W e c F h => by
  cases e with
  | Subscript x y p =>
    cases x with
    | Name x p2 =>
      obtain ⟨h1, h⟩ := ba h
      obtain ⟨h3, h⟩ := ba h
      obtain ⟨h4, h5⟩ := ba h
      obtain ⟨d1, d2⟩ := dun_ok h5
      refine PE.imp (pe_ix ix_list (pe_var (c.nm h3) (c.vis h4) d1 d2) (pe_lit h1) (plain_lit h1)) fun σ H Q ⟨G, O, r, s, g⟩ => ?_
      have g : Got X.K G (RD X.K G) W σ O H (match lstAt r i with
        | some ds => R.of r (atP ds kk)
        | none => .no) Q := g
      split at g
      · rename_i ds e
        obtain ⟨a, vs, e1, hs, ql⟩ := lst_at s e
        obtain ⟨d, ed, an⟩ := g_ans g s
        obtain ⟨j, e2, e3⟩ := Option.bind_eq_some_iff.mp (show (ixP ds.length kk).bind (fun j => ds[j]?) = some d from ed)
        obtain ⟨w, e4, rw⟩ := ql.get e3
        refine ⟨_, e1, a, vs, kk, w, rfl, rfl, hs, ?_, an.here rw⟩
        show (ixP vs.length kk).bind _ = _
        rw [← ql.length, e2]
        exact e4
      · exact g.elim
    | _ => cases h
  | _ => cases h
theorem eqv_nil (ds : List D) : PyData.eqv (.list ds) (.list []) = ds.isEmpty := by
  cases ds <;> rfl
theorem so_nilB (i : Nat) (op : CmpOp) : SoE C L k (.nilB i op) := fun X N sc fx W e c F h => by
  cases e with
  | Compare l os rs p =>
    cases l with
    | Name x p2 =>
      match os, rs, h with
      | [o], [.List [] p3], h =>
        obtain ⟨h1, h⟩ := ba h
        obtain ⟨h3, h⟩ := ba h
        obtain ⟨h4, h5⟩ := ba h
        obtain ⟨d1, d2⟩ := dun_ok h5
        have eo : o = op := of_decide_eq_true h1
        subst eo
        refine PE.imp (pe_cmpR (op_cmp' c.rm.units o) (pe_var (c.nm h3) (c.vis h4) d1 d2) (pe_lst pa_nil) (by cases o <;> rfl)) fun σ H Q ⟨G, O, r, s, g⟩ => ?_
        simp only [evE] at g
        split at g
        · rename_i ds e
          split at g
          · rename_i hsh
            obtain ⟨a, vs, e1, hs, ql⟩ := lst_at s e
            refine ⟨_, e1, Nat.zero_le _, fun p hp => ?_⟩
            have sm := same_upd (o := .lst []) hp
            have hs' : SqL X.K (upd H p (.lst [])) a vs := sm.seq hs
            have r1 : Rl X.K (fun _ => False) (upd H p (.lst [])) (.list ds) (.ref a) := by
              refine .lst ?_ ((ql.less fun _ z => z.elim).same sm)
              rcases hs' with z | z
              · exact .inl ⟨z, id⟩
              · exact .inr z
            have r2 : Rl X.K (fun _ => False) (upd H p (.lst [])) (.list []) (.ref p) := .lst (.inl ⟨.inl upd_same, id⟩) .nil
            have sh0 : SeqAt.shaped (.list []) = true := by decide +kernel
            cases o with
            | Eq => exact ⟨_, .list ds, .list [], .bool ds.isEmpty, fun _ z => z.elim, r1, r2, by simp [dCmp, shaped2, hsh, sh0, eqv_nil], fun H' v sm' rv => by cases rv; exact g O H' _ (.same (fun b u w => sm' b u (sm b u w))) (s.same fun b u w => sm' b u (sm b u w)) (.bl _)⟩
            | NotEq => exact ⟨_, .list ds, .list [], .bool (!ds.isEmpty), fun _ z => z.elim, r1, r2, by simp [dCmp, shaped2, hsh, sh0, eqv_nil], fun H' v sm' rv => by cases rv; exact g O H' _ (.same (fun b u w => sm' b u (sm b u w))) (s.same fun b u w => sm' b u (sm b u w)) (.bl _)⟩
            | _ => exact g.elim
          · exact g.elim
        · exact g.elim
    | _ => cases h
  | _ => cases h
end
end Ev
end
section
set_option Elab.async false
set_option maxRecDepth 100000
set_option linter.all false
set_option autoImplicit false
set_option maxHeartbeats 1200000
/-! RevT: a tuple's items from the end. -/
namespace Ev
open PySem PySem.Spec PyProof.Rows L2
/-! ### [::-1] of a tuple -/
/-- the places of a whole sequence, from its end -/
theorem rev_places (n : Nat) : Builtin.Slice.slicePlaces ((n : Int) - 1) (-1) (-1) = n := by
  simp only [Builtin.Slice.slicePlaces, gt_iff_lt, Int.reduceNeg, Int.neg_neg, Int.ediv_one, show ¬ ((0 : Int) < -1) by decide, if_false]
  split <;> omega
theorem rev_picked (us : List Value) : (List.range us.length).filterMap (fun (j : Nat) => us.toArray[((us.length : Int) - 1 + (j : Int) * (-1)).toNat]?) = us.reverse := by
  have each : ∀ j, j < us.length → us.toArray[((us.length : Int) - 1 + (j : Int) * (-1)).toNat]? = us.reverse[j]? := fun j hj => by
    rw [show ((us.length : Int) - 1 + (j : Int) * (-1)).toNat = us.length - 1 - j by omega, List.getElem?_toArray, List.getElem?_reverse hj]
  apply List.ext_getElem?
  have all : ∀ (m : Nat), m ≤ us.length → (List.range m).filterMap (fun (j : Nat) => us.toArray[((us.length : Int) - 1 + (j : Int) * (-1)).toNat]?) = us.reverse.take m := by
    intro m
    induction m with
    | zero => intro _; rfl
    | succ m ih =>
      intro hm
      rw [List.range_succ, List.filterMap_append, ih (by omega), List.take_succ, List.filterMap_cons, each m (by omega)]
      cases us.reverse[m]? <;> rfl
  intro j
  rw [all us.length (Nat.le_refl _), List.take_of_length_le (by simp)]
section
variable {prog : Program} {w : World} {A : Around} {E : Value → Shared → Prop} {s : Shared}
/-- what a slice object with no bounds and step -1 says of n items -/
theorem rev_applied {sl : Addr} {lo hi st : Value} {n : Nat} {Q : Int × Int × Nat → Shared → Prop} (obj : s.heap.IsSliceOf sl lo hi st) (plo : IsPart lo none) (phi : IsPart hi none) (pst : IsPart st (some (-1))) (fin : Q ((n : Int) - 1, -1, n) s) : wpAny (model prog w) A (Builtin.Slice.sliceApplied (.ref sl) (pure (n : Int))) Q E s := by
  cases plo
  cases phi
  obtain ⟨ob, there, _, data⟩ := id obj
  have part : ∀ {v : Value} {j : Nat} {P : Value → Shared → Prop}, (#[Value.none, Value.none, st] : Array Value)[j]? = some v → P v s → wpAny (model prog w) A (field (.ref sl) j) P E s := fun e q => wpAny_field there data e q
  have step : ∀ {P : Option Int → Shared → Prop}, P (some (-1)) s → wpAny (model prog w) A (Builtin.Slice.slicePartIndex st) P E s := fun q => HT.slicePart_ pst q
  have open_ : ∀ {P : Option Int → Shared → Prop}, P none s → wpAny (model prog w) A (Builtin.Slice.slicePartIndex .none) P E s := fun q => HT.slicePart_ .none q
  unfold Builtin.Slice.sliceApplied
  have ends : wpAny (model prog w) A (Builtin.Slice.sliceFields (.ref sl)) (fun r s' => r = (.none, .none, st) ∧ s' = s) E s :=
    wpAny_bind (part (j := 0) rfl (wpAny_bind (part (j := 1) rfl (wpAny_bind (part (j := 2) rfl (wpAny_pure ⟨rfl, rfl⟩))))))
  refine wpAny_bind (wpAny_mono ends (fun r s' => ?_) fun _ _ z => z)
  rintro ⟨rfl, rfl⟩
  refine wpAny_bind (step ?_)
  refine (if_neg (show ¬ (((-1 : Int) == 0) = true) by decide)) ▸ ?_
  refine wpAny_bind (open_ (wpAny_bind (open_ (wpAny_bind (wpAny_pure ?_)))))
  have e := rev_places n
  show wpAny _ _ (pure ((n : Int) - 1, (-1 : Int), Builtin.Slice.slicePlaces ((n : Int) - 1) (-1) (-1))) _ _ _
  rw [e]
  exact wpAny_pure fin
/-- a tuple asked by such a slice -/
theorem tup_back {t sl : Addr} {us : List Value} {lo hi st : Value} {Q : Value → Shared → Prop} (tup : IsTup s.heap t us.toArray) (obj : s.heap.IsSliceOf sl lo hi st) (plo : IsPart lo none) (phi : IsPart hi none) (pst : IsPart st (some (-1)))
    (room : us.length ≤ sizeLine) (fin : Q (.ref s.heap.objs.size) { s with heap := s.heap.push { cls := .type "tuple", data := .seq us.reverse.toArray 0 } }) : wpAny (model prog w) A (getItem (.ref t) (.ref sl)) Q E s := by
  have kind : s.TypeIs (.ref sl) "slice" := let ⟨os, there, c, _⟩ := obj; ⟨os, there, c⟩
  have fits : sizeOk (.seq us.reverse.toArray) := by
    show us.reverse.toArray.size ≤ sizeLine
    simpa using room
  have n0 : us.toArray.size = us.length := List.size_toArray ..
  unfold getItem
  with_reducible refine wpAny_holding ?_
  refine wpAny_bind (wpAny_sequenceKey tup.typeIs (by decide) (wpAny_bind (wpAny_callSpecial?_slot (name := Str.ofString "__getitem__") tup.typeIs PyProof.Rows.slot_tuple_getitem (wpAny_call_entry PyProof.Rows.slot_tuple_getitem tup.typeIs entry_tuple_getitem ?_ (args_tuple_getitem _ _)))))
  refine wpAny_bind (m := Builtin.Tuple.tupleItemsOf (.ref t)) (tupleItemsOf_ tup (wpAny_bind (wpAny_typeOf kind ?_)))
  refine (if_pos (show ((Value.type "slice") == .type "slice") = true by decide)) ▸ ?_
  rw [n0]
  refine wpAny_bind (rev_applied obj plo phi pst ?_)
  have whole : ¬ (((us.length : Int) - 1 == 0 && (-1 : Int) == 1 && us.length == us.length) = true) := by
    rw [show ((-1 : Int) == 1) = false by decide, Bool.and_false, Bool.false_and]
    decide
  show wpAny _ _ (if ((us.length : Int) - 1 == 0 && (-1 : Int) == 1 && us.length == us.length) = true then _ else _) _ _ _
  rw [if_neg whole, rev_picked]
  exact wpAny_bind (m := Builtin.Tuple.tupleExact us.reverse.toArray) (wpAny_newObj_type (wpAny_pure ⟨_, rfl, wpAny_pure fin⟩) fits)
end
/-- e[::-1], e a tuple -/
theorem pe_backT {X : Cx} {e : Expr} {te : TE} {k : Nat} {p1 p2 p3 pos : Pos} (he : PE X e te) :
    PE X (.Subscript e (.Slice none none (some (.UnaryOp .USub (.Constant (.int 1) k p1) p2)) p3) pos) (fun σ H Q => te σ H fun x H1 => ∃ a xs, x = .ref a ∧ SqT X.K H1 a xs ∧ ∀ p, H1 p = none → Q (.ref p) (upd H1 p (.tup xs.reverse))) where
  run pins s σ H Q I ask := by
    have minus : PO X (some (.UnaryOp .USub (.Constant (.int 1) k p1) p2)) (tPart (tUn (rU fun i => .int (-i)) (tC (.int 1)))) := po_some (pe_un un_neg pe_int)
    refine Subscript_ (thn (he.run pins s σ H _ I ask) fun v s1 got => ?_)
    obtain ⟨_, H1, I1, rel, a, xs, rfl, tup, fin⟩ := got
    cases rel
    refine wpAny_Slice (thn (po_none.run pins s1 σ H1 (fun o H2 => o = none ∧ H2 = H1) I1 ⟨rfl, rfl⟩) fun vl s2 low => ?_)
    obtain ⟨_, _, I2, pl, rfl, rfl⟩ := low
    refine thn (po_none.run pins s2 σ _ (fun o H3 => o = none ∧ H3 = _) I2 ⟨rfl, rfl⟩) fun vu s3 high => ?_
    obtain ⟨_, _, I3, pu, rfl, rfl⟩ := high
    refine thn (minus.run pins s3 σ _ (fun o H4 => o = some (-1) ∧ H4 = _) I3 ⟨1, rfl, -1, rfl, rfl, rfl⟩) fun vs s4 step => ?_
    obtain ⟨_, H4, I4, ps, rfl, rfl⟩ := step
    have I5 := I4.kept (t' := s4.toks) fun b ob q => Heap.get?_push_of_some { cls := .type "slice", data := .fields #[vl, vu, vs] } q
    obtain ⟨its, r, ht, hz⟩ := I5.tuple tup
    have n1 : its.length ≤ sizeLine := by rw [← r.length]; exact hz
    refine tail_any (ops := [Value.ref a, .ref s4.heap.objs.size]) ht.typeIs PyProof.Rows.slot_tuple_getitem.lookup ?_ (by with_unfolding_all rfl)
    refine tup_back ht (Heap.IsSliceOf.new _ vl vu vs) pl pu ps n1 ?_
    have I6 := I5.laid (t' := s4.toks) (o := .tup xs.reverse) (fun b ob q => Heap.get?_push_of_some { cls := .type "tuple", data := .seq its.reverse.toArray 0 } q) (Nat.le_refl _) ⟨by rw [List.length_reverse]; exact hz, _, r.reverse, IsTup.new _ _⟩
    exact ⟨V.ref _, _, I6, rfl, fin _ (I5.hok.fresh (Nat.le_refl _))⟩
end Ev
end
section
set_option Elab.async false
set_option maxRecDepth 100000
set_option linter.all false
set_option autoImplicit false
set_option maxHeartbeats 1200000
/-! Ev11: reversed slices, methods, what is walked, comprehensions. -/
namespace Ev
open PySem PySem.Spec PyProof.Rows L2
open He (ba)
variable [Tbls] [Fr]
section
variable {C : Calls} {L : Lex} {k : Nat} {X : Cx} {N : List Str} {sc : Scope} {fx : Str → Bool} {W : WX}
variable {K : PySem.W.Frag} {G O : Addr → Prop} {H : Hp} {r : Rho} {σ : L2.St}
theorem so_rev {a : E} (ha : SoE C L k a) : SoE C L k (.rev a) := fun X N sc fx W e c F h => by
  unfold chkE at h
  split at h
  · rename_i x kk p1 p2 p3 pos
    refine PE.imp (pe_revL (ha X N sc fx W _ c F h)) fun σ H Q ⟨G, O, r, s, g⟩ => ?_
    refine ⟨G, O, r, s, g1 g fun O1 H1 r1 dx x e1 s1 q1 g' => ?_⟩
    cases q1 with
    | @lst a vs ds h1 a1 => exact ⟨a, vs, rfl, h1.sq, fun p hp => g' O1 _ _ (.same (same_upd hp)) (s1.same (same_upd hp)) (.lst (.inl ⟨.inl upd_same, fun z => s1.avd p z hp⟩) (a1.reverse.same (same_upd hp)))⟩
    | _ => exact g'.elim
  · cases h
theorem so_revT {a : E} (ha : SoE C L k a) : SoE C L k (.revT a) := fun X N sc fx W e c F h => by
  unfold chkE at h
  split at h
  · rename_i x kk p1 p2 p3 pos
    refine PE.imp (pe_backT (ha X N sc fx W _ c F h)) fun σ H Q ⟨G, O, r, s, g⟩ => ?_
    refine ⟨G, O, r, s, g1 g fun O1 H1 r1 dx x e1 s1 q1 g' => ?_⟩
    cases q1 with
    | @tup a vs ds h1 a1 => exact ⟨a, vs, rfl, h1, fun p hp => g' O1 _ _ (.same (same_upd hp)) (s1.same (same_upd hp)) (.tup (.inl (.inl upd_same)) (a1.reverse.same (same_upd hp)))⟩
    | _ => exact g'.elim
  · cases h
/-- what a name owns is changed -/
theorem Stt.putC (s : Stt K G O H r σ) {i : Nat} {a : Addr} {c c' : Ct} {o : HO} (e : ctAt r i = some c) (ha : σ[i]?.join = some (.ref a)) (hm : Mu (upd H a o) a)
    (hc : CtR K (Av O G) (upd H a o) c' a) : Stt K G O (upd H a o) (putC r i c') σ ∧ Ext O H O (upd H a o) := by
  obtain ⟨b, e1, oa, ca⟩ := s.ct e
  rw [ha] at e1
  cases e1
  have ex : Ext O H O (upd H a o) := ⟨fun b u h n _ => (upd_ne (fun z : b = a => n (z ▸ oa))).trans h, fun b h => by
    by_cases z : b = a
    · rw [z]; exact hm.th
    · exact h.imp fun u q => ⟨(upd_ne z).trans q.1, q.2⟩, fun b h _ => h, fun t => tabs_upd (s.wf a oa) t⟩
  have rl : ∀ d v, Rl K (Av O G) H d v → Rl K (Av O G) (upd H a o) d v := fun d v z => z.ext s.wf ex
  refine ⟨⟨fun b z => ?_, fun b z => ⟨?_, (s.wg b z).2⟩, putC_len.trans s.len, fun j t et => ?_, fun j l b h1 h2 => s.ap j l b (by rw [← h1, putC_own]) (by rw [← h2, putC_own]), s.pf, fun j => by rw [putC_kd]; exact s.pq j, tabs_upd (s.wf a oa) s.tb⟩, ex⟩
  · by_cases q : b = a
    · rw [q]; exact hm
    · exact (s.wf b z).of_eq (upd_ne q)
  · exact (s.wg b z).1.of_eq (upd_ne fun q => (s.wg b z).2 (q ▸ oa))
  · by_cases hj : i = j
    · subst hj
      rcases putC_at (c := c') e with z | z
      · rw [z] at et; cases et; exact ⟨a, ha, oa, hc⟩
      · rw [z] at et; cases et; exact ⟨a, ha, oa, hc⟩
    · rw [putC_ne hj] at et
      have sr := s.sl j t et
      have own : ∀ b c, isOwn r[j]? = true → σ[j]?.join = some (.ref b) → CtR K (Av O G) H c b → CtR K (Av O G) (upd H a o) c b := fun b c w eb cb => by
        refine cb.imp rl (upd_ne fun q => ?_)
        subst q
        exact hj (s.ap i j _ (ctAt_own e).1 w ha eb)
      cases t with
      | non => trivial
      | d y => obtain ⟨v, e1, r1⟩ := sr; exact ⟨v, e1, rl _ _ r1⟩
      | own c => obtain ⟨b, e1, ob, cb⟩ := sr; exact ⟨b, e1, ob, own b c (by rw [et]; rfl) e1 cb⟩
      | par c => obtain ⟨b, e1, ob, cb⟩ := sr; exact ⟨b, e1, ob, own b c (by rw [et]; rfl) e1 cb⟩
theorem mutAt_ct {i : Nat} {ds : List D} (h : mutAt r i = some ds) : ctAt r i = some (.lst ds) := by
  unfold mutAt at h
  split at h
  · rename_i e; cases h; unfold ctAt; rw [e]
  · rename_i e; cases h; unfold ctAt; rw [e]
  · cases h
theorem ixP_seq {n : Nat} {i : Int} {j : Nat} (h : ixP n i = some j) : seqIndex? i n = some j := by
  unfold ixP at h
  unfold seqIndex?
  split at h
  · split at h
    · cases h; simp; omega
    · cases h
  · split at h
    · cases h; simp; omega
    · cases h
theorem so_popB (i : Nat) (kk : Int) : SoE C L k (.popB i kk) := fun X N sc fx W e c F h => by
  unfold chkE at h
  split at h
  · rename_i x p2 m p y q
    obtain ⟨h1, h⟩ := ba h
    obtain ⟨h2, h⟩ := ba h
    obtain ⟨h3, h⟩ := ba h
    obtain ⟨h4, h5⟩ := ba h
    obtain ⟨d1, d2⟩ := dun_ok h5
    obtain ⟨em, el, k1, k2⟩ : m = Str.ofString "pop" ∧ p.endLine = q.line ∧ -1000 ≤ kk ∧ kk ≤ 1000 := of_decide_eq_true h1
    subst em
    refine PE.imp (pe_bm (T := "list") (id := "list.pop") PySem.F.plainAttrs_list PySem.F.slot_list_pop PySem.F.type_list_pop mt_popAt (pe_var (c.nm h3) (c.vis h4) d1 d2) (pa_cons (pe_lit h2) pa_nil (star_cons (star_lit h2))) (by rfl) ?_ (by simpa using el) (star_cons (star_lit h2)) (by rfl)) fun σ H Q ⟨G, O, r, s, g⟩ => ?_
    · rw [star_cons (star_lit h2)]; rfl
    · simp only [evE] at g
      split at g
      · rename_i ds e
        split at g
        · rename_i j ej
          split at g
          · rename_i x ex
            obtain ⟨a, e1, oa, vs, hv, ql⟩ := s.ct (mutAt_ct e)
            obtain ⟨v, ev, qv⟩ := ql.get ex
            refine ⟨_, join_some e1, .inl ⟨rfl, _, .of hv⟩, a, vs, kk, j, v, rfl, rfl, hv, by omega, by omega, ?_, ev, ?_⟩
            · rw [← ql.length]; exact ixP_seq ej
            · have mu : Mu (upd H a (.lst (vs.eraseIdx j))) a := .inl ⟨_, upd_same⟩
              have ext : Ext O H O (upd H a (.lst (vs.eraseIdx j))) := ⟨fun b u h n _ => (upd_ne (fun z : b = a => n (z ▸ oa))).trans h, fun b h => by
                by_cases z : b = a
                · rw [z]; exact mu.th
                · exact h.imp fun u q => ⟨(upd_ne z).trans q.1, q.2⟩, fun b h _ => h, fun t => tabs_upd (s.wf a oa) t⟩
              obtain ⟨s', _⟩ := s.putC (mutAt_ct e) e1 mu (c' := .lst (ds.eraseIdx j)) ⟨_, upd_same, (ql.erase j).ext s.wf ext⟩
              exact g O _ _ ext s' (qv.ext s.wf ext)
          · exact g.elim
        · exact g.elim
      · exact g.elim
  · cases h
theorem so_mt {m : Mt} {a as : E} (ha : SoE C L k a) (hs : SoDs C L k as) : SoE C L k (.mt m a as) := fun X N sc fx W e c F h => by
  unfold chkE at h
  split at h
  · rename_i x n p y q
    obtain ⟨h1, h⟩ := ba h
    obtain ⟨h2, h⟩ := ba h
    obtain ⟨h3, h⟩ := ba h
    obtain ⟨h4, h5⟩ := ba h
    obtain ⟨en, el⟩ : n = mtName m ∧ p.endLine = q.line := of_decide_eq_true h1
    subst en
    have pa := hs X N sc fx W _ c F h5
    have hfew : ((backTo q (starEach [y] X.env)).all (fun x => !x.1) && (backToKw q (keywordEach [] X.env)).all (fun x => x.1.isSome)
      && decide ([y].length + ([] : List Keyword).length + (if ([] : List Keyword).isEmpty then 0 else 1) < 30)) = true := by
      rw [star_cons h3]; rfl
    cases m with
    | join =>
      refine PE.imp (pe_bm (T := "str") (id := "str.join") PySem.F.plainAttrs_str PySem.F.slot_str_join PySem.F.type_str_join mt_join (ha X N sc fx W _ c F h4) pa (attr_ok h2) hfew (by simpa using el) (star_cons h3) (by rfl)) fun σ H Q ⟨G, O, r, s, g⟩ => ?_
      refine ⟨G, O, r, s, g1 g fun O1 H1 r1 dx x e1 s1 q1 g' => ?_⟩
      cases q1 with
      | str z =>
        refine ⟨rfl, G, O1, r1, s1, gs g' fun O2 H2 r2 ds vs e2 s2 q2 g2 => ?_⟩
        obtain ⟨d, ed, an⟩ := g_ans g2 s2
        match ds, ed with
        | [.list xs], ed =>
          obtain ⟨zs, e3, e4⟩ := Option.bind_eq_some_iff.mp (show (strsOf xs).bind (fun zs => if (zs.map (·.length)).sum + zs.length * z.length ≤ lenLim then some (PyData.str (Txt.join z zs)) else none) = some d from ed)
          split at e4
          · rename_i hl
            cases e4
            obtain ⟨v, w, rfl, qa, qb⟩ := q2.cons_inv
            cases qb
            cases qa with
            | lst h1 a1 =>
              have ev := strsOf_vals a1 e3
              subst ev
              exact ⟨z, _, zs, rfl, rfl, .inl h1.sq, Nat.le_trans hl (by decide), an.here (.str _)⟩
          · cases e4
      | _ => exact g'.elim
    | split =>
      refine PE.imp (pe_bm (T := "str") (id := "str.split") PySem.F.plainAttrs_str PySem.F.slot_str_split PySem.F.type_str_split mt_split (ha X N sc fx W _ c F h4) pa (attr_ok h2) hfew (by simpa using el) (star_cons h3) (by rfl)) fun σ H Q ⟨G, O, r, s, g⟩ => ?_
      refine ⟨G, O, r, s, g1 g fun O1 H1 r1 dx x e1 s1 q1 g' => ?_⟩
      cases q1 with
      | str z =>
        refine ⟨rfl, G, O1, r1, s1, gs g' fun O2 H2 r2 ds vs e2 s2 q2 g2 => ?_⟩
        obtain ⟨d, ed, an⟩ := g_ans g2 s2
        match ds, ed with
        | [.str sep], ed =>
          have ed : (if sep.length ≠ 0 ∧ z.length + 2 ≤ lenLim then some (PyData.list ((Txt.split z sep).map .str)) else none) = some d := ed
          split at ed
          · rename_i hl
            cases ed
            obtain ⟨v, w, rfl, qa, qb⟩ := q2.cons_inv
            cases qb
            cases qa
            refine ⟨z, sep, rfl, rfl, by simpa using hl.1, Nat.le_trans hl.2 (by decide), fun p hp => an.lst (A := Av O2 G) s2.avd (RlL.strs _) hp⟩
          · cases ed
      | _ => exact g'.elim
  · cases h
end
end Ev
end
section
set_option Elab.async false
set_option maxRecDepth 100000
set_option linter.all false
set_option autoImplicit false
set_option maxHeartbeats 1200000
/-! Ev12: what is walked; comprehensions; all expressions. -/
namespace Ev
open PySem PySem.Spec PyProof.Rows L2
open He (ba)
variable [Tbls] [Fr]
section
variable {C : Calls} {L : Lex} {k : Nat} {X : Cx} {N : List Str} {sc : Scope} {fx : Str → Bool} {W : WX}
variable {K : PySem.W.Frag} {G O : Addr → Prop} {H : Hp} {r : Rho} {σ : L2.St}
/-! ### what is walked -/
/-- a walk's parts, then the walk -/
theorem Stt.avm (s : Stt K G O H r σ) : ∀ a, Av O G a → Mu H a := fun a z => z.elim (fun z => s.wf a z) fun z => (s.wg a z).1
def GotI (K : PySem.W.Frag) (G : Addr → Prop) (W : WX) (σ : L2.St) (O : Addr → Prop) (H : Hp) (x : R (List D)) (Rr : It → Hp → Prop) : Prop := match x with
  | .ok items r' => ∀ O' H' J, Ext O H O' H' → Stt K G O' H' r' σ → WalkD K (Av O' G) H' items J → Rr J H'
  | .ex c r' => ∀ O' H', Ext O H O' H' → Stt K G O' H' r' σ → W (.ref (He.ga K c)) none σ H'
  | .no => False
theorem GotI.shift {x : R (List D)} {Rr : It → Hp → Prop} {O1 : Addr → Prop} {H1 : Hp} (e : Ext O H O1 H1) (h : GotI K G W σ O H x Rr) : GotI K G W σ O1 H1 x Rr := by
  cases x with
  | ok a r' => exact fun O' H' J e' s q => h O' H' J (e.trans e') s q
  | ex c r' => exact fun O' H' e' s => h O' H' (e.trans e') s
  | no => exact h
theorem GotI.bind {α β : Type} {Rel : (Addr → Prop) → Hp → α → β → Prop} {x : R α} {f : α → Rho → R (List D)} {Rr : It → Hp → Prop} (h : GotI K G W σ O H (x.bind f) Rr) :
    Got K G Rel W σ O H x (fun b H1 => ∃ O1 r1 a, Ext O H O1 H1 ∧ Stt K G O1 H1 r1 σ ∧ Rel O1 H1 a b ∧ GotI K G W σ O1 H1 (f a r1) Rr) := by
  cases x with
  | ok a r' => exact fun O' H' b e s q => ⟨O', r', a, e, s, q, GotI.shift e h⟩
  | ex c r' => exact h
  | no => exact h
theorem GotI.here {items : List D} {Rr : It → Hp → Prop} (h : GotI K G W σ O H (.ok items r) Rr) (s : Stt K G O H r σ) {J : It} (w : WalkD K (Av O G) H items J) : Rr J H := h O H J .refl s w
theorem GotI.ofO {o : Option (List D)} {Rr : It → Hp → Prop} (h : GotI K G W σ O H (R.of r o) Rr) (s : Stt K G O H r σ) : ∃ items, o = some items ∧ ∀ J, WalkD K (Av O G) H items J → Rr J H := by
  cases o with
  | none => exact h.elim
  | some items => exact ⟨items, rfl, fun J w => h O H J .refl s w⟩
theorem so_iSeq {a : E} (ha : SoE C L k a) : SoI C L k (.iSeq a) := fun X N sc fx W tg e b c F _ h => by
  refine PI.imp (pi_src (ha X N sc fx W _ c F h)) fun σ H Rr ⟨G, O, r, s, g⟩ => ?_
  have g : GotI X.K G W σ O H ((evE C L.gl a r).bind fun x r1 => R.of r1 (unList x)) Rr := g
  refine ⟨G, O, r, s, (GotI.bind (Rel := RD X.K G) g).imp fun v H1 ⟨O1, r1, d, e1, s1, q1, g'⟩ => ?_⟩
  obtain ⟨items, eu, hw⟩ := g'.ofO s1
  obtain ⟨k, a, vs, ev, q, hs⟩ := src_data s1.avm q1 eu
  exact ⟨k, a, vs, ev, hs _ fun _ _ h _ _ => h, hw _ (walkD_src s1.avm q hs)⟩
theorem walkD_signs {A1 : Addr → Prop} {H1 : Hp} {z : Str} : WalkD K A1 H1 (signsD z) (Its z) := by
  refine ⟨fun _ => True, ?_, fun _ _ => trivial⟩
  have e : (signsD z).length = z.cps.size := by simp [signsD]
  rw [e]
  refine walk_str.mono (fun _ h => h) fun i H x H2 hi _ y A' h1 h2 => ?_
  obtain ⟨e, c, hx, rfl⟩ := y
  subst e
  refine ⟨Same.refl _, .str ⟨#[c]⟩, ?_, .str _⟩
  unfold signsD
  rw [List.getElem?_map, Array.getElem?_toList, hx]
  rfl
theorem so_iStr {a : E} (ha : SoE C L k a) : SoI C L k (.iStr a) := fun X N sc fx W tg e b c F _ h => by
  refine PI.imp (pi_str (ha X N sc fx W _ c F h)) fun σ H Rr ⟨G, O, r, s, g⟩ => ?_
  have g : GotI X.K G W σ O H ((evE C L.gl a r).bind fun x r1 => R.of r1 (unStr x)) Rr := g
  refine ⟨G, O, r, s, (GotI.bind (Rel := RD X.K G) g).imp fun v H1 ⟨O1, r1, d, e1, s1, q1, g'⟩ => ?_⟩
  obtain ⟨items, eu, hw⟩ := g'.ofO s1
  cases q1 with
  | str z =>
    cases eu
    exact ⟨z, rfl, hw _ walkD_signs⟩
  | _ => cases eu
theorem rng_fits {m n : Int} (h : rngOk m n = true) : -(2 ^ 62) ≤ m ∧ m < 2 ^ 62 ∧ -(2 ^ 62) ≤ n ∧ n < 2 ^ 62 := by
  have h := of_decide_eq_true h
  omega
theorem so_iRng {a b : E} (ha : SoE C L k a) (hb : SoE C L k b) : SoI C L k (.iRng a b) := fun X N sc fx W tg e t c F _ h => by
  unfold chkI at h
  split at h
  · rename_i x p y q
    obtain ⟨h1, h⟩ := ba h
    obtain ⟨h2, h⟩ := ba h
    obtain ⟨h3, h⟩ := ba h
    obtain ⟨h4, h5⟩ := ba h
    have ex : x = Str.ofString "range" := of_decide_eq_true h1
    subst ex
    have ea : a = .nil := by cases a <;> first | rfl | cases h3
    subst ea
    refine PI.imp (pi_range1 (c.gl h2) (F.blt _ (by simp [bltNames])) (pa_cons (hb X N sc fx W _ c F h5) pa_nil (star_cons h4)) (star_cons h4)) fun σ H Rr ⟨G, O, r, s, g⟩ => ?_
    have g : GotI X.K G W σ O H ((evE C L.gl b r).bind fun y r2 => match (PyData.int 0), y with
      | .int m, .int n => if rngOk m n then .ok (rngD m n) r2 else .no
      | _, _ => .no) Rr := g
    refine ⟨G, O, r, s, (GotI.bind (Rel := RD X.K G) g).imp fun v H1 ⟨O1, r1, d, e1, s1, q1, g'⟩ => ?_⟩
    cases q1 with
    | int n =>
      simp only at g'
      split at g'
      · rename_i hr
        obtain ⟨_, _, f3, f4⟩ := rng_fits hr
        have w := g'.here s1 walkD_range
        rw [Int.sub_zero] at w
        exact ⟨n, rfl, f3, f4, w⟩
      · exact g'.elim
    | _ => exact g'.elim
  · rename_i x p y z q
    obtain ⟨h1, h⟩ := ba h
    obtain ⟨h2, h⟩ := ba h
    obtain ⟨h3, h⟩ := ba h
    obtain ⟨h4, h⟩ := ba h
    obtain ⟨h5, h⟩ := ba h
    obtain ⟨h6, h7⟩ := ba h
    have ex : x = Str.ofString "range" := of_decide_eq_true h1
    subst ex
    have ez : optZ a (evE C L.gl a) = evE C L.gl a := by
      funext r
      cases a <;> first | rfl | cases h3
    refine PI.imp (pi_range2 (c.gl h2) (F.blt _ (by simp [bltNames])) (pa_cons (ha X N sc fx W _ c F h6) (pa_cons (hb X N sc fx W _ c F h7) pa_nil (star_cons h5)) (star_cons h4)) (by rw [star_cons h4, star_cons h5]; rfl) (star_cons h5)) fun σ H Rr ⟨G, O, r, s, g⟩ => ?_
    have g : GotI X.K G W σ O H ((optZ a (evE C L.gl a) r).bind fun x r1 => (evE C L.gl b r1).bind fun y r2 => match x, y with
      | .int m, .int n => if rngOk m n then .ok (rngD m n) r2 else .no
      | _, _ => .no) Rr := g
    rw [ez] at g
    refine ⟨G, O, r, s, (GotI.bind (Rel := RD X.K G) g).imp fun v H1 ⟨O1, r1, d, e1, s1, q1, g'⟩ => ⟨G, O1, r1, s1, (GotI.bind (Rel := RD X.K G) g').imp fun v2 H2 ⟨O2, r2, d2, e2, s2, q2, g2⟩ => ?_⟩⟩
    cases q1 with
    | int m =>
      cases q2 with
      | int n =>
        simp only at g2
        split at g2
        · rename_i hr
          exact ⟨m, n, rfl, rng_fits hr, g2.here s2 walkD_range⟩
        · exact g2.elim
      | _ => exact g2.elim
    | _ => cases d2 <;> exact g2.elim
  · cases h
theorem tup_of {e : Expr} (h : tupB e = true) : ∃ es kk p, e = .Tuple es kk p := by
  cases e <;> first | exact ⟨_, _, _, rfl⟩ | cases h
theorem so_iZip {a b : E} (ha : SoE C L k a) (hb : SoE C L k b) : SoI C L k (.iZip a b) := fun X N sc fx W tg e t c F ht h => by
  unfold chkI at h
  split at h
  · rename_i x p y z q
    obtain ⟨h0, h⟩ := ba h
    obtain ⟨h1, h⟩ := ba h
    obtain ⟨h2, h⟩ := ba h
    obtain ⟨h3, h⟩ := ba h
    obtain ⟨h4, h⟩ := ba h
    obtain ⟨h5, h6⟩ := ba h
    have ex : x = Str.ofString "zip" := of_decide_eq_true h1
    subst ex
    obtain ⟨es, kk, tp, rfl⟩ := tup_of (ht h0)
    refine PI.imp (pi_zipX (c.gl h2) (F.blt _ (by simp [bltNames])) (pa_cons (ha X N sc fx W _ c F h5) (pa_cons (hb X N sc fx W _ c F h6) pa_nil (star_cons h4)) (star_cons h3)) (star_cons h3) (by rw [star_cons h4]; rfl)) fun σ H Rr ⟨G, O, r, s, g⟩ => ?_
    have g : GotI X.K G W σ O H ((evE C L.gl a r).bind fun x r1 => (evE C L.gl b r1).bind fun y r2 => match unList x, unList y with
      | some xs, some ys => .ok (zipD xs ys) r2
      | _, _ => .no) Rr := g
    refine ⟨G, O, r, s, (GotI.bind (Rel := RD X.K G) g).imp fun v H1 ⟨O1, r1, d, e1, s1, q1, g'⟩ => ⟨G, O1, r1, s1, (GotI.bind (Rel := RD X.K G) g').imp fun v2 H2 ⟨O2, r2, d2, e2, s2, q2, g2⟩ => ?_⟩⟩
    have q1 := q1.ext s1.wf e2
    split at g2
    · rename_i xs ys u1 u2
      obtain ⟨k1, a1, vs1, ev1, ql1, hs1⟩ := src_data s2.avm q1 u1
      obtain ⟨k2, a2, vs2, ev2, ql2, hs2⟩ := src_data s2.avm q2 u2
      refine ⟨k1, k2, a1, a2, vs1, vs2, by rw [ev1, ev2], hs1 _ fun _ _ h _ _ => h, hs2 _ fun _ _ h _ _ => h, g2.here s2 (walkD_zip s2.avm ql1 ql2 hs1 hs2)⟩
    · exact g2.elim
  · cases h
theorem so_iEnum {a : E} (ha : SoE C L k a) : SoI C L k (.iEnum a) := fun X N sc fx W tg e t c F ht h => by
  unfold chkI at h
  split at h
  · rename_i x p y q
    obtain ⟨h0, h⟩ := ba h
    obtain ⟨h1, h⟩ := ba h
    obtain ⟨h2, h⟩ := ba h
    obtain ⟨h3, h4⟩ := ba h
    have ex : x = Str.ofString "enumerate" := of_decide_eq_true h1
    subst ex
    obtain ⟨es, kk, tp, rfl⟩ := tup_of (ht h0)
    refine PI.imp (pi_enumX (c.gl h2) (F.blt _ (by simp [bltNames])) (pa_cons (ha X N sc fx W _ c F h4) pa_nil (star_cons h3)) (star_cons h3)) fun σ H Rr ⟨G, O, r, s, g⟩ => ?_
    have g : GotI X.K G W σ O H ((evE C L.gl a r).bind fun x r1 => R.of r1 ((unList x).map (enumD 0))) Rr := g
    refine ⟨G, O, r, s, (GotI.bind (Rel := RD X.K G) g).imp fun v H1 ⟨O1, r1, d, e1, s1, q1, g'⟩ => ?_⟩
    obtain ⟨items, eu, hw⟩ := g'.ofO s1
    obtain ⟨xs, eu2, rfl⟩ := Option.map_eq_some_iff.mp eu
    obtain ⟨k, a, vs, ev, q, hs⟩ := src_data s1.avm q1 eu2
    exact ⟨k, a, vs, by rw [ev], hs _ fun _ _ h _ _ => h, hw _ (walkD_enum s1.avm q hs)⟩
  · cases h
/-! ### comprehensions -/
theorem wipe_get (σ : L2.St) : ∀ (vs : List Nat) (j : Nat), (wipe σ vs)[j]? = if j ∈ vs then (if j < σ.length then some none else none) else σ[j]?
  | [], j => by simp [wipe]
  | v :: vs, j => by
    unfold wipe
    by_cases hj : v = j
    · subst hj
      rw [if_pos List.mem_cons_self, List.getElem?_set]
      simp [wipe_length]
    · rw [List.getElem?_set_ne hj, wipe_get σ vs j]
      simp [List.mem_cons, Ne.symm hj]
theorem wipe_eq {σ τ : L2.St} {vs : List Nat} (l : σ.length = τ.length) (h : ∀ j, j ∉ vs → σ[j]? = τ[j]?) : wipe σ vs = wipe τ vs := by
  apply List.ext_getElem?
  intro j
  rw [wipe_get, wipe_get, l]
  split
  · rfl
  · rename_i n; exact h j n
theorem wipe_same {σ : L2.St} {vs : List Nat} : wipe (wipe σ vs) vs = wipe σ vs := wipe_eq (wipe_length σ vs) fun j h => by rw [wipe_get, if_neg h]
theorem wipeR_len : ∀ (vs : List Nat), (wipeR r vs).length = r.length
  | [] => rfl
  | v :: vs => by unfold wipeR; rw [List.length_set, wipeR_len vs]
theorem wipeR_get : ∀ (vs : List Nat) (j : Nat), (wipeR r vs)[j]? = if j ∈ vs then (if j < r.length then some .non else none) else r[j]?
  | [], j => by simp [wipeR]
  | v :: vs, j => by
    unfold wipeR
    by_cases hj : v = j
    · subst hj
      rw [if_pos List.mem_cons_self, List.getElem?_set]
      simp [wipeR_len]
    · rw [List.getElem?_set_ne hj, wipeR_get vs j]
      simp [List.mem_cons, Ne.symm hj]
theorem backR_len {r0 : Rho} : ∀ (vs : List Nat), (backR r0 r vs).length = r.length
  | [] => rfl
  | v :: vs => by unfold backR; rw [List.length_set, backR_len vs]
theorem backR_get {r0 : Rho} : ∀ (vs : List Nat) (j : Nat), (backR r0 r vs)[j]? = if j ∈ vs then (if j < r.length then some (r0.getD j .non) else none) else r[j]?
  | [], j => by simp [backR]
  | v :: vs, j => by
    unfold backR
    by_cases hj : v = j
    · subst hj
      rw [if_pos List.mem_cons_self, List.getElem?_set]
      simp [backR_len]
    · rw [List.getElem?_set_ne hj, backR_get vs j]
      simp [List.mem_cons, Ne.symm hj]
theorem Stt.wipe (s : Stt K G O H r σ) (vs : List Nat) : Stt K G O H (wipeR r vs) (L2.wipe σ vs) := by
  refine ⟨s.wf, s.wg, by rw [wipeR_len, wipe_length, s.len], fun i t e => ?_, fun i j a h1 h2 e1 e2 => ?_, s.pf, fun i => ?_, s.tb⟩
  · rw [wipeR_get] at e
    rw [wipe_get]
    split at e
    · split at e
      · cases e; trivial
      · cases e
    · rename_i n
      rw [if_neg n]
      exact s.sl i t e
  · rw [wipeR_get] at h1 h2
    rw [wipe_get] at e1 e2
    by_cases m1 : i ∈ vs
    · rw [if_pos m1] at h1
      split at h1 <;> cases h1
    · by_cases m2 : j ∈ vs
      · rw [if_pos m2] at h2
        split at h2 <;> cases h2
      · rw [if_neg m1] at h1 e1
        rw [if_neg m2] at h2 e2
        exact s.ap i j a h1 h2 e1 e2
  · rw [wipeR_get, wipe_get]
    by_cases m : i ∈ vs
    · rw [if_pos m, if_pos m]
      split <;> exact ⟨(fun z => nomatch z), (fun z => nomatch z)⟩
    · rw [if_neg m, if_neg m]
      exact s.pq i
/-- one more thing of others -/
theorem SlotR.conv {G G' O' : Addr → Prop} {H' : Hp} (hd : ∀ d v, Rl K (Av O G) H d v → Rl K (Av O' G') H' d v) (hc : ∀ c a, O a → CtR K (Av O G) H c a → O' a ∧ CtR K (Av O' G') H' c a) {s : Slot} {o : Option V} (x : SlotR K O G H s o) : SlotR K O' G' H' s o := by
  cases s with
  | non => trivial
  | d y => obtain ⟨v, e1, r1⟩ := x; exact ⟨v, e1, hd _ _ r1⟩
  | own c => obtain ⟨b, e1, ob, cb⟩ := x; exact ⟨b, e1, (hc c b ob cb).1, (hc c b ob cb).2⟩
  | par c => obtain ⟨b, e1, ob, cb⟩ := x; exact ⟨b, e1, (hc c b ob cb).1, (hc c b ob cb).2⟩
theorem Stt.ghost (s : Stt K G O H r σ) {p : Addr} {o : HO} (hp : H p = none) (hm : Mu (upd H p o) p) : Stt K (fun a => G a ∨ a = p) O (upd H p o) r σ := by
  have sm := same_upd (o := o) hp
  have rl : ∀ d v, Rl K (Av O G) H d v → Rl K (Av O fun a => G a ∨ a = p) (upd H p o) d v := fun d v z => z.move s.avm (fun a z h => z.elim .inl fun z => z.elim .inr fun z => absurd (z ▸ h) (no_th hp)) fun a u e _ _ => sm a u e
  refine ⟨fun a z => (s.wf a z).same sm, fun a z => ?_, s.len, fun i t e => (s.sl i t e).conv rl fun c a oa ca => ⟨oa, ca.imp rl (upd_ne fun z => (s.wf a oa).ne (z ▸ hp))⟩, s.ap, s.pf, s.pq, s.tb.ext sm⟩
  rcases z with z | z
  · exact ⟨(s.wg a z).1.same sm, (s.wg a z).2⟩
  · rw [z]; exact ⟨hm, fun w => (s.wf p w).ne hp⟩
/-- a thing of others changes -/
theorem Rl.other {A : Addr → Prop} {p : Addr} {o : HO} (hA : A p) (hm : Mu H p) {d : D} {v : V} (q : Rl K A H d v) : Rl K A (upd H p o) d v := by
  refine q.imp (fun a vs z => ?_) fun a vs z => ?_
  · rcases z with ⟨z, n⟩ | z
    · have np : a ≠ p := fun e => n (e ▸ hA)
      refine .inl ⟨?_, n⟩
      rcases z with z | ⟨u, z⟩
      · exact .inl ((upd_ne np).trans z)
      · exact .inr ⟨u, (upd_ne np).trans z⟩
    · exact .inr z
  · rcases z with (z | ⟨u, z⟩) | z
    · exact .inl (.inl ((upd_ne fun e => hm.notup (e ▸ z)).trans z))
    · exact .inl (.inr ⟨u, (upd_ne fun e => hm.nofrz (e ▸ z)).trans z⟩)
    · exact .inr z
theorem Stt.other (s : Stt K G O H r σ) {p : Addr} {o : HO} (hG : G p) (hm : Mu (upd H p o) p) : Stt K G O (upd H p o) r σ := by
  have rl : ∀ d v, Rl K (Av O G) H d v → Rl K (Av O G) (upd H p o) d v := fun d v z => z.other (.inr hG) (s.wg p hG).1
  have ne : ∀ a, O a → a ≠ p := fun a oa e => (s.wg p hG).2 (e ▸ oa)
  refine ⟨fun a z => (s.wf a z).of_eq (upd_ne (ne a z)), fun a z => ⟨?_, (s.wg a z).2⟩, s.len, fun i t e => (s.sl i t e).conv rl fun c a oa ca => ⟨oa, ca.imp rl (upd_ne (ne a oa))⟩, s.ap, s.pf, s.pq, tabs_upd (s.wg p hG).1 s.tb⟩
  by_cases q : a = p
  · rw [q]; exact hm
  · exact (s.wg a z).1.of_eq (upd_ne q)
theorem Ext.fresh {O O' : Addr → Prop} {H H' : Hp} (e : Ext O H O' H') {p : Addr} {o : HO} (hp : H p = none) (hm : H' p = none ∨ Mu H' p) (nt : Nt o) : Ext O H O' (upd H' p o) :=
  ⟨fun a u h n m => (upd_ne fun z => by rw [z, hp] at h; cases h).trans (e.keep a u h n m), fun a h => by
    by_cases z : a = p
    · exact absurd (z ▸ h) (no_th hp)
    · exact (e.dom a h).imp fun u q => ⟨(upd_ne z).trans q.1, q.2⟩, e.own, fun t => hm.elim (fun z => (e.tab t).ext (same_upd z)) fun z => tabs_upd z (e.tab t)⟩
def RB : (Addr → Prop) → Hp → Bool → Bool → Prop := fun _ _ a b => a = b
theorem so_opt {cond : E} (hc : SoT C L k cond) {c : Expr} (co : Cok X N sc fx W k) (F : Fx X L k C) (h0 : isNil cond = false) (h1 : testOk cond = true) (h2 : chkE N L sc fx cond c = true) :
    PT X c (fun σ H Q => ∃ G O r, Stt X.K G O H r σ ∧ Got X.K G RB W σ O H (optB cond (evE C L.gl cond) r) Q) := by
  have e : ∀ r, optB cond (evE C L.gl cond) r = (evE C L.gl cond r).bind fun x r1 => match x with
    | .bool b => .ok b r1
    | _ => .no := by
    intro r
    cases cond with
    | nil => cases h0
    | _ => rfl
  refine PT.imp (hc X N sc fx W c co F h1 h2) fun σ H Q ⟨G, O, r, s, g⟩ => ?_
  rw [e] at g
  refine ⟨G, O, r, s, g1 g fun O1 H1 r1 dx x e1 s1 q1 g' => ?_⟩
  cases q1 with
  | bl i => exact ⟨i, rfl, g_here g' s1 rfl⟩
  | _ => exact g'.elim
theorem lc_noex {step : D → Rho → R (Option D)} (h : ∀ x r c r', step x r ≠ .ex c r') : ∀ (xs : List D) (r : Rho) (c : Str) (r' : Rho), lcLoop step xs r ≠ .ex c r'
  | [], r, c, r' => fun z => by cases z
  | x :: xs, r, c, r' => fun z => by
    unfold lcLoop at z
    cases e : step x r with
    | ok o r1 =>
      rw [e] at z
      simp only [R.bind_ok] at z
      cases e2 : lcLoop step xs r1 with
      | ok ys r2 => rw [e2] at z; cases z
      | ex c2 r2 => exact lc_noex h xs r1 c2 r2 e2
      | no => rw [e2] at z; cases z
    | ex c2 r2 => exact h x r c2 r2 e
    | no => rw [e] at z; cases z
theorem PTs.imp {X : Cx} {e : List Expr} {t t' : TT} (h : PTs X e t) (w : ∀ σ H Q, t' σ H Q → t σ H Q) : PTs X e t' := ⟨fun pins s σ H Q I q => h.run pins s σ H Q I (w σ H Q q)⟩
def lcStep (C : Calls) (gl : List D) (elt : E) (t : Tg) (cond : E) (own : List Nat) : D → Rho → R (Option D) := fun x r => ((R.of r ((asgT t x r).map fun r' => ((), r'))).bind fun p _ => (optB cond (evE C gl cond) p.2).bind fun b r3 =>
        if b then (evE C gl elt r3).bind fun y r4 => .ok (some y) (wipeR r4 own) else .ok none (wipeR r3 own)).noex
theorem noex_ok {α : Type} {x : R α} {a : α} {r : Rho} (h : x.noex = .ok a r) : x = .ok a r := by
  cases x with
  | ok b r' => exact h
  | ex c r' => cases h
  | no => cases h
theorem bind_ok_inv {α β : Type} {x : R α} {f : α → Rho → R β} {b : β} {r : Rho} (h : x.bind f = .ok b r) : ∃ a r1, x = .ok a r1 ∧ f a r1 = .ok b r := by
  cases x with
  | ok a r' => exact ⟨a, r', rfl, h⟩
  | ex c r' => cases h
  | no => cases h
theorem step_inv {gl : List D} {elt cond : E} {t : Tg} {own : List Nat} {x : D} {r r1 : Rho} {o : Option D} (h : lcStep C gl elt t cond own x r = .ok o r1) :
    ∃ r' b r3, asgT t x r = some r' ∧ optB cond (evE C gl cond) r' = .ok b r3 ∧ ((b = true ∧ ∃ y r4, evE C gl elt r3 = .ok y r4 ∧ o = some y ∧ r1 = wipeR r4 own) ∨ (b = false ∧ o = none ∧ r1 = wipeR r3 own)) := by
  obtain ⟨p, _, e1, h⟩ := bind_ok_inv (noex_ok h)
  cases e : asgT t x r with
  | none => rw [e] at e1; cases e1
  | some r' =>
    rw [e] at e1
    cases e1
    obtain ⟨b, r3, e2, h⟩ := bind_ok_inv h
    refine ⟨r', b, r3, rfl, e2, ?_⟩
    cases b with
    | true =>
      obtain ⟨y, r4, e3, h⟩ := bind_ok_inv (show (evE C gl elt r3).bind _ = _ from h)
      cases h
      exact .inl ⟨rfl, y, r4, e3, rfl, rfl⟩
    | false =>
      cases (show R.ok none (wipeR r3 own) = R.ok o r1 from h)
      exact .inr ⟨rfl, rfl, rfl⟩
theorem loose_at {own : List Nat} (h : loose? r own = true) {i : Nat} (hi : i ∈ own) : r[i]? = some .non ∨ ∃ x, r[i]? = some (.d x) := by
  have h := List.all_eq_true.mp h i hi
  split at h
  · rename_i e; exact .inl e
  · rename_i x e; exact .inr ⟨x, e⟩
  · cases h
theorem Stt.back {r0 : Rho} {G' O0 : Addr → Prop} {H0 : Hp} {own : List Nat} (s0 : Stt K G O0 H0 r0 σ) (lo : loose? r0 own = true) (s : Stt K G' O H r (L2.wipe σ own)) (e : Ext O0 H0 O H) (hG : ∀ a, G a → G' a) : Stt K G O H (backR r0 r own) σ := by
  refine ⟨s.wf, fun a z => s.wg a (hG a z), by rw [backR_len, s.len, wipe_length], fun i t et => ?_, fun i j a h1 h2 e1 e2 => ?_, s.pf, fun i => ?_, s.tb⟩
  · rw [backR_get] at et
    split at et
    · rename_i hi
      split at et
      · have et : r0.getD i .non = t := Option.some.inj et
        rw [List.getD_eq_getElem?_getD] at et
        rcases loose_at lo hi with z | ⟨x, z⟩
        · rw [z] at et; subst et; trivial
        · rw [z] at et
          subst et
          obtain ⟨v, e1, q⟩ := s0.sl i _ z
          exact ⟨v, e1, q.ext s0.wf e⟩
      · cases et
    · rename_i hi
      have sr := s.sl i t et
      rw [wipe_get, if_neg hi] at sr
      exact sr.conv (fun d v q => q.less fun a z => z.elim .inl fun z => .inr (hG a z)) fun c a oa ca => ⟨oa, ca.imp (fun d v q => q.less fun a z => z.elim .inl fun z => .inr (hG a z)) rfl⟩
  · have no : ∀ i, i ∈ own → isOwn (backR r0 r own)[i]? = true → False := fun i hi h => by
      rw [backR_get, if_pos hi] at h
      split at h
      · rw [List.getD_eq_getElem?_getD] at h
        rcases loose_at lo hi with z | ⟨x, z⟩ <;> (rw [z] at h; cases h)
      · cases h
    have n1 : i ∉ own := fun hi => no i hi h1
    have n2 : j ∉ own := fun hi => no j hi h2
    rw [backR_get, if_neg n1] at h1
    rw [backR_get, if_neg n2] at h2
    refine s.ap i j a h1 h2 ?_ ?_
    · rw [wipe_get, if_neg n1]; exact e1
    · rw [wipe_get, if_neg n2]; exact e2
  · have q := s.pq i
    rw [wipe_get] at q
    rw [backR_get]
    by_cases m : i ∈ own
    · rw [if_pos m]
      split
      · rw [List.getD_eq_getElem?_getD]
        rcases loose_at lo m with z | ⟨x, z⟩ <;> (rw [z]; exact ⟨(fun z => nomatch z), (fun z => nomatch z)⟩)
      · exact ⟨(fun z => nomatch z), (fun z => nomatch z)⟩
    · rw [if_neg m]
      rw [if_neg m] at q
      exact q
theorem takesNone {X : Cx} : L2N.Takes X (fun _ _ _ _ => False) := fun _ _ ⟨_, _, _, _, _, _, _, _, _, _, _, _, _, _, _, _, z⟩ => z.elim
abbrev W0 : WX := fun _ _ _ _ => False
theorem own_map {own : List Nat} : ∀ (_ : own.all (fun i => (N[i]?).isSome) = true), (own.filterMap fun i => N[i]?.map fun x => (x, i)).map (·.2) = own := by
  induction own with
  | nil => intro _; rfl
  | cons i own ih =>
    intro h
    have h := ba (show ((N[i]?).isSome && own.all fun i => (N[i]?).isSome) = true from h)
    cases e : N[i]? with
    | none => exact absurd h.1 (by simp [e])
    | some x =>
      rw [List.filterMap_cons, e]
      show i :: _ = _
      rw [ih h.2]
def tOptB (K : PySem.W.Frag) (C : Calls) (gl : List D) (W : WX) (cond : E) : TT := fun σ H Q => ∃ G O r, Stt K G O H r σ ∧ Got K G RB W σ O H (optB cond (evE C gl cond) r) Q
set_option maxHeartbeats 4000000 in
theorem lc_core' {G O : Addr → Prop} {r : Rho} {elt it cond : E} {t : Tg} {own : List Nat} {Q : VK} (ht : ∀ i ∈ tgSlots t, i ∈ own) (s : Stt K G O H r σ) (g : Got K G (RD K G) W σ O H (evE C L.gl (.lc elt it t cond own) r) Q) :
    tLc (tI K W (evI C L.gl it)) (tTg K t) (tOptB K C L.gl W0 cond) (tE K W0 (evE C L.gl elt)) own σ H Q := by
  have g : Got K G (RD K G) W σ O H ((evI C L.gl it r).bind fun items r1 =>
    if loose? r1 own && decide (items.length ≤ lenLim) then (lcLoop (lcStep C L.gl elt t cond own) items (wipeR r1 own)).bind fun ys r5 => .ok (.list ys) (backR r1 r5 own) else .no) Q := g
  refine ⟨G, O, r, s, ?_⟩
  cases ei : evI C L.gl it r with
  | no => rw [ei] at g; exact g
  | ex c r' => rw [ei] at g; exact g
  | ok items r1 =>
    rw [ei] at g
    simp only [R.bind_ok] at g
    intro O1 H1 J e1 s1 wd D hD
    split at g
    rotate_left
    · exact g.elim
    rename_i hc
    obtain ⟨hl, hn⟩ := ba hc
    have hn := of_decide_eq_true hn
    cases el : lcLoop (lcStep C L.gl elt t cond own) items (wipeR r1 own) with
    | no => rw [el] at g; exact g.elim
    | ex c r' =>
      refine absurd el (lc_noex (fun x r c r' z => ?_) _ _ _ _)
      unfold lcStep R.noex at z
      split at z <;> cases z
    | ok ys r5 =>
      rw [el] at g
      simp only [R.bind_ok] at g
      obtain ⟨Gd, wk, hGd⟩ := wd
      have nD : ∀ a, Av O1 G a → a ≠ D := fun a z e => s1.avd a z (e ▸ hD)
      refine lc_it (g := tTg K t) (tt := tOptB K C L.gl W0 cond) (te := tE K W0 (evE C L.gl elt)) (vs := own) (σ := σ) (H1 := H1) (D := D) (Qd := fun H => Q (.ref D) H) wk (fun i Hc => ∃ Oc rc acc ds yr, Ext O1 H1 Oc Hc ∧ Stt K (fun a => G a ∨ a = D) Oc Hc rc (L2.wipe σ own) ∧ Hc D = some (.lst acc) ∧ acc.length ≤ i ∧ RlL K (Av Oc fun a => G a ∨ a = D) Hc ds acc ∧
        lcLoop (lcStep C L.gl elt t cond own) (items.drop i) rc = .ok yr r5 ∧ ds ++ yr = ys) ?_ ?_ ?_ ?_
      · exact ⟨O1, wipeR r1 own, [], [], ys, Ext.refl.fresh hD (.inl hD) (fun _ z => nomatch z), (s1.wipe own).ghost hD (.inl ⟨_, upd_same⟩), upd_same, Nat.le_refl _, .nil, el, rfl⟩
      · rintro i Hc _ ⟨Oc, rc, acc, ds, yr, ec, sc, _⟩
        exact hGd Hc fun a o h n m => ec.keep a o h (fun z => n (.inl z)) m
      · rintro i x Hc H' hi ⟨Oc, rc, acc, ds, yr, ec, sc, hD', hacc, qa, eL, eY⟩ y
        obtain ⟨sm, d, ed, qd⟩ := y (Av Oc fun a => G a ∨ a = D) (fun a z h => z.elim (fun z => .inl (ec.own a z h)) fun z => z.elim .inr fun z => absurd (z ▸ h) (no_th hD)) fun a o h n m => ec.keep a o h (fun z => n (.inl z)) m
        have hdrop : items.drop i = d :: items.drop (i + 1) := by
          obtain ⟨hlt, e⟩ := List.getElem?_eq_some_iff.mp ed
          rw [← e]
          exact List.drop_eq_getElem_cons hlt
        rw [hdrop] at eL
        obtain ⟨o, r1', es, eL⟩ := bind_ok_inv (show (lcStep C L.gl elt t cond own d rc).bind (fun o r1 => (lcLoop (lcStep C L.gl elt t cond own) (items.drop (i + 1)) r1).bind fun ys r2 => .ok (o.toList ++ ys) r2) = .ok yr r5 from eL)
        obtain ⟨ys', r2', eL2, eK⟩ := bind_ok_inv eL
        cases eK
        obtain ⟨r', b, r3, ea, eb, fin⟩ := step_inv es
        refine ⟨_, Oc, rc, d, r', sc.same sm, qd, ea, fun σ2 s2 l2 k2 => ?_⟩
        have ew : L2.wipe σ2 own = L2.wipe σ own := by
          rw [wipe_eq l2 fun j hj => k2 j fun z => hj (ht j z)]
          exact wipe_same
        refine ⟨ew, _, Oc, r', s2, ?_⟩
        rw [eb]
        rintro O3 H3 b' e3 s3 hb
        have hb : b = b' := hb
        subst hb
        have hD3 : H3 D = some (.lst acc) := e3.keep D _ (sm _ _ hD') (s2.wg D (.inr rfl)).2 fun _ z => nomatch z
        have qa3 := (qa.same sm).ext s2.wf e3
        rcases fin with ⟨eb', y, r4, ey, eo, er⟩ | ⟨eb', eo, er⟩
        · subst eb' eo er
          refine iteT ?_
          refine ⟨_, O3, r3, s3, ?_⟩
          rw [ey]
          intro O4 H4 yv e4 s4 q4
          have hD4 : H4 D = some (.lst acc) := e4.keep D _ hD3 (s3.wg D (.inr rfl)).2 fun _ z => nomatch z
          have mu : Mu (upd H4 D (.lst (acc ++ [yv]))) D := .inl ⟨_, upd_same⟩
          have mu4 : Mu H4 D := .inl ⟨_, hD4⟩
          have s4' := s4.wipe own
          rw [ew] at s4'
          refine ⟨acc, hD4, Nat.lt_of_lt_of_le (Nat.lt_of_le_of_lt hacc (Nat.lt_of_lt_of_le hi hn)) (by decide), O4, _, _, ds ++ [y], ys', (((ec.trans (.same sm)).trans e3).trans e4).fresh hD (.inr mu4) (fun _ z => nomatch z), s4'.other (.inr rfl) mu, upd_same, ?_, ?_, eL2, ?_⟩
          · simpa using hacc
          · exact ((qa3.ext s3.wf e4).append (.cons q4 .nil)).imp' fun d v z => z.other (.inr (.inr rfl)) mu4
          · rw [← eY]; simp
        · subst eb' eo er
          refine iteF ?_
          have s3' := s3.wipe own
          rw [ew] at s3'
          exact ⟨O3, _, acc, ds, ys', (ec.trans (.same sm)).trans e3, s3', hD3, Nat.le_succ_of_le hacc, qa3, eL2, by rw [← eY]; rfl⟩
      · rintro Hc ⟨Oc, rc, acc, ds, yr, ec, sc, hD', hacc, qa, eL, eY⟩
        rw [List.drop_length] at eL
        cases eL
        rw [List.append_nil] at eY
        subst eY
        exact g Oc Hc _ (e1.trans ec) (s1.back hl sc ec fun a z => .inl z) (.lst (.inl ⟨.inl hD', fun z => z.elim (fun z => (sc.wg D (.inr rfl)).2 z) fun z => nD D (.inr z) rfl⟩) (qa.less fun a z => z.elim .inl fun z => .inr (.inl z)))
theorem so_lc {elt it cond : E} {t : Tg} {own : List Nat} (he : SoE C L k elt) (hi : SoI C L k it) (hc : SoT C L k cond) : SoE C L k (.lc elt it t cond own) := fun X N sc fx W e c F h => by
  unfold chkE at h
  split at h
  · rename_i y tg iter ifs scope pos
    obtain ⟨nl, h⟩ := ba h
    obtain ⟨h1, h⟩ := ba h
    obtain ⟨h2, h⟩ := ba h
    obtain ⟨h3, h⟩ := ba h
    obtain ⟨h4, h⟩ := ba h
    obtain ⟨h5, h⟩ := ba h
    obtain ⟨h6, h⟩ := ba h
    obtain ⟨h7, h8⟩ := ba h
    have hN : X.N.Nodup := by rw [c.eN]; exact c.nd
    have ok : BlkOk X.N X.env.scope scope (own.filterMap fun i => N[i]?.map fun x => (x, i)) := by
      rw [c.eN, c.sc]
      exact blkOk_by h1
    have cok : ∀ (s : Shared) (H : Hp) (D : Addr) (cl : List (Str × Addr)) (fp : List Addr), Cok (X.blk s H scope (compEnvC scope cl D X.env) fp) N (relS scope sc) (fun x => scope.names.lookup x == some .cell) W0 k := fun s H D cl fp =>
      ⟨c.eN, c.nd, by rw [← c.sc]; rfl, fun x h => h, c.calm, takesNone, c.rm, fun z => absurd z (by simpa using nl)⟩
    have fok : ∀ (s : Shared) (H : Hp) (D : Addr) (cl : List (Str × Addr)) (fp : List Addr), Fx (X.blk s H scope (compEnvC scope cl D X.env) fp) L k C := fun s H D cl fp =>
      ⟨F.blt, F.gl, F.fn, F.ex, F.tl⟩
    have om := own_map (N := N) (of_decide_eq_true h2)
    have pe := pe_lc (ifs := ifs) (pos := pos) c.calm hN (hi X N sc fx W tg iter (tupB tg) c F id h4) ok (fun s H D cl fp => so_tg (cok s H D cl fp) h6) (g := tTg X.K t) (te := tE X.K W0 (evE C L.gl elt)) (tt := tOptB X.K C L.gl W0 cond) (fun s H D cl fp => ?_) (fun s H D cl fp => he _ N _ _ W0 y (cok s H D cl fp) (fok s H D cl fp) h7) (set_no h3)
    · refine PE.imp pe fun σ H Q ⟨G, O, r, s, g⟩ => ?_
      rw [om]
      exact lc_core' (fun i hi => of_decide_eq_true (List.all_eq_true.mp h5 i hi)) s g
    · split at h8
      · have ec : cond = .nil := by cases cond <;> first | rfl | cases h8
        subst ec
        exact PTs.imp pts_nil fun σ H Q ⟨G, O, r, s, g⟩ => g_here g s rfl
      · obtain ⟨n1, h8⟩ := ba h8
        obtain ⟨n2, n3⟩ := ba h8
        exact PTs.imp (pts_one (so_opt hc (cok s H D cl fp) (fok s H D cl fp) (by simpa using n1) n2 n3)) fun σ H Q q => q
      · cases h8
  · cases h
/-! ### a lambda told -/
theorem so_tell {h : Nat} {b : E} (hb : SoE C L k b) : SoE C L k (.tell h b) := fun X N sc fx W e c F hc => by
  unfold chkE at hc
  split at hc
  · rename_i x p params body scope lpos pos
    obtain ⟨h1, hc⟩ := ba hc
    obtain ⟨h2, hc⟩ := ba hc
    obtain ⟨h3, hc⟩ := ba hc
    obtain ⟨h4, hc⟩ := ba hc
    obtain ⟨h5, hc⟩ := ba hc
    obtain ⟨h6, h7⟩ := ba hc
    have lam : LamX.LamS X.env.scope scope := by
      rw [c.sc]
      exact LamX.lamS_by h5
    have told := F.tl h x (of_decide_eq_true h1) X rfl rfl rfl rfl rfl W (evE C L.gl b) params body scope p lpos pos (c.gl h2) (dun_ok h3).1 (c.lm h4) c.calm c.tk h6 lam fun A outer s H E f c' room => ?_
    · exact PE.imp told fun σ H Q q => q
    · exact hb (lamN X A outer s H E scope f c') N scope (fun _ => false) (fun cls d _ H' => E cls d H') body
        ⟨c.eN, c.nd, rfl, (fun _ z => nomatch z), rfl, L2N.takes_of rfl rfl rfl rfl, room, (fun z => nomatch z)⟩ ⟨F.blt, F.gl, F.fn, F.ex, F.tl⟩ h7
  · cases hc
/-! ### all expressions -/
theorem so_none {ir : E} (he : ∀ (N : List Str) (sc : Scope) (fx : Str → Bool) (e : Expr), chkE N L sc fx ir e ≠ true) (hd : SoDs C L k ir) (ha : SoAs C L k ir) (hi : SoI C L k ir) : So C L k ir :=
  ⟨fun X N sc fx W e c F h => absurd h (he N sc fx e), fun X N sc fx W e c F _ h => absurd h (he N sc fx e), fun X N sc fx W op vs p c F _ h => absurd h (he N sc fx _), hd, ha, hi⟩
theorem no_l {ir : E} (h : ∀ (N : List Str) (sc : Scope) (fx : Str → Bool) (es : List Expr), chkL N L sc fx ir es ≠ true) : SoDs C L k ir := fun X N sc fx W es c F z => absurd z (h N sc fx es)
theorem no_a {ir : E} (h : ∀ (N : List Str) (sc : Scope) (fx : Str → Bool) (es : List Expr), chkL N L sc fx ir es ≠ true) : SoAs C L k ir := fun X N sc fx W es c F z => absurd z (h N sc fx es)
theorem no_i {ir : E} (h : ∀ (N : List Str) (sc : Scope) (fx : Str → Bool) (b : Bool) (e : Expr), chkI N L sc fx ir b e ≠ true) : SoI C L k ir := fun X N sc fx W tg e b c F _ z => absurd z (h N sc fx b e)
theorem so_tst {ir : E} (he : SoE C L k ir) (ht : SoT C L k ir) (hw : SoW C L k ir) (hl : ∀ (N : List Str) (sc : Scope) (fx : Str → Bool) (es : List Expr), chkL N L sc fx ir es ≠ true)
    (hi : ∀ (N : List Str) (sc : Scope) (fx : Str → Bool) (b : Bool) (e : Expr), chkI N L sc fx ir b e ≠ true) : So C L k ir := ⟨he, ht, hw, no_l hl, no_a hl, no_i hi⟩
/-- walked alone -/
theorem so_wlk {ir : E} (he : ∀ (N : List Str) (sc : Scope) (fx : Str → Bool) (e : Expr), chkE N L sc fx ir e ≠ true) (hl : ∀ (N : List Str) (sc : Scope) (fx : Str → Bool) (es : List Expr), chkL N L sc fx ir es ≠ true) (hi : SoI C L k ir) : So C L k ir := so_none he (no_l hl) (no_a hl) hi
/-- a list alone -/
theorem so_lsa {ir : E} (he : ∀ (N : List Str) (sc : Scope) (fx : Str → Bool) (e : Expr), chkE N L sc fx ir e ≠ true) (hd : SoDs C L k ir) (ha : SoAs C L k ir) (hi : ∀ (N : List Str) (sc : Scope) (fx : Str → Bool) (b : Bool) (e : Expr), chkI N L sc fx ir b e ≠ true) : So C L k ir := so_none he hd ha (no_i hi)
theorem so_nilBT (i : Nat) (op : CmpOp) : SoT C L k (.nilB i op) := fun X N sc fx W e c F _ h => by
  cases e with
  | Compare l os rs p =>
    cases l with
    | Name x p2 =>
      match os, rs, h with
      | [o], [.List [] p3], h =>
        obtain ⟨h1, h⟩ := ba h
        obtain ⟨h3, h⟩ := ba h
        obtain ⟨h4, h5⟩ := ba h
        obtain ⟨d1, d2⟩ := dun_ok h5
        have eo : o = op := of_decide_eq_true h1
        subst eo
        refine PT.imp (pt_cmpR (op_cmp' c.rm.units o) (pe_var (c.nm h3) (c.vis h4) d1 d2) (pe_lst pa_nil) (by cases o <;> rfl)) fun σ H Q ⟨G, O, r, s, g⟩ => ?_
        simp only [evE] at g
        split at g
        · rename_i ds e
          split at g
          · rename_i hsh
            obtain ⟨a, vs, e1, hs, ql⟩ := lst_at s e
            refine ⟨_, e1, Nat.zero_le _, fun p hp => ?_⟩
            have sm := same_upd (o := .lst []) hp
            have hs' : SqL X.K (upd H p (.lst [])) a vs := sm.seq hs
            have r1 : Rl X.K (fun _ => False) (upd H p (.lst [])) (.list ds) (.ref a) := by
              refine .lst ?_ ((ql.less fun _ z => z.elim).same sm)
              rcases hs' with z | z
              · exact .inl ⟨z, id⟩
              · exact .inr z
            have r2 : Rl X.K (fun _ => False) (upd H p (.lst [])) (.list []) (.ref p) := .lst (.inl ⟨.inl upd_same, id⟩) .nil
            have sh0 : SeqAt.shaped (.list []) = true := by decide +kernel
            cases o with
            | Eq => exact ⟨_, .list ds, .list [], .bool ds.isEmpty, fun _ z => z.elim, r1, r2, by simp [dCmp, shaped2, hsh, sh0, eqv_nil], fun H' v sm' rv => by cases rv; exact g O H' _ (.same (fun b u w => sm' b u (sm b u w))) (s.same fun b u w => sm' b u (sm b u w)) (.bl _)⟩
            | NotEq => exact ⟨_, .list ds, .list [], .bool (!ds.isEmpty), fun _ z => z.elim, r1, r2, by simp [dCmp, shaped2, hsh, sh0, eqv_nil], fun H' v sm' rv => by cases rv; exact g O H' _ (.same (fun b u w => sm' b u (sm b u w))) (s.same fun b u w => sm' b u (sm b u w)) (.bl _)⟩
            | _ => exact g.elim
          · exact g.elim
        · exact g.elim
    | _ => cases h
  | _ => cases h
end
section
variable (C : Calls) (L : Lex) (k : Nat)
theorem so_all : ∀ ir : E, So C L k ir
  | .nil => so_lsa (fun N sc fx e h => by cases h) so_nilDs so_nilAs (fun N sc fx b e h => by cases h)
  | .cons a b => so_lsa (fun N sc fx e h => by cases h) (so_consDs (so_all a).e (so_all b).ds) (so_consAs (so_all a).e (so_all b).as) (fun N sc fx b e h => by cases h)
  | .kI i => so_val (so_kI i) (fun N sc fx e h => by cases e <;> first | rfl | cases h) (fun N sc fx es h => by cases h) (fun N sc fx b e h => by cases h)
  | .kS i => so_val (so_kS i) (fun N sc fx e h => by cases e <;> first | rfl | cases h) (fun N sc fx es h => by cases h) (fun N sc fx b e h => by cases h)
  | .kB i => so_val (so_kB i) (fun N sc fx e h => by cases e <;> first | rfl | cases h) (fun N sc fx es h => by cases h) (fun N sc fx b e h => by cases h)
  | .kN => so_val so_kN (fun N sc fx e h => by cases e <;> first | rfl | cases h) (fun N sc fx es h => by cases h) (fun N sc fx b e h => by cases h)
  | .v i => so_val (so_v i) (fun N sc fx e h => by cases e <;> first | rfl | cases h) (fun N sc fx es h => by cases h) (fun N sc fx b e h => by cases h)
  | .gl j => so_val (so_gl j) (fun N sc fx e h => by cases e <;> first | rfl | cases h) (fun N sc fx es h => by cases h) (fun N sc fx b e h => by cases h)
  | .bin op a b => so_val (so_bin (so_all a).e (so_all b).e) (fun N sc fx e h => by cases e <;> first | rfl | cases h) (fun N sc fx es h => by cases h) (fun N sc fx b e h => by cases h)
  | .neg a => so_val (so_neg (so_all a).e) (fun N sc fx e h => by
      cases e with
      | UnaryOp op x p => cases op <;> first | rfl | cases h
      | _ => cases h) (fun N sc fx es h => by cases h) (fun N sc fx b e h => by cases h)
  | .nt a => so_tst (so_nt (so_all a).e) (so_ntT (so_all a).t) (fun X N sc fx W op vs p c F _ h => by cases h) (fun N sc fx es h => by cases h) (fun N sc fx b e h => by cases h)
  | .band a b => so_tst (so_band (so_all a).e (so_all b).e) (so_boolT (so_bandW (so_all a).t (so_all b).w) (fun N sc fx e h => by cases e <;> first | exact ⟨_, _, _, rfl⟩ | cases h)) (so_bandW (so_all a).t (so_all b).w) (fun N sc fx es h => by cases h) (fun N sc fx b e h => by cases h)
  | .bor a b => so_tst (so_bor (so_all a).e (so_all b).e) (so_boolT (so_borW (so_all a).t (so_all b).w) (fun N sc fx e h => by cases e <;> first | exact ⟨_, _, _, rfl⟩ | cases h)) (so_borW (so_all a).t (so_all b).w) (fun N sc fx es h => by cases h) (fun N sc fx b e h => by cases h)
  | .one a => so_tst (so_one (so_all a).e) (so_boolT (so_oneW (so_all a).t) (fun N sc fx e h => by cases e <;> first | exact ⟨_, _, _, rfl⟩ | cases h)) (so_oneW (so_all a).t) (fun N sc fx es h => by cases h) (fun N sc fx b e h => by cases h)
  | .cmp op a b => so_tst (so_cmp (so_all a).e (so_all b).e) (so_cmpT (so_all a).e (so_all b).e) (fun X N sc fx W op vs p c F _ h => by cases h) (fun N sc fx es h => by cases h) (fun N sc fx b e h => by cases h)
  | .chn op op' a b c => so_tst (so_chn (so_all a).e (so_all b).e (so_all c).e) (so_chnT (so_all a).e (so_all b).e (so_all c).e) (fun X N sc fx W op vs p c F _ h => by cases h) (fun N sc fx es h => by cases h) (fun N sc fx b e h => by cases h)
  | .ite c a b => so_tst (so_ite (so_all c).t (so_all a).e (so_all b).e) (fun X N sc fx W e c F h _ => by cases h) (fun X N sc fx W op vs p c F h _ => by cases h) (fun N sc fx es h => by cases h) (fun N sc fx b e h => by cases h)
  | .call f as => so_val (so_call (so_all as).as) (fun N sc fx e h => by cases e <;> first | rfl | cases h) (fun N sc fx es h => by cases h) (fun N sc fx b e h => by cases h)
  | .bi b as => so_val (so_bi (so_all as).ds) (fun N sc fx e h => by cases e <;> first | rfl | cases h) (fun N sc fx es h => by cases h) (fun N sc fx b e h => by cases h)
  | .isi a t => so_val (so_isi (so_all a).e) (fun N sc fx e h => by cases e <;> first | rfl | cases h) (fun N sc fx es h => by cases h) (fun N sc fx b e h => by cases h)
  | .tup as => so_val (so_tup (so_all as).ds) (fun N sc fx e h => by cases e <;> first | rfl | cases h) (fun N sc fx es h => by cases h) (fun N sc fx b e h => by cases h)
  | .lst as => so_val (so_lst (so_all as).ds) (fun N sc fx e h => by cases e <;> first | rfl | cases h) (fun N sc fx es h => by cases h) (fun N sc fx b e h => by cases h)
  | .ix a b => so_val (so_ix (so_all a).e (so_all b).e) (fun N sc fx e h => by cases e <;> first | rfl | cases h) (fun N sc fx es h => by cases h) (fun N sc fx b e h => by cases h)
  | .sl a lo hi => so_val (so_sl (so_all a).e (so_all lo).e (so_all hi).e) (fun N sc fx e h => by cases e <;> first | rfl | cases h) (fun N sc fx es h => by cases h) (fun N sc fx b e h => by cases h)
  | .revT a => so_val (so_revT (so_all a).e) (fun N sc fx e h => by cases e <;> first | rfl | cases h) (fun N sc fx es h => by cases h) (fun N sc fx b e h => by cases h)
  | .rev a => so_val (so_rev (so_all a).e) (fun N sc fx e h => by cases e <;> first | rfl | cases h) (fun N sc fx es h => by cases h) (fun N sc fx b e h => by cases h)
  | .lc elt it t cond own => so_val (so_lc (so_all elt).e (so_all it).i (so_all cond).t) (fun N sc fx e h => by cases e <;> first | rfl | cases h) (fun N sc fx es h => by cases h) (fun N sc fx b e h => by cases h)
  | .iStr a => so_wlk (fun N sc fx e h => by cases h) (fun N sc fx es h => by cases h) (so_iStr (so_all a).e)
  | .iSeq a => so_wlk (fun N sc fx e h => by cases h) (fun N sc fx es h => by cases h) (so_iSeq (so_all a).e)
  | .iRng a b => so_wlk (fun N sc fx e h => by cases h) (fun N sc fx es h => by cases h) (so_iRng (so_all a).e (so_all b).e)
  | .iZip a b => so_wlk (fun N sc fx e h => by cases h) (fun N sc fx es h => by cases h) (so_iZip (so_all a).e (so_all b).e)
  | .iEnum a => so_wlk (fun N sc fx e h => by cases h) (fun N sc fx es h => by cases h) (so_iEnum (so_all a).e)
  | .lRng a => so_val (so_lRng (so_all a).e) (fun N sc fx e h => by cases e <;> first | rfl | cases h) (fun N sc fx es h => by cases h) (fun N sc fx b e h => by cases h)
  | .nilB i op => so_tst (so_nilB i op) (so_nilBT i op) (fun X N sc fx W op vs p c F _ h => by cases h) (fun N sc fx es h => by cases h) (fun N sc fx b e h => by cases h)
  | .lenB i => so_val (so_lenB i) (fun N sc fx e h => by cases e <;> first | rfl | cases h) (fun N sc fx es h => by cases h) (fun N sc fx b e h => by cases h)
  | .ixB i kk => so_val (so_ixB i kk) (fun N sc fx e h => by cases e <;> first | rfl | cases h) (fun N sc fx es h => by cases h) (fun N sc fx b e h => by cases h)
  | .popB i kk => so_val (so_popB i kk) (fun N sc fx e h => by cases e <;> first | rfl | cases h) (fun N sc fx es h => by cases h) (fun N sc fx b e h => by cases h)
  | .tell h b => so_val (so_tell (so_all b).e) (fun N sc fx e h => by cases e <;> first | rfl | cases h) (fun N sc fx es h => by cases h) (fun N sc fx b e h => by cases h)
  | .mt m a as => so_val (so_mt (so_all a).e (so_all as).ds) (fun N sc fx e h => by cases e <;> first | rfl | cases h) (fun N sc fx es h => by cases h) (fun N sc fx b e h => by cases h)
end
end Ev
end
section
set_option Elab.async false
set_option maxRecDepth 100000
set_option linter.all false
set_option autoImplicit false
set_option maxHeartbeats 1200000
/-! Ev13: fresh lists; statements: their evaluator, and what a piece of the text must look like. -/
namespace Ev
open PySem PySem.Spec PyProof.Rows L2
open He (ba)
/-! ### the evaluator of statements -/
inductive Fl where
  | nx (r : Rho) | rt (v : Rv) (r : Rho) | bk (r : Rho) | ct (r : Rho) | ex (c : Str) (r : Rho) | no
def R.fl {α : Type} (x : R α) (f : α → Rho → Fl) : Fl := match x with
  | .ok a r => f a r
  | .ex c r => .ex c r
  | .no => .no
@[simp] theorem R.fl_ok {α : Type} (a : α) (r : Rho) (f : α → Rho → Fl) : (R.ok a r).fl f = f a r := rfl
@[simp] theorem R.fl_ex {α : Type} (c : Str) (r : Rho) (f : α → Rho → Fl) : (R.ex c r : R α).fl f = .ex c r := rfl
@[simp] theorem R.fl_no {α : Type} (f : α → Rho → Fl) : (R.no : R α).fl f = .no := rfl
def Fl.of : Option Rho → Fl
  | some r => .nx r
  | none => .no
@[simp] theorem Fl.of_some (r : Rho) : Fl.of (some r) = .nx r := rfl
@[simp] theorem Fl.of_none : Fl.of none = .no := rfl
def Fl.andThen (x : Fl) (f : Rho → Fl) : Fl := match x with
  | .nx r => f r
  | .rt v r => .rt v r
  | .bk r => .bk r
  | .ct r => .ct r
  | .ex c r => .ex c r
  | .no => .no
@[simp] theorem Fl.then_nx (r : Rho) (f : Rho → Fl) : (Fl.nx r).andThen f = f r := rfl
@[simp] theorem Fl.then_rt (v : Rv) (r : Rho) (f : Rho → Fl) : (Fl.rt v r).andThen f = .rt v r := rfl
@[simp] theorem Fl.then_bk (r : Rho) (f : Rho → Fl) : (Fl.bk r).andThen f = .bk r := rfl
@[simp] theorem Fl.then_ct (r : Rho) (f : Rho → Fl) : (Fl.ct r).andThen f = .ct r := rfl
@[simp] theorem Fl.then_ex (c : Str) (r : Rho) (f : Rho → Fl) : (Fl.ex c r).andThen f = .ex c r := rfl
@[simp] theorem Fl.then_no (f : Rho → Fl) : Fl.no.andThen f = .no := rfl
def forLoop (step : D → Rho → Fl) : List D → Rho → Fl
  | [], r => .nx r
  | x :: xs, r => match step x r with
    | .nx r1 => forLoop step xs r1
    | .ct r1 => forLoop step xs r1
    | .bk r1 => .nx r1
    | .rt v r1 => .rt v r1
    | .ex c r1 => .ex c r1
    | .no => .no
def whLoop (c : Rho → R D) (b : Rho → Fl) : Nat → Rho → Fl
  | 0, _ => .no
  | n + 1, r => (c r).fl fun x r1 => match x with
    | .bool true => (match b r1 with
      | .nx r2 => whLoop c b n r2
      | .ct r2 => whLoop c b n r2
      | .bk r2 => .nx r2
      | .rt v r2 => .rt v r2
      | .ex c r2 => .ex c r2
      | .no => .no)
    | .bool false => .nx r1
    | _ => .no
/-- names stored one after another -/
def putL (r : Rho) : List Nat → List D → Option Rho
  | [], [] => some r
  | i :: is, x :: xs => (put r i (.d x)).bind fun r1 => putL r1 is xs
  | _, _ => none
section
variable (C : Calls) (gl : List D) (fuel : Nat)
/-- what a name is to own -/
def evF : E → Rho → R Rv
  | .lst as, r => (evDs C gl as r).bind fun xs r1 => if xs.length ≤ lenLim then .ok (.fr xs) r1 else .no
  | .call f as, r => (evAs C gl as r).bind fun avs r1 => doCall C f avs r1
  | .bin .Add a b, r => (evE C gl a r).bind fun x r1 => (evE C gl b r1).bind fun y r2 => match x, y with
    | .list xs, .list ys => if xs.length + ys.length ≤ lenLim then .ok (.fr (xs ++ ys)) r2 else .no
    | _, _ => .no
  | _, _ => .no
def isFE : E → Bool
  | .lst _ => true
  | .call _ _ => true
  | .bin .Add _ _ => true
  | _ => false
def evS : S → Rho → Fl
  | .skip, r => .nx r
  | .seq a b, r => (evS a r).andThen (evS b)
  | .set i e, r => (evE C gl e r).fl fun x r1 => .of (put r1 i (.d x))
  | .setO i e, r => (evF C gl e r).fl fun v r1 => match v with
    | .fr ds => .of (put r1 i (.own (.lst ds)))
    | _ => .no
  | .asg t e, r => (evE C gl e r).fl fun x r1 => .of (asgT t x r1)
  | .par ts es, r => (evDs C gl es r).fl fun xs r1 => .of (putL r1 (ts.map (·.1)) xs)
  | .app i e, r => match mutAt r i with
    | none => .no
    | some _ => (evE C gl e r).fl fun x r1 => match mutAt r1 i with
      | some ds => if ds.length < lenLim then .nx (putC r1 i (.lst (ds ++ [x]))) else .no
      | none => .no
  | .setIx i k e, r => (evE C gl e r).fl fun x r1 => match mutAt r1 i with
    | some ds => match ixP ds.length k with
      | some j => .nx (putC r1 i (.lst (ds.set j x)))
      | none => .no
    | none => .no
  | .fr t it b, r => (evI C gl it r).fl fun items r1 => forLoop (fun x r => (Fl.of (asgT t x r)).andThen (evS b)) items r1
  | .wh c b, r => whLoop (evE C gl c) (evS b) fuel r
  | .ifs c a b, r => (evE C gl c r).fl fun x r1 => match x with
    | .bool true => evS a r1
    | .bool false => evS b r1
    | _ => .no
  | .ret e, r => (evE C gl e r).fl fun x r1 => .rt (.d x) r1
  | .retO i, r => match r[i]? with
    | some (.own (.lst ds)) => .rt (.fr ds) r
    | _ => .no
  | .retF e, r => (evF C gl e r).fl fun v r1 => match v with
    | .par _ => .no
    | v => .rt v r1
  | .retN, r => .rt (.d .none) r
  | .rs c, r => .ex c r
  | .ex e, r => (evE C gl e r).fl fun _ r1 => .nx r1
  | .brk, r => .bk r
  | .cnt, r => .ct r
end

/-! ### the text -/
def pNone (sc : Scope) (ts vs : List Expr) : Nat :=
  if !(ts.length == 2 || ts.length == 3) || vs.length != ts.length then 0
  else if vs.any (fun | .Starred .. => true | _ => false) then 0
  else if (ts.filterMap fun | .Name id pos => if sc.names.lookup id == some .local && pos.line == (ts.head?.map (·.pos.line)).getD 0 then some id else none | _ => none).length != ts.length || (ts.filterMap fun | .Name id pos => if sc.names.lookup id == some .local && pos.line == (ts.head?.map (·.pos.line)).getD 0 then some id else none | _ => none).eraseDups.length != (ts.filterMap fun | .Name id pos => if sc.names.lookup id == some .local && pos.line == (ts.head?.map (·.pos.line)).getD 0 then some id else none | _ => none).length then 0
  else if vs.all (foldedForSure 8) then 0
  else if vs.all (constantsAlone 8) then 2 else 1
theorem swp_none {env : Env} {ts vs : List Expr} {k k2 : Nat} {p p2 : Pos} (hk : env.scope.kind = .function) (h : pNone env.scope ts vs = 0) : swappedStores [.Tuple ts k p] (.Tuple vs k2 p2) env = pure none := by
  have hb : env.blockKind = .function := by simp [Env.blockKind, hk]
  unfold pNone at h
  unfold swappedStores
  simp only [hb]
  have e0 : ((ScopeKind.function != ScopeKind.function) = false) := rfl
  rw [e0, Bool.or_false]
  split at h
  · rename_i h1; rw [if_pos h1]
  · rename_i h1
    rw [if_neg h1]
    split at h
    · rename_i h2; exact if_pos h2
    · rename_i h2
      refine (if_neg h2).trans ?_
      split at h
      · rename_i h3; exact if_pos h3
      · rename_i h3
        refine (if_neg h3).trans ?_
        split at h
        · rename_i h4; exact if_pos h4
        · split at h <;> cases h
theorem swp_some {env : Env} {ts vs : List Expr} {k k2 : Nat} {p p2 : Pos} (hk : env.scope.kind = .function) (h : pNone env.scope ts vs = 1) : swappedStores [.Tuple ts k p] (.Tuple vs k2 p2) env = pure (some (ts.filterMap fun | .Name id pos => if env.scope.names.lookup id == some .local && pos.line == (ts.head?.map (·.pos.line)).getD 0 then some id else none | _ => none)) := by
  have hb : env.blockKind = .function := by simp [Env.blockKind, hk]
  unfold pNone at h
  unfold swappedStores
  simp only [hb]
  have e0 : ((ScopeKind.function != ScopeKind.function) = false) := rfl
  rw [e0, Bool.or_false]
  split at h
  · cases h
  · rename_i h1
    rw [if_neg h1]
    split at h
    · cases h
    · rename_i h2
      refine (if_neg h2).trans ?_
      split at h
      · cases h
      · rename_i h3
        refine (if_neg h3).trans ?_
        split at h
        · cases h
        · rename_i h4
          refine (if_neg h4).trans ?_
          split at h
          · cases h
          · rename_i h5
            exact if_neg h5
end Ev
end
section
set_option Elab.async false
set_option maxRecDepth 100000
set_option linter.all false
set_option autoImplicit false
set_option maxHeartbeats 1200000
/-! Ev14: each statement of the small language keeps the machine's road. -/
namespace Ev
open PySem PySem.Spec PyProof.Rows L2
open He (ba)
variable [Tbls] [Fr]
section
variable (N : List Str) (L : Lex)
def swB (sc : Scope) (v : Expr) (y : Str) (py : Pos) : Bool := match v with
  | .ListComp _ _ s pos => (sc.names.lookup y == some .local && py.line == pos.line) && !(s.names.any fun (n, k) => n == y && (k == .local || k == .cell))
  | _ => false
def notSD : Expr → Bool
  | .SetComp _ _ _ _ => false
  | .DictComp _ _ _ _ _ => false
  | _ => true
mutual
/-- one statement -/
def chk1 (sc : Scope) (fx : Str → Bool) : S → Stmt → Bool
  | .set i e => fun st => match st with
    | .Assign [.Name x p] v q => nmB N i x && (locB sc fx x && (chkE N L sc fx e v && notSD v))
    | _ => false
  | .setO i e => fun st => match st with
    | .Assign [.Name x p] v q => nmB N i x && (locB sc fx x && (chkE N L sc fx e v && (isFE e && swapB v)))
    | _ => false
  | .asg t e => fun st => match st with
    | .Assign [.Tuple es k p] v q => chkT N sc fx t (.Tuple es k p) && (chkE N L sc fx e v && (notSD v && (match v with
      | .Tuple vs _ _ => pNone sc es vs == 0
      | _ => true)))
    | _ => false
  | .par ts es => fun st => match ts, st with
    | [(i, _), (j, _)], .Assign [.Tuple [.Name x px, .Name y py] k p] (.Tuple [a, b] k2 p2) q => decide (i ≠ j) && (nmB N i x && (nmB N j y && (decide (sc.names.lookup x = some .local) && (decide (sc.names.lookup y = some .local) && (py.line == px.line &&
      (pNone sc [.Name x px, .Name y py] [a, b] == 1 && chkL N L sc fx es [a, b]))))))
    | [(i, _), (j, _), (l, _)], .Assign [.Tuple [.Name x px, .Name y py, .Name z pz] k p] (.Tuple [a, b, d] k2 p2) q => decide (i ≠ j ∧ i ≠ l ∧ j ≠ l) && (nmB N i x && (nmB N j y && (nmB N l z && (decide (sc.names.lookup x = some .local) && (decide (sc.names.lookup y = some .local) && (decide (sc.names.lookup z = some .local) &&
      (py.line == px.line && (pz.line == px.line && (pNone sc [.Name x px, .Name y py, .Name z pz] [a, b, d] == 1 && chkL N L sc fx es [a, b, d])))))))))
    | _, _ => false
  | .app i e => fun st => match st with
    | .Expr (.Call (.Attribute (.Name x p2) m p) [y] [] q) _ => decide (m = Str.ofString "append" ∧ p.endLine = q.line) && (noStar y && (chkE N L sc fx e y && (nmB N i x && (visB sc x && dunB x))))
    | _ => false
  | .setIx i k e => fun st => match st with
    | .Assign [.Subscript (.Name x _) y _] v q => litI k y && (swapB v && (chkE N L sc fx e v && (nmB N i x && (visB sc x && dunB x))))
    | _ => false
  | .fr t it b => fun st => match st with
    | .For tg iter body [] _ => setB iter && (chkI N L sc fx it (tupB tg) iter && (chkT N sc fx t tg && chkS sc fx b body))
    | _ => false
  | .wh c b => fun st => match st with
    | .While test body [] _ => testOk c && (chkE N L sc fx c test && chkS sc fx b body)
    | _ => false
  | .ifs c a b => fun st => match st with
    | .If test x y _ => testOk c && (chkE N L sc fx c test && (chkS sc fx a x && chkS sc fx b y))
    | _ => false
  | .ret e => fun st => match st with
    | .Return (some v) _ => chkE N L sc fx e v
    | _ => false
  | .retO i => fun st => match st with
    | .Return (some (.Name x _)) _ => nmB N i x && (visB sc x && dunB x)
    | _ => false
  | .retF e => fun st => match st with
    | .Return (some v) _ => isFE e && chkE N L sc fx e v
    | _ => false
  | .retN => fun st => match st with
    | .Return none _ => true
    | _ => false
  | .rs c => fun st => match st with
    | .Raise (some (.Call (.Name x _) [.Constant (.str _) _ _] [] _)) none _ => decide (x = c ∧ c ∈ L.exn) && (globB sc x && dunB x)
    | _ => false
  | .ex e => fun st => match st with
    | .Expr v _ => swapB v && chkE N L sc fx e v
    | _ => false
  | .brk => fun st => match st with
    | .Break _ => true
    | _ => false
  | .cnt => fun st => match st with
    | .Continue _ => true
    | _ => false
  | _ => fun _ => false
def chkS (sc : Scope) (fx : Str → Bool) : S → List Stmt → Bool
  | .skip => fun sts => match sts with
    | [] => true
    | _ => false
  | .seq a b => fun sts => match sts with
    | st :: rest => chk1 sc fx a st && chkS sc fx b rest
    | _ => false
  | _ => fun _ => false
end
end

/-! ### the reading -/
def RtR (K : PySem.W.Frag) (G O : Addr → Prop) (H : Hp) : Rv → V → Prop
  | .d x, v => Rl K (Av O G) H x v
  | .fr ds, v => ∃ p ws, v = .ref p ∧ O p ∧ (∀ j a, Fr.P j = some a → a ≠ p) ∧ H p = some (.lst ws) ∧ RlL K (Av O G) H ds ws
  | .par _, _ => False
def GotS (K : PySem.W.Frag) (G : Addr → Prop) (W : WX) (D : Ends) (O : Addr → Prop) (H : Hp) (x : Fl) : Prop := match x with
  | .nx r => ∀ O' H' σ, Ext O H O' H' → Stt K G O' H' r σ → D.nx σ H'
  | .bk r => ∀ O' H' σ, Ext O H O' H' → Stt K G O' H' r σ → D.bk σ H'
  | .ct r => ∀ O' H' σ, Ext O H O' H' → Stt K G O' H' r σ → D.ct σ H'
  | .rt v r => ∀ O' H' σ u, Ext O H O' H' → Stt K G O' H' r σ → RtR K G O' H' v u → D.rt u H'
  | .ex c r => ∀ O' H' σ, Ext O H O' H' → Stt K G O' H' r σ → W (.ref (He.ga K c)) none σ H'
  | .no => False
section
variable {K : PySem.W.Frag} {G O O1 : Addr → Prop} {H H1 : Hp} {W : WX} {σ : L2.St} {D D' : Ends} {r : Rho}
theorem GotS.shift {x : Fl} (e : Ext O H O1 H1) (h : GotS K G W D O H x) : GotS K G W D O1 H1 x := by
  cases x with
  | nx r => exact fun O' H' σ e' s => h O' H' σ (e.trans e') s
  | bk r => exact fun O' H' σ e' s => h O' H' σ (e.trans e') s
  | ct r => exact fun O' H' σ e' s => h O' H' σ (e.trans e') s
  | rt v r => exact fun O' H' σ u e' s q => h O' H' σ u (e.trans e') s q
  | ex c r => exact fun O' H' σ e' s => h O' H' σ (e.trans e') s
  | no => exact h
theorem GotS.bind {α β : Type} {Rel : (Addr → Prop) → Hp → α → β → Prop} {x : R α} {f : α → Rho → Fl} (h : GotS K G W D O H (x.fl f)) :
    Got K G Rel W σ O H x (fun b H1 => ∃ O1 r1 a, Ext O H O1 H1 ∧ Stt K G O1 H1 r1 σ ∧ Rel O1 H1 a b ∧ GotS K G W D O1 H1 (f a r1)) := by
  cases x with
  | ok a r' => exact fun O' H' b e s q => ⟨O', r', a, e, s, q, GotS.shift e h⟩
  | ex c r' => exact fun O' H' e s => h O' H' σ e s
  | no => exact h
theorem GotS.bindC {x : R Rv} {f : Rv → Rho → Fl} {Q : VK} (h : GotS K G W D O H (x.fl f))
    (hd : ∀ d r' O' H' v, Ext O H O' H' → Stt K G O' H' r' σ → Rl K (Av O' G) H' d v → GotS K G W D O H (f (.d d) r') → Q v H')
    (hf : ∀ ds r' O' H' p ws, Ext O H O' H' → Stt K G O' H' r' σ → ¬ O' p → ¬ G p → H' p = some (.lst ws) → Stt K G (fun a => O' a ∨ a = p) H' r' σ → RlL K (Av (fun a => O' a ∨ a = p) G) H' ds ws → ¬ Th H p → GotS K G W D O H (f (.fr ds) r') → Q (.ref p) H')
    (hp : ∀ j r', ¬ GotS K G W D O H (f (.par j) r')) : GotC K G W σ O H x Q := by
  cases x with
  | no => exact h
  | ex c r' => exact fun O' H' e s => h O' H' σ e s
  | ok rv r' =>
    cases rv with
    | d x => exact fun O' H' v e s q => hd x r' O' H' v e s q h
    | fr ds => exact fun O' H' p ws e s n1 n2 hw s' q hp' => hf ds r' O' H' p ws e s n1 n2 hw s' q hp' h
    | par j => exact (hp j r' h).elim
theorem GotS.ofO {o : Option Rho} (h : GotS K G W D O H (.of o)) : ∃ r', o = some r' ∧ ∀ O' H' σ, Ext O H O' H' → Stt K G O' H' r' σ → D.nx σ H' := by
  cases o with
  | none => exact h.elim
  | some r => exact ⟨r, rfl, h⟩
theorem GotS.ends {x : Fl} (h : GotS K G W D O H x) (h1 : ∀ r, x = .nx r → D'.nx = D.nx ∨ GotS K G W D' O H x) (h2 : ∀ r, x = .bk r → D'.bk = D.bk ∨ GotS K G W D' O H x) (h3 : ∀ r, x = .ct r → D'.ct = D.ct ∨ GotS K G W D' O H x) (h4 : D'.rt = D.rt) : GotS K G W D' O H x := by
  cases x with
  | nx r => exact (h1 r rfl).elim (fun e => by unfold GotS; rw [e]; exact h) id
  | bk r => exact (h2 r rfl).elim (fun e => by unfold GotS; rw [e]; exact h) id
  | ct r => exact (h3 r rfl).elim (fun e => by unfold GotS; rw [e]; exact h) id
  | rt v r => unfold GotS; rw [h4]; exact h
  | ex c r => exact h
  | no => exact h
end
def tS (K : PySem.W.Frag) (W : WX) (ev : Rho → Fl) : TS := fun D σ H => ∃ G O r, Stt K G O H r σ ∧ GotS K G W D O H (ev r)
abbrev tF (K : PySem.W.Frag) (W : WX) (ev : Rho → R Rv) : TE := fun σ H Q => ∃ G O r, Stt K G O H r σ ∧ GotC K G W σ O H (ev r) Q
section
variable (C : Calls) (L : Lex) (k fuel : Nat) (ir : E) (is : S)
def SoF : Prop := ∀ (X : Cx) (N : List Str) (sc : Scope) (fx : Str → Bool) (W : WX) (e : Expr), Cok X N sc fx W k → Fx X L k C → isFE ir = true → chkE N L sc fx ir e = true → PE X e (tF X.K W (evF C L.gl ir))
def So1 : Prop := ∀ (X : Cx) (N : List Str) (sc : Scope) (fx : Str → Bool) (W : WX) (st : Stmt), Cok X N sc fx W k → Fx X L k C → PassesOwn (model X.prog X.w) X.A X.env X.xe → sc.kind = .function → chk1 N L sc fx is st = true → PS X st (tS X.K W (evS C L.gl fuel is))
def SoL : Prop := ∀ (X : Cx) (N : List Str) (sc : Scope) (fx : Str → Bool) (W : WX) (sts : List Stmt), Cok X N sc fx W k → Fx X L k C → PassesOwn (model X.prog X.w) X.A X.env X.xe → sc.kind = .function → chkS N L sc fx is sts = true → PSs X sts (tS X.K W (evS C L.gl fuel is))
end
section
variable {C : Calls} {L : Lex} {k fuel : Nat} {X : Cx} {N : List Str} {sc : Scope} {fx : Str → Bool} {W : WX}
variable {K : PySem.W.Frag} {G O : Addr → Prop} {H : Hp} {r : Rho} {σ : L2.St} {D : Ends}
/-! ### fresh lists -/
theorem fr_here {Q : VK} {ds : List PyData} {vs : List V} {p : Addr} (g : GotC K G W σ O H (.ok (.fr ds) r) Q) (s : Stt K G O H r σ) (q : RlL K (Av O G) H ds vs) (hp : H p = none) : Q (.ref p) (upd H p (.lst vs)) := by
  have sm := same_upd (o := .lst vs) hp
  have no : ¬ O p := fun z => (s.wf p z).ne hp
  have ng : ¬ G p := fun z => (s.wg p z).1.ne hp
  have ex : Ext O H (fun a => O a ∨ a = p) (upd H p (.lst vs)) := ⟨(Ext.same (O := O) sm).keep, (Ext.same (O := O) sm).dom, fun a z h => z.elim id fun z => absurd (z ▸ h) (no_th hp), (Ext.same (O := O) sm).tab⟩
  refine g O _ p vs (.same sm) (s.same sm) no ng upd_same ((s.same sm).more (.inl ⟨_, upd_same⟩) ng no fun i t e => (s.sl i t e).conv (fun d v z => z.ext s.wf ex) fun c a oa ca => ⟨.inl oa, ca.imp (fun d v z => z.ext s.wf ex) (upd_ne fun z => no (z ▸ oa))⟩) (q.ext s.wf ex) (no_th hp)
theorem so_F (ir : E) : SoF C L k ir := fun X N sc fx W e c F hf h => by
  cases ir with
  | call f as => exact PE.imp (pe_callG (so_all C L k as).as c F h) fun σ H Q q => q
  | lst as =>
    cases e with
    | List es p =>
      refine PE.imp (pe_lst ((so_all C L k as).ds X N sc fx W _ c F h)) fun σ H Q ⟨G, O, r, s, g⟩ => ⟨G, O, r, s, ?_⟩
      have g : GotC X.K G W σ O H ((evDs C L.gl as r).bind fun xs r1 => if xs.length ≤ lenLim then .ok (.fr xs) r1 else .no) Q := g
      cases e : evDs C L.gl as r with
      | no => rw [e] at g; exact g
      | ex c r' => rw [e] at g; exact g
      | ok xs r' =>
        rw [e] at g
        simp only [R.bind_ok] at g
        intro O' H' vs e' s' q
        split at g
        · rename_i hl
          exact ⟨by rw [← q.length]; exact Nat.le_trans hl line_lim, fun p hp => fr_here (GotC.shift e' g) s' q hp⟩
        · exact g.elim
    | _ => cases h
  | bin op a b =>
    cases op with
    | Add =>
      cases e with
      | BinOp l o rr p =>
        obtain ⟨h1, h⟩ := ba h
        obtain ⟨h2, h3⟩ := ba h
        have eo : o = .Add := of_decide_eq_true h1
        subst eo
        refine PE.imp (pe_op op_catS ((so_all C L k a).e X N sc fx W _ c F h2) ((so_all C L k b).e X N sc fx W _ c F h3)) fun σ H Q ⟨G, O, r, s, g⟩ => ?_
        have g : GotC X.K G W σ O H ((evE C L.gl a r).bind fun x r1 => (evE C L.gl b r1).bind fun y r2 => match x, y with
          | .list xs, .list ys => if xs.length + ys.length ≤ lenLim then .ok (.fr (xs ++ ys)) r2 else .no
          | _, _ => .no) Q := g
        refine ⟨G, O, r, s, ?_⟩
        cases e : evE C L.gl a r with
        | no => rw [e] at g; exact g
        | ex c r' => rw [e] at g; exact g
        | ok x r1 =>
          rw [e] at g
          simp only [R.bind_ok] at g
          intro O1 H1 vx e1 s1 q1
          refine ⟨G, O1, r1, s1, ?_⟩
          cases e : evE C L.gl b r1 with
          | no => rw [e] at g; exact g
          | ex c r' => rw [e] at g; exact fun O' H' e' s' => g O' H' (e1.trans e') s'
          | ok y r2 =>
            rw [e] at g
            simp only [R.bind_ok] at g
            intro O2 H2 vy e2 s2 q2
            have q1 := q1.ext s1.wf e2
            split at g
            · rename_i xs ys
              split at g
              · rename_i hl
                cases q1 with
                | lst hx ax =>
                  cases q2 with
                  | lst hy ay =>
                    refine ⟨_, _, _, _, rfl, rfl, hx.sq, hy.sq, by rw [← ax.length, ← ay.length]; exact Nat.le_trans hl line_lim, fun p hp => fr_here (GotC.shift (e1.trans e2) g) s2 (ax.append ay) hp⟩
              · exact g.elim
            · exact g.elim
      | _ => cases h
    | _ => cases hf
  | _ => cases hf
/-! ### stores -/
theorem Stt.putO {r' : Rho} {p : Addr} (s0 : Stt K G O H r σ) (s : Stt K G (fun a => O a ∨ a = p) H r σ) (no : ¬ O p) {i : Nat} {ds : List PyData} {ws : List V} (hw : H p = some (.lst ws)) (q : RlL K (Av (fun a => O a ∨ a = p) G) H ds ws)
    (e : Ev.put r i (.own (.lst ds)) = some r') : Stt K G (fun a => O a ∨ a = p) H r' (σ.set i (some (.ref p))) := by
  unfold Ev.put at e
  split at e
  · rename_i hf
    cases e
    have hl : i < r.length := by
      unfold free? at hf
      split at hf
      · cases hf
      · rename_i e; exact (List.getElem?_eq_some_iff.mp e).1
      · cases hf
    have hl2 : i < σ.length := by rw [← s.len]; exact hl
    have od : ∀ (j : Nat) (a : Addr), isOwn r[j]? = true → σ[j]?.join = some (.ref a) → O a := fun j a w e => by
      cases h : r[j]? with
      | none => rw [h] at w; cases w
      | some t =>
        cases t with
        | non => rw [h] at w; cases w
        | d _ => rw [h] at w; cases w
        | own c => obtain ⟨b, e1, ob, _⟩ := s0.sl j _ h; rw [e] at e1; cases e1; exact ob
        | par c => obtain ⟨b, e1, ob, _⟩ := s0.sl j _ h; rw [e] at e1; cases e1; exact ob
    refine ⟨s.wf, s.wg, by simp [s.len], fun j t et => ?_, fun j l a h1 h2 e1 e2 => ?_, s.pf, fun j => ?_, s.tb⟩
    · by_cases hj : i = j
      · subst hj
        rw [List.getElem?_set_self hl] at et
        cases et
        exact ⟨p, by rw [List.getElem?_set_self hl2]; rfl, .inr rfl, ws, hw, q⟩
      · rw [List.getElem?_set_ne hj] at et
        rw [List.getElem?_set_ne hj]
        exact s.sl j t et
    · by_cases hj : i = j
      · subst hj
        by_cases hk : i = l
        · exact hk
        · rw [List.getElem?_set_self hl2] at e1
          cases e1
          rw [List.getElem?_set_ne hk] at h2 e2
          exact absurd (od l _ h2 e2) no
      · rw [List.getElem?_set_ne hj] at h1 e1
        by_cases hk : i = l
        · subst hk
          rw [List.getElem?_set_self hl2] at e2
          cases e2
          exact absurd (od j _ h1 e1) no
        · rw [List.getElem?_set_ne hk] at h2 e2
          exact s.ap j l a h1 h2 e1 e2
    · by_cases hj : i = j
      · subst hj
        rw [List.getElem?_set_self hl, List.getElem?_set_self hl2]
        refine ⟨(fun z => nomatch z), fun _ j a ea z => ?_⟩
        cases (show some (V.ref p) = some (.ref a) from z)
        exact no (s0.pf j p ea)
      · rw [List.getElem?_set_ne hj, List.getElem?_set_ne hj]
        exact s.pq j
  · cases e
theorem swp_with {X : Cx} {v : Expr} {y : Str} {py : Pos} {l : Nat} (c : Cok X N sc fx W k) (hk : sc.kind = .function) (hn : notSD v = true) (h : swB sc v y py = false) : swapsWith v (some (.Name y py)) l X.env = pure false := by
  cases v with
  | ListComp elt gs s pos =>
    have hb : X.env.blockKind = .function := by unfold Env.blockKind; rw [c.sc, hk]; rfl
    have ky : X.env.kindOf y = sc.names.lookup y := by rw [← c.sc]; rfl
    unfold swB at h
    unfold swapsWith
    simp only [hb, ky, Expr.pos]
    show (pure (((ScopeKind.function == ScopeKind.function && sc.names.lookup y == some NameKind.local) && py.line == pos.line) && !(s.names.any fun x => x.1 == y && (x.2 == .local || x.2 == .cell))) : Sem Bool) = _
    have e : ((ScopeKind.function == ScopeKind.function) = true) := rfl
    rw [e, Bool.true_and]
    exact congrArg pure h
  | SetComp _ _ _ _ => cases hn
  | DictComp _ _ _ _ _ => cases hn
  | _ => rfl
theorem loc_of (c : Cok X N sc fx W k) {x : Str} (h : locB sc fx x = true) : L2.Loc X.env.scope x ∧ (X.fn x = true ∨ X.env.scope.names.lookup x = some .local) := by
  rw [c.sc]
  unfold locB at h
  unfold L2.Loc
  split at h
  · rename_i e; exact ⟨.inl e, .inr e⟩
  · rename_i e; exact ⟨.inr e, .inl (c.fxn x h)⟩
  · cases h
theorem s_set (i : Nat) (e : E) : So1 C L k fuel (.set i e) := fun X N sc fx W st c F hp hk h => by
  unfold chk1 at h
  split at h
  · rename_i x p v q
    obtain ⟨h1, h⟩ := ba h
    obtain ⟨h2, h⟩ := ba h
    obtain ⟨h3, h4⟩ := ba h
    have hN : X.N.Nodup := by rw [c.eN]; exact c.nd
    have hl := loc_of c h2
    have fin : ∀ {σ : L2.St} {H : Hp} {D : Ends}, tS X.K W (evS C L.gl fuel (.set i e)) D σ H → tAsg (tE X.K W (evE C L.gl e)) (gName i) D σ H := fun ⟨G, O, r, s, g⟩ => by
      refine ⟨G, O, r, s, (GotS.bind (Rel := RD X.K G) (show GotS X.K G W _ O _ ((evE C L.gl e r).fl fun x r1 => .of (put r1 i (.d x))) from g)).imp fun v H1 ⟨O1, r1, d, e1, s1, q1, g'⟩ => ?_⟩
      obtain ⟨r', er, nx⟩ := g'.ofO
      exact nx O1 H1 _ .refl (s1.put q1 er)
    cases hs : swB sc v x p with
    | false => exact PS.imp (ps_set hN (c.nm h1) hl.1 ((so_all C L k e).e X N sc fx W v c F h3) (swp_with c hk h4 hs) hl.2) fun D σ H q => fin q
    | true =>
      cases v with
      | ListComp y gs scope pos =>
        unfold swB at hs
        obtain ⟨hs1, hs2⟩ := ba hs
        obtain ⟨hs0, hs1⟩ := ba hs1
        have hyl : X.env.scope.names.lookup x = some .local := by rw [c.sc]; simpa using hs0
        have hsw := sw_true (elt := y) (gs := gs) (scope := scope) (pos := pos) (py := p) (y := x) (l := q.line) (env := X.env) (by rw [c.sc]; exact hk) hyl hs1 (by simpa using hs2)
        cases e with
        | lc elt it t cond own =>
          unfold chkE at h3
          split at h3
          · rename_i y tg iter ifs scope pos heq
            cases heq
            obtain ⟨nl, h3⟩ := ba h3
            obtain ⟨h1', h⟩ := ba h3
            obtain ⟨h2', h⟩ := ba h
            obtain ⟨h3', h⟩ := ba h
            obtain ⟨h4', h⟩ := ba h
            obtain ⟨h5', h⟩ := ba h
            obtain ⟨h6', h⟩ := ba h
            obtain ⟨h7', h8'⟩ := ba h
            have ok : BlkOk X.N X.env.scope scope (own.filterMap fun i => N[i]?.map fun x => (x, i)) := by
              rw [c.eN, c.sc]
              exact blkOk_by h1'
            have cok : ∀ (s : Shared) (H : Hp) (D : Addr) (cl : List (Str × Addr)) (fp : List Addr), Cok (X.blk s H scope (compEnvC scope cl D X.env) fp) N (relS scope sc) (fun x => scope.names.lookup x == some .cell) W0 k := fun s H D cl fp =>
              ⟨c.eN, c.nd, by rw [← c.sc]; rfl, fun x h => h, c.calm, takesNone, c.rm, fun z => absurd z (by simpa using nl)⟩
            have fok : ∀ (s : Shared) (H : Hp) (D : Addr) (cl : List (Str × Addr)) (fp : List Addr), Fx (X.blk s H scope (compEnvC scope cl D X.env) fp) L k C := fun s H D cl fp =>
              ⟨F.blt, F.gl, F.fn, F.ex, F.tl⟩
            have om := own_map (N := N) (of_decide_eq_true h2')
            have pe := ps_setLc (ifs := ifs) (pos := pos) (spos := q) c.calm hN (c.nm h1) hyl hsw ((so_all C L k it).i X N sc fx W tg iter (tupB tg) c F id h4') ok (fun s H D cl fp => so_tg (cok s H D cl fp) h6') (g := tTg X.K t) (te := tE X.K W0 (evE C L.gl elt)) (tt := tOptB X.K C L.gl W0 cond) (fun s H D cl fp => ?_) (fun s H D cl fp => (so_all C L k elt).e _ N _ _ W0 y (cok s H D cl fp) (fok s H D cl fp) h7') (set_no h3')
            · refine PS.imp pe fun D σ H z => ?_
              obtain ⟨G, O, r, s, g⟩ := fin z
              rw [om]
              exact lc_core' (fun i hi => of_decide_eq_true (List.all_eq_true.mp h5' i hi)) s g
            · split at h8'
              · have ec : cond = .nil := by cases cond <;> first | rfl | cases h8'
                subst ec
                exact PTs.imp pts_nil fun σ H Q ⟨G, O, r, s, g⟩ => g_here g s rfl
              · obtain ⟨n1, h8'⟩ := ba h8'
                obtain ⟨n2, n3⟩ := ba h8'
                exact PTs.imp (pts_one (so_opt (so_all C L k cond).t (cok s H D cl fp) (fok s H D cl fp) (by simpa using n1) n2 n3)) fun σ H Q q => q
              · cases h8'
          · cases h3
        | _ => cases h3
      | _ => cases hs
  · cases h
theorem s_setO (i : Nat) (e : E) : So1 C L k fuel (.setO i e) := fun X N sc fx W st c F hp hk h => by
  unfold chk1 at h
  split at h
  · rename_i x p v q
    obtain ⟨h1, h⟩ := ba h
    obtain ⟨h2, h⟩ := ba h
    obtain ⟨h3, h⟩ := ba h
    obtain ⟨h4, h5⟩ := ba h
    have hN : X.N.Nodup := by rw [c.eN]; exact c.nd
    have hl := loc_of c h2
    refine PS.imp (ps_set hN (c.nm h1) hl.1 (so_F e X N sc fx W v c F h4 h3) (swap_no h5) hl.2) fun D σ H ⟨G, O, r, s, g⟩ => ?_
    refine ⟨G, O, r, s, GotS.bindC g (fun d r' O' H' v _ _ _ z => z.elim) (fun ds r' O' H' p ws ex s0 no ng hw s1 q hp z => ?_) fun j r' z => z.elim⟩
    obtain ⟨r2, er, nx⟩ := GotS.ofO z
    refine nx _ _ _ ⟨ex.keep, ex.dom, fun a z h => z.elim (fun z => ex.own a z h) fun z => absurd (z ▸ h) hp, ex.tab⟩ (s0.putO s1 no hw q er)
  · cases h
theorem s_asg (t : Tg) (e : E) : So1 C L k fuel (.asg t e) := fun X N sc fx W st c F hp hk h => by
  unfold chk1 at h
  split at h
  · rename_i es kk p v q
    obtain ⟨h1, h⟩ := ba h
    obtain ⟨h2, h⟩ := ba h
    obtain ⟨h3, h4⟩ := ba h
    have hs : swapsWithSole [.Tuple es kk p] v q.line X.env = pure false := by cases v <;> rfl
    have hw : swappedStores [.Tuple es kk p] v X.env = pure none := by
      cases v with
      | Tuple vs k2 p2 => exact swp_none (by rw [c.sc]; exact hk) (by rw [c.sc]; simpa using h4)
      | _ => rfl
    refine PS.imp (ps_asg ((so_all C L k e).e X N sc fx W v c F h2) (so_tg c h1) hs hw) fun D σ H ⟨G, O, r, s, g⟩ => ?_
    refine ⟨G, O, r, s, (GotS.bind (Rel := RD X.K G) (show GotS X.K G W D O H ((evE C L.gl e r).fl fun x r1 => .of (asgT t x r1)) from g)).imp fun v H1 ⟨O1, r1, d, e1, s1, q1, g'⟩ => ?_⟩
    obtain ⟨r', er, nx⟩ := g'.ofO
    exact ⟨G, O1, r1, d, r', s1, q1, er, fun σ' s' _ _ => nx O1 H1 σ' .refl s'⟩
  · cases h
end
end Ev
end
section
set_option Elab.async false
set_option maxRecDepth 100000
set_option linter.all false
set_option autoImplicit false
set_option maxHeartbeats 1200000
/-! Ev15: the other statements; all by induction. -/
namespace Ev
open PySem PySem.Spec PyProof.Rows L2
open He (ba)
variable [Tbls] [Fr]
section
variable {C : Calls} {L : Lex} {k fuel : Nat} {X : Cx} {N : List Str} {sc : Scope} {fx : Str → Bool} {W : WX}
variable {K : PySem.W.Frag} {G O : Addr → Prop} {H : Hp} {r : Rho} {σ : L2.St} {D : Ends}
theorem putL_cons {r r' : Rho} {i : Nat} {is : List Nat} {ds : List PyData} (h : putL r (i :: is) ds = some r') : ∃ d es r1, ds = d :: es ∧ put r i (.d d) = some r1 ∧ putL r1 is es = some r' := by
  cases ds with
  | nil => cases h
  | cons d es =>
    obtain ⟨r1, e1, e2⟩ := Option.bind_eq_some_iff.mp (show (put r i (.d d)).bind (fun r1 => putL r1 is es) = some r' from h)
    exact ⟨d, es, r1, rfl, e1, e2⟩
theorem putL_nil {r r' : Rho} {ds : List PyData} (h : putL r [] ds = some r') : ds = [] ∧ r = r' := by
  cases ds with
  | nil => cases h; exact ⟨rfl, rfl⟩
  | cons d es => cases h
theorem s_par (ts : List (Nat × Bool)) (es : E) : So1 C L k fuel (.par ts es) := fun X N sc fx W st c F hp hk h => by
  have hN : X.N.Nodup := by rw [c.eN]; exact c.nd
  unfold chk1 at h
  split at h
  · rename_i i bi j bj x px y py kk p a b k2 p2 q
    obtain ⟨h0, h⟩ := ba h
    obtain ⟨n1, h⟩ := ba h
    obtain ⟨n2, h⟩ := ba h
    obtain ⟨l1, h⟩ := ba h
    obtain ⟨l2, h⟩ := ba h
    obtain ⟨c1, h⟩ := ba h
    obtain ⟨h1, h2⟩ := ba h
    have l1 : sc.names.lookup x = some .local := of_decide_eq_true l1
    have l2 : sc.names.lookup y = some .local := of_decide_eq_true l2
    have hw : swappedStores [.Tuple [.Name x px, .Name y py] kk p] (.Tuple [a, b] k2 p2) X.env = pure (some [x, y]) := by
      rw [swp_some (by rw [c.sc]; exact hk) (by rw [c.sc]; simpa using h1), c.sc]
      have e1 : ((sc.names.lookup x == some NameKind.local) = true) := by rw [l1]; rfl
      have e2 : ((sc.names.lookup y == some NameKind.local) = true) := by rw [l2]; rfl
      simp [List.filterMap_cons, l1, l2, Expr.pos, show py.line = px.line by simpa using c1]
    refine PS.imp (ps_par c.calm hN (c.nm n1) (c.nm n2) (of_decide_eq_true h0) (by rw [c.sc]; exact l1) (by rw [c.sc]; exact l2) ((so_all C L k es).ds X N sc fx W _ c F h2) hw) fun D σ H ⟨G, O, r, s, g⟩ => ?_
    have g : GotS X.K G W D O H ((evDs C L.gl es r).fl fun xs r1 => .of (putL r1 [i, j] xs)) := g
    refine ⟨G, O, r, s, (GotS.bind (Rel := RDs X.K G) g).imp fun ws H1 ⟨O1, r1, ds, e1, s1, q1, g'⟩ => ?_⟩
    obtain ⟨r', er, nx⟩ := g'.ofO
    obtain ⟨d1, ds1, ra, rfl, ea, er⟩ := putL_cons er
    obtain ⟨d2, ds2, rb, rfl, eb, er⟩ := putL_cons er
    obtain ⟨rfl, rfl⟩ := putL_nil er
    obtain ⟨v1, w1, rfl, qa, q2⟩ := q1.cons_inv
    obtain ⟨v2, w2, rfl, qb, q3⟩ := q2.cons_inv
    cases q3
    exact ⟨v1, v2, rfl, nx O1 H1 _ .refl ((s1.put qa ea).put qb eb)⟩
  · rename_i i bi j bj l bl x px y py z pz kk p a b d k2 p2 q
    obtain ⟨h0, h⟩ := ba h
    obtain ⟨n1, h⟩ := ba h
    obtain ⟨n2, h⟩ := ba h
    obtain ⟨n3, h⟩ := ba h
    obtain ⟨l1, h⟩ := ba h
    obtain ⟨l2, h⟩ := ba h
    obtain ⟨l3, h⟩ := ba h
    obtain ⟨c1, h⟩ := ba h
    obtain ⟨c2, h⟩ := ba h
    obtain ⟨h1, h2⟩ := ba h
    have l1 : sc.names.lookup x = some .local := of_decide_eq_true l1
    have l2 : sc.names.lookup y = some .local := of_decide_eq_true l2
    have l3 : sc.names.lookup z = some .local := of_decide_eq_true l3
    have hw : swappedStores [.Tuple [.Name x px, .Name y py, .Name z pz] kk p] (.Tuple [a, b, d] k2 p2) X.env = pure (some [x, y, z]) := by
      rw [swp_some (by rw [c.sc]; exact hk) (by rw [c.sc]; simpa using h1), c.sc]
      have e1 : ((sc.names.lookup x == some NameKind.local) = true) := by rw [l1]; rfl
      have e2 : ((sc.names.lookup y == some NameKind.local) = true) := by rw [l2]; rfl
      have e3 : ((sc.names.lookup z == some NameKind.local) = true) := by rw [l3]; rfl
      simp [List.filterMap_cons, l1, l2, l3, Expr.pos, show py.line = px.line by simpa using c1, show pz.line = px.line by simpa using c2]
    obtain ⟨hij, hil, hjl⟩ : i ≠ j ∧ i ≠ l ∧ j ≠ l := of_decide_eq_true h0
    refine PS.imp (ps_par3 c.calm hN (c.nm n1) (c.nm n2) (c.nm n3) hij hil hjl (by rw [c.sc]; exact l1) (by rw [c.sc]; exact l2) (by rw [c.sc]; exact l3) ((so_all C L k es).ds X N sc fx W _ c F h2) hw) fun D σ H ⟨G, O, r, s, g⟩ => ?_
    have g : GotS X.K G W D O H ((evDs C L.gl es r).fl fun xs r1 => .of (putL r1 [i, j, l] xs)) := g
    refine ⟨G, O, r, s, (GotS.bind (Rel := RDs X.K G) g).imp fun ws H1 ⟨O1, r1, ds, e1, s1, q1, g'⟩ => ?_⟩
    obtain ⟨r', er, nx⟩ := g'.ofO
    obtain ⟨d1, ds1, ra, rfl, ea, er⟩ := putL_cons er
    obtain ⟨d2, ds2, rb, rfl, eb, er⟩ := putL_cons er
    obtain ⟨d3, ds3, rc, rfl, ec, er⟩ := putL_cons er
    obtain ⟨rfl, rfl⟩ := putL_nil er
    obtain ⟨v1, w1, rfl, qa, q2⟩ := q1.cons_inv
    obtain ⟨v2, w2, rfl, qb, q3⟩ := q2.cons_inv
    obtain ⟨v3, w3, rfl, qc, q4⟩ := q3.cons_inv
    cases q4
    exact ⟨v1, v2, v3, rfl, nx O1 H1 _ .refl (((s1.put qa ea).put qb eb).put qc ec)⟩
  · cases h
theorem own_ext {a : Addr} {o : HO} (s : Stt K G O H r σ) (oa : O a) (mu : Mu (upd H a o) a) : Ext O H O (upd H a o) :=
  ⟨fun b u h n _ => (upd_ne (fun z : b = a => n (z ▸ oa))).trans h, fun b h => by
    by_cases z : b = a
    · rw [z]; exact mu.th
    · exact h.imp fun u q => ⟨(upd_ne z).trans q.1, q.2⟩, fun b h _ => h, fun t => tabs_upd (s.wf a oa) t⟩
theorem s_app (i : Nat) (e : E) : So1 C L k fuel (.app i e) := fun X N sc fx W st c F hp hk h => by
  unfold chk1 at h
  split at h
  · rename_i x p2 m p y q p3
    obtain ⟨h1, h⟩ := ba h
    obtain ⟨h2, h⟩ := ba h
    obtain ⟨h3, h⟩ := ba h
    obtain ⟨h4, h⟩ := ba h
    obtain ⟨h5, h6⟩ := ba h
    obtain ⟨d1, d2⟩ := dun_ok h6
    obtain ⟨em, el⟩ : m = Str.ofString "append" ∧ p.endLine = q.line := of_decide_eq_true h1
    subst em
    refine PS.imp (ps_expr (pe_bm (T := "list") (id := "list.append") PySem.F.plainAttrs_list PySem.F.slot_list_append PySem.F.type_list_append mt_append (pe_var (c.nm h4) (c.vis h5) d1 d2) (pa_cons ((so_all C L k e).e X N sc fx W _ c F h3) pa_nil (star_cons h2)) (by rfl) (by rw [star_cons h2]; rfl) (by simpa using el) (star_cons h2) (by rfl))) fun D σ H ⟨G, O, r, s, g⟩ => ?_
    simp only [evS] at g
    split at g
    · exact g.elim
    · rename_i ds0 em0
      obtain ⟨a, e1, oa, vs0, hv0, _⟩ := s.ct (mutAt_ct em0)
      refine ⟨_, join_some e1, .inl ⟨rfl, _, .of hv0⟩, ?_⟩
      refine ⟨G, O, r, s, (GotS.bind (Rel := RD X.K G) g).imp fun v H1 ⟨O1, r1, d, ex1, s1, q1, g'⟩ => ?_⟩
      split at g'
      · rename_i ds em1
        split at g'
        · rename_i hl
          obtain ⟨b, e2, ob, vs, hv, ql⟩ := s1.ct (mutAt_ct em1)
          rw [e1] at e2
          cases e2
          refine ⟨a, vs, v, rfl, rfl, hv, by rw [← ql.length]; exact Nat.lt_of_lt_of_le hl line_lim, ?_⟩
          have ext := own_ext (o := .lst (vs ++ [v])) s1 ob (.inl ⟨_, upd_same⟩)
          obtain ⟨s', _⟩ := s1.putC (mutAt_ct em1) e1 (.inl ⟨_, upd_same⟩) (c' := .lst (ds ++ [d])) ⟨_, upd_same, (ql.append (.cons q1 .nil)).ext s1.wf ext⟩
          exact g' O1 _ σ ext s'
        · exact g'.elim
      · exact g'.elim
  · cases h
theorem ixP_ixN {n : Nat} {i : Int} {j : Nat} (h : ixP n i = some j) : ixN n i = some j := h
theorem s_setIx (i : Nat) (kk : Int) (e : E) : So1 C L k fuel (.setIx i kk e) := fun X N sc fx W st c F hp hk h => by
  unfold chk1 at h
  split at h
  · rename_i x p2 y p3 v q
    obtain ⟨h1, h⟩ := ba h
    obtain ⟨h2, h⟩ := ba h
    obtain ⟨h3, h⟩ := ba h
    obtain ⟨h4, h⟩ := ba h
    obtain ⟨h5, h6⟩ := ba h
    obtain ⟨d1, d2⟩ := dun_ok h6
    have hs : swapsWithSole [.Subscript (.Name x p2) y p3] v q.line X.env = pure false := by cases v <;> first | rfl | cases h2
    have hw : swappedStores [.Subscript (.Name x p2) y p3] v X.env = pure none := by cases v <;> rfl
    have ha : ∀ u, assign (.Subscript (.Name x p2) y p3) X.env u = (do
      let ov ← holding [u] (eval (.Name x p2) X.env)
      let iv ← holding [u, ov] (eval y X.env)
      standAt p3
      holding [u, ov, iv] (setItem ov iv u)
      release [u, ov, iv] []) := by
      intro u
      cases y <;> first | rfl | cases h1
    refine PS.imp (ps_asg ((so_all C L k e).e X N sc fx W v c F h3) (pg_sub (pe_var (c.nm h4) (c.vis h5) d1 d2) (pe_lit h1) set_list ha) hs hw) fun D σ H ⟨G, O, r, s, g⟩ => ?_
    have g : GotS X.K G W D O H ((evE C L.gl e r).fl fun x r1 => match mutAt r1 i with
      | some ds => match ixP ds.length kk with
        | some j => .nx (putC r1 i (.lst (ds.set j x)))
        | none => .no
      | none => .no) := g
    refine ⟨G, O, r, s, (GotS.bind (Rel := RD X.K G) g).imp fun u H1 ⟨O1, r1, d, ex1, s1, q1, g'⟩ => ?_⟩
    split at g'
    · rename_i ds em1
      split at g'
      · rename_i j ej
        obtain ⟨a, e1, oa, vs, hv, ql⟩ := s1.ct (mutAt_ct em1)
        refine ⟨_, join_some e1, a, vs, kk, j, rfl, rfl, hv, ?_, ?_⟩
        · rw [← ql.length]; exact ixP_ixN ej
        · have ext := own_ext (o := .lst (vs.set j u)) s1 oa (.inl ⟨_, upd_same⟩)
          obtain ⟨s', _⟩ := s1.putC (mutAt_ct em1) e1 (.inl ⟨_, upd_same⟩) (c' := .lst (ds.set j d)) ⟨_, upd_same, (RlL.set q1 j ql).ext s1.wf ext⟩
          exact g' O1 _ σ ext s'
      · exact g'.elim
    · exact g'.elim
  · cases h
theorem s_ifs {t : E} {a b : S} (ha : SoL C L k fuel a) (hb : SoL C L k fuel b) : So1 C L k fuel (.ifs t a b) := fun X N sc fx W st c F hp hk h => by
  unfold chk1 at h
  split at h
  · rename_i test x y q
    obtain ⟨h1, h⟩ := ba h
    obtain ⟨h2, h⟩ := ba h
    obtain ⟨h3, h4⟩ := ba h
    refine PS.imp (ps_if ((so_all C L k t).t X N sc fx W _ c F h1 h2) (ha X N sc fx W _ c F hp hk h3) (hb X N sc fx W _ c F hp hk h4)) fun D σ H ⟨G, O, r, s, g⟩ => ?_
    have g : GotS X.K G W D O H ((evE C L.gl t r).fl fun x r1 => match x with
      | .bool true => evS C L.gl fuel a r1
      | .bool false => evS C L.gl fuel b r1
      | _ => .no) := g
    refine ⟨G, O, r, s, (GotS.bind (Rel := RD X.K G) g).imp fun v H1 ⟨O1, r1, d, e1, s1, q1, g'⟩ => ?_⟩
    cases q1 with
    | bl i =>
      cases i with
      | true => exact ⟨true, rfl, iteT ⟨G, O1, r1, s1, g'⟩⟩
      | false => exact ⟨false, rfl, iteF ⟨G, O1, r1, s1, g'⟩⟩
    | _ => exact g'.elim
  · cases h
theorem s_ret (e : E) : So1 C L k fuel (.ret e) := fun X N sc fx W st c F hp hk h => by
  unfold chk1 at h
  split at h
  · rename_i v q
    refine PS.imp (ps_ret ((so_all C L k e).e X N sc fx W _ c F h)) fun D σ H ⟨G, O, r, s, g⟩ => ?_
    exact ⟨G, O, r, s, (GotS.bind (Rel := RD X.K G) (show GotS X.K G W D O H ((evE C L.gl e r).fl fun x r1 => .rt (.d x) r1) from g)).imp fun v H1 ⟨O1, r1, d, e1, s1, q1, g'⟩ => g' O1 H1 σ v .refl s1 q1⟩
  · cases h
theorem s_retO (i : Nat) : So1 C L k fuel (.retO i) := fun X N sc fx W st c F hp hk h => by
  unfold chk1 at h
  split at h
  · rename_i x p q
    obtain ⟨h4, h⟩ := ba h
    obtain ⟨h5, h6⟩ := ba h
    obtain ⟨d1, d2⟩ := dun_ok h6
    refine PS.imp (ps_ret (pe_var (c.nm h4) (c.vis h5) d1 d2)) fun D σ H ⟨G, O, r, s, g⟩ => ?_
    simp only [evS] at g
    split at g
    · rename_i ds e
      obtain ⟨a, e1, oa, ws, hw, q⟩ := s.sl i _ e
      refine ⟨_, join_some e1, g O H σ _ .refl s ⟨a, ws, rfl, oa, fun j b ej z => ?_, hw, q⟩⟩
      exact (s.pq i).2 (by rw [e]; rfl) j b ej (z ▸ e1)
    · exact g.elim
  · cases h
theorem s_retF (e : E) : So1 C L k fuel (.retF e) := fun X N sc fx W st c F hp hk h => by
  unfold chk1 at h
  split at h
  · rename_i v q
    obtain ⟨h1, h2⟩ := ba h
    refine PS.imp (ps_ret (so_F e X N sc fx W v c F h1 h2)) fun D σ H ⟨G, O, r, s, g⟩ => ?_
    refine ⟨G, O, r, s, GotS.bindC g (fun d r' O' H' v e1 s1 q1 z => z O' H' σ v e1 s1 q1) (fun ds r' O' H' p ws ex s0 no ng hw s1 q hp z => ?_) fun j r' z => z.elim⟩
    refine z (fun a => O' a ∨ a = p) H' σ _ ⟨ex.keep, ex.dom, fun a z h => z.elim (fun z => ex.own a z h) fun z => absurd (z ▸ h) hp, ex.tab⟩ s1 ⟨p, ws, rfl, .inr rfl, fun j a ej z => no (z ▸ s0.pf j a ej), hw, q⟩
  · cases h
theorem s_retN : So1 C L k fuel .retN := fun X N sc fx W st c F hp hk h => by
  unfold chk1 at h
  split at h
  · exact PS.imp ps_retN fun D σ H ⟨G, O, r, s, g⟩ => g O H σ .non .refl s .non
  · cases h
theorem s_rs (x : Str) : So1 C L k fuel (.rs x) := fun X N sc fx W st c F hp hk h => by
  unfold chk1 at h
  split at h
  · rename_i y p m j p2 p3 q
    obtain ⟨h1, h⟩ := ba h
    obtain ⟨h2, h3⟩ := ba h
    obtain ⟨d1, _⟩ := dun_ok h3
    obtain ⟨ey, hm⟩ : y = x ∧ x ∈ L.exn := of_decide_eq_true h1
    subst ey
    obtain ⟨f1, f2, f3, f4, f5⟩ := F.ex y hm
    exact PS.imp (L2N.ps_raise c.calm c.tk (L2N.pmk_own PySem.F.excBase_ValueError f2 f1 f3 (raises_own f4 f5) (c.gl h2) d1)) fun D σ H ⟨G, O, r, s, g⟩ => g O H σ .refl s
  · cases h
theorem s_ex (e : E) : So1 C L k fuel (.ex e) := fun X N sc fx W st c F hp hk h => by
  unfold chk1 at h
  split at h
  · rename_i v q
    obtain ⟨h1, h2⟩ := ba h
    refine PS.imp (ps_expr ((so_all C L k e).e X N sc fx W _ c F h2) (swap_no h1)) fun D σ H ⟨G, O, r, s, g⟩ => ?_
    exact ⟨G, O, r, s, (GotS.bind (Rel := RD X.K G) (show GotS X.K G W D O H ((evE C L.gl e r).fl fun _ r1 => .nx r1) from g)).imp fun v H1 ⟨O1, r1, d, e1, s1, q1, g'⟩ => g' O1 H1 σ .refl s1⟩
  · cases h
theorem s_brk : So1 C L k fuel .brk := fun X N sc fx W st c F hp hk h => by
  unfold chk1 at h
  split at h
  · exact PS.imp ps_break fun D σ H ⟨G, O, r, s, g⟩ => g O H σ .refl s
  · cases h
theorem s_cnt : So1 C L k fuel .cnt := fun X N sc fx W st c F hp hk h => by
  unfold chk1 at h
  split at h
  · exact PS.imp ps_continue fun D σ H ⟨G, O, r, s, g⟩ => g O H σ .refl s
  · cases h
theorem l_skip : SoL C L k fuel .skip := fun X N sc fx W sts c F hp hk h => by
  cases sts with
  | nil => exact PSs.imp pss_nil fun D σ H ⟨G, O, r, s, g⟩ => g O H σ .refl s
  | cons _ _ => cases h
theorem l_seq {a b : S} (ha : So1 C L k fuel a) (hb : SoL C L k fuel b) : SoL C L k fuel (.seq a b) := fun X N sc fx W sts c F hp hk h => by
  cases sts with
  | nil => cases h
  | cons st rest =>
    obtain ⟨h1, h2⟩ := ba h
    refine PSs.imp (pss_cons (ha X N sc fx W _ c F hp hk h1) (hb X N sc fx W _ c F hp hk h2)) fun D σ H ⟨G, O, r, s, g⟩ => ⟨G, O, r, s, ?_⟩
    have g : GotS X.K G W D O H ((evS C L.gl fuel a r).andThen (evS C L.gl fuel b)) := g
    cases e : evS C L.gl fuel a r with
    | nx r1 => rw [e] at g; exact fun O' H' σ' e' s' => ⟨G, O', r1, s', g.shift e'⟩
    | bk r1 => rw [e] at g; exact g
    | ct r1 => rw [e] at g; exact g
    | rt v r1 => rw [e] at g; exact g
    | ex c r1 => rw [e] at g; exact g
    | no => rw [e] at g; exact g
theorem s_fr {t : Tg} {it : E} {b : S} (hb : SoL C L k fuel b) : So1 C L k fuel (.fr t it b) := fun X N sc fx W st c F hp hk h => by
  unfold chk1 at h
  split at h
  · rename_i tg iter body q
    obtain ⟨h1, h⟩ := ba h
    obtain ⟨h2, h⟩ := ba h
    obtain ⟨h3, h4⟩ := ba h
    refine PS.imp (ps_for hp c.calm ((so_all C L k it).i X N sc fx W tg iter (tupB tg) c F id h2) (so_tg c h3) (hb X N sc fx W _ c F hp hk h4) (set_no h1)) fun D σ H ⟨G, O, r, s, g⟩ => ?_
    refine ⟨G, O, r, s, ?_⟩
    have g : GotS X.K G W D O H ((evI C L.gl it r).fl fun items r1 => forLoop (fun x r => (Fl.of (asgT t x r)).andThen (evS C L.gl fuel b)) items r1) := g
    cases ei : evI C L.gl it r with
    | no => rw [ei] at g; exact g
    | ex c r' => rw [ei] at g; exact fun O' H' e s => g O' H' σ e s
    | ok items r1 =>
      rw [ei] at g
      simp only [R.fl_ok] at g
      intro O1 H1 J e1 s1 wd
      have g := g.shift e1
      obtain ⟨Gd, wk, hGd⟩ := wd
      refine for_it (g := tTg X.K t) (tb := tS X.K W (evS C L.gl fuel b)) (D := D) wk (fun i σi Hi => ∃ Oi ri, Ext O1 H1 Oi Hi ∧ Stt X.K G Oi Hi ri σi ∧ GotS X.K G W D Oi Hi (forLoop (fun x r => (Fl.of (asgT t x r)).andThen (evS C L.gl fuel b)) (items.drop i) ri)) ⟨O1, r1, .refl, s1, g⟩ ?_ ?_ ?_
      · rintro i σi Hi _ ⟨Oi, ri, ei, si, _⟩
        exact hGd Hi fun a o h n m => ei.keep a o h (fun z => n (.inl z)) m
      · rintro i x σi Hi H' hi ⟨Oi, ri, ei, si, gi⟩ y
        obtain ⟨sm, d, ed, qd⟩ := y (Av Oi G) (fun a z h => z.elim (fun z => .inl (ei.own a z h)) .inr) fun a o h n m => ei.keep a o h (fun z => n (.inl z)) m
        have hdrop : items.drop i = d :: items.drop (i + 1) := by
          obtain ⟨hlt, e⟩ := List.getElem?_eq_some_iff.mp ed
          rw [← e]
          exact List.drop_eq_getElem_cons hlt
        rw [hdrop] at gi
        have gi := gi.shift (.same sm)
        have si' := si.same sm
        have ei' := ei.trans (.same sm)
        unfold forLoop at gi
        cases ea : asgT t d ri with
        | none => rw [ea] at gi; exact gi.elim
        | some r' =>
          rw [ea] at gi
          refine ⟨G, Oi, ri, d, r', si', qd, ea, fun σ2 s2 l2 k2 => ⟨G, Oi, r', s2, ?_⟩⟩
          simp only [Fl.of_some, Fl.then_nx] at gi
          cases eb : evS C L.gl fuel b r' with
          | nx r2 => rw [eb] at gi; exact fun O' H'' σ' e' s' => ⟨O', r2, ei'.trans e', s', gi.shift e'⟩
          | ct r2 => rw [eb] at gi; exact fun O' H'' σ' e' s' => ⟨O', r2, ei'.trans e', s', gi.shift e'⟩
          | bk r2 => rw [eb] at gi; exact gi
          | rt v r2 => rw [eb] at gi; exact gi
          | ex c r2 => rw [eb] at gi; exact gi
          | no => rw [eb] at gi; exact gi
      · rintro σi Hi ⟨Oi, ri, ei, si, gi⟩
        rw [List.drop_length] at gi
        exact gi Oi Hi σi .refl si
  · cases h
theorem s_wh {t : E} {b : S} (hb : SoL C L k fuel b) : So1 C L k fuel (.wh t b) := fun X N sc fx W st c F hp hk h => by
  unfold chk1 at h
  split at h
  · rename_i test body q
    obtain ⟨h1, h⟩ := ba h
    obtain ⟨h2, h3⟩ := ba h
    refine PS.imp (ps_while hp ((so_all C L k t).t X N sc fx W _ c F h1 h2) (hb X N sc fx W _ c F hp hk h3)) fun D σ H ⟨G, O, r, s, g⟩ => ?_
    refine ⟨fun n σi Hi => ∃ Oi ri, Stt X.K G Oi Hi ri σi ∧ GotS X.K G W D Oi Hi (whLoop (evE C L.gl t) (evS C L.gl fuel b) n ri), ⟨fuel, O, r, s, g⟩, ?_⟩
    rintro n σi Hi ⟨Oi, ri, si, gi⟩
    cases n with
    | zero => exact gi.elim
    | succ n =>
      refine ⟨G, Oi, ri, si, (GotS.bind (Rel := RD X.K G) gi).imp fun v H1 ⟨O1, r1, d, e1, s1, q1, g'⟩ => ?_⟩
      cases q1 with
      | bl i =>
        cases i with
        | false =>
          refine ⟨false, rfl, ?_⟩
          exact iteF (g' O1 H1 σi .refl s1)
        | true =>
          refine ⟨true, rfl, ?_⟩
          refine iteT ?_
          refine ⟨fun σ' H' => ∃ O' r', Stt X.K G O' H' r' σ' ∧ GotS X.K G W D O' H' (whLoop (evE C L.gl t) (evS C L.gl fuel b) n r'), fun σ' H' z => ⟨n, Nat.lt_succ_self n, z⟩, G, O1, r1, s1, ?_⟩
          simp only at g'
          cases eb : evS C L.gl fuel b r1 with
          | nx r2 => rw [eb] at g'; exact fun O' H'' σ' e' s' => ⟨O', r2, s', g'.shift e'⟩
          | ct r2 => rw [eb] at g'; exact fun O' H'' σ' e' s' => ⟨O', r2, s', g'.shift e'⟩
          | bk r2 => rw [eb] at g'; exact g'
          | rt v r2 => rw [eb] at g'; exact g'
          | ex c r2 => rw [eb] at g'; exact g'
          | no => rw [eb] at g'; exact g'
      | _ => exact g'.elim
  · cases h
end
section
variable (C : Calls) (L : Lex) (k fuel : Nat)
theorem so_stmt : ∀ s : S, So1 C L k fuel s ∧ SoL C L k fuel s
  | .skip => ⟨fun X N sc fx W st c F hp hk h => (by cases h), l_skip⟩
  | .seq a b => ⟨fun X N sc fx W st c F hp hk h => (by cases h), l_seq (so_stmt a).1 (so_stmt b).2⟩
  | .set i e => ⟨s_set i e, fun X N sc fx W st c F hp hk h => by cases h⟩
  | .setO i e => ⟨s_setO i e, fun X N sc fx W st c F hp hk h => by cases h⟩
  | .asg t e => ⟨s_asg t e, fun X N sc fx W st c F hp hk h => by cases h⟩
  | .par ts es => ⟨s_par ts es, fun X N sc fx W st c F hp hk h => by cases h⟩
  | .app i e => ⟨s_app i e, fun X N sc fx W st c F hp hk h => by cases h⟩
  | .setIx i k e => ⟨s_setIx i k e, fun X N sc fx W st c F hp hk h => by cases h⟩
  | .fr t it b => ⟨s_fr (so_stmt b).2, fun X N sc fx W st c F hp hk h => by cases h⟩
  | .wh c b => ⟨s_wh (so_stmt b).2, fun X N sc fx W st c F hp hk h => by cases h⟩
  | .ifs c a b => ⟨s_ifs (so_stmt a).2 (so_stmt b).2, fun X N sc fx W st c F hp hk h => by cases h⟩
  | .ret e => ⟨s_ret e, fun X N sc fx W st c F hp hk h => by cases h⟩
  | .retO i => ⟨s_retO i, fun X N sc fx W st c F hp hk h => by cases h⟩
  | .retF e => ⟨s_retF e, fun X N sc fx W st c F hp hk h => by cases h⟩
  | .retN => ⟨s_retN, fun X N sc fx W st c F hp hk h => by cases h⟩
  | .rs c => ⟨s_rs c, fun X N sc fx W st c F hp hk h => by cases h⟩
  | .ex e => ⟨s_ex e, fun X N sc fx W st c F hp hk h => by cases h⟩
  | .brk => ⟨s_brk, fun X N sc fx W st c F hp hk h => by cases h⟩
  | .cnt => ⟨s_cnt, fun X N sc fx W st c F hp hk h => by cases h⟩
end
end Ev
end
section
set_option Elab.async false
set_option maxRecDepth 100000
set_option linter.all false
set_option autoImplicit false
set_option maxHeartbeats 1200000
/-! Ev16: a def by its body; all defs of a text. -/
namespace Ev
open PySem PySem.Spec PyProof.Rows L2
open He (ba)
variable [Tbls]
/-! ### calls, evaluated -/
def slotOf : Arg → Slot
  | .d x => .d x
  | .ob c => .par c
def outsOf (r : Rho) : Nat → List Arg → Option (List Ct)
  | _, [] => some []
  | j, .d _ :: as => outsOf r (j + 1) as
  | j, .ob _ :: as => match r[j]? with
    | some (.par c) => (outsOf r (j + 1) as).map (c :: ·)
    | _ => none
structure Df where
  n : Nat
  sz : Nat
  body : S
  fuel : Nat := 0
def retC (r : Rho) (args : List Arg) (f : List Ct → RC) : RC := match outsOf r 0 args with
  | some outs => f outs
  | none => .no
def runF (C : Calls) (gl : List D) (d : Df) (args : List Arg) : RC :=
  if args.length = d.n then match evS C gl d.fuel d.body (args.map slotOf ++ List.replicate (d.sz - args.length) .non) with
    | .nx r => retC r args fun outs => .ok (.d .none) outs
    | .rt v r => retC r args fun outs => .ok v outs
    | .ex c r => retC r args fun outs => .ex c outs
    | _ => .no
  else .no
def run (gl : List D) (tab : List Df) : Nat → Calls
  | 0, _, _ => .no
  | k + 1, f, args => match tab[f]? with
    | some d => runF (run gl tab k) gl d args
    | none => .no
/-! ### a def -/
structure Fd where
  d : He.DefD
  N : List Str
  ps : List Str
  df : Df
  lam : Bool := false
/-- the names that a def's text may store to; the lambda's name stands for the leave to make one -/
def Fd.fx (e : Fd) : Str → Bool := fun x => !(x == Str.ofString "<lambda>") || e.lam
structure FdOk (L : Lex) (e : Fd) : Prop where
  sc : FnScope e.N e.ps e.d.scope
  chk : chkS e.N L e.d.scope e.fx e.df.body e.d.body = true
  n : e.df.n = e.ps.length
  sz : e.df.sz = e.N.length
  le : e.ps.length ≤ e.N.length
  at_ : e.d.at_ = (e.d.name, none)
  qn : e.d.qual = e.d.name
  dfl : e.d.dfl = []
  kwd : e.d.kwd = []
  bind : ∀ (kV doc pm : Value) (an : Option Addr) (cdv ct : Value) (us : List Value), us.length = e.ps.length → bindArgs (PySem.W.fnOf e.d.name e.d.qual e.d.params e.d.body e.d.scope .none kV doc pm an cdv ct) ⟨us, []⟩ = pure (e.ps.zip us)
def frOf (args : List Arg) (vs : List V) : Nat → Option Addr := fun j => match args[j]?, vs[j]? with
  | some (.ob _), some (.ref a) => some a
  | _, _ => none
section
variable {K : PySem.W.Frag} {G O : Addr → Prop} {H : Hp} {args : List Arg} {vs : List V}
theorem frOf_some {j : Nat} {a : Addr} (h : frOf args vs j = some a) : isOb args[j]? = true ∧ vs[j]? = some (.ref a) := by
  unfold frOf at h
  split at h
  · rename_i c b e1 e2
    cases h
    rw [e1]
    exact ⟨rfl, e2⟩
  · cases h
theorem frOf_of {j : Nat} {a : Addr} (h1 : isOb args[j]? = true) (h2 : vs[j]? = some (.ref a)) : frOf args vs j = some a := by
  unfold frOf
  rw [h2]
  cases e : args[j]? with
  | none => rw [e] at h1; cases h1
  | some x =>
    cases x with
    | d y => rw [e] at h1; cases h1
    | ob c => rfl
theorem start_get {N : List Str} {j : Nat} {v : V} (h : vs[j]? = some v) : (L2.start N vs)[j]? = some (some v) := by
  unfold L2.start
  have hl := (List.getElem?_eq_some_iff.mp h).1
  rw [List.getElem?_append_left (by simpa using hl), List.getElem?_map, h]
  rfl
/-- at a def's entry -/
theorem Stt.entry (hd : Hand K G O H args vs) {N : List Str} {sz : Nat} (hs : sz = N.length) (hn : vs.length ≤ N.length) :
    @Stt _ ⟨frOf args vs⟩ K G O H (args.map slotOf ++ List.replicate (sz - args.length) .non) (L2.start N vs) := by
  letI : Fr := ⟨frOf args vs⟩
  have hlen : args.length = vs.length := hd.len
  have own : ∀ (j : Nat), isOwn (args.map slotOf ++ List.replicate (sz - args.length) .non)[j]? = true → isOb args[j]? = true := fun j h => by
    by_cases hj : j < args.length
    · rw [List.getElem?_append_left (by simpa using hj), List.getElem?_map] at h
      cases e : args[j]? with
      | none => simp [e, kd, isOb, isOwn] at h
      | some x =>
        rw [e] at h
        cases x with
        | d y => cases h
        | ob c => rfl
    · rw [List.getElem?_append_right (by simpa using hj), List.getElem?_replicate] at h
      split at h <;> cases h
  have val : ∀ (j : Nat) (v : V), isOb args[j]? = true → (L2.start N vs)[j]?.join = some v → vs[j]? = some v := fun j v h e => by
    have hj : j < vs.length := by
      rw [← hlen]
      cases e : args[j]? with
      | none => simp [e, kd, isOb, isOwn] at h
      | some x => exact (List.getElem?_eq_some_iff.mp e).1
    have e1 : vs[j]? = some vs[j] := by simp [hj]
    rw [start_get (N := N) e1] at e
    rw [e1]
    exact e
  refine ⟨hd.wf, hd.wg, ?_, fun i t e => ?_, fun i j a h1 h2 e1 e2 => hd.ap i j a (own i h1) (own j h2) (val i _ (own i h1) e1) (val j _ (own j h2) e2), fun j a e => ?_, fun i => ⟨fun h => ?_, fun h => ?_⟩, hd.tb⟩
  · unfold L2.start
    simp
    omega
  · by_cases hj : i < args.length
    · rw [List.getElem?_append_left (by simpa using hj), List.getElem?_map] at e
      obtain ⟨x, hx, rfl⟩ := Option.map_eq_some_iff.mp e
      have hv : vs[i]? = some (vs[i]'(by omega)) := by simp [show i < vs.length by omega]
      have ar := hd.at_ i x _ hx hv
      rw [start_get (N := N) hv]
      cases x with
      | d y => exact ⟨_, rfl, ar⟩
      | ob c =>
        obtain ⟨a, ea, oa, ca⟩ := ar
        exact ⟨a, by rw [ea]; rfl, oa, ca⟩
    · rw [List.getElem?_append_right (by simpa using hj), List.getElem?_replicate] at e
      split at e
      · cases e; trivial
      · cases e
  · obtain ⟨h1, h2⟩ := frOf_some e
    cases ex : args[j]? with
    | none => rw [ex] at h1; cases h1
    | some x =>
      rw [ex] at h1
      cases x with
      | d y => cases h1
      | ob c =>
        obtain ⟨b, eb, ob, _⟩ := hd.at_ j _ _ ex h2
        cases eb
        exact ob
  · have ho := own i (by
      cases e : (args.map slotOf ++ List.replicate (sz - args.length) .non)[i]? with
      | none => simp [e, kd, isOb, isOwn] at h
      | some t =>
        rw [e] at h
        cases t with
        | par c => rfl
        | _ => cases h)
    cases ex : args[i]? with
    | none => rw [ex] at ho; cases ho
    | some x =>
      rw [ex] at ho
      cases x with
      | d y => cases ho
      | ob c =>
        have hj : i < vs.length := by rw [← hlen]; exact (List.getElem?_eq_some_iff.mp ex).1
        have hv : vs[i]? = some vs[i] := by simp [hj]
        obtain ⟨a, ea, oa, ca⟩ := hd.at_ i _ _ ex hv
        rw [ea] at hv
        exact ⟨a, by rw [start_get (N := N) hv]; rfl, frOf_of (by rw [ex]; rfl) hv⟩
  · exfalso
    by_cases hj : i < args.length
    · rw [List.getElem?_append_left (by simpa using hj), List.getElem?_map] at h
      cases e : args[i]? with
      | none => simp [e, kd, isOb, isOwn] at h
      | some x => rw [e] at h; cases x <;> cases h
    · rw [List.getElem?_append_right (by simpa using hj), List.getElem?_replicate] at h
      split at h <;> cases h
/-- what comes back of what was handed over -/
theorem outs_ok {O' : Addr → Prop} {H' : Hp} {r : Rho} {σ' : L2.St} (hl : args.length = vs.length) (s : @Stt _ ⟨frOf args vs⟩ K G O' H' r σ') : ∀ {j : Nat} {as : List Arg} {ws : List V} {outs : List Ct}, (∀ i : Nat, as[i]? = args[j + i]?) → (∀ i : Nat, ws[i]? = vs[j + i]?) → as.length = ws.length → outsOf r j as = some outs → OutsR K (Av O' G) H' as ws outs
  | j, [], [], outs, _, _, _, h => by cases h; trivial
  | j, [], _ :: _, outs, _, _, h, _ => by cases h
  | j, _ :: _, [], outs, _, _, h, _ => by cases h
  | j, .d x :: as, w :: ws, outs, h1, h2, h3, h => by
    have h : outsOf r (j + 1) as = some outs := h
    show OutsR K (Av O' G) H' as ws outs
    exact outs_ok hl s (j := j + 1) (as := as) (ws := ws) (fun i => by have := h1 (i + 1); rw [List.getElem?_cons_succ] at this; rw [this, show j + (i + 1) = j + 1 + i by omega]) (fun i => by have := h2 (i + 1); rw [List.getElem?_cons_succ] at this; rw [this, show j + (i + 1) = j + 1 + i by omega]) (by simpa using h3) h
  | j, .ob x :: as, w :: ws, outs, h1, h2, h3, h => by
    unfold outsOf at h
    split at h
    · rename_i c e
      obtain ⟨outs', eo, rfl⟩ := Option.map_eq_some_iff.mp h
      refine ⟨?_, outs_ok hl s (j := j + 1) (as := as) (ws := ws) (fun i => by have := h1 (i + 1); rw [List.getElem?_cons_succ] at this; rw [this, show j + (i + 1) = j + 1 + i by omega]) (fun i => by have := h2 (i + 1); rw [List.getElem?_cons_succ] at this; rw [this, show j + (i + 1) = j + 1 + i by omega]) (by simpa using h3) eo⟩
      letI : Fr := ⟨frOf args vs⟩
      obtain ⟨a, e1, oa, ca⟩ := s.sl j _ e
      obtain ⟨b, e2, e3⟩ := (s.pq j).1 (by rw [e]; rfl)
      rw [e1] at e2
      cases e2
      have hw : vs[j]? = some w := by have := h2 0; simpa using this.symm
      have := (frOf_some e3).2
      rw [hw] at this
      exact ⟨a, Option.some.inj this, ca⟩
    · cases h
end
theorem fn_run {P : Program} {w : World} {K : PySem.W.Frag} {mg : Str → Option Value} {base : Heap} {L : Lex} {C : Calls} {k : Nat} {e : Fd} (o : FdOk L e) {f : Addr} {fd : FuncData} (F : FunD K e.d.name e.d.qual e.d.params e.d.body e.d.scope [] [] f fd)
    (hx : ∀ (_ : Fr) (X : Cx), X.prog = P → X.w = w → X.K = K → X.mg = mg → X.base = base → Fx X L k C)
    (hlam : e.lam = true → ∃ c P', fd.code = .ref c ∧ LamX.TabB base mg c P' ∧ (P', (envOfC e.d.qual e.d.scope 0 f .none).qual ++ "<lambda>") ∈ Tbls.T ∧ ∀ p ∈ Tbls.T, p.1 = P' → p.2 = (envOfC e.d.qual e.d.scope 0 f .none).qual ++ "<lambda>") : FnOk P w K mg base (L2N.CX P w) (3 * (k + 1) + 3) f fd e.ps (spF K e.ps.length (runF C L.gl e.df)) := by
  obtain ⟨_, _, _, _, _, _, _, cdv, _, _, rfl, lk, hcd, _⟩ := F.ex
  refine fn_of (N := e.N) lk hcd o.sc (fun vs H Q E h => h.1) fun A outer s H vs Q E hr h => ?_
  obtain ⟨hl, G, O, args, hd, hm⟩ := h
  letI : Fr := ⟨frOf args vs⟩
  have pas : PassesOwn (model (cxOf (L2N.CX P w) P w K mg base e.N e.d.qual e.d.scope f cdv A outer s H E).prog (cxOf (L2N.CX P w) P w K mg base e.N e.d.qual e.d.scope f cdv A outer s H E).w) (cxOf (L2N.CX P w) P w K mg base e.N e.d.qual e.d.scope f cdv A outer s H E).A (cxOf (L2N.CX P w) P w K mg base e.N e.d.qual e.d.scope f cdv A outer s H E).env (cxOf (L2N.CX P w) P w K mg base e.N e.d.qual e.d.scope f cdv A outer s H E).xe := passes_of rfl
  have cok : Cok (cxOf (L2N.CX P w) P w K mg base e.N e.d.qual e.d.scope f cdv A outer s H E) e.N e.d.scope e.fx (fun cls d _ H' => E cls d H') k := ⟨rfl, o.sc.nd, rfl, fun _ _ => rfl, rfl, L2N.takes_of rfl rfl rfl rfl, hr.mono (by omega), fun z => by
    have on : e.lam = true := by simpa [Fd.fx] using z
    obtain ⟨c, P', h1, h2, h3, h4⟩ := hlam on
    exact ⟨hr.mono (by omega), c, P', h1, h2, h3, h4⟩⟩
  have ps := (so_stmt C L k e.df.fuel e.df.body).2 (cxOf (L2N.CX P w) P w K mg base e.N e.d.qual e.d.scope f cdv A outer s H E) e.N e.d.scope e.fx (fun cls d _ H' => E cls d H') e.d.body cok (hx _ _ rfl rfl rfl rfl rfl) pas o.sc.kind o.chk
  refine ⟨_, ps, G, O, _, Stt.entry hd o.sz (by rw [hl]; exact o.le), ?_⟩
  have hal : args.length = e.df.n := by rw [hd.len, hl, o.n]
  unfold runF at hm
  rw [if_pos hal] at hm
  have fresh : ∀ {O' : Addr → Prop} {H' : Hp} {r : Rho} {σ' : L2.St}, Ext O H O' H' → Stt K G O' H' r σ' → ∀ a, O a → O' a := fun {O' H' r σ'} ex s a oa => by
    obtain ⟨i, h1, h2⟩ := hd.cov a oa
    exact s.pf i a (frOf_of h1 h2)
  have outs : ∀ {O' : Addr → Prop} {H' : Hp} {r : Rho} {σ' : L2.St} {os : List Ct}, Stt K G O' H' r σ' → outsOf r 0 args = some os → OutsR K (Av O' G) H' args vs os := fun s h => outs_ok hd.len s (j := 0) (fun i => by rw [Nat.zero_add]) (fun i => by rw [Nat.zero_add]) hd.len h
  cases ev : evS C L.gl e.df.fuel e.df.body (args.map slotOf ++ List.replicate (e.df.sz - args.length) .non) with
  | nx r =>
    rw [ev] at hm
    unfold retC at hm
    cases eo : outsOf r 0 args with
    | none => simp only [eo] at hm
    | some os =>
      simp only [eo] at hm
      exact fun O' H' σ' ex s' => hm O' H' .non ex (fresh ex s') (outs s' eo) .non
  | rt v r =>
    rw [ev] at hm
    unfold retC at hm
    cases eo : outsOf r 0 args with
    | none => simp only [eo] at hm
    | some os =>
      simp only [eo] at hm
      intro O' H' σ' u ex s' q
      refine hm O' H' u ex (fresh ex s') (outs s' eo) ?_
      cases v with
      | d x => exact q
      | fr ds =>
        obtain ⟨p, ws, e1, op, np, hw, qs⟩ := q
        refine ⟨p, ws, e1, op, ?_, hw, qs⟩
        intro there
        obtain ⟨i, h1, h2⟩ := hd.cov p (ex.own p op there)
        exact np i p (frOf_of h1 h2) rfl
      | par j => exact q.elim
  | ex c r =>
    rw [ev] at hm
    unfold retC at hm
    cases eo : outsOf r 0 args with
    | none => simp only [eo] at hm
    | some os =>
      simp only [eo] at hm
      exact fun O' H' σ' ex s' => hm O' H' ex (fresh ex s') (outs s' eo)
  | bk r => rw [ev] at hm; exact hm.elim
  | ct r => rw [ev] at hm; exact hm.elim
  | no => rw [ev] at hm; exact hm.elim
end Ev
end
section
set_option Elab.async false
set_option maxRecDepth 100000
set_option linter.all false
set_option autoImplicit false
set_option maxHeartbeats 1200000
/-! Ev17: a lambda handed to one of the law's helpers. -/
namespace Ev
open PySem PySem.Spec PyProof.Rows L2
variable [Tbls] [Fr]
/-- what the helper gives back: of a value; of an error with that text -/
def finOk (told : Bool) (v : V) (H : Hp) (Q : VK) : Prop := match told with
  | true => [v, V.str (Str.ofString "")].length ≤ sizeLine ∧ ∀ p, H p = none → Q (.ref p) (upd H p (.tup [v, .str (Str.ofString "")]))
  | false => Q (.str (Str.ofString "")) H
def finEx (told : Bool) (z : Str) (H : Hp) (Q : VK) : Prop := match told with
  | true => ∀ p, H p = none → Q (.ref p) (upd H p (.tup [.non, .str z]))
  | false => Q (.str z) H
/-- what the helper asks of the lambda's reading; nam: the texts of the error classes -/
def helpT (K : PySem.W.Frag) (told : Bool) (nam : List (Str × Str)) : (XK → Hp → VK → Prop) → Hp → VK → Prop := fun tl H Q =>
  tl (fun cls d H' => d = none ∧ ∃ c z, cls = .ref (He.ga K c) ∧ nam.lookup c = some z ∧ ∀ H'', Same H' H'' → finEx told z H'' Q) H (fun v H' => finOk told v H' Q)
def datOk (told : Bool) (x : D) : D := if told then .tuple [x, .str (Str.ofString "")] else .str (Str.ofString "")
def datEx (told : Bool) (z : Str) : D := if told then .tuple [.none, .str z] else .str z
def telG (told : Bool) (nam : List (Str × Str)) : List Arg → RC
  | [.d x] => .ok (.d (datOk told x)) []
  | [.d (.str c), .d .none] => match nam.lookup c with
    | some z => .ok (.d (datEx told z)) []
    | none => .no
  | _ => .no
section
variable {K : PySem.W.Frag} {G O : Addr → Prop} {H H1 : Hp} {r : Rho} {σ : L2.St}
theorem extn_ext (en : LamX.ExtN H H1) (tb : LamX.Tabs Tbls.T H1) : Ext O H O H1 := ⟨fun a o e _ m => en a o e m, fun a t => t.imp fun o q => ⟨en a o q.1 q.2, q.2⟩, fun _ h _ => h, fun _ => tb⟩
theorem Stt.extn (s : Stt K G O H r σ) (en : LamX.ExtN H H1) (tb : LamX.Tabs Tbls.T H1) : Stt K G O H1 r σ := by
  have same : ∀ a, Mu H a → H1 a = H a := fun a m => by
    obtain ⟨o, e, nt⟩ := m.th
    rw [e, en a o e nt]
  have rl : ∀ d v, Rl K (Av O G) H d v → Rl K (Av O G) H1 d v := fun d v z => z.ext s.wf (extn_ext en tb)
  exact ⟨fun a z => (s.wf a z).of_eq (same a (s.wf a z)), fun a z => ⟨(s.wg a z).1.of_eq (same a (s.wg a z).1), (s.wg a z).2⟩, s.len, fun i t e => (s.sl i t e).conv rl fun c a oa ca => ⟨oa, ca.imp rl (same a ca.mu)⟩, s.ap, s.pf, s.pq, tb⟩
end
theorem no_par {a : Arguments} (h : noPar a = true) : a = ⟨[], [], none, [], [], none, []⟩ := by
  obtain ⟨po, ar, va, ko, kd, kw, df⟩ := a
  simp only [noPar, Bool.and_eq_true, List.isEmpty_iff, Option.isNone_iff_eq_none] at h
  obtain ⟨h1, h2, h3, h4, h5, h6, h7⟩ := h
  subst h1 h2 h3 h4 h5 h6 h7
  rfl
/-! ### the lambda, run -/
/-- the function object that a lambda written in X makes -/
abbrev lamFn (X : Cx) (params : Arguments) (body : Expr) (scope : Scope) (pm : Value) (c' : Addr) (ctv : Value) : FuncData := PySem.W.kla_fn "<lambda>" (X.env.qual ++ "<lambda>") params body scope (cloFrom X.env.cells scope.names []) pm (.ref c') ctv
abbrev lamOb (X : Cx) (params : Arguments) (body : Expr) (scope : Scope) (pm : Value) (c' : Addr) (ctv : Value) : Obj := PySem.W.kla_obj "<lambda>" (X.env.qual ++ "<lambda>") params body scope (cloFrom X.env.cells scope.names []) pm c' ctv
/-- made in X at s, called at t under other frames -/
theorem lam_runs {X : Cx} {pins : List (Addr × Obj)} {σ : L2.St} {H HZ : Hp} {s t : Shared} {A : Around} {outer : List Env} {E : XK} {Q : VK} {tb : TE} {params : Arguments} {body : Expr} {scope : Scope} {f c' : Addr} {pm ctv : Value} {k : Nat}
    (I : L2.Inv X pins σ H s) (ls : LamX.LamS X.env.scope scope) (there : t.heap.get? f = some (lamOb X params body scope pm c' ctv)) (e0 : Env0 X.prog X.w X.K X.mg X.base A outer t HZ) (un : Un (frs X.stack) [] H HZ s.heap t.heap) (lim : t.heap.NoLimit)
    (room : Room (k + 1) A) (code : HZ c' = some (LamX.CodeO c' (X.env.qual ++ "<lambda>"))) (alone : bindArgs (lamFn X params body scope pm c' ctv) ⟨[], []⟩ = pure []) (does : PE (lamN X A outer t HZ E scope f c') body tb) (ask : tb σ HZ Q) :
    codeAny (model X.prog X.w) A (.call (.ref f) ⟨[], []⟩) (CR (L2N.CX X.prog X.w) outer X.prog X.w HZ t Q E) t := by
  obtain ⟨⟨oc, vs, tk, hoc, dat, nam⟩, _⟩ := e0.hok c' _ code
  refine PySem.W.kla_callFunE room.depth there rfl ls.co ls.gen rfl ⟨c', oc, vs, tk, rfl, hoc, dat, nam⟩ ?_
  rw [alone]
  refine wpAny_pure (wpAny_newFunctionEnv (fun y m => (ls.own y m).2) (fun y m => nomatch m) (fun h1 ns only => ⟨lim.fresh _ only, ?_⟩) ls.kind)
  have grown : ∀ b o, t.heap.get? b = some o → h1.get? b = some o := fun b o e => only.extBut b o (Nat.ne_of_lt (Heap.lt_size e)) (Heap.get?_push_of_some _ e)
  have J := (LamX.lam_start2 (E := E) (f := f) (c' := c') (tk := t.toks + ([] : List (Str × Value)).length) I ls e0 room.hd un ns grown).wish (lamN X A outer t HZ E scope f c').xe
  refine PySem.W.kla_codeExpr (wpAny_mono (does.run [] _ _ HZ Q J ask) (fun v z => ?_) fun _ _ z => z)
  rintro ⟨x, H', K', rv, q⟩
  exact ⟨x, H', K'.os, K'.bare, K'.base, K'.hok, rv, q⟩
/-- the helper's own context, entered at s out of X -/
abbrev helpX (X : Cx) (Ng : List Str) (x : Str) (sg : Scope) (g : Addr) (cdg : Value) (s : Shared) (H : Hp) : Cx := cxOf C8.CX0 X.prog X.w X.K X.mg X.base Ng x sg g cdg X.A X.stack s H C8.E0
/-- the def x, handed a lambda as its only argument a, serves it as T says -/
def Serves (X : Cx) (Ng : List Str) (x : Str) (sg : Scope) (g : Addr) (cdg : Value) (bg : List Stmt) (a q : Str) (k : Nat) (T : (XK → Hp → VK → Prop) → Hp → VK → Prop) : Prop :=
  ∀ (f c' : Addr) (s : Shared) (H : Hp) (Q : VK) (tl : XK → Hp → VK → Prop), Room k (helpX X Ng x sg g cdg s H).A →
    (∀ (W : WX) (pn : List (Addr × Obj)) (xe : Value → Shared → Prop) (E : XK) (p1 p2 : Pos), L2N.Takes ((helpX X Ng x sg g cdg s H).tr pn xe) W → (∀ cls d σ' H', E cls d H' → W cls d σ' H') →
      PE ((helpX X Ng x sg g cdg s H).tr pn xe) (.Call (.Name a p1) [] [] p2) (fun σZ HZ R => σZ[0]? = some (some (.ref f)) ∧ HZ c' = some (LamX.CodeO c' q) ∧ tl E HZ R)) →
    H c' = some (LamX.CodeO c' q) → T tl H Q → ∃ t, PSs (helpX X Ng x sg g cdg s H).nox bg t ∧ t { nx := fun _ H' => Q .non H', rt := Q } (L2.start Ng [.ref f]) H
theorem lam_called {X : Cx} {pins : List (Addr × Obj)} {σ : L2.St} {H : Hp} {s : Shared} {Ng : List Str} {x a : Str} {sg : Scope} {g f c' : Addr} {cdg pm ctv : Value} {params : Arguments} {body : Expr} {scope : Scope} {k : Nat} {pn : List (Addr × Obj)}
    {xe : Value → Shared → Prop} {W : WX} {E : XK} {tb : TE} {p1 p2 : Pos} (I : L2.Inv X pins σ H s) (ls : LamX.LamS X.env.scope scope) (made : s.heap.get? f = some (lamOb X params body scope pm c' ctv)) (free : H f = none) (nofr : f ∉ frs X.stack)
    (alone : bindArgs (lamFn X params body scope pm c' ctv) ⟨[], []⟩ = pure []) (tk : L2N.Takes ((helpX X Ng x sg g cdg s H).tr pn xe) W) (hW : ∀ cls d σ' H', E cls d H' → W cls d σ' H') (room : Room (k + 1) (helpX X Ng x sg g cdg s H).A)
    (does : ∀ (A : Around) (outer : List Env) (t : Shared) (HZ : Hp), Room k (A.deeper (LamX.lamEnv X scope t.heap.objs.size f c')) → PE (lamN X A outer t HZ E scope f c') body tb) (slot : Ng[0]? = some a) (vis : Vis sg a)
    (hd : (a == ("__debug__" : Str)) = false) (hcd : (a == ("__classdict__" : Str)) = false) :
    PE ((helpX X Ng x sg g cdg s H).tr pn xe) (.Call (.Name a p1) [] [] p2) (fun σZ HZ R => σZ[0]? = some (some (.ref f)) ∧ HZ c' = some (LamX.CodeO c' (X.env.qual ++ "<lambda>")) ∧ tb σ HZ R) where
  run ps z σZ HZ Q IZ ask := by
    obtain ⟨here, code, ask⟩ := ask
    have name := (pe_var (X := (helpX X Ng x sg g cdg s H).tr pn xe) (pos := p1) (i := 0) slot vis hd hcd).run ps z σZ HZ (fun v H1 => v = .ref f ∧ H1 = HZ) IZ ⟨.ref f, here, rfl, rfl⟩
    refine wpAny_Call_Name_kw (thn name fun u s1 got => ?_)
    obtain ⟨_, _, I1, isf, rfl, rfl⟩ := got
    cases isf
    have there := I1.base.keep f _ made free nofr (fun m => nomatch (show f ∈ ([] : List Addr) from m))
    refine PySem.W.callWith_F0 ⟨_, _, _, _, there⟩ ?_
    have ran := lam_runs (E := E) (Q := Q) I ls there I1.env0 I1.base I1.nolimit room code alone (does _ _ _ _ (room.deeper _)) ask
    refine wpAny_call (codeAny_mono ran fun res s2 out => ?_)
    match res, out with
    | .error e, out => exact L2N.passes_call tk hW _ _ _ _ _ _ I1 out
    | .ok (.ret u), out => exact I1.after out
/-- x(lambda: body) -/
theorem lam_handed {X : Cx} {T : (XK → Hp → VK → Prop) → Hp → VK → Prop} {x a : Str} {g c P : Addr} {k : Nat} {pg : Arguments} {bg : List Stmt} {sg : Scope} {dV kV doc pm cdv ct oc : Value} {an od : Option Addr} {osl : Array (Option Value)} {Ng : List Str}
    {body : Expr} {scope : Scope} {t : XK → TE} {p lpos pos : Pos} (hg : Gl X x) (hm : X.mg x = some (.ref g)) (hk : PySem.W.keepIn X.K (.ref g) = true)
    (lk : X.K.lookup g = some ⟨oc, od, .func (PySem.W.fnOf x x pg bg sg dV kV doc pm an cdv ct), osl⟩) (hcg : PySem.W.codeIn X.K cdv x = true) (hb : L2.Binds X.K (PySem.W.fnOf x x pg bg sg dV kV doc pm an cdv ct) [a] []) (Sg : FnScope Ng [a] sg) (slot : Ng[0]? = some a)
    (vis : Vis sg a) (serves : Serves X Ng x sg g cdv bg a (X.env.qual ++ "<lambda>") (k + 1) T) (TB : LamX.TabB X.base X.mg c P) (hcode : X.env.code = .ref c) (hmT : (P, X.env.qual ++ "<lambda>") ∈ Tbls.T) (hu : ∀ p ∈ Tbls.T, p.1 = P → p.2 = X.env.qual ++ "<lambda>")
    (room : Room (k + 2) X.A) (ls : LamX.LamS X.env.scope scope) (does : ∀ (A : Around) (outer : List Env) (s : Shared) (H : Hp) (E : XK) (f c' : Addr), Room k (A.deeper (LamX.lamEnv X scope s.heap.objs.size f c')) → PE (lamN X A outer s H E scope f c') body (t E))
    (hdb : (x == ("__debug__" : Str)) = false) (hd : (a == ("__debug__" : Str)) = false) (hcd : (a == ("__classdict__" : Str)) = false) :
    PE X (.Call (.Name x p) [.Lambda ⟨[], [], none, [], [], none, []⟩ body scope lpos] [] pos) (fun σ H Q => LamX.Tabs Tbls.T H ∧ ∀ H1, LamX.ExtN H H1 → LamX.Tabs Tbls.T H1 → T (fun E H' Q' => t E σ H' Q') H1 Q) where
  run ps s σ H Q I ask := by
    obtain ⟨tabs, ask⟩ := ask
    refine wpAny_Call_Name_kw (ld_glob I hg hm (PySem.W.callWith_K (h₀ := X.base) I.ok.mod.kin hk ?_ (by rfl) (by rfl)) hdb)
    show wpAny _ _ (spliced ((false, eval (.Lambda ⟨[], [], none, [], [], none, []⟩ body scope lpos) X.env) :: backTo pos (starEach [] X.env))) _ _ _
    refine Calls.spliced_cons (LamX.lam_make2 I TB hcode hmT hu tabs (by rfl) (ls.has I.ok) fun f c' pm' ctv H1 s1 I1 en tb made free nofr code => ?_)
    have ran : codeAny (model X.prog X.w) X.A (.call (.ref g) ⟨[.ref f], []⟩) (CR C8.CX0 X.stack X.prog X.w H1 s1 Q C8.E0) s1 := by
      refine LamX.run_ofS (N := Ng) (ps := [a]) (us := [.ref f]) (vs := [.ref f]) lk hcg Sg room I1.env0 (hb s1 [.ref f] I1.kIn rfl) (.cons rfl .nil) rfl fun inner => ?_
      obtain ⟨ts, told, fin⟩ := serves f c' s1 H1 Q (fun E H' Q' => t E σ H' Q') inner (fun W pn xe E p1 p2 tk hW => lam_called I1 ls made free nofr (by rfl) tk hW inner (fun A outer z HZ r => does A outer z HZ E f c' r) slot vis hd hcd) code (ask H1 en tb)
      exact ⟨ts, told.nox, fin⟩
    refine Calls.spliced_nil ⟨I1.kIn, wpAny_call (codeAny_mono ran fun res s2 out => ?_)⟩
    match res, out with
    | .ok (.ret u), out => exact I1.after out
theorem tel_ok {Y : Cx} {x a : Str} {g : Addr} {k : Nat} {told : Bool} {nam : List (Str × Str)} {pg : Arguments} {bg : List Stmt} {sg : Scope} {dV kV doc pm cdv ct oc : Value} {an od : Option Addr} {osl : Array (Option Value)} {Ng : List Str}
    (hm : Y.mg x = some (.ref g)) (hk : PySem.W.keepIn Y.K (.ref g) = true) (lk : Y.K.lookup g = some ⟨oc, od, .func (PySem.W.fnOf x x pg bg sg dV kV doc pm an cdv ct), osl⟩) (hcg : PySem.W.codeIn Y.K cdv x = true)
    (hb : L2.Binds Y.K (PySem.W.fnOf x x pg bg sg dV kV doc pm an cdv ct) [a] []) (Sg : FnScope Ng [a] sg) (hNg : Ng[0]? = some a) (hva : Vis sg a) (hd : (a == ("__debug__" : Str)) = false) (hcd : (a == ("__classdict__" : Str)) = false)
    (hG : ∀ q, Serves Y Ng x sg g cdv bg a q (3 * k + 4) (helpT Y.K told nam)) : TelOk Y x k (telG told nam) := by
  intro W ev params body scope p lpos pos hgl hdb lam calm tk np ls hbody
  obtain ⟨room, c, P, hcode, TB, hmT, hu⟩ := lam
  have ep := no_par np
  subst ep
  have made := lam_handed (k := 3 * k + 3) (p := p) (lpos := lpos) (pos := pos) (t := fun E => tE Y.K (fun cls d _ H' => E cls d H') ev) hgl hm hk lk hcg hb Sg hNg hva (hG _) TB hcode hmT hu room ls hbody hdb hd hcd
  refine PE.imp made fun σ H Q ⟨G, O, r, s, got⟩ => ⟨s.tb, fun H1 en tb => ⟨G, O, r, s.extn en tb, ?_⟩⟩
  have e0 : Ext O H O H1 := extn_ext en tb
  have got : Got Y.K G (RD Y.K G) W σ O H (telEv (telG told nam) (ev r)) Q := got
  cases e : ev r with
  | no => rw [e] at got; exact got
  | ok y r1 =>
    rw [e] at got
    intro O' H' v e1 s1 q
    cases told with
    | true =>
      refine ⟨two_fit, fun p fresh => ?_⟩
      have sm := same_upd (o := .tup [v, .str (Str.ofString "")]) fresh
      exact got O' _ _ ((e0.trans e1).trans (.same sm)) (s1.same sm) (.tup (.inl (.inl upd_same)) (.cons (q.same sm) (.cons (.str _) .nil)))
    | false => exact got O' H' _ (e0.trans e1) s1 (.str _)
  | ex c r1 =>
    rw [e] at got
    intro O' H' e1 s1
    have got : Got Y.K G (RD Y.K G) W σ O H (telOf (match nam.lookup c with
      | some z => .ok (.d (datEx told z)) []
      | none => .no) r1) Q := got
    cases en : nam.lookup c with
    | none => rw [en] at got; exact got.elim
    | some z =>
      rw [en] at got
      refine ⟨rfl, c, z, rfl, en, fun H2 sm => ?_⟩
      have e2 := (e0.trans e1).trans (Ext.same (O := O') sm)
      cases told with
      | true =>
        intro p fresh
        have sm' := same_upd (o := .tup [.non, .str z]) fresh
        exact got O' _ _ (e2.trans (.same sm')) ((s1.same sm).same sm') (.tup (.inl (.inl upd_same)) (.cons .non (.cons (.str _) .nil)))
      | false => exact got O' H2 _ e2 (s1.same sm) (.str _)
end Ev
end
section
set_option Elab.async false
set_option maxRecDepth 100000
set_option linter.all false
set_option autoImplicit false
set_option maxHeartbeats 1200000
/-! Ev18: iterators that end while an exception is handled. -/
namespace Ev
open PySem PySem.Spec PyProof.Rows L2
open He (ba)
section
variable {prog : Program} {w : World} {A : Around} {E : Value → Shared → Prop} {s : Shared}
/-- a new StopIteration, raised while x1 is handled -/
theorem stop_hot {α : Type} {x1 : Addr} {Q : α → Shared → Prop} (hot : HotX.HotAt A x1 s.heap)
    (fin : ∀ h' e, (∀ b o, s.heap.get? b = some o → h'.get? b = some o) → (∃ o, h'.get? e = some o ∧ o.cls = .type "StopIteration") → E (.ref e) { s with heap := h' }) :
    wpAny (model prog w) A (newExc (.type "StopIteration") [] >>= fun e => (raiseNew e : Sem α)) Q E s := by
  obtain ⟨who, o1, vs1, there, dat, ctx⟩ := hot
  refine wpAny_bind ?_
  simp only [newExc, newTuple]
  refine wpAny_bind (wpAny_newObj_type (wpAny_bind (m := firstArgMember _ _) (wpAny_of_eq (a := Value.none) (by first | rfl | (simp only [firstArgMember]; rfl)) (wpAny_newObj_type ?_ (by size_fits)))) (by size_fits))
  have keep : ∀ {o' o'' : Obj} b u, s.heap.get? b = some u → ((s.heap.push o').push o'').get? b = some u := fun b u e => Heap.get?_push_of_some _ (Heap.get?_push_of_some _ e)
  refine HotX.raiseNew_hot ⟨who, o1, vs1, keep _ _ there, dat, ctx⟩ (Nat.ne_of_lt (Heap.lt_size (Heap.get?_push_of_some _ there))) (Heap.get?_push_size _ rfl) rfl (by simp; omega) (fin _ _ (fun b u e => ?_) ⟨_, Heap.get?_update_self _ (Heap.get?_push_size _ rfl) rfl, rfl⟩)
  exact (Heap.get?_update_other _ _ (Nat.ne_of_gt (Heap.lt_size (Heap.get?_push_of_some _ e)))).trans (keep b u e)
/-- the rule that gives the next item -/
def nextRule (k : Bool) : Builtin := match k with
  | true => Builtin.«list_iterator.__next__»
  | false => Builtin.«tuple_iterator.__next__»
/-- a list's or a tuple's iterator at its end, while x1 is handled -/
theorem rising_end {k : Bool} {it a x1 : Addr} {i : Nat} {items : Array Value} {Q : Fin → Shared → Prop} (hot : HotX.HotAt A x1 s.heap) (hit : SrcIt k s.heap it a i) (hs : SrcH k s.heap a items) (hx : items[i]? = none)
    (fin : ∀ h' e, Heap.ExtBut it s.heap h' → (∃ o, h'.get? e = some o ∧ o.cls = .type "StopIteration") → E (.ref e) { s with heap := h' }) : wpAny (model prog w) A (nextRule k ⟨[.ref it], []⟩) Q E s := by
  obtain ⟨ob, there, dat⟩ : ∃ o, s.heap.get? it = some o ∧ o.data = .fields #[.ref a, .int i 0] := by
    cases k
    · obtain ⟨o, e, _, d⟩ := (show s.heap.IsTupleIter it a i from hit); exact ⟨o, e, d⟩
    · obtain ⟨o, e, _, d⟩ := (show s.heap.IsListIter it a i from hit); exact ⟨o, e, d⟩
  obtain ⟨sq, n, stands, seq⟩ : ∃ o n, s.heap.get? a = some o ∧ o.data = .seq items n := by
    cases k
    · obtain ⟨o, e, _, n, d⟩ := (show s.heap.IsTuple a items from hs); exact ⟨o, n, e, d⟩
    · obtain ⟨o, e, _, n, d⟩ := (show s.heap.IsList a items from hs); exact ⟨o, n, e, d⟩
  obtain ⟨who, o1, vs1, at1, dat1, ctx⟩ := hot
  have apart : x1 ≠ it := fun e => by
    rw [e, there] at at1
    cases at1
    rw [dat] at dat1
    cases dat1
    simp at ctx
  have live : ¬ ((Value.ref a == Value.none) = true) := Bool.false_ne_true
  have set0 : ∀ {P : Unit → Shared → Prop} {s1 : Shared}, s1 = s → P () { s1 with heap := s1.heap.update it (Obj.mapFields (·.setIfInBounds 0 .none)) } → wpAny (model prog w) A (setField (.ref it) 0 .none) P E s1 := fun e p => by
    subst e
    exact wpAny_setField there dat (by simp) p
  have ends : ∀ {P : Fin → Shared → Prop}, wpAny (model prog w) A (do setField (.ref it) 0 .none; newExc (.type "StopIteration") [] >>= fun e => (raiseNew e : Sem Fin)) P E s := by
    intro P
    refine wpAny_bind (set0 rfl (stop_hot ⟨who, o1, vs1, (Heap.get?_update_other _ _ (Ne.symm apart)).trans at1, dat1, ctx⟩ fun h' e kept new => fin h' e (fun b u ne q => kept b u ((Heap.get?_update_other _ _ (Ne.symm ne)).trans q)) new))
  cases k
  all_goals
    unfold nextRule; show wpAny _ _ (field (.ref it) 0 >>= _) _ _ s
    refine wpAny_bind (wpAny_field there dat (x := .ref a) rfl ?_)
    show wpAny _ _ (if (Value.ref a == Value.none) = true then _ else _) _ _ s
    rw [if_neg live]
    refine wpAny_bind (wpAny_field there dat (x := .int i 0) rfl (wpAny_bind (wpAny_seqItems stands seq ?_)))
    simp only [hx, Int.toNat_natCast]
    exact wpAny_bind (wpAny_rule ends)
theorem SrcIt.ty {k : Bool} {h : Heap} {it a : Addr} {i : Nat} {s : Shared} (e : s.heap = h) (st : SrcIt k h it a i) : s.TypeIs (.ref it) (match k with | true => "list_iterator" | false => "tuple_iterator") := by
  subst e
  cases k
  · obtain ⟨o, e, c, _⟩ := (show s.heap.IsTupleIter it a i from st); exact ⟨o, e, c⟩
  · obtain ⟨o, e, c, _⟩ := (show s.heap.IsListIter it a i from st); exact ⟨o, e, c⟩
/-- asked for an item at the end -/
theorem asked_end {k : Bool} {it a x1 : Addr} {i : Nat} {items : Array Value} {Q : Option Value → Shared → Prop} (hot : HotX.HotAt A x1 s.heap) (hit : SrcIt k s.heap it a i) (hs : SrcH k s.heap a items) (hx : items[i]? = none)
    (fin : ∀ h' e, Heap.ExtBut it s.heap h' → (∃ o, h'.get? e = some o ∧ o.cls = .type "StopIteration") → E (.ref e) { s with heap := h' }) : wpAny (model prog w) A (callSpecial? (.ref it) "__next__") Q E s := by
  have body := rising_end (prog := prog) (w := w) (A := A.in1) (E := E) (Q := fun r s' => ∃ v, r = .done (.ret v) ∧ Q (some v) s') ⟨hot.1, hot.2⟩ hit hs hx fin
  cases k
  · exact wpAny_callSpecial?_slot (name := Str.ofString "__next__") (hit.ty rfl) slot_tupleiter_next (wpAny_call_entry slot_tupleiter_next (hit.ty rfl) entry_tupleiter_next body (args_tupleiter_next _))
  · exact wpAny_callSpecial?_slot (name := Str.ofString "__next__") (hit.ty rfl) slot_listiter_next (wpAny_call_entry slot_listiter_next (hit.ty rfl) entry_listiter_next body (args_listiter_next _))
/-- the handled error's object -/
def Hots (x1 : Addr) (h : Heap) : Prop := ∃ (o : Obj) (vs : Array Value), h.get? x1 = some o ∧ o.data = .fields vs ∧ vs[2]? = some .none
theorem draws_hot {x1 : Addr} (who : A.handled = some (.ref x1)) (it a : Addr) (na : a ≠ it) (items : Array Value) :
    Draws prog w A it [it, a, x1] items.size (fun i v => items[i]? = some v) (fun i h => (h.IsListIter it a i ∧ h.IsList a items) ∧ x1 ≠ it ∧ Hots x1 h) where
  live _ _ st := by obtain ⟨⟨⟨o, e, _⟩, _⟩, _⟩ := st; exact ⟨o, e⟩
  frame _ _ _ st same := ⟨⟨st.1.1.at fun o e => same it (by simp) o e, st.1.2.at fun o e => same a (by simp) o e⟩, st.2.1, by
    obtain ⟨o, vs, e, q⟩ := st.2.2
    exact ⟨o, vs, same x1 (by simp) o e, q⟩⟩
  item i s Q E hi st fin := by
    refine wpAny_nextOf_list_item st.1.1 st.1.2 (x := items[i]) (Array.getElem?_eq_getElem hi) fun h' next but => fin _ h' s.toks (Array.getElem?_eq_getElem hi) ⟨⟨next, st.1.2.extBut but.extBut na⟩, st.2.1, ?_⟩ but
    obtain ⟨o, vs, e, q⟩ := st.2.2
    exact ⟨o, vs, but.extBut x1 o st.2.1 e, q⟩
  done s Q E st fin := by
    unfold Builtin.SmallTypes.nextOf; exact wpAny_bind (asked_end (k := true) ⟨who, st.2.2⟩ st.1.1 st.1.2 (Array.getElem?_eq_none (Nat.le_refl _)) fin)
/-- a tuple's iterator at its end -/
theorem tuple_end_hot {it t x1 : Addr} {items : Array Value} {Q : Option Value → Shared → Prop} (hot : HotX.HotAt A x1 s.heap) (hit : IsTupIter s.heap it t items.size) (ht : IsTup s.heap t items)
    (fin : ∀ h', Heap.ExtBut it s.heap h' → Q none { s with heap := h' }) : wpAny (model prog w) A (pyNext (.ref it)) Q E s := by
  unfold pyNext
  refine wpAny_bind (wpAny_attempt (asked_end (k := false) hot hit ht (Array.getElem?_eq_none (Nat.le_refl _)) fun h' e ext new => ?_))
  obtain ⟨o, eo, co⟩ := new
  exact wpAny_bind (wpAny_isInstance (T := "StopIteration") (b := true) ⟨o, eo, co⟩ isSubtype_stop (wpAny_pure (fin h' ext)))
end
end Ev
end
section
set_option Elab.async false
set_option maxRecDepth 100000
set_option linter.all false
set_option autoImplicit false
set_option maxHeartbeats 1200000
/-! Ev19: tuple targets and zip over two lists while an error is handled. -/
namespace Ev
open PySem PySem.Spec PyProof.Rows L2
open He (ba)
open L2H (HotC TurnH PIEH PIH)
variable [Tbls] [Fr]
section
variable {prog : Program} {w : World} {A : Around} {E : Value → Shared → Prop} {s : Shared}
theorem unpacked_hot {t x1 : Addr} {items : Array Value} {Q : List Value → Shared → Prop} (hot : HotX.HotAt A x1 s.heap) (ht : IsTup s.heap t items)
    (fin : ∀ h', Heap.ExtBut s.heap.objs.size s.heap h' → Q items.toList { s with heap := h' }) : wpAny (model prog w) A (unpackItems (.ref t) items.size none) Q E s := by
  have below : t ≠ s.heap.objs.size := Nat.ne_of_lt (Heap.lt_size ht.choose_spec.1)
  have whole : (items.toList.drop 0).take items.size = items.toList := by rw [List.drop_zero]; exact List.take_of_length_le (Nat.le_of_eq (Array.length_toList ..))
  have can : wpAny (model prog w) A (notIterableAtAll (.ref t)) (fun b s' => b = false ∧ s' = s) E s := by
    unfold notIterableAtAll
    exact wpAny_bind (wpAny_specialOf ht.typeIs slot_tuple_iter.lookup (wpAny_pure ⟨rfl, rfl⟩))
  unfold unpackItems
  refine wpAny_bind (wpAny_mono can (fun b s' => ?_) fun _ _ z => z)
  rintro ⟨rfl, rfl⟩
  show wpAny _ _ (holding [Value.ref t] (pyIter (.ref t)) >>= _) _ _ _
  refine wpAny_bind (wpAny_holding (iter_tuple ht (wpAny_bind (wpAny_holding (draw_tuple below items.size 0 _ _ ⟨_, Heap.get?_push_size _ rfl, rfl, rfl⟩ (ht.push _) (by omega) fun h1 it1 same => ?_)))))
  rw [whole, if_neg (by simp)]
  rw [Nat.zero_add] at it1
  have up : ∀ b o, b ≠ s'.heap.objs.size → s'.heap.get? b = some o → h1.get? b = some o := fun b o ne e => same.extBut b o ne (Heap.get?_push_of_some _ e)
  obtain ⟨who, o1, vs1, at1, rest⟩ := hot
  have hot1 : HotX.HotAt A x1 h1 := ⟨who, o1, vs1, up x1 o1 (Nat.ne_of_lt (Heap.lt_size at1)) at1, rest⟩
  refine wpAny_bind (wpAny_holding (tuple_end_hot (s := { s' with heap := h1 }) hot1 it1 ((ht.push _).extBut same.extBut below) fun h2 more => ?_))
  exact wpAny_pure (fin h2 fun b o ne e => more b o ne (up b o ne e))
end
/-- (a, b, ..) = a tuple, while an error is handled -/
theorem pg_tupH {X : Cx} {es : List Expr} {k : Nat} {pos : Pos} {t : TGs} {n : Nat} (hc : HotC X) (parts : PGs X es t) (hn : (assignEach es X.env).length = n) (hst : (assignEach es X.env).findIdx? (·.1) = none) : PG X (.Tuple es k pos) (gTup X.K n t) where
  run ps s σ H v u Q I r ask := by
    obtain ⟨a, xs, rfl, src, len, ask⟩ := ask
    cases r
    obtain ⟨its, rel, tup, _⟩ := I.tuple src
    obtain ⟨x1, hot⟩ := hc.at I
    rw [assign_Tuple]; refine wpAny_bind (wpAny_standAt ?_); unfold unpack
    have size : (assignEach es X.env).length = its.toArray.size := by rw [hn, ← len, rel.length]; simp
    rw [size, hst]
    refine wpAny_bind (wpAny_holding (unpacked_hot hot tup fun h' ext => ?_))
    have I1 : L2.Inv X ps σ H { s with heap := h' } := I.kept (t' := s.toks) fun b o e => ext b o (Nat.ne_of_lt (Heap.lt_size e)) e
    exact parts.run ps _ σ H xs _ Q I1 (by simpa using rel) ask
/-- the zip's own objects are not the handled error -/
theorem hot_sep {z TI TO i1 i2 a b x1 : Addr} {i : Nat} {h : Heap} (D : ZipSep2 z TI TO i1 i2 [i1, a] [i2, b]) (st : ZipAt true true a b z TI TO i1 i2 i h) (hot : Hots x1 h) : ZipSep2 z TI TO i1 i2 [i1, a, x1] [i2, b, x1] ∧ x1 ≠ i1 ∧ x1 ≠ i2 := by
  obtain ⟨o, vs, e, d, c⟩ := hot
  obtain ⟨o1, o2, ⟨x, y, o3⟩, ⟨p4, q4, _, d4⟩, ⟨p5, q5, _, d5⟩⟩ := st
  have apart : ∀ (q : Addr) (u : Obj), h.get? q = some u → (∀ ws : Array Value, u.data = .fields ws → ws[2]? ≠ some .none) → x1 ≠ q := fun q u eu no e' => by
    rw [e'] at e
    rw [e] at eu
    cases eu
    exact no vs d c
  have nz : x1 ≠ z := apart z _ o1 fun ws e => by cases e; simp
  have nT : x1 ≠ TO := apart TO _ o3 fun ws e => by cases e
  have n1 : x1 ≠ i1 := apart i1 _ q4 fun ws e => by rw [d4] at e; cases e; simp
  have n2 : x1 ≠ i2 := apart i2 _ q5 fun ws e => by rw [d5] at e; cases e; simp
  obtain ⟨s1, s2, s3, s4, s5, s6, s7, s8, s9, s10, s11, s12, s13⟩ := D
  simp only [List.mem_cons, List.not_mem_nil, or_false, not_or] at *
  exact ⟨⟨s1, s2, s3, s4, by simp, by simp [s6, Ne.symm nz], by simp [s7, Ne.symm nT], s8, by simp, by simp [s10, Ne.symm nz], by simp [s11, Ne.symm nT], by simp [s12, Ne.symm n1], by simp [s13, Ne.symm n2]⟩, n1, n2⟩
def zip_goesH {X : Cx} {elts : List Expr} {kk : Nat} {tpos : Pos} {a b z TI TO i1 i2 x1 : Addr} (D : ZipSep2 z TI TO i1 i2 [i1, a, x1] [i2, b, x1]) (na : a ≠ i1) (nb : b ≠ i2) (who : X.A.handled = some (.ref x1)) (us ws : List Value) :=
  GoesN.zip2 (prog := X.prog) (w := X.w) (A := X.A) (elts := elts) (x1 := kk) (pos := tpos) D (draws_hot (A := X.A.in1) who i1 a na us.toArray) (draws_hot (A := X.A.in1) who i2 b nb ws.toArray)
theorem turn_zipH {P : Program} {w : World} {K : PySem.W.Frag} {elts : List Expr} {kk : Nat} {tpos : Pos} {a b z TI TO i1 i2 : Addr} (D : ZipSep2 z TI TO i1 i2 [i1, a] [i2, b]) (na : a ≠ i1) (nb : b ≠ i2) :
    TurnH P w K (.Tuple elts kk tpos) (ItzX K true true a b) [z, TI, TO, i1, i2] z (ZipAt true true a b z TI TO i1 i2) where
  mem := List.mem_cons_self
  obj _ _ st := st.live
  keep _ _ _ st same := st.keep same
  self _ _ _ _ _ st q := wpAny_pyIter_zip st.1 q
  item X eP ew eK warm i pins s σ H E I hf st go := by
    subst eP ew eK
    obtain ⟨⟨ls, ms⟩, x, y, ⟨one, two⟩, hx, hy⟩ := go
    obtain ⟨us, ru, pu⟩ := src_of I one
    obtain ⟨ws, rw', pw⟩ := src_of I two
    obtain ⟨u, eu, xu⟩ := ru.get hx
    obtain ⟨v, ev, yv⟩ := rw'.get hy
    obtain ⟨x1, who, hots⟩ := warm.at I
    obtain ⟨D1, n1, n2⟩ := hot_sep D st hots
    refine brings_item I hf (live_lt st.live) (zip_goesH D1 na nb who us ws) (by simp) (by have := (place_of eu).1; have := (place_of ev).1; omega) ⟨st.1, st.2.1, st.2.2.1, ⟨⟨st.2.2.2.1, pu⟩, n1, hots⟩, ⟨⟨st.2.2.2.2, pw⟩, n2, hots⟩⟩ fun r h' given st' => ?_
    obtain ⟨T, u', v', er, above, pl1, pl2, tup⟩ := given
    cases (place_of eu).2.symm.trans pl1
    cases (place_of ev).2.symm.trans pl2
    exact ⟨⟨st'.1, st'.2.1, st'.2.2.1, st'.2.2.2.1.1.1, st'.2.2.2.2.1.1⟩, T, [x, y], [u, v], er, above, two_fit, .cons xu (.cons yv .nil), tup, T, x, y, rfl, I.hok.fresh above, rfl,
      fun l hl => src_inj I one hl ▸ hx, fun l hl => src_inj I two hl ▸ hy⟩
  done X eP ew eK warm i pins s σ H E I hf st halt := by
    subst eP ew eK
    obtain ⟨⟨ls, ms⟩, ⟨one, two⟩, ei⟩ := halt
    obtain ⟨us, ru, pu⟩ := src_of I one
    obtain ⟨ws, rw', pw⟩ := src_of I two
    obtain ⟨x1, who, hots⟩ := warm.at I
    obtain ⟨D1, n1, n2⟩ := hot_sep D st hots
    have en : i = min us.toArray.size ws.toArray.size := by simpa [ru.length, rw'.length] using ei
    subst en
    exact brings_done I hf (zip_goesH (elts := elts) (kk := kk) (tpos := tpos) D1 na nb who us ws) (by simp) ⟨st.1, st.2.1, st.2.2.1, ⟨⟨st.2.2.2.1, pu⟩, n1, hots⟩, ⟨⟨st.2.2.2.2, pw⟩, n2, hots⟩⟩
/-- zip of two lists -/
theorem pi_zipH {X : Cx} {e e2 : Expr} {ta : TA} {p pos tpos : Pos} {elts : List Expr} {kk : Nat} (hg : Gl X "zip") (hm : X.mg "zip" = none) (ha : PA X [e, e2] ta)
    (hs : starEach [e, e2] X.env = (false, eval e X.env) :: starEach [e2] X.env) (hpl : (backTo pos (starEach [e2] X.env)).any (·.1) = false) :
    PIH X (.Tuple elts kk tpos) (.Call (.Name "zip" p) [e, e2] [] pos) (fun σ H R => ta σ H fun vs H1 => ∃ a b xs ys, vs = [.ref a, .ref b] ∧ SqL X.K H1 a xs ∧ SqL X.K H1 b ys ∧ R (ItzX X.K true true a b) H1) where
  run pins s σ H R I h := by
    have parts := ha.run pos pins s σ H _ I h
    refine Call_ (ld_blt I hg hm PyProof.Rows.boot_zip (PyProof.Rows.callWith_type1 (thn parts fun us s1 got => ?_) hs hpl))
    obtain ⟨_, H1, I1, rel, a, b, xs, ys, rfl, one, two, go⟩ := got
    match us, rel with
    | [_, _], .cons ea (.cons eb .nil) =>
      cases ea
      cases eb
      obtain ⟨vs, _, pa⟩ := src_of (k := true) I1 one
      obtain ⟨ws, _, pb⟩ := src_of (k := true) I1 two
      have la := pa.lt
      have lb := pb.lt
      refine zip_begins2 (begins_src true a vs.toArray) (begins_src true b ws.toArray) pa pb fun h' zz zi zo ia ib _ same => wpAny_pyIter_zip zz ?_
      have sep := zip_sep2 (N := s1.heap.objs.size) (fp1 := [a]) (fp2 := [b]) (by simpa using la) (by simpa using lb)
      exact ⟨_, [s1.heap.objs.size + 4, s1.heap.objs.size + 2, s1.heap.objs.size + 3, s1.heap.objs.size, s1.heap.objs.size + 1], _, _, H1, rfl, I1.kept (t' := s1.toks) same, turn_zipH sep (Nat.ne_of_lt la) (Nat.ne_of_lt (Nat.lt_succ_of_lt lb)),
        ⟨zz, zi, ⟨_, _, zo⟩, srcIt_new ia, srcIt_new ib⟩, above_ok I1 (by simp <;> omega), go⟩
end Ev
end
section
set_option Elab.async false
set_option maxRecDepth 100000
set_option linter.all false
set_option autoImplicit false
set_option maxHeartbeats 1600000
/-! Ev20: a list comprehension while an error is handled. -/
namespace Ev
open PySem PySem.Spec PyProof.Rows L2
open L2H (HotC Hot1 TurnH PIEH PIH)
variable [Tbls] [Fr]
/-- the block's context, the handled error pinned -/
abbrev blkP (X : Cx) (s : Shared) (H : Hp) (scope : Scope) (cenv : Env) (fp : List Addr) (p : Addr × Obj) : Cx := { X.blk s H scope cenv fp with pn := [p] }
section
variable {X : Cx} {pins : List (Addr × Obj)} {σ : L2.St} {H H0 : Hp} {s t : Shared} {scope : Scope} {cenv : Env} {fp : List Addr} {p : Addr × Obj}
theorem to_blkP (I : L2.Inv (X.blk s H0 scope cenv fp) [p] σ H t) : L2.Inv (blkP X s H0 scope cenv fp p) [] σ H t :=
  have k := I.ok
  ⟨⟨k.mod, k.kind, k.glob, k.blt, k.above, k.inj, k.has, k.cab, k.hd, k.frames, k.stk, k.exf, k.bs, k.bsz, k.noex, k.exfs, k.funs, k.frf⟩, I.os, I.bare, I.base, I.loc, I.cell, I.free, I.freeC, I.pin, I.hok, I.len⟩
/-- the block begins -/
theorem begin_blkP {own : List (Str × Nat)} (I : L2.Inv X pins σ H s) (ok : BlkOk X.N X.env.scope scope own) (hN : X.N.Nodup) (held : p ∈ X.pn) (free : ∀ b ∈ fp, FpOk X pins H b ∧ b < s.heap.objs.size) :
    L2.Inv (blkP X s H scope (compEnvC scope (cellsFrom (s.heap.objs.size + 1) scope.names (cloFrom X.env.cells scope.names [])) s.heap.objs.size X.env) fp p) [] (wipe σ (own.map (·.2))) H { s with heap := pushCells (s.heap.push { cls := .type "dict", data := .dict #[] }) scope.names } := by
  obtain ⟨at_, un, nl, nf, nc⟩ := I.pin p (List.mem_append_left _ held)
  refine to_blkP ((block_start I ok hN free).pins_of fun q hq => ?_)
  have e : q = p := by simpa using hq
  subst e
  exact ⟨pushCells_keeps _ _ _ _ (Heap.get?_push_of_some _ at_), un, Nat.ne_of_lt (Heap.lt_size at_), fun m => (List.mem_cons.mp (I.stkSub q.1 m)).elim nl nf, nc⟩
/-- where the iterator's objects stay free -/
theorem still_free {σ' : L2.St} {H' : Hp} (I : L2.Inv (blkP X s H0 scope cenv fp p) [] σ' H' t) (apart : ∀ b ∈ fp, b ≠ p.1) (no : ∀ b ∈ fp, H' b = none) : ∀ b ∈ fp, FpOk (blkP X s H0 scope cenv fp p) [] H' b := fun b m =>
  ⟨no b m, (I.ok.exf b m).1, I.ok.exfs b m, .inl m, fun y c e => (I.ok.exf b m).2 y c e, fun q hq => by
    have e : q = p := by simpa using hq
    rw [e]
    exact (apart b m).symm⟩
end
set_option maxHeartbeats 4000000 in
theorem pe_lcH {X : Cx} {elt tg iter : Expr} {ifs : List Expr} {scope : Scope} {own : List (Str × Nat)} {pos : Pos} {wi : TI} {g : TG} {tt : TT} {te : TE} (warm : HotC X) (hN : X.N.Nodup) (walked : PIH X tg iter wi) (ok : BlkOk X.N X.env.scope scope own)
    (tgt : ∀ s H C cl fp p, Hot1 X.A p → PG (blkP X s H scope (compEnvC scope cl C X.env) fp p) tg g) (tst : ∀ s H C cl fp p, Hot1 X.A p → PTs (blkP X s H scope (compEnvC scope cl C X.env) fp p) ifs tt)
    (itm : ∀ s H C cl fp p, Hot1 X.A p → PE (blkP X s H scope (compEnvC scope cl C X.env) fp p) elt te) (plain : ∀ x, foldedSetIterable iter X.env x = pure x) :
    PE X (.ListComp elt [⟨tg, iter, ifs, 0⟩] scope pos) (tLc wi g tt te (own.map (·.2))) where
  run pins s σ H Q I ask := by
    obtain ⟨p, hot, held⟩ := warm
    rw [eval_ListComp]
    have caught : ∀ y ∈ scope.names, y.2 = .free → ∃ c, X.env.cells.lookup y.1 = some c := fun y hy e => I.ok.has _ ((ok.free y hy e).imp id id)
    have got := walked.run pins s σ H _ I ask
    refine wpAny_comprehension_free (use := none) rfl plain (closure_ok caught) ok.kind (fun y hy e => (ok.uniq y hy).trans (congrArg some e)) (thn got fun xv s1 more => thn more fun itv s2 began => ?_)
    obtain ⟨it, fp, tn, J, H2, rfl, I2, T, st2, f2, go⟩ := began
    refine wpAny_newObj_type (newEnv_comp ?_) (Nat.zero_le _)
    obtain ⟨Wv, ⟨m0, w0⟩, turn⟩ := go s2.heap.objs.size (I2.hok.fresh (Nat.le_refl _))
    generalize eD : s2.heap.objs.size = D at w0 turn
    generalize e3 : ({ s2 with heap := s2.heap.push { cls := .type "list", data := .seq ([] : List Value).toArray } } : Shared) = s3
    have heap3 : s3.heap = s2.heap.push { cls := .type "list", data := .seq ([] : List Value).toArray } := by rw [← e3]
    have I3 : L2.Inv X pins σ (upd H2 D (.lst [])) s3 := by
      rw [← e3]
      exact I2.laid (t' := s2.toks) (fun b o e => Heap.get?_push_of_some _ e) (Nat.le_of_eq eD) ⟨Nat.zero_le _, [], 0, .nil, by rw [← eD]; exact Heap.get?_push_size s2.heap rfl⟩
    have low : ∀ b ∈ fp, b < s2.heap.objs.size := live_lt (T.obj _ _ st2)
    have f3 : ∀ b ∈ fp, FpOk X pins (upd H2 D (.lst [])) b ∧ b < s3.heap.objs.size := fun b m =>
      ⟨⟨(upd_ne (by rw [← eD]; exact Nat.ne_of_lt (low b m))).trans (f2 b m).1, (f2 b m).2⟩, by rw [heap3, Heap.size_push]; exact Nat.lt_succ_of_lt (low b m)⟩
    have apart : ∀ b ∈ fp, b ≠ p.1 := fun b m => ((f2 b m).2.2.2.2.2 p (List.mem_append_left _ held)).symm
    have I4 := begin_blkP I3 ok hN held f3
    have G := tgt s3 (upd H2 D (.lst [])) s3.heap.objs.size (cellsFrom (s3.heap.objs.size + 1) scope.names (cloFrom X.env.cells scope.names [])) fp p hot
    have B := tst s3 (upd H2 D (.lst [])) s3.heap.objs.size (cellsFrom (s3.heap.objs.size + 1) scope.names (cloFrom X.env.cells scope.names [])) fp p hot
    have V := itm s3 (upd H2 D (.lst [])) s3.heap.objs.size (cellsFrom (s3.heap.objs.size + 1) scope.names (cloFrom X.env.cells scope.names [])) fp p hot
    show codeAny _ _ (.compStart (.ListComp elt [⟨tg, iter, ifs, 0⟩] scope pos) 0 (.ref it) (.ref D) (compEnvC scope (cellsFrom (s3.heap.objs.size + 1) scope.names (cloFrom X.env.cells scope.names [])) s3.heap.objs.size X.env)) (compPost (model X.prog X.w) X.A X.xe none (EP X pins σ Q) (.ref D) s3.heap.objs.size) { s3 with heap := pushCells (s3.heap.push { cls := .type "dict", data := .dict #[] }) scope.names }
    have st4 : tn 0 (pushCells (s3.heap.push { cls := .type "dict", data := .dict #[] }) scope.names) := T.keep _ _ _ st2 fun b _ o e => pushCells_keeps _ _ _ _ (Heap.get?_push_of_some _ (by rw [heap3]; exact Heap.get?_push_of_some _ e))
    generalize eC : compEnvC scope (cellsFrom (s3.heap.objs.size + 1) scope.names (cloFrom X.env.cells scope.names [])) s3.heap.objs.size X.env = ce at I4 G B V ⊢
    have loc : ce.locals = s3.heap.objs.size := by rw [← eC] <;> rfl
    generalize e4 : ({ s3 with heap := pushCells (s3.heap.push { cls := .type "dict", data := .dict #[] }) scope.names } : Shared) = s4 at I4 ⊢
    have st4 : tn 0 s4.heap := by rw [← e4]; exact st4
    have warmZ : HotC (blkP X s3 (upd H2 D (.lst [])) scope ce fp p) := ⟨p, hot, List.mem_singleton_self p⟩
    have loop : codeAny (model X.prog X.w) X.A (.compLoop (.ListComp elt [⟨tg, iter, ifs, 0⟩] scope pos) 0 (.ref it) (.ref D) ce) (compPost (model X.prog X.w) X.A X.xe none (EP X pins σ Q) (.ref D) s3.heap.objs.size) s4 := by
      refine compLoop_any (fun m t => ∃ i Hi, L2.Inv (blkP X s3 (upd H2 D (.lst [])) scope ce fp p) [] (wipe σ (own.map (·.2))) Hi t ∧ tn i t.heap ∧ (∀ b ∈ fp, Hi b = none) ∧ Wv i m Hi) ?_ m0 ⟨0, _, I4, st4, fun b m => (f3 b m).1.1, w0⟩
      rintro m t ⟨i, Hi, J1, st, no, here⟩
      have free := still_free J1 apart no
      rcases turn i m Hi here with ⟨halt, fin⟩ | ⟨goes, Nx, next, step⟩
      · refine thnF (T.done (blkP X s3 (upd H2 D (.lst [])) scope ce fp p) rfl rfl rfl warmZ i [] t _ Hi (fun _ _ => False) J1 free st halt) fun r t2 out => ?_
        obtain ⟨rfl, J2⟩ := out
        have back : L2.Inv X pins σ Hi t2 := I3.call' (ch := fp) J2.os J2.base J2.hok J2.bare fun b m => let q := (f3 b m).1.2; ⟨q.2.2.1, q.1, q.2.2.2.1, q.2.2.2.2⟩
        obtain ⟨ns, hns, _⟩ := J2.loc
        have gone : Hi ce.locals = none := J2.free
        have hns : t2.heap.Ns ce.locals ns := hns
        rw [loc] at gone hns
        refine ⟨ns, hns, fun h2 but => ?_⟩
        obtain ⟨q0, q1, _, q3, q4, q5⟩ := I3.fpOk (Nat.le_refl _) gone
        exact ⟨.ref D, Hi, back.turned (t' := t2.toks) (fun b o ne e => (but.2 b ne).trans e) q0 q1 q3 q4 q5, rfl, fin⟩
      · refine thnF (T.item (blkP X s3 (upd H2 D (.lst [])) scope ce fp p) rfl rfl rfl warmZ i [] t _ Hi (fun _ _ => False) J1 free st goes) fun r t1 out => ?_
        obtain ⟨u, rfl, out⟩ := out
        refine thnF out fun _ t2 given => ?_
        obtain ⟨x, Ha, Ja, ru, yields, on, no2⟩ := given
        have Jp := Ja.pinned (still_free Ja apart no2) (T.obj _ _ on)
        refine thnF (G.run _ t2 _ Ha x u _ Jp ru (step x Ha yields)) fun _ t3 stored => ?_
        obtain ⟨σb, Hb, Jb, wiped, asks⟩ := stored
        refine thnF (B.run _ t3 σb Hb _ Jb asks) fun yes t4 tested => ?_
        obtain ⟨Hc, Jc, cont⟩ := tested
        have ended : ∀ {t' : Shared} {H' : Hp}, L2.Inv (blkP X s3 (upd H2 D (.lst [])) scope ce fp p) ([] ++ pinsAt fp t2.heap) σb H' t' → Nx H' → ∃ m', m' < m ∧ ∃ i Hi, L2.Inv (blkP X s3 (upd H2 D (.lst [])) scope ce fp p) [] (wipe σ (own.map (·.2))) Hi t' ∧ tn i t'.heap ∧ (∀ b ∈ fp, Hi b = none) ∧ Wv i m' Hi := fun {t' H'} Jd nx => by
          obtain ⟨m', less, w'⟩ := next H' nx
          have kept : ∀ b ∈ fp, ∀ o, t2.heap.get? b = some o → t'.heap.get? b = some o ∧ H' b = none := fun b hb o e => by
            have z := Jd.pin (b, o) (List.mem_append_right _ (List.mem_append_right _ (mem_pinsAt hb e)))
            exact ⟨z.1, z.2.1⟩
          have len : (wipe σ (own.map (·.2))).length = σb.length := by rw [← wiped, wipe_length]
          refine ⟨m', less, i + 1, H', (Jd.unpinned (pins := [])).weak len fun j v e => ?_, T.keep _ _ _ on fun b hb o e => (kept b hb o e).1, fun b hb => ?_, w'⟩
          · rw [← wiped] at e; exact (wipe_some e).1
          · obtain ⟨o, e, _⟩ := T.obj _ _ on b hb; exact (kept b hb o e).2
        cases yes with
        | false =>
          simp only [Bool.false_eq_true, if_false] at cont ⊢
          exact ended Jc cont
        | true =>
          simp only [if_true] at cont ⊢
          refine thnF (V.run _ t4 σb Hc _ Jc cont) fun z t5 item => ?_
          obtain ⟨yv, He, Je, ry, acc, at_, room, nx⟩ := item
          exact app_ok (X := blkP X s3 (upd H2 D (.lst [])) scope ce fp p) Je at_ room ry fun t6 Jf => ended Jf nx
    refine codeAny_compStart_list loop ?_
    exact T.self X.A 0 s4 _ _ st4 loop
end Ev
end
section
set_option Elab.async false
set_option maxRecDepth 100000
set_option linter.all false
set_option autoImplicit false
set_option maxHeartbeats 1600000
/-! Ev21: the handled error asked for its class; a def called with it. -/
namespace Ev
open PySem PySem.Spec PyProof.Rows L2
open L2H (HotC Hot1 PinOk RoomH cxH inv_startH)
/-- isinstance of the pinned error -/
theorem asked_class {Z : Cx} {p : Addr × Obj} {D : Addr} (held : p ∈ Z.pn) (C : ExcC Z.K D) (kind : Zc (.ref D) none p.2) (dat : ∃ vs, p.2.data = .fields vs) : CallR Z (.builtin "isinstance") (rIsE Z.K D p.1) := by
  rintro ps s σ H xs us Q I rel ⟨c, cv, b, rfl, one, kit, fin⟩
  match us, rel with
  | [_, u], .cons e (.cons e2 .nil) =>
    cases e
    obtain rfl := one u e2
    have there := (I.pin p (List.mem_append_left _ held)).1
    obtain ⟨a, cl, di, da, sl⟩ := p
    obtain ⟨ws, rfl⟩ := dat
    obtain ⟨rfl, rfl⟩ := kind
    have inst : PySem.W.InstAt s.heap a ⟨.ref D, none, .fields ws, sl⟩ D none := ⟨there, rfl, rfl, trivial⟩
    exact PySem.W.kia_one (PySem.W.handS_kitx_exc C.hg C.hk C.hs C.hd C.ha C.hn C.ht C.hm) I.kIn inst kit nofun fun tk => ⟨.bl b, H, I.kept (t' := tk) fun _ _ z => z, rfl, fin⟩
/-- a def of one argument, called with the handled error: its body by the very state -/
theorem hot_called {X : Cx} {pins : List (Addr × Obj)} {σ : L2.St} {H : Hp} {s : Shared} {Q : VK} {p : Addr × Obj} {k : Nat} {f : Addr} {name qual a : Str} {params : Arguments} {body : List Stmt} {scope : Scope} {dV kV doc pm cdv ct oc : Value} {an od : Option Addr} {osl : Array (Option Value)} {N : List Str}
    (I : L2.Inv X pins σ H s) (hot : Hot1 X.A p) (held : p ∈ X.pn) (lk : X.K.lookup f = some ⟨oc, od, .func (PySem.W.fnOf name qual params body scope dV kV doc pm an cdv ct), osl⟩) (hcd : PySem.W.codeIn X.K cdv qual = true) (S : FnScope N [a] scope)
    (binds : L2.Binds X.K (PySem.W.fnOf name qual params body scope dV kV doc pm an cdv ct) [a] []) (room : RoomH (k + 1) X.A)
    (does : RoomH k (X.A.deeper (envOfC qual scope s.heap.objs.size f cdv)) → ∃ t, PSs (cxH C8.CX0 X.prog X.w X.K X.mg X.base N qual scope f cdv X.A X.stack s H C8.E0 p) body t ∧ t { nx := fun _ H' => Q .non H', rt := Q } (L2.start N [.ref p.1]) H) :
    wpAny (model X.prog X.w) X.A (call (.ref f) [.ref p.1]) (EP X pins σ Q) X.xe s := by
  obtain ⟨at_, un, nl, nf, nc⟩ := I.pin p (List.mem_append_left _ held)
  have pin : PinOk X.stack H s p := ⟨at_, un, fun m => (List.mem_cons.mp (I.stkSub p.1 m)).elim nl nf, nc⟩
  have e0 := I.env0
  have given : Vals [V.ref p.1] [.ref p.1] := .cons rfl .nil
  have bound := binds s [.ref p.1] I.kIn rfl
  have places : ∀ y ∈ [a].zip [Value.ref p.1], scope.names.lookup y.1 = some .local ∨ (scope.names.lookup y.1 = some .cell ∧ ((cellsFrom (s.heap.objs.size + 1) scope.names []).lookup y.1).isSome = true) := fun ⟨n, v⟩ m =>
    (S.par n (List.of_mem_zip m).1).imp id fun q => ⟨q, PySem.W.cellsFrom_some _ _ _ (.inl q)⟩
  have ran : codeAny (model X.prog X.w) X.A (.call (.ref f) ⟨[.ref p.1], []⟩) (CR C8.CX0 X.stack X.prog X.w H s Q C8.E0) s := by
    refine codeAny_call_function room.depth (I.kIn _ _ lk) rfl S.co S.gen rfl (PySem.W.codeRec_of I.kIn hcd) (bound _ _ _ _ (wpAny_newFunctionEnv_cells S.kind places fun env same s1 made => ?_))
    subst same
    refine ⟨I.nolimit.keeps made.toInCall.keep, codeAny_func ?_⟩
    obtain ⟨t, body_, fin⟩ := does (room.deeper _)
    have J := inv_startH (CX := C8.CX0) (E := C8.E0) S pin e0 rfl given made
    refine wpAny_mono (body_.run [] s1 _ H _ J fin) (fun fl s2 out => ?_) fun _ _ z => z
    match fl, out with
    | .ret u, ⟨v, _, H', J', rv, q⟩ => exact ⟨v, H', J'.os, J'.bare, J'.base, J'.hok, rv, q⟩
    | .next, ⟨_, H', J', q⟩ => exact ⟨V.non, H', J'.os, J'.bare, J'.base, J'.hok, rfl, q⟩
    | .brk, ⟨_, _, _, q⟩ => exact q.elim
    | .cont, ⟨_, _, _, q⟩ => exact q.elim
  refine wpAny_call (codeAny_mono ran fun res s2 out => ?_)
  match res, out with
  | .ok (.ret u), out => exact I.after out
end Ev
end
section
set_option Elab.async false
set_option maxRecDepth 100000
set_option linter.all false
set_option autoImplicit false
set_option maxHeartbeats 1600000
/-! Ev22: the words whose mark is true, picked out of two lists. -/
namespace Ev
open PySem PySem.Spec PyProof.Rows L2
variable [Tbls] [Fr]
/-- the words that are marked -/
def marked : List Str → List Bool → List Str
  | w :: ws, true :: bs => w :: marked ws bs
  | _ :: ws, false :: bs => marked ws bs
  | _, _ => []
theorem marked_step : ∀ {ws : List Str} {bs : List Bool} {i : Nat} {w : Str} {b : Bool}, ws[i]? = some w → bs[i]? = some b → marked (ws.take (i + 1)) (bs.take (i + 1)) = marked (ws.take i) (bs.take i) ++ if b then [w] else []
  | [], _, _, _, _, gone, _ => by simp at gone
  | _ :: _, [], _, _, _, _, gone => by simp at gone
  | u :: ws, c :: bs, 0, w, b, h, h' => by
    simp at h h'
    subst h h'
    cases c <;> simp [marked]
  | u :: ws, c :: bs, i + 1, w, b, h, h' => by
    have ih := marked_step (ws := ws) (bs := bs) (i := i) (by simpa using h) (by simpa using h')
    cases c <;> simp [marked, ih]
theorem marked_len : ∀ (ws : List Str) (bs : List Bool), (marked ws bs).length ≤ ws.length
  | [], bs => by cases bs <;> simp [marked]
  | _ :: _, [] => by simp [marked]
  | _ :: ws, true :: bs => by simpa [marked] using marked_len ws bs
  | _ :: ws, false :: bs => Nat.le_succ_of_le (marked_len ws bs)
section
variable {K : PySem.W.Frag} {σ : L2.St} {H : Hp} {Q : VK} {a b : Addr} {ws : List Str} {bs : List Bool} {i j : Nat}
/-- [word for word, mark in zip(words, marks) if mark] -/
theorem picked (two : i ≠ j) (hi : i < σ.length) (hj : j < σ.length) (la : SqL K H a (ws.map V.str)) (lb : SqL K H b (bs.map V.bl)) (same : ws.length = bs.length) (small : ws.length < sizeLine)
    (fin : ∀ H' p, Same H H' → H' p = some (.lst ((marked ws bs).map V.str)) → Q (.ref p) H') :
    tLc (fun _ H R => R (ItzX K true true a b) H) (gTup K 2 (gCons (gName i) (gCons (gName j) gNil))) (tTest (tVar j)) (tVar i) [i, j] σ H Q := by
  intro D free
  have w := walk_zipX (K := K) (k1 := true) (k2 := true) (a := a) (b := b) (ls := ws.map V.str) (ms := bs.map V.bl)
  have num : min (ws.map V.str).length (bs.map V.bl).length = ws.length := by simp [same]
  rw [num] at w
  refine lc_it (g := gTup K 2 (gCons (gName i) (gCons (gName j) gNil))) (tt := tTest (tVar j)) (te := tVar i) (vs := [i, j]) (σ := σ) (H1 := H) (D := D) (Qd := fun H' => Q (.ref D) H') w
    (fun n Hc => Same H Hc ∧ Hc D = some (.lst ((marked (ws.take n) (bs.take n)).map V.str))) ⟨fun c u e => (upd_ne fun z => by rw [z, free] at e; cases e).trans e, by rw [upd_same]; cases ws <;> cases bs <;> rfl⟩ (fun n Hc _ inv => ⟨inv.1.seq la, inv.1.seq lb⟩) ?_ fun Hc inv => ?_
  · rintro n x Hc H' hn ⟨keep, list⟩ ⟨T, u, v, rfl, freeT, rfl, eu, ev⟩
    have eu : (ws.map V.str)[n]? = some u := eu
    have ev : (bs.map V.bl)[n]? = some v := ev
    obtain ⟨wd, ew, rfl⟩ : ∃ wd, ws[n]? = some wd ∧ V.str wd = u := by simpa using eu
    obtain ⟨mk, em, rfl⟩ : ∃ mk, bs[n]? = some mk ∧ V.bl mk = v := by simpa using ev
    have nT : D ≠ T := fun z => by rw [← z, list] at freeT; cases freeT
    have len : (wipe σ [i, j]).length = σ.length := wipe_length σ [i, j]
    refine ⟨T, _, rfl, .inl (.inl upd_same), rfl, _, _, rfl, _, _, rfl, rfl, ?_, ?_⟩
    · refine (wipe_eq (by simp) fun m hm => ?_).trans wipe_same
      have hm : m ≠ i ∧ m ≠ j := by simpa using hm
      rw [List.getElem?_set_ne (Ne.symm hm.2), List.getElem?_set_ne (Ne.symm hm.1)]
    · refine ⟨V.bl mk, by rw [List.getElem?_set_self (by simpa [len] using hj)], mk, rfl, ?_⟩
      have keep' : Same H (upd Hc T (.tup [V.str wd, V.bl mk])) := fun c o e => (upd_ne fun z => by have := keep c o e; rw [z, freeT] at this; cases this).trans (keep c o e)
      have list' : upd Hc T (.tup [V.str wd, V.bl mk]) D = some (.lst ((marked (ws.take n) (bs.take n)).map V.str)) := (upd_ne nT).trans list
      cases mk with
      | true =>
        refine iteT ⟨V.str wd, by rw [List.getElem?_set_ne (Ne.symm two), List.getElem?_set_self (by simpa [len] using hi)], _, list', ?_, fun c o e => ?_, ?_⟩
        · have := marked_len (ws.take n) (bs.take n)
          simp at this ⊢
          omega
        · exact (upd_ne fun z => by rw [z, free] at e; cases e).trans (keep' c o e)
        · rw [upd_same, marked_step ew em]
          simp
      | false =>
        refine iteF ⟨keep', list'.trans ?_⟩
        rw [marked_step ew em]
        simp
  · rw [List.take_of_length_le (Nat.le_refl _), List.take_of_length_le (Nat.le_of_eq same.symm)] at inv
    exact fin Hc D inv.1 inv.2
end
end Ev
end
section
set_option Elab.async false
set_option maxRecDepth 100000
set_option linter.all false
set_option autoImplicit false
set_option maxHeartbeats 1600000
/-! Ev23: the law's helpers that call what they got and catch. -/
namespace Ev
open PySem PySem.Spec PyProof.Rows L2
open L2H (HotC Hot1 RoomH)
variable [Tbls] [Fr]
/-- named(e), within the suite that caught e (slot 1): the text of its class -/
def Names1 (X : Cx) (nam : List (Str × Str)) (call_ : Expr) : Prop := ∀ (a : Addr) (oe : Obj) (c z : Str) (pn : List (Addr × Obj)), nam.lookup c = some z → L2N.Zn (.ref (He.ga X.K c)) none oe → (∃ vs, oe.data = .fields vs) →
  PE (X.suite a ((a, oe) :: pn)) call_ (fun σ H Q => σ[1]? = some (some (.ref a)) ∧ ∀ H', Same H H' → Q (.str z) H')
theorem catch_told {X : Cx} {nam : List (Str × Str)} {n x a q : Str} {sun : Value} {ca call_ : Expr} {f c' : Addr} {tl : XK → Hp → VK → Prop} {H : Hp} {Q : VK} {σ0 : L2.St} {np p1 p2 p3 p4 p5 p6 p7 pt : Pos} {j k1 k2 k3 : Nat}
    (hs : X.stack = X.env :: X.outer) (hf : X.env.frame = some X.env.locals) (hN : X.N.Nodup) (h1 : X.N[1]? = some n) (hln : X.env.kindOf n = some .local) (hc : Names X x sun) (none_out : X.xe = fun _ _ => False)
    (caught : ∀ c z, nam.lookup c = some z → PySem.W.exmOne X.K (.ref (He.ga X.K c)) sun = some true) (named : Names1 X nam call_)
    (act : ∀ (W : WX) (pn : List (Addr × Obj)) (xe : Value → Shared → Prop) (E : XK), L2N.Takes (X.tr pn xe) W → (∀ cls d σ' H', E cls d H' → W cls d σ' H') → PE (X.tr pn xe) ca (fun σZ HZ R => σZ[0]? = some (some (.ref f)) ∧ HZ c' = some (LamX.CodeO c' q) ∧ tl E HZ R))
    (slots : σ0[0]? = some (some (.ref f)) ∧ 1 < σ0.length) (code : H c' = some (LamX.CodeO c' q)) (ask : helpT X.K true nam tl H Q) (star1 : noStar ca = true) (star2 : noStar call_ = true) :
    ∃ t, PSs X [.Try [.Return (some (.Tuple [ca, .Constant (.str (Str.ofString "")) j p1] k1 p2)) p3] [.ExceptHandler (some (.Name x np)) (some n) [.Return (some (.Tuple [.Constant .none k2 p4, call_] k3 p5)) p6] p7] [] [] pt] t ∧ t { nx := fun _ H' => Q .non H', rt := Q } σ0 H := by
  have room : 1 < X.N.length := (List.getElem?_eq_some_iff.mp h1).1
  refine ⟨_, pss_one (L2N.ps_try_as (i := 1) (c := sun) (Wout := fun _ _ _ _ => False)
    (tb := fun W D σ H => ∃ E : XK, (∀ cls d σ' H', E cls d H' → W cls d σ' H') ∧ σ[0]? = some (some (.ref f)) ∧ H c' = some (LamX.CodeO c' q) ∧ tl E H fun v H' => finOk true v H' D.rt)
    (ts := fun a cls d D σ H => d = none ∧ ∃ c z, cls = .ref (He.ga X.K c) ∧ nam.lookup c = some z ∧ (∃ σ' : L2.St, σ = List.set σ' 1 (some (V.ref a))) ∧ ∀ H', Same H H' → finEx true z H' D.rt)
    hs hf hN h1 hln hc takesNone (fun W pn xe tk _ => ⟨fun ps s σ H D I got => ?_⟩) fun a oe cls d pn kind dat => ⟨fun ps s σ H D I got => ?_⟩), ?_⟩
  · obtain ⟨E, hW, s0, code, does⟩ := got
    have rule := pss_one (ps_ret (pos := p3) (pe_tup (x1 := k1) (pos := p2) (pa_cons (act W pn xe E tk hW) (pa_cons (pe_str (x := Str.ofString "") (j := j) (pos := p1)) pa_nil (by rfl)) (star_cons star1))))
    exact rule.run ps s σ H D I ⟨s0, code, does⟩
  · obtain ⟨rfl, c, z, rfl, text, ⟨σ', rfl⟩, fin⟩ := got
    have len : (List.set σ' 1 (some (V.ref a))).length = X.N.length := I.len
    have slot : (List.set σ' 1 (some (V.ref a)))[1]? = some (some (.ref a)) := List.getElem?_set_self (by simp at len; omega)
    have rule := pss_one (ps_ret (pos := p6) (pe_tup (x1 := k1) (pos := p5) (pa_cons (pe_non (j := k2) (pos := p4)) (pa_cons (named a oe c z pn text kind dat) pa_nil (star_cons star2)) (by rfl))))
    exact rule.run ps s _ H D I ⟨slot, fun H' sm => ⟨two_fit, fin H' sm⟩⟩
  · refine ⟨_, fun cls d σ' H' e => ?_, slots.1, code, ask⟩
    obtain ⟨rfl, c, z, rfl, text, fin⟩ := e
    exact ⟨true, caught c z text, fun _ a _ => ⟨rfl, c, z, rfl, text, ⟨σ', rfl⟩, fin⟩, fun no => nomatch no⟩
/-- the form that gives the error's text, or an empty one -/
theorem catch_error {X : Cx} {nam : List (Str × Str)} {n x q : Str} {sun : Value} {ca call_ : Expr} {f c' : Addr} {tl : XK → Hp → VK → Prop} {H : Hp} {Q : VK} {σ0 : L2.St} {np p1 p2 p3 p4 p5 p6 : Pos} {j : Nat}
    (hs : X.stack = X.env :: X.outer) (hf : X.env.frame = some X.env.locals) (hN : X.N.Nodup) (h1 : X.N[1]? = some n) (hln : X.env.kindOf n = some .local) (hc : Names X x sun)
    (caught : ∀ c z, nam.lookup c = some z → PySem.W.exmOne X.K (.ref (He.ga X.K c)) sun = some true) (named : Names1 X nam call_)
    (act : ∀ (W : WX) (pn : List (Addr × Obj)) (xe : Value → Shared → Prop) (E : XK), L2N.Takes (X.tr pn xe) W → (∀ cls d σ' H', E cls d H' → W cls d σ' H') → PE (X.tr pn xe) ca (fun σZ HZ R => σZ[0]? = some (some (.ref f)) ∧ HZ c' = some (LamX.CodeO c' q) ∧ tl E HZ R))
    (slot : σ0[0]? = some (some (.ref f))) (code : H c' = some (LamX.CodeO c' q)) (ask : helpT X.K false nam tl H Q) (bare : swapB ca = true) :
    ∃ t, PSs X [.Try [.Expr ca p1] [.ExceptHandler (some (.Name x np)) (some n) [.Return (some call_) p2] p3] [] [] p4, .Return (some (.Constant (.str (Str.ofString "")) j p5)) p6] t ∧ t { nx := fun _ H' => Q .non H', rt := Q } σ0 H := by
  have room : 1 < X.N.length := (List.getElem?_eq_some_iff.mp h1).1
  refine ⟨_, pss_cons (L2N.ps_try_as (i := 1) (c := sun) (Wout := fun _ _ _ _ => False)
    (tb := fun W D σ H => ∃ E : XK, (∀ cls d σ' H', E cls d H' → W cls d σ' H') ∧ σ[0]? = some (some (.ref f)) ∧ H c' = some (LamX.CodeO c' q) ∧ tl E H fun _ H' => D.nx σ H')
    (ts := fun a cls d D σ H => d = none ∧ ∃ c z, cls = .ref (He.ga X.K c) ∧ nam.lookup c = some z ∧ (∃ σ' : L2.St, σ = List.set σ' 1 (some (V.ref a))) ∧ ∀ H', Same H H' → finEx false z H' D.rt)
    hs hf hN h1 hln hc takesNone (fun W pn xe tk _ => ⟨fun ps s σ H D I got => ?_⟩) fun a oe cls d pn kind dat => ⟨fun ps s σ H D I got => ?_⟩)
    (pss_one (ps_ret (pe_str (x := Str.ofString "") (j := j) (pos := p5)))), ?_⟩
  · obtain ⟨E, hW, s0, code, does⟩ := got
    have rule := pss_one (ps_expr (pos := p1) (act W pn xe E tk hW) (swap_no bare))
    exact rule.run ps s σ H D I ⟨s0, code, does⟩
  · obtain ⟨rfl, c, z, rfl, text, ⟨σ', rfl⟩, fin⟩ := got
    have len : (List.set σ' 1 (some (V.ref a))).length = X.N.length := I.len
    have slot : (List.set σ' 1 (some (V.ref a)))[1]? = some (some (.ref a)) := List.getElem?_set_self (by simp at len; omega)
    have rule := pss_one (ps_ret (pos := p2) (named a oe c z pn text kind dat))
    exact rule.run ps s _ H D I ⟨slot, fun H' sm => fin H' sm⟩
  · refine ⟨_, fun cls d σ' H' e => ?_, slot, code, ask⟩
    obtain ⟨rfl, c, z, rfl, text, fin⟩ := e
    exact ⟨true, caught c z text, fun _ a _ => ⟨rfl, c, z, rfl, text, ⟨σ', rfl⟩, fin⟩, fun no => nomatch no⟩
end Ev
end
section
set_option Elab.async false
set_option maxRecDepth 100000
set_option linter.all false
set_option autoImplicit false
set_option maxHeartbeats 1600000
/-! Ev24: the def that names an error, called where it was caught. -/
namespace Ev
open PySem PySem.Spec PyProof.Rows L2
open L2H (HotC Hot1 RoomH cxH)
variable [Tbls] [Fr]
theorem names1_of {X : Cx} {nam : List (Str × Str)} {nm n ea qual name : Str} {f : Addr} {k : Nat} {params : Arguments} {body : List Stmt} {scope : Scope} {dV kV doc pm cdv ct oc : Value} {an od : Option Addr} {osl : Array (Option Value)} {N : List Str} {p1 p2 p3 : Pos}
    (hg : Gl X nm) (hm : X.mg nm = some (.ref f)) (hk : PySem.W.keepIn X.K (.ref f) = true) (lk : X.K.lookup f = some ⟨oc, od, .func (PySem.W.fnOf name qual params body scope dV kV doc pm an cdv ct), osl⟩) (hcd : PySem.W.codeIn X.K cdv qual = true) (S : FnScope N [ea] scope)
    (binds : L2.Binds X.K (PySem.W.fnOf name qual params body scope dV kV doc pm an cdv ct) [ea] []) (room : RoomH (k + 1) X.A) (h1 : X.N[1]? = some n) (vis : Vis X.env.scope n) (d1 : (n == ("__debug__" : Str)) = false) (d2 : (n == ("__classdict__" : Str)) = false) (d3 : (nm == ("__debug__" : Str)) = false)
    (does : ∀ (c z : Str) (a : Addr) (oe : Obj) (s : Shared) (H : Hp) (Q : VK), nam.lookup c = some z → L2N.Zn (.ref (He.ga X.K c)) none oe → (∃ vs, oe.data = .fields vs) → (∀ H', Same H H' → Q (.str z) H') → RoomH k ((X.A.mark (some (.ref a))).deeper (envOfC qual scope s.heap.objs.size f cdv)) →
      ∃ t, PSs (cxH C8.CX0 X.prog X.w X.K X.mg X.base N qual scope f cdv (X.A.mark (some (.ref a))) X.stack s H C8.E0 (a, oe)) body t ∧ t { nx := fun _ H' => Q .non H', rt := Q } (L2.start N [.ref a]) H) :
    Names1 X nam (.Call (.Name nm p1) [.Name n p2] [] p3) := fun a oe c z pn text kind dat => ⟨fun ps s σ H Q I ask => by
  obtain ⟨slot, fin⟩ := ask
  have args := (pa_cons (X := X.suite a ((a, oe) :: pn)) (pe_var (pos := p2) (i := 1) h1 vis d1 d2) pa_nil (by rfl)).run p3 ps s σ H (fun vs H1 => vs = [V.ref a] ∧ H1 = H) I ⟨.ref a, slot, rfl, rfl⟩
  refine wpAny_Call_Name_kw (ld_glob I hg hm ?_ d3)
  refine PySem.W.callWith_K (h₀ := X.base) I.ok.mod.kin hk (thn args fun us s1 got => ?_) (by rfl) (by rfl)
  obtain ⟨_, H1, I1, rel, rfl, rfl⟩ := got
  match us, rel with
  | [_], .cons e .nil =>
    cases e
    obtain ⟨vs, data⟩ := dat
    have hot : Hot1 (X.suite a ((a, oe) :: pn)).A (a, oe) := ⟨rfl, vs, data, kind.2.2 vs data⟩
    exact ⟨I1.kIn, hot_called (p := (a, oe)) (k := k) I1 hot List.mem_cons_self lk hcd S binds ⟨room.dp, room.un⟩ fun r => does c z a oe s1 _ Q text kind ⟨vs, data⟩ fin r⟩⟩
end Ev
end
section
set_option Elab.async false
set_option maxRecDepth 100000
set_option linter.all false
set_option autoImplicit false
set_option maxHeartbeats 1600000
/-! Ev25: parts of the def that names an error. -/
namespace Ev
open PySem PySem.Spec PyProof.Rows L2
open L2H (HotC Hot1 RoomH cxH)
variable [Tbls] [Fr]
section
variable {Z : Cx} {p : Addr × Obj} {D : Addr}
/-- isinstance(e, c), e the handled error in slot 0 -/
theorem pe_isC {e c : Str} {b : Bool} {v : V} {cv : Value} {q1 q2 q3 q4 : Pos} (held : p ∈ Z.pn) (EC : ExcC Z.K D) (kind : Zc (.ref D) none p.2) (dat : ∃ vs, p.2.data = .fields vs) (gi : Gl Z "isinstance") (mi : Z.mg "isinstance" = none) (h0 : Z.N[0]? = some e) (v0 : Vis Z.env.scope e)
    (d1 : (e == ("__debug__" : Str)) = false) (d2 : (e == ("__classdict__" : Str)) = false) (cls : PE Z (.Name c q3) (tC v)) (one : ∀ u, RelV v u → u = cv) (kit : PySem.W.kitOne Z.K (.ref D) cv = some b) :
    PE Z (.Call (.Name "isinstance" q1) [.Name e q2, .Name c q3] [] q4) (fun σ H Q => σ[0]? = some (some (.ref p.1)) ∧ Q (.bl b) H) :=
  PE.imp (pe_callB (asked_class held EC kind dat) gi mi (by decide +kernel) (pa_cons (pe_var (i := 0) h0 v0 d1 d2) (pa_cons cls pa_nil (by rfl)) (by rfl)) (by decide +kernel) (by decide +kernel) (by rfl) (by rfl)) fun σ H Q ⟨s0, fin⟩ =>
    ⟨_, s0, v, cv, b, rfl, one, kit, fin⟩
/-- three marks in a new list -/
theorem pe_three {e1 e2 e3 : Expr} {b1 b2 b3 : Bool} {q : Pos} (h1 : PE Z e1 (fun σ H Q => σ[0]? = some (some (.ref p.1)) ∧ Q (.bl b1) H)) (h2 : PE Z e2 (fun σ H Q => σ[0]? = some (some (.ref p.1)) ∧ Q (.bl b2) H)) (h3 : PE Z e3 (fun σ H Q => σ[0]? = some (some (.ref p.1)) ∧ Q (.bl b3) H))
    (s1 : noStar e1 = true) (s2 : noStar e2 = true) (s3 : noStar e3 = true) :
    PE Z (.List [e1, e2, e3] q) (fun σ H Q => σ[0]? = some (some (.ref p.1)) ∧ ∀ a, H a = none → Q (.ref a) (upd H a (.lst ([b1, b2, b3].map V.bl)))) :=
  PE.imp (pe_lst (pa_cons h1 (pa_cons h2 (pa_cons h3 pa_nil (star_cons s3)) (star_cons s2)) (star_cons s1))) fun σ H Q ⟨s0, fin⟩ => ⟨s0, s0, s0, by show 3 ≤ sizeLine; decide, fin⟩
/-- some = some + three more -/
theorem pe_more {x : Str} {e2 : Expr} {b1 b2 b3 : Bool} {i : Nat} {q1 q2 : Pos} (hi : Z.N[i]? = some x) (vi : Vis Z.env.scope x) (d1 : (x == ("__debug__" : Str)) = false) (d2 : (x == ("__classdict__" : Str)) = false)
    (h2 : PE Z e2 (fun σ H Q => σ[0]? = some (some (.ref p.1)) ∧ ∀ a, H a = none → Q (.ref a) (upd H a (.lst ([b1, b2, b3].map V.bl))))) :
    PE Z (.BinOp (.Name x q1) .Add e2 q2) (fun σ H Q => σ[0]? = some (some (.ref p.1)) ∧ ∃ l bs, σ[i]? = some (some (.ref l)) ∧ H l = some (.lst (bs.map V.bl)) ∧ bs.length ≤ 100 ∧
      ∀ H' a, Same H H' → H' a = none → Q (.ref a) (upd H' a (.lst ((bs ++ [b1, b2, b3]).map V.bl)))) :=
  PE.imp (pe_op op_catS (pe_var (i := i) hi vi d1 d2) h2) fun σ H Q ⟨s0, l, bs, si, hl, len, fin⟩ => by
    refine ⟨_, si, s0, fun a free => ⟨l, a, bs.map V.bl, [b1, b2, b3].map V.bl, rfl, rfl, .of ((upd_ne fun z => by rw [z, free] at hl; cases hl).trans hl), .of upd_same, ?_, fun a2 free2 => ?_⟩⟩
    · have : 103 ≤ sizeLine := by decide
      simp
      omega
    · rw [← List.map_append]
      exact fin _ a2 (same_upd free) free2
end
end Ev
end
section
set_option Elab.async false
set_option maxRecDepth 100000
set_option linter.all false
set_option autoImplicit false
set_option maxHeartbeats 1600000
/-! Ev26: the statements of the def that names an error, as one term. -/
namespace Ev
open PySem PySem.Spec PyProof.Rows L2
variable [Tbls] [Fr]
/-- a new list of three marks -/
def tThree (a : Addr) (bs : List Bool) : TE := fun σ H Q => σ[0]? = some (some (.ref a)) ∧ ∀ l, H l = none → Q (.ref l) (upd H l (.lst (bs.map V.bl)))
/-- the marks so far and some more, in a new list -/
def tMore (a : Addr) (cs : List Bool) : TE := fun σ H Q => σ[0]? = some (some (.ref a)) ∧ ∃ l bs, σ[1]? = some (some (.ref l)) ∧ H l = some (.lst (bs.map V.bl)) ∧ bs.length ≤ 100 ∧
  ∀ H' l', Same H H' → H' l' = none → Q (.ref l') (upd H' l' (.lst ((bs ++ cs).map V.bl)))
theorem named_run {D : Ends} {H : Hp} {a : Addr} {as bs cs : List Bool} {txt : Str} {t5 : TE} (short : as.length ≤ 10 ∧ bs.length ≤ 10)
    (fin : ∀ H' l, Same H H' → H' l = some (.lst ((as ++ bs ++ cs).map V.bl)) → t5 [some (.ref a), some (.ref l), some (.str txt), none, none] H' D.rt) :
    tSeq (tAsg (tThree a as) (gName 1)) (tSeq (tAsg (tMore a bs) (gName 1)) (tSeq (tAsg (tMore a cs) (gName 1)) (tSeq (tAsg (tC (.str txt)) (gName 2)) (tRet t5)))) D [some (.ref a), none, none, none, none] H := by
  refine ⟨rfl, fun l1 f1 => ?_⟩
  refine ⟨rfl, l1, as, rfl, upd_same, by omega, fun H2 l2 k2 f2 => ?_⟩
  refine ⟨rfl, l2, as ++ bs, rfl, upd_same, by simp; omega, fun H3 l3 k3 f3 => ?_⟩
  exact fin _ l3 (fun c o e => same_upd f3 c o (k3 c o (same_upd f2 c o (k2 c o (same_upd f1 c o e))))) upd_same
end Ev
end
section
set_option Elab.async false
set_option maxRecDepth 100000
set_option linter.all false
set_option autoImplicit false
set_option maxHeartbeats 1600000
/-! Ev27: the text that names an error, joined from the marked words. -/
namespace Ev
open PySem PySem.Spec PyProof.Rows L2
open L2H (HotC Hot1 RoomH cxH)
variable [Tbls] [Fr]
section
variable {Z : Cx}
/-- words.split(" ") : slot 2 holds the text -/
theorem pe_words {wd : Str} {txt : Str} {j2 : Nat} {q1 q2 ap cp : Pos} (h2 : Z.N[2]? = some wd) (v2 : Vis Z.env.scope wd) (d1 : (wd == ("__debug__" : Str)) = false) (d2 : (wd == ("__classdict__" : Str)) = false)
    (room : txt.length + 2 ≤ sizeLine) (line : (ap.endLine == cp.line) = true) :
    PE Z (.Call (.Attribute (.Name wd q1) "split" ap) [.Constant (.str (Str.ofString " ")) j2 q2] [] cp) (fun σ H Q => σ[2]? = some (some (.str txt)) ∧ ∀ a, H a = none → Q (.ref a) (upd H a (.lst ((Txt.split txt (Str.ofString " ")).map V.str)))) :=
  PE.imp (pe_bm (T := "str") (id := "str.split") PySem.F.plainAttrs_str PySem.F.slot_str_split PySem.F.type_str_split mt_split (pe_var (i := 2) h2 v2 d1 d2) (pa_cons pe_str pa_nil (by rfl)) (by rfl) (by rfl) line (by rfl) (by rfl)) fun σ H Q ⟨s2, fin⟩ =>
    ⟨_, s2, rfl, _, _, rfl, rfl, by rfl, room, fin⟩
/-- " ".join([word for word, good in zip(words.split(" "), some) if good]) -/
theorem pe_naming {wd so w g : Str} {txt : Str} {bs : List Bool} {scope : Scope} {j1 j2 : Nat} {kk : Nat} {q1 q2 q3 q4 q5 q6 q7 q8 q9 a1 a2 c1 c2 c3 tp lp : Pos} (warm : HotC Z) (nd : Z.N.Nodup) (h1 : Z.N[1]? = some so) (h2 : Z.N[2]? = some wd) (h3 : Z.N[3]? = some w) (h4 : Z.N[4]? = some g)
    (v1 : Vis Z.env.scope so) (v2 : Vis Z.env.scope wd) (dso : (so == ("__debug__" : Str)) = false ∧ (so == ("__classdict__" : Str)) = false) (dwd : (wd == ("__debug__" : Str)) = false ∧ (wd == ("__classdict__" : Str)) = false)
    (dw : (w == ("__debug__" : Str)) = false ∧ (w == ("__classdict__" : Str)) = false) (dg : (g == ("__debug__" : Str)) = false ∧ (g == ("__classdict__" : Str)) = false)
    (gz : Gl Z "zip") (mz : Z.mg "zip" = none) (ok : BlkOk Z.N Z.env.scope scope [(w, 3), (g, 4)]) (lw : scope.names.lookup w = some .local) (lg : scope.names.lookup g = some .local)
    (lines : (a1.endLine == c1.line) = true ∧ (a2.endLine == c2.line) = true)
    (room : txt.length + 2 ≤ sizeLine) (same : (Txt.split txt (Str.ofString " ")).length = bs.length) (few : bs.length < sizeLine)
    (fit : ((marked (Txt.split txt (Str.ofString " ")) bs).map (·.length)).sum + (marked (Txt.split txt (Str.ofString " ")) bs).length * 1 ≤ 16777216) :
    PE Z (.Call (.Attribute (.Constant (.str (Str.ofString " ")) j1 q1) "join" a1) [.ListComp (.Name w q2) [⟨.Tuple [.Name w q3, .Name g q4] kk tp, .Call (.Name "zip" q5) [.Call (.Attribute (.Name wd q6) "split" a2) [.Constant (.str (Str.ofString " ")) j2 q7] [] c2, .Name so q8] [] c3, [.Name g q9], 0⟩] scope lp] [] c1)
      (fun σ H Q => ∃ l, σ[1]? = some (some (.ref l)) ∧ σ[2]? = some (some (.str txt)) ∧ 4 < σ.length ∧ H l = some (.lst (bs.map V.bl)) ∧ ∀ H', Same H H' → Q (.str (Txt.join (Str.ofString " ") (marked (Txt.split txt (Str.ofString " ")) bs))) H') := by
  have zipped := pi_zipH (X := Z) (elts := [.Name w q3, .Name g q4]) (kk := kk) (tpos := tp) (p := q5) (pos := c3) gz mz (pa_cons (pe_words (q1 := q6) (q2 := q7) (j2 := j2) h2 v2 dwd.1 dwd.2 room lines.2) (pa_cons (pe_var (pos := q8) (i := 1) h1 v1 dso.1 dso.2) pa_nil (by rfl)) (by rfl)) (by rfl) (by rfl)
  have own : ∀ {x : Str}, scope.names.lookup x = some .local → (relabel scope Z.env).names.lookup x = some .local := fun {x} h => PySem.lookup_relabel_local h
  have list := pe_lcH (elt := .Name w q2) (ifs := [.Name g q9]) (pos := lp) warm nd zipped ok (g := gTup Z.K 2 (gCons (gName 3) (gCons (gName 4) gNil))) (tt := tB (tVar 4)) (te := tVar 3)
    (fun s H C cl fp p hot => pg_tupH ⟨p, hot, List.mem_cons_self⟩ (pgs_cons (pg_name (i := 3) nd h3 (.inl (own lw)) (.inr (own lw))) (pgs_cons (pg_name (i := 4) nd h4 (.inl (own lg)) (.inr (own lg))) pgs_nil)) (by rfl) (by rfl))
    (fun s H C cl fp p hot => pts_one (pt_val (pe_var (i := 4) h4 (.inl (own lg)) dg.1 dg.2)))
    (fun s H C cl fp p hot => pe_var (i := 3) h3 (.inl (own lw)) dw.1 dw.2) (fun x => rfl)
  refine PE.imp (pe_bm (T := "str") (id := "str.join") PySem.F.plainAttrs_str PySem.F.slot_str_join PySem.F.type_str_join mt_join pe_str (pa_cons list pa_nil (by rfl)) (by rfl) (by rfl) lines.1 (by rfl) (by rfl)) fun σ H Q ⟨l, s1, s2, len, hl, fin⟩ => ?_
  refine ⟨rfl, s2, fun a free => ⟨_, s1, a, l, _, _, rfl, .of upd_same, .of ((same_upd free) _ _ hl), ?_⟩⟩
  exact picked (K := Z.K) (i := 3) (j := 4) (bs := bs) (Q := fun v H2 => ∃ (c : Str) (p : Addr) (ys : List Str), V.str (Str.ofString " ") = .str c ∧ [v] = [.ref p] ∧ (SqL Z.K H2 p (ys.map V.str) ∨ SqT Z.K H2 p (ys.map V.str)) ∧ (ys.map (·.length)).sum + ys.length * c.length ≤ 16777216 ∧ Q (.str (Txt.join c ys)) H2) (by decide) (by omega) len (.of upd_same) (.of ((same_upd free) _ _ hl)) same (by omega) fun H' p k hp => ⟨_, p, _, rfl, rfl, .inl (.of hp), fit, fin _ fun c o e => k c o (same_upd free c o e)⟩
end
end Ev
end
section
set_option Elab.async false
set_option maxRecDepth 100000
set_option linter.all false
set_option autoImplicit false
set_option maxHeartbeats 1600000
/-! Ev28: the whole body of the def that names an error. -/
namespace Ev
open PySem PySem.Spec PyProof.Rows L2
open L2H (HotC Hot1 RoomH cxH)
variable [Tbls] [Fr]
/-- the name of an error of which these marks are true -/
def nameOf (txt : Str) (bs : List Bool) : Str := Txt.join (Str.ofString " ") (marked (Txt.split txt (Str.ofString " ")) bs)
theorem named_body {Z : Cx} {a : Addr} {as bs cs : List Bool} {so wd txt : Str} {e1 e2 e3 e4 e5 : Expr} {p1 p2 p3 p4 q1 q2 q3 q4 q5 : Pos} {Q : VK} {H : Hp} (nd : Z.N.Nodup) (h1 : Z.N[1]? = some so) (h2 : Z.N[2]? = some wd) (five : Z.N.length = 5)
    (l1 : Z.env.scope.names.lookup so = some .local) (l2 : Z.env.scope.names.lookup wd = some .local)
    (E1 : PE Z e1 (tThree a as)) (E2 : PE Z e2 (tMore a bs)) (E3 : PE Z e3 (tMore a cs)) (E4 : PE Z e4 (tC (.str txt)))
    (E5 : PE Z e5 (fun σ H Q => ∃ l, σ[1]? = some (some (.ref l)) ∧ σ[2]? = some (some (.str txt)) ∧ 4 < σ.length ∧ H l = some (.lst ((as ++ bs ++ cs).map V.bl)) ∧ ∀ H', Same H H' → Q (.str (nameOf txt (as ++ bs ++ cs))) H'))
    (s1 : swapsWith e1 (some (.Name so p1)) q1.line Z.env = pure false) (s2 : swapsWith e2 (some (.Name so p2)) q2.line Z.env = pure false) (s3 : swapsWith e3 (some (.Name so p3)) q3.line Z.env = pure false) (s4 : swapsWith e4 (some (.Name wd p4)) q4.line Z.env = pure false)
    (few : as.length ≤ 10 ∧ bs.length ≤ 10) (ends : ∀ H', Same H H' → Q (.str (nameOf txt (as ++ bs ++ cs))) H') :
    ∃ t, PSs Z [.Assign [.Name so p1] e1 q1, .Assign [.Name so p2] e2 q2, .Assign [.Name so p3] e3 q3, .Assign [.Name wd p4] e4 q4, .Return (some e5) q5] t ∧ t { nx := fun _ H' => Q .non H', rt := Q } (L2.start Z.N [.ref a]) H := by
  refine ⟨_, pss_cons (ps_set nd h1 (.inl l1) E1 s1 (.inr l1)) (pss_cons (ps_set nd h1 (.inl l1) E2 s2 (.inr l1)) (pss_cons (ps_set nd h1 (.inl l1) E3 s3 (.inr l1)) (pss_cons (ps_set nd h2 (.inl l2) E4 s4 (.inr l2)) (pss_one (ps_ret E5))))), ?_⟩
  have first : L2.start Z.N [V.ref a] = [some (.ref a), none, none, none, none] := by
    unfold L2.start
    rw [five]
    rfl
  rw [first]
  exact named_run few fun H' l keep at_ => ⟨l, rfl, rfl, by show 4 < 5; decide, at_, fun H2 k => ends H2 fun c o e => k c o (keep c o e)⟩
end Ev
end
section
set_option Elab.async false
set_option maxRecDepth 100000
set_option linter.all false
set_option autoImplicit false
set_option maxHeartbeats 1600000
/-! Ev29: three classes asked at once. -/
namespace Ev
open PySem PySem.Spec PyProof.Rows L2
open L2H (HotC Hot1 RoomH cxH)
variable [Tbls] [Fr]
/-- a name that stands for the class cv -/
structure ClsNm (Z : Cx) (c : Str) (cv : Value) : Prop where
  cls : ∃ v, (∀ q, PE Z (.Name c q) (tC v)) ∧ ∀ u, RelV v u → u = cv
section
variable {Z : Cx} {p : Addr × Obj} {D : Addr}
theorem clsNm_own {c : Str} {A : Addr} (g : Gl Z c) (m : Z.mg c = some (.ref A)) (d : (c == ("__debug__" : Str)) = false) : ClsNm Z c (.ref A) :=
  ⟨.ref A, fun q => pe_glob g m rfl d, fun u r => r⟩
theorem clsNm_blt {c : Str} {n : String} (g : Gl Z c) (m : Z.mg c = none) (b : bootBuiltins c = some (.type n)) (dn : c ≠ "__name__") (d : (c == ("__debug__" : Str)) = false) : ClsNm Z c (.type n) :=
  ⟨.ty n, fun q => pe_bltn g m b rfl dn d, fun u r => r⟩
/-- what the frame of the naming def gives to each question -/
structure AskZ (Z : Cx) (p : Addr × Obj) (D : Addr) (e : Str) : Prop where
  held : p ∈ Z.pn
  EC : ExcC Z.K D
  kind : Zc (.ref D) none p.2
  dat : ∃ vs, p.2.data = .fields vs
  gi : Gl Z "isinstance"
  mi : Z.mg "isinstance" = none
  h0 : Z.N[0]? = some e
  v0 : Vis Z.env.scope e
  d1 : (e == ("__debug__" : Str)) = false
  d2 : (e == ("__classdict__" : Str)) = false
/-- isinstance(e, c) as the parser gives it -/
abbrev isCall (e c : Str) (q : Pos × Pos × Pos × Pos) : Expr := .Call (.Name "isinstance" q.1) [.Name e q.2.1, .Name c q.2.2.1] [] q.2.2.2
theorem pe_isN {e c : Str} {cv : Value} {b : Bool} {q : Pos × Pos × Pos × Pos} (F : AskZ Z p D e) (n : ClsNm Z c cv) (kit : PySem.W.kitOne Z.K (.ref D) cv = some b) :
    PE Z (isCall e c q) (fun σ H Q => σ[0]? = some (some (.ref p.1)) ∧ Q (.bl b) H) := by
  obtain ⟨v, cls, one⟩ := n.cls
  exact pe_isC F.held F.EC F.kind F.dat F.gi F.mi F.h0 F.v0 F.d1 F.d2 (cls _) one kit
theorem pe_marks {e c1 c2 c3 : Str} {v1 v2 v3 : Value} {b1 b2 b3 : Bool} {q1 q2 q3 : Pos × Pos × Pos × Pos} {q : Pos} (F : AskZ Z p D e) (n1 : ClsNm Z c1 v1) (n2 : ClsNm Z c2 v2) (n3 : ClsNm Z c3 v3)
    (k1 : PySem.W.kitOne Z.K (.ref D) v1 = some b1) (k2 : PySem.W.kitOne Z.K (.ref D) v2 = some b2) (k3 : PySem.W.kitOne Z.K (.ref D) v3 = some b3) :
    PE Z (.List [isCall e c1 q1, isCall e c2 q2, isCall e c3 q3] q) (tThree p.1 [b1, b2, b3]) :=
  pe_three (pe_isN F n1 k1) (pe_isN F n2 k2) (pe_isN F n3 k3) (by rfl) (by rfl) (by rfl)
theorem pe_marksMore {e so c1 c2 c3 : Str} {v1 v2 v3 : Value} {b1 b2 b3 : Bool} {q1 q2 q3 : Pos × Pos × Pos × Pos} {q r1 r2 : Pos} (F : AskZ Z p D e) (hi : Z.N[1]? = some so) (vi : Vis Z.env.scope so) (d1 : (so == ("__debug__" : Str)) = false) (d2 : (so == ("__classdict__" : Str)) = false)
    (n1 : ClsNm Z c1 v1) (n2 : ClsNm Z c2 v2) (n3 : ClsNm Z c3 v3)
    (k1 : PySem.W.kitOne Z.K (.ref D) v1 = some b1) (k2 : PySem.W.kitOne Z.K (.ref D) v2 = some b2) (k3 : PySem.W.kitOne Z.K (.ref D) v3 = some b3) :
    PE Z (.BinOp (.Name so r1) .Add (.List [isCall e c1 q1, isCall e c2 q2, isCall e c3 q3] q) r2) (tMore p.1 [b1, b2, b3]) :=
  pe_more (p := p) hi vi d1 d2 (pe_marks F n1 n2 n3 k1 k2 k3)
end
end Ev
end
section
set_option Elab.async false
set_option maxRecDepth 100000
set_option linter.all false
set_option autoImplicit false
set_option maxHeartbeats 1600000
/-! Ev30: the naming def's body in a frame. -/
namespace Ev
open PySem PySem.Spec PyProof.Rows L2
open L2H (HotC Hot1 RoomH cxH)
variable [Tbls] [Fr]
/-- the names of the naming def's frame -/
structure NmZ (Z : Cx) (e so wd w g : Str) (scope : Scope) : Prop where
  N : Z.N = [e, so, wd, w, g]
  nd : Z.N.Nodup
  lso : Z.env.scope.names.lookup so = some .local
  lwd : Z.env.scope.names.lookup wd = some .local
  dso : (so == ("__debug__" : Str)) = false ∧ (so == ("__classdict__" : Str)) = false
  dwd : (wd == ("__debug__" : Str)) = false ∧ (wd == ("__classdict__" : Str)) = false
  dw : (w == ("__debug__" : Str)) = false ∧ (w == ("__classdict__" : Str)) = false
  dg : (g == ("__debug__" : Str)) = false ∧ (g == ("__classdict__" : Str)) = false
  gz : Gl Z "zip"
  mz : Z.mg "zip" = none
  ok : BlkOk Z.N Z.env.scope scope [(w, 3), (g, 4)]
  lw : scope.names.lookup w = some .local
  lg : scope.names.lookup g = some .local
theorem named_all {Z : Cx} {p : Addr × Obj} {D : Addr} {e so wd w g c1 c2 c3 c4 c5 c6 c7 c8 c9 txt : Str} {v1 v2 v3 v4 v5 v6 v7 v8 v9 : Value} {b1 b2 b3 b4 b5 b6 b7 b8 b9 : Bool} {scope : Scope} {Q : VK} {H : Hp} {q1 q2 q3 q4 q5 q6 q7 q8 q9 : Pos × Pos × Pos × Pos}
    {r1 r2 r3 r4 r5 r6 r7 r8 r9 r10 r11 r12 r13 r14 r15 x1 x2 x3 x4 x5 x6 x7 x8 x9 x10 r16 lp a1 a2 d1 d2 d3 tp : Pos} {j1 j2 j3 kk : Nat}
    (F : AskZ Z p D e) (M : NmZ Z e so wd w g scope) (warm : HotC Z) (lines : (a1.endLine == d1.line) = true ∧ (a2.endLine == d2.line) = true)
    (n1 : ClsNm Z c1 v1) (n2 : ClsNm Z c2 v2) (n3 : ClsNm Z c3 v3) (n4 : ClsNm Z c4 v4) (n5 : ClsNm Z c5 v5) (n6 : ClsNm Z c6 v6) (n7 : ClsNm Z c7 v7) (n8 : ClsNm Z c8 v8) (n9 : ClsNm Z c9 v9)
    (k1 : PySem.W.kitOne Z.K (.ref D) v1 = some b1) (k2 : PySem.W.kitOne Z.K (.ref D) v2 = some b2) (k3 : PySem.W.kitOne Z.K (.ref D) v3 = some b3)
    (k4 : PySem.W.kitOne Z.K (.ref D) v4 = some b4) (k5 : PySem.W.kitOne Z.K (.ref D) v5 = some b5) (k6 : PySem.W.kitOne Z.K (.ref D) v6 = some b6)
    (k7 : PySem.W.kitOne Z.K (.ref D) v7 = some b7) (k8 : PySem.W.kitOne Z.K (.ref D) v8 = some b8) (k9 : PySem.W.kitOne Z.K (.ref D) v9 = some b9)
    (room : txt.length + 2 ≤ sizeLine) (nine : (Txt.split txt (Str.ofString " ")).length = 9)
    (fit : ((marked (Txt.split txt (Str.ofString " ")) [b1, b2, b3, b4, b5, b6, b7, b8, b9]).map (·.length)).sum + (marked (Txt.split txt (Str.ofString " ")) [b1, b2, b3, b4, b5, b6, b7, b8, b9]).length * 1 ≤ 16777216)
    (ends : ∀ H', Same H H' → Q (.str (nameOf txt [b1, b2, b3, b4, b5, b6, b7, b8, b9])) H') :
    ∃ t, PSs Z [.Assign [.Name so r1] (.List [isCall e c1 q1, isCall e c2 q2, isCall e c3 q3] r2) r3,
      .Assign [.Name so r4] (.BinOp (.Name so r5) .Add (.List [isCall e c4 q4, isCall e c5 q5, isCall e c6 q6] r6) r7) r8,
      .Assign [.Name so r9] (.BinOp (.Name so r10) .Add (.List [isCall e c7 q7, isCall e c8 q8, isCall e c9 q9] r11) r12) r13,
      .Assign [.Name wd r14] (.Constant (.str txt) j3 x9) r15,
      .Return (some (.Call (.Attribute (.Constant (.str (Str.ofString " ")) j1 x1) "join" a1) [.ListComp (.Name w x2) [⟨.Tuple [.Name w x3, .Name g x4] kk tp, .Call (.Name "zip" x5) [.Call (.Attribute (.Name wd x6) "split" a2) [.Constant (.str (Str.ofString " ")) j2 x7] [] d2, .Name so x8] [] d3, [.Name g x10], 0⟩] scope lp] [] d1)) r16] t ∧
      t { nx := fun _ H' => Q .non H', rt := Q } (L2.start Z.N [.ref p.1]) H := by
  have h1 : Z.N[1]? = some so := by rw [M.N]; rfl
  have h2 : Z.N[2]? = some wd := by rw [M.N]; rfl
  have h3 : Z.N[3]? = some w := by rw [M.N]; rfl
  have h4 : Z.N[4]? = some g := by rw [M.N]; rfl
  exact named_body (as := [b1, b2, b3]) (bs := [b4, b5, b6]) (cs := [b7, b8, b9]) M.nd h1 h2 (by rw [M.N]; rfl) M.lso M.lwd (pe_marks F n1 n2 n3 k1 k2 k3) (pe_marksMore F h1 (.inl M.lso) M.dso.1 M.dso.2 n4 n5 n6 k4 k5 k6) (pe_marksMore F h1 (.inl M.lso) M.dso.1 M.dso.2 n7 n8 n9 k7 k8 k9) pe_str
    (pe_naming warm M.nd h1 h2 h3 h4 (.inl M.lso) (.inl M.lwd) M.dso M.dwd M.dw M.dg M.gz M.mz M.ok M.lw M.lg lines room nine (by show 9 < sizeLine; decide) fit)
    (by rfl) (by rfl) (by rfl) (by rfl) ⟨by show 3 ≤ 10; decide, by show 3 ≤ 10; decide⟩ ends
end Ev
end
section
set_option Elab.async false
set_option maxRecDepth 100000
set_option linter.all false
set_option autoImplicit false
set_option maxHeartbeats 1600000
/-! Ev31: the frame of the naming def: AskZ, NmZ, ClsNm, HotC. -/
namespace Ev
open PySem PySem.Spec PyProof.Rows L2
open L2H (HotC Hot1 RoomH cxH)
variable [Tbls] [Fr]
/-- the frame in which the naming def runs -/
abbrev zOf (X : Cx) (N : List Str) (qual : Str) (scope : Scope) (f : Addr) (cdv : Value) (s : Shared) (H : Hp) (p : Addr × Obj) : Cx :=
  cxH C8.CX0 X.prog X.w X.K X.mg X.base N qual scope f cdv (X.A.mark (some (.ref p.1))) X.stack s H C8.E0 p
/-- what the scope of the naming def says -/
structure NmS (scope bs : Scope) (e so wd w g : Str) : Prop where
  nd : [e, so, wd, w, g].Nodup
  le : scope.names.lookup e = some .local
  lso : scope.names.lookup so = some .local
  lwd : scope.names.lookup wd = some .local
  lw : bs.names.lookup w = some .local
  lg : bs.names.lookup g = some .local
  de : (e == ("__debug__" : Str)) = false ∧ (e == ("__classdict__" : Str)) = false
  dso : (so == ("__debug__" : Str)) = false ∧ (so == ("__classdict__" : Str)) = false
  dwd : (wd == ("__debug__" : Str)) = false ∧ (wd == ("__classdict__" : Str)) = false
  dw : (w == ("__debug__" : Str)) = false ∧ (w == ("__classdict__" : Str)) = false
  dg : (g == ("__debug__" : Str)) = false ∧ (g == ("__classdict__" : Str)) = false
  ok : BlkOk [e, so, wd, w, g] scope bs [(w, 3), (g, 4)]
section
variable {X : Cx} {qual e so wd w g : Str} {scope bs : Scope} {f : Addr} {cdv : Value} {s : Shared} {H : Hp} {a : Addr} {oe : Obj} {D : Addr}
theorem zOf_hot {N : List Str} (kind : L2N.Zn (.ref D) none oe) (dat : ∃ vs, oe.data = .fields vs) : HotC (zOf X N qual scope f cdv s H (a, oe)) := by
  obtain ⟨vs, data⟩ := dat
  exact ⟨(a, oe), ⟨rfl, vs, data, kind.2.2 vs data⟩, List.mem_cons_self⟩
theorem zOf_ask (S : NmS scope bs e so wd w g) (kind : L2N.Zn (.ref D) none oe) (dat : ∃ vs, oe.data = .fields vs) (EC : ExcC X.K D) (gi : (envOfC qual scope s.heap.objs.size f cdv).kindOf "isinstance" = some .globalImplicit) (mi : X.mg "isinstance" = none) :
    AskZ (zOf X [e, so, wd, w, g] qual scope f cdv s H (a, oe)) (a, oe) D e :=
  ⟨List.mem_cons_self, EC, kind.zc, dat, gi, mi, rfl, .inl S.le, S.de.1, S.de.2⟩
theorem zOf_nm (S : NmS scope bs e so wd w g) (gz : (envOfC qual scope s.heap.objs.size f cdv).kindOf "zip" = some .globalImplicit) (mz : X.mg "zip" = none) :
    NmZ (zOf X [e, so, wd, w, g] qual scope f cdv s H (a, oe)) e so wd w g bs :=
  ⟨rfl, S.nd, S.lso, S.lwd, S.dso, S.dwd, S.dw, S.dg, gz, mz, S.ok, S.lw, S.lg⟩
end
end Ev
end
section
set_option Elab.async false
set_option maxRecDepth 100000
set_option linter.all false
set_option autoImplicit false
set_option maxHeartbeats 1600000
/-! Ev32: what the naming def does with each error. -/
namespace Ev
open PySem PySem.Spec PyProof.Rows L2
open L2H (HotC Hot1 RoomH cxH)
variable [Tbls] [Fr]
theorem named_does {X : Cx} {nam : List (Str × Str)} {qual e so wd w g c1 c2 c3 c4 c5 c6 c7 c8 c9 txt : Str} {scope bs : Scope} {f : Addr} {cdv : Value} {v1 v2 v3 v4 v5 v6 v7 v8 v9 : Value} {q1 q2 q3 q4 q5 q6 q7 q8 q9 : Pos × Pos × Pos × Pos}
    {r1 r2 r3 r4 r5 r6 r7 r8 r9 r10 r11 r12 r13 r14 r15 x1 x2 x3 x4 x5 x6 x7 x8 x9 x10 r16 lp a1 a2 d1 d2 d3 tp : Pos} {j1 j2 j3 kk : Nat} (S : NmS scope bs e so wd w g)
    (gi : ∀ L, (envOfC qual scope L f cdv).kindOf "isinstance" = some .globalImplicit) (mi : X.mg "isinstance" = none) (gz : ∀ L, (envOfC qual scope L f cdv).kindOf "zip" = some .globalImplicit) (mz : X.mg "zip" = none)
    (lines : (a1.endLine == d1.line) = true ∧ (a2.endLine == d2.line) = true)
    (n1 : ∀ (s : Shared) (H : Hp) (p : Addr × Obj), ClsNm (zOf X [e, so, wd, w, g] qual scope f cdv s H p) c1 v1) (n2 : ∀ (s : Shared) (H : Hp) (p : Addr × Obj), ClsNm (zOf X [e, so, wd, w, g] qual scope f cdv s H p) c2 v2) (n3 : ∀ (s : Shared) (H : Hp) (p : Addr × Obj), ClsNm (zOf X [e, so, wd, w, g] qual scope f cdv s H p) c3 v3) (n4 : ∀ (s : Shared) (H : Hp) (p : Addr × Obj), ClsNm (zOf X [e, so, wd, w, g] qual scope f cdv s H p) c4 v4) (n5 : ∀ (s : Shared) (H : Hp) (p : Addr × Obj), ClsNm (zOf X [e, so, wd, w, g] qual scope f cdv s H p) c5 v5) (n6 : ∀ (s : Shared) (H : Hp) (p : Addr × Obj), ClsNm (zOf X [e, so, wd, w, g] qual scope f cdv s H p) c6 v6) (n7 : ∀ (s : Shared) (H : Hp) (p : Addr × Obj), ClsNm (zOf X [e, so, wd, w, g] qual scope f cdv s H p) c7 v7) (n8 : ∀ (s : Shared) (H : Hp) (p : Addr × Obj), ClsNm (zOf X [e, so, wd, w, g] qual scope f cdv s H p) c8 v8) (n9 : ∀ (s : Shared) (H : Hp) (p : Addr × Obj), ClsNm (zOf X [e, so, wd, w, g] qual scope f cdv s H p) c9 v9)
    (room : txt.length + 2 ≤ sizeLine) (nine : (Txt.split txt (Str.ofString " ")).length = 9)
    (facts : ∀ c z, nam.lookup c = some z → ExcC X.K (He.ga X.K c) ∧ ∃ b1 b2 b3 b4 b5 b6 b7 b8 b9 : Bool, (PySem.W.kitOne X.K (.ref (He.ga X.K c)) v1 = some b1 ∧ PySem.W.kitOne X.K (.ref (He.ga X.K c)) v2 = some b2 ∧ PySem.W.kitOne X.K (.ref (He.ga X.K c)) v3 = some b3 ∧ PySem.W.kitOne X.K (.ref (He.ga X.K c)) v4 = some b4 ∧ PySem.W.kitOne X.K (.ref (He.ga X.K c)) v5 = some b5 ∧ PySem.W.kitOne X.K (.ref (He.ga X.K c)) v6 = some b6 ∧ PySem.W.kitOne X.K (.ref (He.ga X.K c)) v7 = some b7 ∧ PySem.W.kitOne X.K (.ref (He.ga X.K c)) v8 = some b8 ∧ PySem.W.kitOne X.K (.ref (He.ga X.K c)) v9 = some b9) ∧ nameOf txt [b1, b2, b3, b4, b5, b6, b7, b8, b9] = z ∧
      ((marked (Txt.split txt (Str.ofString " ")) [b1, b2, b3, b4, b5, b6, b7, b8, b9]).map (·.length)).sum + (marked (Txt.split txt (Str.ofString " ")) [b1, b2, b3, b4, b5, b6, b7, b8, b9]).length * 1 ≤ 16777216)
    (c z : Str) (a : Addr) (oe : Obj) (s : Shared) (H : Hp) (Q : VK) (at_ : nam.lookup c = some z) (kind : L2N.Zn (.ref (He.ga X.K c)) none oe) (dat : ∃ vs, oe.data = .fields vs) (ends : ∀ H', Same H H' → Q (.str z) H') :
    ∃ t, PSs (zOf X [e, so, wd, w, g] qual scope f cdv s H (a, oe)) [.Assign [.Name so r1] (.List [isCall e c1 q1, isCall e c2 q2, isCall e c3 q3] r2) r3,
      .Assign [.Name so r4] (.BinOp (.Name so r5) .Add (.List [isCall e c4 q4, isCall e c5 q5, isCall e c6 q6] r6) r7) r8,
      .Assign [.Name so r9] (.BinOp (.Name so r10) .Add (.List [isCall e c7 q7, isCall e c8 q8, isCall e c9 q9] r11) r12) r13,
      .Assign [.Name wd r14] (.Constant (.str txt) j3 x9) r15,
      .Return (some (.Call (.Attribute (.Constant (.str (Str.ofString " ")) j1 x1) "join" a1) [.ListComp (.Name w x2) [⟨.Tuple [.Name w x3, .Name g x4] kk tp, .Call (.Name "zip" x5) [.Call (.Attribute (.Name wd x6) "split" a2) [.Constant (.str (Str.ofString " ")) j2 x7] [] d2, .Name so x8] [] d3, [.Name g x10], 0⟩] bs lp] [] d1)) r16] t ∧ t { nx := fun _ H' => Q .non H', rt := Q } (L2.start [e, so, wd, w, g] [.ref a]) H := by
  obtain ⟨EC, b1, b2, b3, b4, b5, b6, b7, b8, b9, ⟨k1, k2, k3, k4, k5, k6, k7, k8, k9⟩, rfl, fit⟩ := facts c z at_
  exact named_all (zOf_ask S kind dat EC (gi _) mi) (zOf_nm S (gz _) mz) (zOf_hot kind dat) lines (n1 s H _) (n2 s H _) (n3 s H _) (n4 s H _) (n5 s H _) (n6 s H _) (n7 s H _) (n8 s H _) (n9 s H _) k1 k2 k3 k4 k5 k6 k7 k8 k9 room nine fit ends
end Ev
end
section
set_option Elab.async false
set_option maxRecDepth 100000
set_option linter.all false
set_option autoImplicit false
set_option maxHeartbeats 1600000
/-! Ev33: the helper that hands the value and the name serves. -/
namespace Ev
open PySem PySem.Spec PyProof.Rows L2
open L2H (HotC Hot1 RoomH cxH)
variable [Tbls] [Fr]
theorem serves_told {X : Cx} {nam : List (Str × Str)} {x a n cx q : Str} {sg : Scope} {g : Addr} {cdg : Value} {sun : Value} {call_ : Expr} {k : Nat} {np p1 p2 p3 p4 p5 p6 p7 p8 p9 pt : Pos} {j k1 k2 k3 : Nat} (nd : ([a, n] : List Str).Nodup)
    (ln : ∀ L, (envOfC x sg L g cdg).kindOf n = some .local) (sunN : ∀ s H, Names (helpX X [a, n] x sg g cdg s H).nox cx sun)
    (caught : ∀ c z, nam.lookup c = some z → PySem.W.exmOne X.K (.ref (He.ga X.K c)) sun = some true)
    (named : ∀ s H, Room k (helpX X [a, n] x sg g cdg s H).A → Names1 (helpX X [a, n] x sg g cdg s H).nox nam call_) (star2 : noStar call_ = true) :
    Serves X [a, n] x sg g cdg [.Try [.Return (some (.Tuple [.Call (.Name a p8) [] [] p9, .Constant (.str (Str.ofString "")) j p1] k1 p2)) p3] [.ExceptHandler (some (.Name cx np)) (some n) [.Return (some (.Tuple [.Constant .none k2 p4, call_] k3 p5)) p6] p7] [] [] pt] a q k (helpT X.K true nam) :=
  fun f c' s H Q tl room act code ask => catch_told (a := a) rfl rfl nd rfl (ln _) (sunN s H) rfl caught (named s H room) (fun W pn xe E tk sub => act W pn xe E p8 p9 tk sub) ⟨rfl, by show 1 < 2; decide⟩ code ask (by rfl) star2
end Ev
end
section
set_option Elab.async false
set_option maxRecDepth 100000
set_option linter.all false
set_option autoImplicit false
set_option maxHeartbeats 1600000
/-! Ev34: the helper that hands the name alone serves. -/
namespace Ev
open PySem PySem.Spec PyProof.Rows L2
open L2H (HotC Hot1 RoomH cxH)
variable [Tbls] [Fr]
theorem serves_error {X : Cx} {nam : List (Str × Str)} {x a n cx q : Str} {sg : Scope} {g : Addr} {cdg : Value} {sun : Value} {call_ : Expr} {k : Nat} {np p1 p2 p3 p4 p5 p6 p8 p9 : Pos} {j : Nat} (nd : ([a, n] : List Str).Nodup)
    (ln : ∀ L, (envOfC x sg L g cdg).kindOf n = some .local) (sunN : ∀ s H, Names (helpX X [a, n] x sg g cdg s H).nox cx sun)
    (caught : ∀ c z, nam.lookup c = some z → PySem.W.exmOne X.K (.ref (He.ga X.K c)) sun = some true)
    (named : ∀ s H, Room k (helpX X [a, n] x sg g cdg s H).A → Names1 (helpX X [a, n] x sg g cdg s H).nox nam call_) :
    Serves X [a, n] x sg g cdg [.Try [.Expr (.Call (.Name a p8) [] [] p9) p1] [.ExceptHandler (some (.Name cx np)) (some n) [.Return (some call_) p2] p3] [] [] p4, .Return (some (.Constant (.str (Str.ofString "")) j p5)) p6] a q k (helpT X.K false nam) :=
  fun f c' s H Q tl room act code ask => catch_error (X := (helpX X [a, n] x sg g cdg s H).nox) rfl rfl nd rfl (ln _) (sunN s H) caught (named s H room) (fun W pn xe E tk sub => act W pn xe E p8 p9 tk sub) rfl code ask (by rfl)
/-- the room of a frame while an error is handled -/
theorem room_hot {k : Nat} {A : Around} {v : Option Value} (r : Room k A) : RoomH k (A.mark v) := ⟨r.dp, r.un⟩
end Ev
end
section
set_option Elab.async false
set_option maxRecDepth 100000
set_option linter.all false
set_option autoImplicit false
set_option maxHeartbeats 1600000
/-! Ev35: the calls of a text: its defs by their terms, its helpers by what they tell. -/
namespace Ev
open PySem PySem.Spec PyProof.Rows L2
/-- the calls that a text may make, k deep: from 1000 on the helpers -/
def calls (gl : List D) (tab : List Df) (tels : Nat → List Arg → RC) : Nat → Calls
  | 0, f, args => if 1000 ≤ f then tels (f - 1000) args else .no
  | k + 1, f, args => if 1000 ≤ f then tels (f - 1000) args else match tab[f]? with
    | some d => runF (calls gl tab tels k) gl d args
    | none => .no
section
variable {gl : List D} {tab : List Df} {tels : Nat → List Arg → RC}
theorem calls_tel {k h : Nat} : calls gl tab tels k (1000 + h) = tels h := by
  funext args
  cases k <;> (unfold calls; rw [if_pos (by omega), show 1000 + h - 1000 = h by omega])
theorem calls_none {f : Nat} {args : List Arg} (low : f < 1000) : calls gl tab tels 0 f args = .no := by
  unfold calls
  rw [if_neg (by omega)]
theorem calls_def {k f : Nat} {d : Df} (low : f < 1000) (at_ : tab[f]? = some d) : calls gl tab tels (k + 1) f = runF (calls gl tab tels k) gl d := by
  funext args
  show (if 1000 ≤ f then tels (f - 1000) args else match tab[f]? with
    | some d => runF (calls gl tab tels k) gl d args
    | none => .no) = _
  rw [if_neg (by omega), at_]
end
end Ev
end
section
set_option Elab.async false
set_option maxRecDepth 100000
set_option linter.all false
set_option autoImplicit false
set_option maxHeartbeats 1600000
/-! Ev36: a def that no term calls. -/
namespace Ev
open PySem PySem.Spec PyProof.Rows L2
theorem spF_none [Tbls] {K : PySem.W.Frag} {n : Nat} {run : List Arg → RC} (no : ∀ args, run args = .no) {vs : List V} {H : Hp} {Q : VK} {E : XK} : ¬ spF K n run vs H Q E := by
  rintro ⟨_, _, _, args, _, wish⟩
  rw [no args] at wish
  exact wish
theorem fn_none [Tbls] {P : Program} {w : World} {K : PySem.W.Frag} {mg : Str → Option Value} {base : Heap} {CX : CXT} {j n : Nat} {f : Addr} {fd : FuncData} {ps : List Str} {run : List Arg → RC} (no : ∀ args, run args = .no) : FnOk P w K mg base CX j f fd ps (spF K n run) :=
  ⟨fun _ _ _ _ wish => (spF_none no wish).elim, fun _ _ _ _ _ _ _ _ _ _ _ _ _ wish => (spF_none no wish).elim⟩
end Ev
end
section
set_option Elab.async false
set_option maxRecDepth 100000
set_option linter.all false
set_option autoImplicit false
set_option maxHeartbeats 1600000
/-! Ev37: all defs of a text, as deep as one likes. -/
namespace Ev
open PySem PySem.Spec PyProof.Rows L2
theorem join_lt {α : Type} {l : List (Option α)} {i : Nat} {x : α} (h : l[i]?.join = some x) : i < l.length := by
  cases e : l[i]? with
  | none => (rw [e] at h; cases h)
  | some y => exact (List.getElem?_eq_some_iff.mp e).1
variable [Tbls]
/-- what a text's names stand for, however deep the calls go -/
structure TextOk (P : Program) (w : World) (K : PySem.W.Frag) (mg : Str → Option Value) (base : Heap) (L : Lex) (tab : List Df) (tels : Nat → List Arg → RC) : Prop where
  few : L.fnm.length ≤ 1000
  blt : ∀ x ∈ bltNames, mg x = none
  gl : ∀ (j : Nat) x d, L.gln[j]?.join = some x → L.gl[j]? = some d → ∃ v u, mg x = some u ∧ L2.RelV v u ∧ ∀ A H, Rl K A H d v
  fn : ∀ (f : Nat) x, L.fnm[f]?.join = some x → ∃ g fd ps d, mg x = some (.ref g) ∧ PySem.W.keepIn K (.ref g) = true ∧ Binds K fd ps [] ∧ tab[f]? = some d ∧ ((∀ C args, runF C L.gl d args = .no) ∨
    ((∀ C args, runF C L.gl d args ≠ .no → args.length = ps.length) ∧ ∀ (k : Nat) (C : Calls), (∀ (_ : Fr) (X : Cx), X.prog = P → X.w = w → X.K = K → X.mg = mg → X.base = base → Fx X L k C) → FnOk P w K mg base (L2N.CX P w) (3 * (k + 1) + 3) g fd ps (spF K ps.length (runF C L.gl d))))
  ex : ∀ c ∈ L.exn, mg c = some (.ref (He.ga K c)) ∧ PySem.W.excIn K (He.ga K c) He.veBase "ValueError.__new__" = true ∧ PySem.W.keepIn K (.ref (He.ga K c)) = true ∧
    PySem.W.subIn K (.ref (He.ga K c)) (.type "BaseException") = some true ∧ PySem.W.typeIn K (.ref (He.ga K c)) = some (.type "type")
  tl : ∀ (_ : Fr) (k h : Nat) x, L.tel[h]? = some x → ∀ Y : Cx, Y.prog = P → Y.w = w → Y.K = K → Y.mg = mg → Y.base = base → TelOk Y x k (tels h)
theorem fx_all {P : Program} {w : World} {K : PySem.W.Frag} {mg : Str → Option Value} {base : Heap} {L : Lex} {tab : List Df} {tels : Nat → List Arg → RC} (T : TextOk P w K mg base L tab tels) :
    ∀ (k : Nat) (_ : Fr) (X : Cx), X.prog = P → X.w = w → X.K = K → X.mg = mg → X.base = base → Fx X L k (calls L.gl tab tels k) := by
  intro k
  induction k with
  | zero =>
    rintro fr X rfl rfl rfl rfl rfl
    refine ⟨T.blt, T.gl, fun f x at_ => ?_, T.ex, fun h x at_ Y e1 e2 e3 e4 e5 => by rw [calls_tel]; exact T.tl fr 0 h x at_ Y e1 e2 e3 e4 e5⟩
    have low : f < 1000 := Nat.lt_of_lt_of_le (join_lt at_) T.few
    obtain ⟨g, fd, ps, d, m, kp, bs, _, _⟩ := T.fn f x at_
    exact ⟨g, fd, ps, m, kp, bs, fun args some => (some (calls_none low)).elim, fn_none fun args => calls_none low⟩
  | succ k ih =>
    rintro fr X rfl rfl rfl rfl rfl
    refine ⟨T.blt, T.gl, fun f x at_ => ?_, T.ex, fun h x at_ Y e1 e2 e3 e4 e5 => by rw [calls_tel]; exact T.tl fr (k + 1) h x at_ Y e1 e2 e3 e4 e5⟩
    have low : f < 1000 := Nat.lt_of_lt_of_le (join_lt at_) T.few
    obtain ⟨g, fd, ps, d, m, kp, bs, there, how⟩ := T.fn f x at_
    refine ⟨g, fd, ps, m, kp, bs, ?_⟩
    rw [calls_def low there]
    rcases how with no | ⟨len, does⟩
    · exact ⟨fun args some => (some (no _ _)).elim, fn_none fun args => no _ _⟩
    · exact ⟨fun args some => len _ args some, does k _ fun fr X e1 e2 e3 e4 e5 => ih fr X e1 e2 e3 e4 e5⟩
end Ev
end
section
set_option Elab.async false
set_option maxRecDepth 100000
set_option linter.all false
set_option autoImplicit false
set_option maxHeartbeats 1600000
/-! Ev38: a def's part of TextOk, from its check. -/
namespace Ev
open PySem PySem.Spec PyProof.Rows L2
theorem runF_len {C : Calls} {gl : List D} {d : Df} {args : List Arg} (some : runF C gl d args ≠ .no) : args.length = d.n := by
  by_cases h : args.length = d.n
  · exact h
  · unfold runF at some
    rw [if_neg h] at some
    exact (some rfl).elim
variable [Tbls]
theorem def_part {P : Program} {w : World} {K : PySem.W.Frag} {mg : Str → Option Value} {base : Heap} {L : Lex} {e : Fd} (o : FdOk L e) {f : Addr} {fd : FuncData} (F : FunD K e.d.name e.d.qual e.d.params e.d.body e.d.scope [] [] f fd)
    (hlam : e.lam = true → ∃ c P', fd.code = .ref c ∧ LamX.TabB base mg c P' ∧ (P', (envOfC e.d.qual e.d.scope 0 f .none).qual ++ "<lambda>") ∈ Tbls.T ∧ ∀ p ∈ Tbls.T, p.1 = P' → p.2 = (envOfC e.d.qual e.d.scope 0 f .none).qual ++ "<lambda>") :
    (∀ C args, runF C L.gl e.df args ≠ .no → args.length = e.ps.length) ∧ ∀ (k : Nat) (C : Calls), (∀ (_ : Fr) (X : Cx), X.prog = P → X.w = w → X.K = K → X.mg = mg → X.base = base → Fx X L k C) → FnOk P w K mg base (L2N.CX P w) (3 * (k + 1) + 3) f fd e.ps (spF K e.ps.length (runF C L.gl e.df)) :=
  ⟨fun C args some => (runF_len some).trans o.n, fun k C hx => fn_run o F hx hlam⟩
end Ev
end
section
set_option Elab.async false
set_option maxRecDepth 100000
set_option linter.all false
set_option autoImplicit false
set_option maxHeartbeats 1600000
/-! Ev39: the globals of a text as data; the naming def's facts as one Bool. -/
namespace Ev
open PySem PySem.Spec PyProof.Rows L2
open He (ba)
/-! ### globals -/
def flatV : D → Option He.Dv
  | .none => some .non
  | .bool b => some (.bl b)
  | .int i => some (.int i)
  | .str x => some (.str x)
  | _ => none
def flats : List D → Option (List He.Dv)
  | [] => some []
  | d :: ds => (flatV d).bind fun v => (flats ds).map (v :: ·)
section
variable {K : PySem.W.Frag}
theorem flatV_rl {d : D} {v : He.Dv} (h : flatV d = some v) {A : Addr → Prop} {H : Hp} : Rl K A H d (v.v K) := by
  cases d <;> cases h
  · exact .non
  · exact .bl _
  · exact .int _
  · exact .str _
theorem flats_rl {A : Addr → Prop} {H : Hp} : ∀ {ds : List D} {vs : List He.Dv}, flats ds = some vs → RlL K A H ds (vs.map (He.Dv.v K))
  | [], _, h => by cases h; exact .nil
  | d :: ds, _, h => by
    obtain ⟨v, e1, h⟩ := Option.bind_eq_some_iff.mp (show (flatV d).bind _ = some _ from h)
    obtain ⟨vs, e2, rfl⟩ := Option.map_eq_some_iff.mp h
    exact .cons (flatV_rl e1) (flats_rl e2)
/-- the global x stands for the data d -/
def glB (K : PySem.W.Frag) (x : Str) (d : D) : Bool := match d with
  | .tuple ds => (match flats ds with
    | some vs => He.eqO (PySem.W.nsIn K mainGlobals x) (some (some (.ref (He.ga K x)))) && He.tupB K x vs
    | none => false)
  | d => (match flatV d, PySem.W.nsIn K mainGlobals x with
    | some v, some (some u) => He.relB (v.v K) u
    | _, _ => false)
theorem glB_ok {h : Heap} {mg : Str → Option Value} (X : K.In h) (G : h.Ns mainGlobals mg) {x : Str} {d : D} (g : glB K x d = true) : ∃ v u, mg x = some u ∧ L2.RelV v u ∧ ∀ A H, Rl K A H d v := by
  have flat : (match flatV d, PySem.W.nsIn K mainGlobals x with
    | some v, some (some u) => He.relB (v.v K) u
    | _, _ => false) = true → ∃ v u, mg x = some u ∧ L2.RelV v u ∧ ∀ A H, Rl K A H d v := fun g => by
    split at g
    · rename_i v u e1 e2
      exact ⟨_, u, PySem.W.mg_of X G e2, He.relB_ok g, fun A H => flatV_rl e1⟩
    · cases g
  cases d with
  | tuple ds =>
    have g : (match flats ds with
      | some vs => He.eqO (PySem.W.nsIn K mainGlobals x) (some (some (.ref (He.ga K x)))) && He.tupB K x vs
      | none => false) = true := g
    split at g
    · rename_i vs e
      obtain ⟨g1, g2⟩ := ba g
      exact ⟨.ref (He.ga K x), .ref (He.ga K x), PySem.W.mg_of X G (He.eqO_ok g1), rfl, fun A H => .tup (He.tupB_ok g2 H) (flats_rl e)⟩
    · cases g
  | _ => exact flat g
end
/-! ### the classes of errors -/
def ownCls : List Str := ["InvalidStreet", "InvalidScript", "InvalidLean", "InvalidNumber", "InvalidFacts", "InvalidText", "Waits", "NothingToUndo"]
/-- what the naming def tells of each -/
def nam : List (Str × Str) := [("InvalidStreet", "street value"), ("InvalidScript", "script value"), ("InvalidLean", "lean value"), ("InvalidNumber", "number value"), ("InvalidFacts", "facts value"), ("InvalidText", "text value"),
  ("Waits", "waits value"), ("NothingToUndo", "undo value")]
def namZ (i : Nat) : Str := (nam.map fun p => p.2).getD i Str.empty
def ownC (i : Nat) : Str := ownCls.getD i Str.empty
def excCB (K : PySem.W.Frag) (D : Addr) : Bool := He.eqO (PySem.W.findIn K (.ref D) "__getattribute__") (some (some (.builtin "BaseException.__getattribute__"))) && (He.eqO (PySem.W.findIn K (.ref D) "__getattr__") (some none) &&
  (decide (PySem.W.subIn K (.ref D) (.type "BaseException") = some true) && (PySem.W.hasDictIn K D && (He.eqO (PySem.W.findIn K (.ref D) "__class__") (some (some (.builtin "object.__class__"))) &&
  (He.eqO (PySem.W.specialIn K (.builtin "object.__class__") "__get__") (some (some (.builtin "getset_descriptor.__get__"))) && (decide (PySem.W.takesIn K (.builtin "object.__class__") = some true) && decide (PySem.W.mroIn K D (.type "object") = some true)))))))
theorem excCB_ok {K : PySem.W.Frag} {D : Addr} (h : excCB K D = true) : ExcC K D := by
  obtain ⟨h1, h⟩ := ba h
  obtain ⟨h2, h⟩ := ba h
  obtain ⟨h3, h⟩ := ba h
  obtain ⟨h4, h⟩ := ba h
  obtain ⟨h5, h⟩ := ba h
  obtain ⟨h6, h⟩ := ba h
  obtain ⟨h7, h8⟩ := ba h
  exact ⟨He.eqO_ok h1, He.eqO_ok h2, of_decide_eq_true h3, h4, He.eqO_ok h5, He.eqO_ok h6, of_decide_eq_true h7, of_decide_eq_true h8⟩
/-- the class that stands at a place of the naming def's questions -/
def clsV (K : PySem.W.Frag) (i : Nat) : Value := match ownCls[i]? with
  | some c => .ref (He.ga K c)
  | none => .type "ValueError"
def kitB (K : PySem.W.Frag) : Bool := (List.range 8).all fun i => excCB K (He.ga K (ownC i)) && (List.range 9).all fun j => decide (PySem.W.kitOne K (.ref (He.ga K (ownC i))) (clsV K j) = some (decide (i = j) || decide (j = 8)))
theorem kitB_ok {K : PySem.W.Frag} (h : kitB K = true) {i : Nat} (hi : i < 8) : ExcC K (He.ga K (ownC i)) ∧ ∀ j, j < 9 → PySem.W.kitOne K (.ref (He.ga K (ownC i))) (clsV K j) = some (decide (i = j) || decide (j = 8)) := by
  obtain ⟨h1, h2⟩ := ba (List.all_eq_true.mp h i (List.mem_range.mpr hi))
  exact ⟨excCB_ok h1, fun j hj => of_decide_eq_true (List.all_eq_true.mp h2 j (List.mem_range.mpr hj))⟩
theorem nam_at : ∀ {c z : Str}, nam.lookup c = some z → ∃ i, i < 8 ∧ c = ownC i ∧ z = namZ i := by
  intro c z h
  have mem : ∀ {l : List (Str × Str)}, l.lookup c = some z → (c, z) ∈ l := by
    intro l
    induction l with
    | nil => intro h; cases h
    | cons p r ih =>
      intro h
      rw [List.lookup_cons] at h
      split at h
      · rename_i e
        cases h
        have := beq_iff_eq.mp e
        subst this
        exact List.mem_cons_self
      · exact List.mem_cons_of_mem _ (ih h)
  obtain ⟨i, hi, e⟩ := List.mem_iff_getElem.mp (mem h)
  refine ⟨i, hi, ?_, ?_⟩
  · have := congrArg Prod.fst e
    rw [show c = (c, z).1 from rfl, ← this]
    have hi : i < 8 := hi
    match i, hi with
    | 0, _ => rfl
    | 1, _ => rfl
    | 2, _ => rfl
    | 3, _ => rfl
    | 4, _ => rfl
    | 5, _ => rfl
    | 6, _ => rfl
    | 7, _ => rfl
  · have := congrArg Prod.snd e
    rw [show z = (c, z).2 from rfl, ← this]
    have hi : i < 8 := hi
    match i, hi with
    | 0, _ => rfl
    | 1, _ => rfl
    | 2, _ => rfl
    | 3, _ => rfl
    | 4, _ => rfl
    | 5, _ => rfl
    | 6, _ => rfl
    | 7, _ => rfl
def theWords : Str := "street script lean number facts text waits undo value"
def bitsOf (i : Nat) : List Bool := (List.range 9).map fun j => decide (i = j) || decide (j = 8)
theorem words_nine : (Txt.split theWords (Str.ofString " ")).length = 9 := by decide +kernel
theorem words_told : ∀ i, i < 8 → nameOf theWords (bitsOf i) = namZ i ∧ ((marked (Txt.split theWords (Str.ofString " ")) (bitsOf i)).map (·.length)).sum + (marked (Txt.split theWords (Str.ofString " ")) (bitsOf i)).length * 1 ≤ 16777216 := by decide +kernel
/-- the facts that named_does asks for -/
theorem kit_facts {K : PySem.W.Frag} (h : kitB K = true) (c z : Str) (at_ : nam.lookup c = some z) : ExcC K (He.ga K c) ∧ ∃ b1 b2 b3 b4 b5 b6 b7 b8 b9 : Bool, (PySem.W.kitOne K (.ref (He.ga K c)) (clsV K 0) = some b1 ∧ PySem.W.kitOne K (.ref (He.ga K c)) (clsV K 1) = some b2 ∧
    PySem.W.kitOne K (.ref (He.ga K c)) (clsV K 2) = some b3 ∧ PySem.W.kitOne K (.ref (He.ga K c)) (clsV K 3) = some b4 ∧ PySem.W.kitOne K (.ref (He.ga K c)) (clsV K 4) = some b5 ∧ PySem.W.kitOne K (.ref (He.ga K c)) (clsV K 5) = some b6 ∧
    PySem.W.kitOne K (.ref (He.ga K c)) (clsV K 6) = some b7 ∧ PySem.W.kitOne K (.ref (He.ga K c)) (clsV K 7) = some b8 ∧ PySem.W.kitOne K (.ref (He.ga K c)) (clsV K 8) = some b9) ∧ nameOf theWords [b1, b2, b3, b4, b5, b6, b7, b8, b9] = z ∧
      ((marked (Txt.split theWords (Str.ofString " ")) [b1, b2, b3, b4, b5, b6, b7, b8, b9]).map (·.length)).sum + (marked (Txt.split theWords (Str.ofString " ")) [b1, b2, b3, b4, b5, b6, b7, b8, b9]).length * 1 ≤ 16777216 := by
  obtain ⟨i, hi, rfl, rfl⟩ := nam_at at_
  obtain ⟨hc, hk⟩ := kitB_ok h hi
  refine ⟨hc, _, _, _, _, _, _, _, _, _, ⟨hk 0 (by decide), hk 1 (by decide), hk 2 (by decide), hk 3 (by decide), hk 4 (by decide), hk 5 (by decide), hk 6 (by decide), hk 7 (by decide), hk 8 (by decide)⟩, ?_⟩
  exact words_told i hi
end Ev
end
section
set_option Elab.async false
set_option maxRecDepth 100000
set_option linter.all false
set_option autoImplicit false
set_option maxHeartbeats 1600000
/-! Ev40: the helper of a text, from what the head tells. -/
namespace Ev
open PySem PySem.Spec PyProof.Rows L2
open L2H (HotC Hot1 RoomH cxH)
open He (ba)
def globsB (sc : Scope) (xs : List Str) : Bool := xs.all fun x => globB sc x
theorem globB_kind {sc : Scope} {x : Str} (h : globB sc x = true) : sc.names.lookup x = some .globalImplicit := by
  unfold globB at h
  split at h
  · assumption
  · cases h
theorem globsB_at {sc : Scope} {xs : List Str} (h : globsB sc xs = true) {x : Str} (m : x ∈ xs) : sc.names.lookup x = some .globalImplicit := globB_kind (List.all_eq_true.mp h x m)
/-- a def of the module without defaults, of the parameters ps -/
structure Plain (d : He.DefD) (ps : List Str) : Prop where
  at_ : d.at_ = (d.name, none)
  qn : d.qual = d.name
  dfl : d.dfl = []
  kwd : d.kwd = []
  bind : ∀ (kV doc pm : Value) (an : Option Addr) (cdv ct : Value) (us : List Value), us.length = ps.length → bindArgs (PySem.W.fnOf d.name d.qual d.params d.body d.scope .none kV doc pm an cdv ct) ⟨us, []⟩ = pure (ps.zip us)
def moreGl : List Str := ["ValueError", "isinstance", "zip"]
def namGl : List Str := ownCls ++ moreGl
/-- the naming def's names -/
structure NmT (d : He.DefD) (bs : Scope) (e so wd w g : Str) : Prop where
  pl : Plain d [e]
  S : NmS d.scope bs e so wd w g
  fs : FnScope [e, so, wd, w, g] [e] d.scope
  gb : globsB d.scope namGl = true
/-- the module's facts for the naming def -/
structure NmM (K : PySem.W.Frag) (mg : Str → Option Value) : Prop where
  kit : kitB K = true
  cls : ∀ c ∈ ownCls, mg c = some (.ref (He.ga K c))
  ve : mg "ValueError" = none
  mi : mg "isinstance" = none
  mz : mg "zip" = none
variable [Tbls] [Fr]
theorem names_tell {X : Cx} {d : He.DefD} {bs : Scope} {e so wd w g n : Str} {f : Addr} {fd : FuncData} {k : Nat} {p1 p2 p3 : Pos} {s1 t1 u1 v1 s2 t2 u2 v2 s3 t3 u3 v3 s4 t4 u4 v4 s5 t5 u5 v5 s6 t6 u6 v6 s7 t7 u7 v7 s8 t8 u8 v8 s9 t9 u9 v9 : Pos}
    {r1 r2 r3 r4 r5 r6 r7 r8 r9 r10 r11 r12 r13 r14 r15 x1 x2 x3 x4 x5 x6 x7 x8 x9 x10 r16 lp a1 a2 d1 d2 d3 tp : Pos} {j1 j2 j3 kk : Nat} (T : NmT d bs e so wd w g) (M : NmM X.K X.mg)
    (hb : d.body = [.Assign [.Name so r1] (.List [isCall e "InvalidStreet" (s1, t1, u1, v1), isCall e "InvalidScript" (s2, t2, u2, v2), isCall e "InvalidLean" (s3, t3, u3, v3)] r2) r3,
      .Assign [.Name so r4] (.BinOp (.Name so r5) .Add (.List [isCall e "InvalidNumber" (s4, t4, u4, v4), isCall e "InvalidFacts" (s5, t5, u5, v5), isCall e "InvalidText" (s6, t6, u6, v6)] r6) r7) r8,
      .Assign [.Name so r9] (.BinOp (.Name so r10) .Add (.List [isCall e "Waits" (s7, t7, u7, v7), isCall e "NothingToUndo" (s8, t8, u8, v8), isCall e "ValueError" (s9, t9, u9, v9)] r11) r12) r13,
      .Assign [.Name wd r14] (.Constant (.str theWords) j3 x9) r15,
      .Return (some (.Call (.Attribute (.Constant (.str (Str.ofString " ")) j1 x1) "join" a1) [.ListComp (.Name w x2) [⟨.Tuple [.Name w x3, .Name g x4] kk tp, .Call (.Name "zip" x5) [.Call (.Attribute (.Name wd x6) "split" a2) [.Constant (.str (Str.ofString " ")) j2 x7] [] d2, .Name so x8] [] d3, [.Name g x10], 0⟩] bs lp] [] d1)) r16])
    (lines : (a1.endLine == d1.line) = true ∧ (a2.endLine == d2.line) = true) (F : FunD X.K d.name d.qual d.params d.body d.scope [] [] f fd) (m : X.mg d.name = some (.ref f)) (hg : Gl X d.name) (d3' : (d.name == ("__debug__" : Str)) = false)
    (room : RoomH (k + 1) X.A) (h1 : X.N[1]? = some n) (vis : Vis X.env.scope n) (e1 : (n == ("__debug__" : Str)) = false) (e2 : (n == ("__classdict__" : Str)) = false) :
    Names1 X nam (.Call (.Name d.name p1) [.Name n p2] [] p3) := by
  have bd := FunD.bindsN F T.pl.bind
  obtain ⟨_, _, _, _, _, _, _, cdv, _, _, rfl, lk, hcd, _, _⟩ := F.ex
  refine names1_of hg m F.kp lk hcd T.fs bd room h1 vis e1 e2 d3' fun c z a oe s H Q at_ kind dat ends _ => ?_
  have gk : ∀ {x : Str}, x ∈ namGl → ∀ L, (envOfC d.qual d.scope L f cdv).kindOf x = some .globalImplicit := fun hx L => globsB_at T.gb hx
  have own : ∀ {i : Nat} {c : Str}, c ∈ ownCls → (c == ("__debug__" : Str)) = false → clsV X.K i = .ref (He.ga X.K c) → ∀ (s : Shared) (H : Hp) (p : Addr × Obj), ClsNm (zOf X [e, so, wd, w, g] d.qual d.scope f cdv s H p) c (clsV X.K i) := fun hc dd ev s H p => by
    rw [ev]
    exact clsNm_own (gk (List.mem_append_left _ hc) _) (M.cls _ hc) dd
  rw [hb]
  exact named_does T.S (gk (by decide)) M.mi (gk (by decide)) M.mz lines (own (i := 0) (by decide) (by decide) rfl) (own (i := 1) (by decide) (by decide) rfl) (own (i := 2) (by decide) (by decide) rfl) (own (i := 3) (by decide) (by decide) rfl)
    (own (i := 4) (by decide) (by decide) rfl) (own (i := 5) (by decide) (by decide) rfl) (own (i := 6) (by decide) (by decide) rfl) (own (i := 7) (by decide) (by decide) rfl)
    (fun s H p => clsNm_blt (gk (by decide) _) M.ve (by decide +kernel) (by decide) (by decide)) (by decide +kernel) words_nine (fun c z at_ => kit_facts M.kit c z at_) c z a oe s H Q at_ kind dat ends
/-- the helper's names -/
structure HpT (d : He.DefD) (a n : Str) (nd : Str) : Prop where
  pl : Plain d [a]
  fs : FnScope [a, n] [a] d.scope
  va : Vis d.scope a
  da : (a == ("__debug__" : Str)) = false ∧ (a == ("__classdict__" : Str)) = false
  ln : d.scope.names.lookup n = some .local
  dn : (n == ("__debug__" : Str)) = false ∧ (n == ("__classdict__" : Str)) = false
  gs : d.scope.names.lookup ("SunError" : Str) = some .globalImplicit
  gn : d.scope.names.lookup nd = some .globalImplicit
structure HpM (K : PySem.W.Frag) (mg : Str → Option Value) : Prop where
  sun : mg "SunError" = some (.ref (He.ga K "SunError"))
  exm : ∀ c ∈ ownCls, PySem.W.exmOne K (.ref (He.ga K c)) (.ref (He.ga K "SunError")) = some true
section
variable {Y : Cx} {d : He.DefD} {a n nd : Str} {g : Addr} {fd : FuncData}
theorem nam_mem {c z : Str} (h : nam.lookup c = some z) : c ∈ ownCls := by
  obtain ⟨i, hi, rfl, _⟩ := nam_at h
  match i, hi with
  | 0, _ => decide
  | 1, _ => decide
  | 2, _ => decide
  | 3, _ => decide
  | 4, _ => decide
  | 5, _ => decide
  | 6, _ => decide
  | 7, _ => decide
theorem tel_told {told : Bool} (T : HpT d a n nd) (F : FunD Y.K d.name d.qual d.params d.body d.scope [] [] g fd) (m : Y.mg d.name = some (.ref g)) (k : Nat)
    (serves : ∀ q cdv, Serves Y [a, n] d.name d.scope g cdv d.body a q (3 * k + 4) (helpT Y.K told nam)) : TelOk Y d.name k (telG told nam) := by
  have bd := FunD.bindsN F T.pl.bind
  obtain ⟨_, _, _, _, _, _, _, cdv, _, _, rfl, lk, hcd, _, _⟩ := F.ex
  have qn : d.qual = d.name := T.pl.qn
  rw [qn] at bd lk hcd
  exact tel_ok m F.kp lk hcd bd T.fs rfl T.va T.da.1 T.da.2 fun q => serves q cdv
theorem served_told {k : Nat} {cdv : Value} {q : Str} {call_ : Expr} {np p1 p2 p3 p4 p5 p6 p7 p8 p9 pt : Pos} {j k1 k2 k3 : Nat} (T : HpT d a n nd) (M : HpM Y.K Y.mg)
    (hb : d.body = [.Try [.Return (some (.Tuple [.Call (.Name a p8) [] [] p9, .Constant (.str (Str.ofString "")) j p1] k1 p2)) p3] [.ExceptHandler (some (.Name "SunError" np)) (some n) [.Return (some (.Tuple [.Constant .none k2 p4, call_] k3 p5)) p6] p7] [] [] pt])
    (star : noStar call_ = true) (named : ∀ s H, Room (3 * k + 4) (helpX Y [a, n] d.name d.scope g cdv s H).A → Names1 (helpX Y [a, n] d.name d.scope g cdv s H).nox nam call_) : Serves Y [a, n] d.name d.scope g cdv d.body a q (3 * k + 4) (helpT Y.K true nam) := by
  rw [hb]
  exact serves_told T.fs.nd (fun L => T.ln) (fun s H => ⟨T.gs, by decide, .inl M.sun⟩) (fun c z at_ => M.exm c (nam_mem at_)) named star
theorem served_error {k : Nat} {cdv : Value} {q : Str} {call_ : Expr} {np p1 p2 p3 p4 p5 p6 p8 p9 : Pos} {j : Nat} (T : HpT d a n nd) (M : HpM Y.K Y.mg)
    (hb : d.body = [.Try [.Expr (.Call (.Name a p8) [] [] p9) p1] [.ExceptHandler (some (.Name "SunError" np)) (some n) [.Return (some call_) p2] p3] [] [] p4, .Return (some (.Constant (.str (Str.ofString "")) j p5)) p6])
    (named : ∀ s H, Room (3 * k + 4) (helpX Y [a, n] d.name d.scope g cdv s H).A → Names1 (helpX Y [a, n] d.name d.scope g cdv s H).nox nam call_) : Serves Y [a, n] d.name d.scope g cdv d.body a q (3 * k + 4) (helpT Y.K false nam) := by
  rw [hb]
  exact serves_error T.fs.nd (fun L => T.ln) (fun s H => ⟨T.gs, by decide, .inl M.sun⟩) (fun c z at_ => M.exm c (nam_mem at_)) named
/-- where the helper stands, the naming def can be called -/
theorem help_frame {k : Nat} {cdv : Value} {s : Shared} {H : Hp} (T : HpT d a n nd) (room : Room (3 * k + 4) (helpX Y [a, n] d.name d.scope g cdv s H).A) :
    Gl (helpX Y [a, n] d.name d.scope g cdv s H).nox nd ∧ RoomH (3 * k + 3 + 1) (helpX Y [a, n] d.name d.scope g cdv s H).nox.A ∧ (helpX Y [a, n] d.name d.scope g cdv s H).nox.N[1]? = some n ∧ Vis (helpX Y [a, n] d.name d.scope g cdv s H).nox.env.scope n :=
  ⟨T.gn, ⟨room.dp, room.un⟩, rfl, .inl T.ln⟩
end
end Ev
end
section
set_option Elab.async false
set_option maxRecDepth 100000
set_option linter.all false
set_option autoImplicit false
set_option maxHeartbeats 1600000
/-! Ev41: a law's text: what the head is to tell of it, and what comes of that. -/
namespace Ev
open PySem PySem.Spec PyProof.Rows L2
open He (ba)
/-- each def that has a term matches it, at its place -/
def AllOk (L : Lex) : List (Option Fd) → List Df → Prop
  | [], _ => True
  | none :: r, _ :: t => AllOk L r t
  | some e :: r, d :: t => (e.df = d ∧ FdOk L e) ∧ AllOk L r t
  | _ :: _, [] => False
theorem AllOk.at {L : Lex} {e : Fd} : ∀ {l : List (Option Fd)} {t : List Df} {f : Nat}, AllOk L l t → l[f]?.join = some e → t[f]? = some e.df ∧ FdOk L e
  | [], _, f, _, h => by simp at h
  | none :: r, [], _, a, _ => a.elim
  | some _ :: r, [], _, a, _ => a.elim
  | none :: r, _ :: t, 0, _, h => by cases h
  | none :: r, _ :: t, f + 1, a, h => by
    have a : AllOk L r t := a
    have := AllOk.at (f := f) a (by simpa using h)
    simpa using this
  | some x :: r, d :: t, 0, a, h => by
    have a : (x.df = d ∧ FdOk L x) ∧ AllOk L r t := a
    have : x = e := by simpa using h
    subst this
    exact ⟨congrArg some a.1.1.symm, a.1.2⟩
  | some x :: r, d :: t, f + 1, a, h => by
    have a : (x.df = d ∧ FdOk L x) ∧ AllOk L r t := a
    have := AllOk.at (f := f) a.2 (by simpa using h)
    simpa using this
structure Text where
  fds : List (Option Fd)
  L : Lex
  tab : List Df
  dn : He.DefD
  dh : He.DefD
  told : Bool
namespace Text
variable (t : Text)
def ds : List Fd := t.fds.filterMap id
def lams : List Fd := t.ds.filter (·.lam)
def fn : List He.DefD := t.ds.map (·.d) ++ [t.dn, t.dh]
def fa : List He.Fa := bltNames.map .free ++ ([.free "ValueError", .glo "SunError"] ++ (ownCls.map .glo ++ (ownCls.map .exc ++ (ownCls.map (fun c => .exm c "SunError" true) ++ t.fn.map fun d => .glo d.name))))
def tf : List He.Defn := t.lams.map (·.d.at_)
end Text
/-- the name of a lambda made in a def -/
def lamQ (e : Fd) : Str := (envOfC e.d.qual e.d.scope 0 0 .none).qual ++ "<lambda>"
namespace Text
variable (t : Text)
def glbs (K : PySem.W.Frag) : Bool := (List.range t.L.gln.length).all fun j => match t.L.gln[j]?.join, t.L.gl[j]? with
  | some x, some d => glB K x d
  | _, _ => true
def apart (K : PySem.W.Frag) : Bool := t.lams.all fun e => t.lams.all fun e' => !decide (He.tabOf K (He.codeOf K e.d.at_) = He.tabOf K (He.codeOf K e'.d.at_)) || decide (lamQ e = lamQ e')
def ex (K : PySem.W.Frag) : Bool := kitB K && (t.glbs K && t.apart K)
def T (K : PySem.W.Frag) : List (Addr × Str) := t.lams.map fun e => (He.tabOf K (He.codeOf K e.d.at_), lamQ e)
structure Ok : Prop where
  fnm : t.L.fnm = t.fds.map (·.map (·.d.name))
  all : AllOk t.L t.fds t.tab
  few : t.L.fnm.length ≤ 1000
  exn : ∀ c ∈ t.L.exn, c ∈ ownCls
  tel : t.L.tel = [t.dh.name]
  pn : t.dn.at_ = (t.dn.name, none) ∧ t.dn.dfl = [] ∧ t.dn.kwd = []
  ph : t.dh.at_ = (t.dh.name, none) ∧ t.dh.dfl = [] ∧ t.dh.kwd = []
  tl : ∀ (_ : Tbls) (_ : Fr) (Y : Cx) (k : Nat) (f g : Addr) (fd gd : FuncData), NmM Y.K Y.mg → HpM Y.K Y.mg → FunD Y.K t.dn.name t.dn.qual t.dn.params t.dn.body t.dn.scope [] [] f fd → Y.mg t.dn.name = some (.ref f) →
    FunD Y.K t.dh.name t.dh.qual t.dh.params t.dh.body t.dh.scope [] [] g gd → Y.mg t.dh.name = some (.ref g) → TelOk Y t.dh.name k (telG t.told nam)
end Text
section
variable {t : Text} {K : PySem.W.Frag} {h : Heap} {mg : Str → Option Value} {w : World} {ts : List He.Tab}
theorem FdOk.plain {L : Lex} {e : Fd} (o : FdOk L e) : Plain e.d e.ps := ⟨o.at_, o.qn, o.dfl, o.kwd, o.bind⟩
theorem ds_at {l : List (Option Fd)} {e : Fd} (m : e ∈ l.filterMap id) : ∃ f : Nat, l[f]?.join = some e := by
  obtain ⟨x, hx, ex⟩ := List.mem_filterMap.mp m
  obtain ⟨i, hi, e1⟩ := List.mem_iff_getElem.mp hx
  refine ⟨i, ?_⟩
  rw [List.getElem?_eq_getElem hi, e1]
  exact ex
theorem at_ds {l : List (Option Fd)} {e : Fd} {f : Nat} (at_ : l[f]?.join = some e) : e ∈ l.filterMap id := by
  refine List.mem_filterMap.mpr ⟨some e, ?_, rfl⟩
  cases q : l[f]? with
  | none => rw [q] at at_; cases at_
  | some o =>
    rw [q] at at_
    have : o = some e := at_
    subst this
    exact List.mem_of_getElem? q
/-- a def as it stands behind the top -/
theorem def_there (X : K.In h) (G : h.Ns mainGlobals mg) (c : He.SaysD t.fa t.fn K) {d : He.DefD} (m : d ∈ t.fn) (p : d.at_ = (d.name, none) ∧ d.dfl = [] ∧ d.kwd = []) :
    ∃ fd, FunD K d.name d.qual d.params d.body d.scope [] [] (He.ga K d.name) fd ∧ mg d.name = some (.ref (He.ga K d.name)) ∧ He.fAd K d.at_ = He.ga K d.name := by
  obtain ⟨fd, F⟩ := c.defs m
  have e1 : d.dvs K = [] := by
    unfold He.DefD.dvs
    rw [p.2.1]
    rfl
  have e2 : d.kws K = [] := by
    unfold He.DefD.kws
    rw [p.2.2]
    rfl
  have e3 : He.fAd K d.at_ = He.ga K d.name := by
    rw [p.1]
    rfl
  rw [e1, e2, e3] at F
  refine ⟨fd, F, ?_, e3⟩
  refine He.glo_ok X G (c.facts (f := .glo d.name) ?_)
  unfold Text.fa
  exact List.mem_append_right _ (List.mem_append_right _ (List.mem_append_right _ (List.mem_append_right _ (List.mem_append_right _ (List.mem_map.mpr ⟨d, m, rfl⟩)))))
theorem nm_there (X : K.In h) (G : h.Ns mainGlobals mg) (c : He.SaysX t.fa t.fn ts t.tf t.ex w h K) : NmM K mg ∧ HpM K mg ∧ ∀ x ∈ bltNames, mg x = none := by
  have d := c.t.d
  have blt : ∀ x ∈ bltNames, mg x = none := fun x m => He.free_ok X G (d.facts (f := .free x) (List.mem_append_left _ (List.mem_map.mpr ⟨x, m, rfl⟩)))
  refine ⟨⟨(ba c.more).1, fun x m => ?_, ?_, blt _ (by decide), blt _ (by decide)⟩, ⟨?_, fun x m => ?_⟩, blt⟩
  · exact He.glo_ok X G (d.facts (f := .glo x) (List.mem_append_right _ (List.mem_append_right _ (List.mem_append_left _ (List.mem_map.mpr ⟨x, m, rfl⟩)))))
  · exact He.free_ok X G (d.facts (f := .free "ValueError") (List.mem_append_right _ (List.mem_append_left _ List.mem_cons_self)))
  · exact He.glo_ok X G (d.facts (f := .glo "SunError") (List.mem_append_right _ (List.mem_append_left _ (List.mem_cons_of_mem _ List.mem_cons_self))))
  · exact He.exm_ok (d.facts (f := .exm x "SunError" true) (List.mem_append_right _ (List.mem_append_right _ (List.mem_append_right _ (List.mem_append_right _ (List.mem_append_left _ (List.mem_map.mpr ⟨x, m, rfl⟩)))))))
theorem text_ok (o : t.Ok) (X : K.In h) (G : h.Ns mainGlobals mg) (c : He.SaysX t.fa t.fn ts t.tf t.ex w h K) {P : Program} {base : Heap} (C : ∀ p ∈ t.tf.map (He.cT K), LamX.TabB base mg p.1 p.2) :
    letI : Tbls := ⟨t.T K⟩
    TextOk P w K mg base t.L t.tab (fun _ => telG t.told nam) ∧ ∀ (f : Nat) e, t.fds[f]?.join = some e → ∃ fd, FunD K e.d.name e.d.qual e.d.params e.d.body e.d.scope [] [] (He.ga K e.d.name) fd ∧ mg e.d.name = some (.ref (He.ga K e.d.name)) ∧
      ((∀ C args, runF C t.L.gl e.df args ≠ .no → args.length = e.ps.length) ∧ ∀ (k : Nat) (C : Calls), (∀ (_ : Fr) (X : Cx), X.prog = P → X.w = w → X.K = K → X.mg = mg → X.base = base → Fx X t.L k C) → FnOk P w K mg base (L2N.CX P w) (3 * (k + 1) + 3) (He.ga K e.d.name) fd e.ps (spF K e.ps.length (runF C t.L.gl e.df))) := by
  letI : Tbls := ⟨t.T K⟩
  have sd := c.t.d
  obtain ⟨M, N, blt⟩ := nm_there X G c
  have defs : ∀ (f : Nat) e, t.fds[f]?.join = some e → ∃ fd, FunD K e.d.name e.d.qual e.d.params e.d.body e.d.scope [] [] (He.ga K e.d.name) fd ∧ mg e.d.name = some (.ref (He.ga K e.d.name)) ∧
      ((∀ C args, runF C t.L.gl e.df args ≠ .no → args.length = e.ps.length) ∧ ∀ (k : Nat) (C : Calls), (∀ (_ : Fr) (X : Cx), X.prog = P → X.w = w → X.K = K → X.mg = mg → X.base = base → Fx X t.L k C) → FnOk P w K mg base (L2N.CX P w) (3 * (k + 1) + 3) (He.ga K e.d.name) fd e.ps (spF K e.ps.length (runF C t.L.gl e.df))) := fun f e at_ => by
    obtain ⟨_, fo⟩ := o.all.at at_
    obtain ⟨fd, F, m, ea⟩ := def_there X G sd (d := e.d) (List.mem_append_left _ (List.mem_map.mpr ⟨e, at_ds at_, rfl⟩)) ⟨fo.at_, fo.dfl, fo.kwd⟩
    refine ⟨fd, F, m, def_part fo F fun on => ?_⟩
    have ml : e ∈ t.lams := List.mem_filter.mpr ⟨at_ds at_, on⟩
    have mt : e.d.at_ ∈ t.tf := List.mem_map.mpr ⟨e, ml, rfl⟩
    obtain ⟨_, _, _, _, _, _, _, cdv, _, _, efd, lk, hcd, _, _⟩ := F.ex
    obtain ⟨cc, ecd⟩ := He.codeIn_ref hcd
    have efc : fd.code = .ref cc := by
      rw [efd]
      exact ecd
    have eco : He.codeOf K e.d.at_ = cc := He.codeOf_eq (by rw [ea]; exact lk) efc
    refine ⟨cc, He.tabOf K cc, efc, ?_, ?_, fun p hp he => ?_⟩
    · have := C _ (List.mem_map.mpr ⟨_, mt, rfl⟩)
      unfold He.cT at this
      rw [eco] at this
      exact this
    · refine List.mem_map.mpr ⟨e, ml, ?_⟩
      rw [eco]
      rfl
    · obtain ⟨e', ml', rfl⟩ := List.mem_map.mp hp
      have ap := List.all_eq_true.mp (List.all_eq_true.mp (ba (ba c.more).2).2 e ml) e' ml'
      rcases Bool.or_eq_true_iff.mp ap with z | z
      · exfalso
        have z : decide (He.tabOf K (He.codeOf K e.d.at_) = He.tabOf K (He.codeOf K e'.d.at_)) = false := by simpa using z
        refine of_decide_eq_false z ?_
        rw [eco]
        exact he.symm
      · exact (of_decide_eq_true z).symm
  refine ⟨⟨o.few, blt, fun j x d ex ed => ?_, fun f x at_ => ?_, fun x m => ?_, fun fr k hh x at_ Y e1 e2 e3 e4 e5 => ?_⟩, defs⟩
  · have j_lt : j < t.L.gln.length := join_lt ex
    have g := List.all_eq_true.mp (ba (ba c.more).2).1 j (List.mem_range.mpr j_lt)
    rw [ex, ed] at g
    exact glB_ok X G g
  · rw [o.fnm, List.getElem?_map] at at_
    obtain ⟨e, he, rfl⟩ : ∃ e, t.fds[f]?.join = some e ∧ e.d.name = x := by
      cases q : t.fds[f]? with
      | none => rw [q] at at_; cases at_
      | some oo =>
        rw [q] at at_
        cases oo with
        | none => cases at_
        | some e => exact ⟨e, rfl, Option.some.inj at_⟩
    obtain ⟨td, fo⟩ := o.all.at he
    obtain ⟨fd, F, m, part⟩ := defs f e he
    exact ⟨_, fd, e.ps, e.df, m, F.kp, FunD.bindsN F fo.bind, td, .inr part⟩
  · have mo := o.exn x m
    obtain ⟨f1, f2, f3, f4⟩ := He.exc_ok (sd.facts (f := .exc x) (List.mem_append_right _ (List.mem_append_right _ (List.mem_append_right _ (List.mem_append_left _ (List.mem_map.mpr ⟨x, mo, rfl⟩))))))
    exact ⟨M.cls x mo, f1, f2, f3, f4⟩
  · rw [o.tel] at at_
    have : x = t.dh.name := by
      cases hh with
      | zero => exact (Option.some.inj at_).symm
      | succ n => cases at_
    subst this
    obtain ⟨fd, F, m, _⟩ := def_there X G sd (d := t.dn) (List.mem_append_right _ List.mem_cons_self) o.pn
    obtain ⟨gd, F', m', _⟩ := def_there X G sd (d := t.dh) (List.mem_append_right _ (List.mem_cons_of_mem _ List.mem_cons_self)) o.ph
    subst e3 e4
    exact o.tl _ fr Y k _ _ _ _ M N F m F' m'
end
end Ev
end
section
set_option Elab.async false
set_option maxRecDepth 100000
set_option linter.all false
set_option autoImplicit false
set_option maxHeartbeats 1600000
/-! Ev42: the law's call, by its text. -/
namespace Ev
open PySem PySem.Spec PyProof.Rows L2
open He (ba)
theorem FunD.same {K : PySem.W.Frag} {x qual : Str} {params : Arguments} {body : List Stmt} {scope : Scope} {f : Addr} {fd fd' : FuncData} (F : FunD K x qual params body scope [] [] f fd) (F' : FunD K x qual params body scope [] [] f fd') : fd' = fd := by
  obtain ⟨_, _, _, _, _, _, _, _, _, _, _, lk, _⟩ := F.ex
  obtain ⟨_, _, _, _, _, _, _, _, _, _, _, lk', _⟩ := F'.ex
  rw [lk] at lk'
  injection lk' with e
  injection e with _ _ e _
  injection e with e
  exact e.symm
theorem rl_true {K : PySem.W.Frag} {A : Addr → Prop} {H : Hp} {v : V} (r : Rl K A H (.bool true) v) : v = .bl true := by cases r; rfl
variable {t : Text} {K : PySem.W.Frag} {h : Heap} {mg : Str → Option Value} {w : World} {ts : List He.Tab}
theorem law_at {l : PySem.W.OpenLaw} {f k n : Nat} {x : Str} {e : Fd} {fa : Addr} (o : t.Ok) (at_ : t.fds[f]?.join = some e) (one : e.ps = [x]) (low : f < 1000) (X : K.In h) (G : h.Ns mainGlobals mg) (c : He.SaysX t.fa t.fn ts t.tf t.ex w h K) (hfa : mg e.d.name = some (.ref fa))
    (run : ∀ ns : List Int, ns.length ≤ n → (∀ z ∈ ns, Builtin.Int.intBits z ≤ 1048576) → calls t.L.gl t.tab (fun _ => telG t.told nam) (k + 1) f [.d (.list (ns.map .int))] = .ok (.d (.bool true)) []) :
    LamX.LawAtS l w K (L2N.CX l.prog w) (3 * (k + 1) + 3) n x mg fa h := by
  obtain ⟨td, fo⟩ := o.all.at at_
  obtain ⟨fd, F, m, _⟩ := def_there X G c.t.d (d := e.d) (List.mem_append_left _ (List.mem_map.mpr ⟨e, at_ds at_, rfl⟩)) ⟨fo.at_, fo.dfl, fo.kwd⟩
  have ef : fa = He.ga K e.d.name := by
    rw [m] at hfa
    injection hfa with z
    injection z with z
    exact z.symm
  letI : Tbls := ⟨t.T K⟩
  have ecall : ∀ args, calls t.L.gl t.tab (fun _ => telG t.told nam) (k + 1) f args = runF (calls t.L.gl t.tab (fun _ => telG t.told nam) k) t.L.gl e.df args := fun args => by rw [calls_def low td]
  refine ⟨fd, t.tf.map (He.cT K), spF K e.ps.length (runF (calls t.L.gl t.tab (fun _ => telG t.told nam) k) t.L.gl e.df), fun p hp => ?_, fun p hp => ?_, fun p hp => ?_, fun s u => ?_, fun H a ns hl hb ht hs => ?_, fun base hk hg hc => ?_⟩
  · obtain ⟨q, hq, rfl⟩ := List.mem_map.mp hp
    exact c.empty q hq
  · obtain ⟨q, hq, rfl⟩ := List.mem_map.mp hp
    exact c.out q hq
  · obtain ⟨q, hq, rfl⟩ := List.mem_map.mp hp
    exact PySem.W.codeHd_of_K X (c.hd q hq)
  · have := FunD.bindsA F fo.bind s [u] (by rw [one]; rfl)
    rw [one] at this
    exact this
  · refine ⟨by rw [one]; rfl, fun _ => False, fun _ => False, [.d (.list (ns.map .int))], ⟨rfl, fun _ z => z.elim, fun _ z => z.elim, fun i y v ey ev => ?_, fun i j a hi => ?_, fun _ z => z.elim, fun p hp => ?_⟩, ?_⟩
    · cases i with
      | zero =>
        cases ey
        cases ev
        exact .lst (hs.elim (fun z => .inl ⟨z, fun z => z.elim id id⟩) .inr) (RlL.ints ns)
      | succ i => cases ey
    · cases i with
      | zero => cases hi
      | succ i => cases hi
    · obtain ⟨q, hq, rfl⟩ := List.mem_map.mp hp
      refine LamX.TabS.nil (ht (He.cT K q.d.at_) (List.mem_map.mpr ⟨q.d.at_, List.mem_map.mpr ⟨q, hq, rfl⟩, rfl⟩))
    · have r := run ns hl hb
      rw [ecall] at r
      rw [r]
      exact fun O' H' v _ _ _ q => rl_true q
  · obtain ⟨T, D⟩ := text_ok (P := l.prog) o X G c hc
    obtain ⟨fd', F', _, _, part⟩ := D f e at_
    have := FunD.same F F'
    subst this
    rw [ef, ← one]
    exact part k _ fun fr Y e1 e2 e3 e4 e5 => fx_all T k fr Y e1 e2 e3 e4 e5
end Ev
end
section
set_option Elab.async false
set_option maxRecDepth 100000
set_option linter.all false
set_option autoImplicit false
/-! EvT: the terms of the defs that several laws have (printed by gen3.py). -/
namespace Ev
open PySem
def bigF : Nat := 2 ^ 20000
def noDf : Df := ⟨0, 0, .skip, 0⟩
/-- 0 -/
def b_is_plain : S := (.seq (.ret (.band (.isi (.v 0) .int) (.one (.nt (.isi (.v 0) .bool))))) .skip)
def d_is_plain : Df := ⟨1, 1, b_is_plain, 0⟩
/-- 1 -/
def b_is_whole : S := (.seq (.ret (.band (.call 0 (.cons (.v 0) .nil)) (.one (.chn .LtE .LtE (.v 1) (.v 0) (.v 2))))) .skip)
def d_is_whole : Df := ⟨3, 3, b_is_whole, 0⟩
def b_are_rows_0 : S := (.seq (.ifs (.bor (.nt (.isi (.v 4) .tuple)) (.one (.cmp .NotEq (.bi .len (.cons (.v 4) .nil)) (.bi .len (.cons (.v 3) .nil))))) (.seq (.ret (.kB false)) .skip) .skip) (.seq (.ifs (.nt (.bi .all (.cons (.lc (.call 1 (.cons (.v 5) (.cons (.ix (.v 6) (.kI 0)) (.cons (.ix (.v 6) (.kI 1)) .nil)))) (.iZip (.v 4) (.v 3)) (.tp (.cons (.nm 5) (.cons (.nm 6) .nil))) .nil [5, 6]) .nil))) (.seq (.ret (.kB false)) .skip) .skip) .skip))
/-- 2 -/
def b_are_rows : S := (.seq (.ifs (.bor (.nt (.isi (.v 0) .tuple)) (.one (.nt (.chn .LtE .LtE (.v 1) (.bi .len (.cons (.v 0) .nil)) (.v 2))))) (.seq (.ret (.kB false)) .skip) .skip) (.seq (.fr (.nm 4) (.iSeq (.v 0)) b_are_rows_0) (.seq (.ret (.kB true)) .skip)))
def d_are_rows : Df := ⟨4, 7, b_are_rows, 0⟩
/-- 3 -/
def b_is_street : S := (.seq (.ifs (.bor (.nt (.isi (.v 0) .tuple)) (.one (.cmp .NotEq (.bi .len (.cons (.v 0) .nil)) (.kI 3)))) (.seq (.ret (.kB false)) .skip) .skip) (.seq (.par [(1, false), (2, false)] (.cons (.tup (.cons (.kI 0) (.cons (.kI 20) .nil))) (.cons (.tup (.cons (.kI 1) (.cons (.gl 0) .nil))) .nil))) (.seq (.ifs (.bor (.nt (.call 2 (.cons (.ix (.v 0) (.kI 0)) (.cons (.kI 0) (.cons (.kI 3) (.cons (.lst (.cons (.v 1) (.cons (.v 2) .nil))) .nil)))))) (.one (.nt (.call 2 (.cons (.ix (.v 0) (.kI 1)) (.cons (.kI 1) (.cons (.kI 3) (.cons (.lst (.cons (.v 1) (.cons (.v 2) (.cons (.v 2) .nil)))) .nil)))))))) (.seq (.ret (.kB false)) .skip) .skip) (.seq (.ret (.call 2 (.cons (.ix (.v 0) (.kI 2)) (.cons (.kI 1) (.cons (.kI 4) (.cons (.lst (.cons (.v 1) (.cons (.tup (.cons (.kI 0) (.cons (.kI 5) .nil))) .nil))) .nil)))))) .skip))))
def d_is_street : Df := ⟨1, 3, b_is_street, 0⟩
/-- 4 -/
def b_things_of : S := (.seq (.ret (.bin .Add (.bi .len (.cons (.ix (.v 0) (.kI 0)) .nil)) (.bi .len (.cons (.ix (.v 0) (.kI 1)) .nil)))) .skip)
def d_things_of : Df := ⟨1, 1, b_things_of, 0⟩
/-- 5 -/
def b_is_single : S := (.seq (.ifs (.bor (.nt (.isi (.v 1) .tuple)) (.bor (.cmp .NotEq (.bi .len (.cons (.v 1) .nil)) (.kI 3)) (.one (.nt (.isi (.ix (.v 1) (.kI 0)) .str))))) (.seq (.ret (.kB false)) .skip) .skip) (.seq (.asg (.tp (.cons (.nm 2) (.cons (.nm 3) (.cons (.nm 4) .nil)))) (.v 1)) (.seq (.ifs (.nt (.call 1 (.cons (.v 3) (.cons (.kI 0) (.cons (.bin .Sub (.bi .len (.cons (.ix (.v 0) (.kI 1)) .nil)) (.kI 1)) .nil))))) (.seq (.ret (.kB false)) .skip) .skip) (.seq (.ifs (.cmp .In (.v 2) (.tup (.cons (.kS "out") (.cons (.kS "in") .nil)))) (.seq (.ret (.call 1 (.cons (.v 4) (.cons (.kI 1) (.cons (.gl 0) .nil))))) .skip) .skip) (.seq (.ifs (.cmp .Eq (.v 2) (.kS "cover")) (.seq (.ret (.call 1 (.cons (.v 4) (.cons (.kI 0) (.cons (.bin .Sub (.bi .len (.cons (.ix (.v 0) (.kI 2)) .nil)) (.kI 1)) .nil))))) .skip) .skip) (.seq (.ret (.band (.cmp .Eq (.v 2) (.kS "touch")) (.band (.call 1 (.cons (.v 4) (.cons (.kI 0) (.cons (.bin .Sub (.call 4 (.cons (.v 0) .nil)) (.kI 1)) .nil)))) (.one (.cmp .NotEq (.v 4) (.bin .Add (.bi .len (.cons (.ix (.v 0) (.kI 0)) .nil)) (.v 3))))))) .skip))))))
def d_is_single : Df := ⟨2, 5, b_is_single, 0⟩
/-- 6 -/
def b_is_step : S := (.seq (.ifs (.call 5 (.cons (.v 0) (.cons (.v 1) .nil))) (.seq (.ret (.kB true)) .skip) .skip) (.seq (.ifs (.bor (.nt (.isi (.v 1) .tuple)) (.bor (.cmp .NotEq (.bi .len (.cons (.v 1) .nil)) (.kI 3)) (.one (.nt (.isi (.ix (.v 1) (.kI 0)) .str))))) (.seq (.ret (.kB false)) .skip) .skip) (.seq (.set 2 (.band (.cmp .In (.ix (.v 1) (.kI 0)) (.tup (.cons (.kS "when") (.cons (.kS "unless") .nil)))) (.one (.call 1 (.cons (.ix (.v 1) (.kI 1)) (.cons (.kI 0) (.cons (.bin .Sub (.bi .len (.cons (.ix (.v 0) (.kI 2)) .nil)) (.kI 1)) .nil))))))) (.seq (.ret (.band (.v 2) (.one (.call 5 (.cons (.v 0) (.cons (.ix (.v 1) (.kI 2)) .nil)))))) .skip))))
def d_is_step : Df := ⟨2, 3, b_is_step, 0⟩
/-- 7 -/
def b_are_steps : S := (.seq (.ret (.band (.isi (.v 1) .tuple) (.one (.bi .all (.cons (.lc (.call 6 (.cons (.v 0) (.cons (.v 2) .nil))) (.iSeq (.v 1)) (.nm 2) .nil [2]) .nil))))) .skip)
def d_are_steps : Df := ⟨2, 3, b_are_steps, 0⟩
def b_divisor_of_0 : S := (.seq (.par [(0, false), (1, false)] (.cons (.v 1) (.cons (.bin .Mod (.v 0) (.v 1)) .nil))) .skip)
/-- 8 -/
def b_divisor_of : S := (.seq (.par [(0, false), (1, false)] (.cons (.bi .abs (.cons (.v 0) .nil)) (.cons (.bi .abs (.cons (.v 1) .nil)) .nil))) (.seq (.wh (.cmp .NotEq (.v 1) (.kI 0)) b_divisor_of_0) (.seq (.ret (.v 0)) .skip)))
def d_divisor_of : Df := ⟨2, 2, b_divisor_of, bigF⟩
/-- 9 -/
def b_lowest : S := (.seq (.set 2 (.call 8 (.cons (.v 0) (.cons (.v 1) .nil)))) (.seq (.ret (.tup (.cons (.bin .FloorDiv (.v 0) (.v 2)) (.cons (.bin .FloorDiv (.v 1) (.v 2)) .nil)))) .skip))
def d_lowest : Df := ⟨2, 3, b_lowest, 0⟩
/-- 10 -/
def b_is_lean : S := (.seq (.ifs (.bor (.nt (.isi (.v 0) .tuple)) (.bor (.cmp .NotEq (.bi .len (.cons (.v 0) .nil)) (.kI 2)) (.bor (.nt (.call 0 (.cons (.ix (.v 0) (.kI 0)) .nil))) (.one (.nt (.call 0 (.cons (.ix (.v 0) (.kI 1)) .nil))))))) (.seq (.ret (.kB false)) .skip) .skip) (.seq (.ret (.band (.cmp .Gt (.ix (.v 0) (.kI 0)) (.kI 0)) (.band (.cmp .Gt (.ix (.v 0) (.kI 1)) (.kI 0)) (.one (.cmp .Eq (.call 8 (.cons (.ix (.v 0) (.kI 0)) (.cons (.ix (.v 0) (.kI 1)) .nil))) (.kI 1)))))) .skip))
def d_is_lean : Df := ⟨1, 1, b_is_lean, 0⟩
/-- 11 -/
def b_need_street : S := (.seq (.ifs (.nt (.call 3 (.cons (.v 0) .nil))) (.seq (.rs "InvalidStreet") .skip) .skip) .skip)
def d_need_street : Df := ⟨1, 1, b_need_street, 0⟩
/-- 12 -/
def b_need_script : S := (.seq (.ifs (.bor (.nt (.call 7 (.cons (.v 0) (.cons (.v 1) .nil)))) (.one (.cmp .Gt (.bi .len (.cons (.v 1) .nil)) (.gl 1)))) (.seq (.rs "InvalidScript") .skip) .skip) .skip)
def d_need_script : Df := ⟨2, 2, b_need_script, 0⟩
/-- 13 -/
def b_need_both : S := (.seq (.ex (.call 11 (.cons (.v 0) .nil))) (.seq (.ex (.call 12 (.cons (.v 0) (.cons (.v 1) .nil)))) .skip))
def d_need_both : Df := ⟨2, 2, b_need_both, 0⟩
/-- 14 -/
def b_need_lean : S := (.seq (.ifs (.nt (.call 10 (.cons (.v 0) .nil))) (.seq (.rs "InvalidLean") .skip) .skip) .skip)
def d_need_lean : Df := ⟨1, 1, b_need_lean, 0⟩
/-- 15 -/
def b_need_number : S := (.seq (.ifs (.nt (.call 1 (.cons (.v 0) (.cons (.v 1) (.cons (.v 2) .nil))))) (.seq (.rs "InvalidNumber") .skip) .skip) .skip)
def d_need_number : Df := ⟨3, 3, b_need_number, 0⟩
/-- 16 -/
def b_is_script : S := (.seq (.ex (.call 11 (.cons (.v 0) .nil))) (.seq (.ret (.band (.call 7 (.cons (.v 0) (.cons (.v 1) .nil))) (.one (.cmp .LtE (.bi .len (.cons (.v 1) .nil)) (.gl 1))))) .skip))
def d_is_script : Df := ⟨2, 2, b_is_script, 0⟩
/-- 17 -/
def b_count_things : S := (.seq (.ex (.call 11 (.cons (.v 0) .nil))) (.seq (.ret (.call 4 (.cons (.v 0) .nil))) .skip))
def d_count_things : Df := ⟨1, 1, b_count_things, 0⟩
/-- 18 -/
def b_plus : S := (.seq (.ret (.tup (.cons (.bin .Add (.ix (.v 0) (.kI 0)) (.ix (.v 1) (.kI 0))) (.cons (.bin .Add (.ix (.v 0) (.kI 1)) (.ix (.v 1) (.kI 1))) .nil)))) .skip)
def d_plus : Df := ⟨2, 2, b_plus, 0⟩
/-- 19 -/
def b_minus : S := (.seq (.ret (.tup (.cons (.bin .Sub (.ix (.v 0) (.kI 0)) (.ix (.v 1) (.kI 0))) (.cons (.bin .Sub (.ix (.v 0) (.kI 1)) (.ix (.v 1) (.kI 1))) .nil)))) .skip)
def d_minus : Df := ⟨2, 2, b_minus, 0⟩
/-- 20 -/
def b_worth : S := (.seq (.ret (.bin .Add (.bin .Mult (.ix (.v 0) (.kI 0)) (.ix (.v 1) (.kI 1))) (.bin .Mult (.ix (.v 0) (.kI 1)) (.ix (.v 1) (.kI 0))))) .skip)
def d_worth : Df := ⟨2, 2, b_worth, 0⟩
/-- 21 -/
def b_is_less : S := (.seq (.ret (.cmp .Lt (.bin .Mult (.ix (.v 0) (.kI 0)) (.ix (.v 1) (.kI 1))) (.bin .Mult (.ix (.v 1) (.kI 0)) (.ix (.v 0) (.kI 1))))) .skip)
def d_is_less : Df := ⟨2, 2, b_is_less, 0⟩
/-- 22 -/
def b_root_in : S := (.seq (.ifs (.cmp .GtE (.bin .Mult (.ix (.v 2) (.kI 0)) (.ix (.v 2) (.kI 1))) (.kI 0)) (.seq (.ret .kN) .skip) .skip) (.seq (.set 3 (.call 9 (.cons (.bi .abs (.cons (.ix (.v 2) (.kI 0)) .nil)) (.cons (.bi .abs (.cons (.ix (.v 2) (.kI 1)) .nil)) .nil)))) (.seq (.ret (.ite (.band (.call 21 (.cons (.v 0) (.cons (.v 3) .nil))) (.one (.call 21 (.cons (.v 3) (.cons (.v 1) .nil))))) (.v 3) .kN)) .skip)))
def d_root_in : Df := ⟨3, 4, b_root_in, 0⟩
/-- 23 -/
def b_inner : S := (.seq (.ret (.ite (.cmp .Eq (.v 0) (.v 1)) (.v 0) (.call 9 (.cons (.bin .Add (.ix (.v 0) (.kI 0)) (.ix (.v 1) (.kI 0))) (.cons (.bin .Add (.ix (.v 0) (.kI 1)) (.ix (.v 1) (.kI 1))) .nil))))) .skip)
def d_inner : Df := ⟨2, 2, b_inner, 0⟩
/-- 24 -/
def b_sign_in : S := (.seq (.set 2 (.call 20 (.cons (.v 1) (.cons (.call 23 (.cons (.ix (.v 0) (.kI 0)) (.cons (.ix (.v 0) (.kI 1)) .nil))) .nil)))) (.seq (.ret (.bin .Sub (.cmp .Gt (.v 2) (.kI 0)) (.cmp .Lt (.v 2) (.kI 0)))) .skip))
def d_sign_in : Df := ⟨2, 3, b_sign_in, 0⟩
def b_first_root_0 : S := (.seq (.set 3 (.call 22 (.cons (.ix (.v 0) (.kI 0)) (.cons (.ix (.v 0) (.kI 1)) (.cons (.v 2) .nil))))) (.seq (.ifs (.cmp .IsNot (.v 3) .kN) (.seq (.ret (.v 3)) .skip) .skip) .skip))
/-- 25 -/
def b_first_root : S := (.seq (.fr (.nm 2) (.iSeq (.v 1)) b_first_root_0) (.seq (.ret .kN) .skip))
def d_first_root : Df := ⟨2, 4, b_first_root, 0⟩
/-- 26 -/
def b_cut_at : S := (.seq (.set 2 (.sl (.v 0) (.kI 2) .nil)) (.seq (.ret (.lst (.cons (.bin .Add (.tup (.cons (.ix (.v 0) (.kI 0)) (.cons (.v 1) .nil))) (.v 2)) (.cons (.bin .Add (.tup (.cons (.v 1) (.cons (.v 1) .nil))) (.v 2)) (.cons (.bin .Add (.tup (.cons (.v 1) (.cons (.ix (.v 0) (.kI 1)) .nil))) (.v 2)) .nil))))) .skip))
def d_cut_at : Df := ⟨2, 3, b_cut_at, 0⟩
def b_refined_0 : S := (.seq (.set 3 (.bin .Add (.v 3) (.call 27 (.cons (.v 4) (.cons (.v 1) .nil))))) .skip)
/-- 27 -/
def b_refined : S := (.seq (.set 2 (.call 25 (.cons (.v 0) (.cons (.v 1) .nil)))) (.seq (.ifs (.cmp .Is (.v 2) .kN) (.seq (.ret (.lst (.cons (.v 0) .nil))) .skip) .skip) (.seq (.set 3 (.lst .nil)) (.seq (.fr (.nm 4) (.iSeq (.call 26 (.cons (.v 0) (.cons (.v 2) .nil)))) b_refined_0) (.seq (.ret (.v 3)) .skip)))))
def d_refined : Df := ⟨2, 5, b_refined, 0⟩
/-- 28 -/
def b_ends_of : S := (.seq (.asg (.tp (.cons (.nm 5) (.cons (.nm 6) (.cons (.nm 7) .nil)))) (.v 0)) (.seq (.ifs (.cmp .Lt (.v 2) (.bi .len (.cons (.v 5) .nil))) (.seq (.asg (.tp (.cons (.nm 8) (.cons (.nm 9) .nil))) (.ix (.v 5) (.v 2))) (.seq (.ret (.ite (.cmp .GtE (.v 3) (.v 9)) .kN (.tup (.cons (.tup (.cons (.v 8) (.cons (.kI 0) .nil))) (.cons (.tup (.cons (.v 8) (.cons (.bin .Sub (.v 9) (.v 3)) .nil))) .nil))))) .skip)) .skip) (.seq (.asg (.tp (.cons (.nm 8) (.cons (.nm 9) (.cons (.nm 10) .nil)))) (.ix (.v 6) (.bin .Sub (.v 2) (.bi .len (.cons (.v 5) .nil))))) (.seq (.ifs (.cmp .GtE (.v 3) (.v 9)) (.seq (.ret .kN) .skip) .skip) (.seq (.set 4 (.tup (.cons (.v 8) (.cons (.bin .Sub (.v 9) (.v 3)) .nil)))) (.seq (.ret (.tup (.cons (.v 4) (.cons (.call 18 (.cons (.v 4) (.cons (.ix (.v 1) (.bin .Sub (.v 2) (.bi .len (.cons (.v 5) .nil)))) .nil))) .nil)))) .skip))))))
def d_ends_of : Df := ⟨4, 11, b_ends_of, 0⟩
/-- 29 -/
def b_shades_at : S := (.seq (.set 3 (.bin .Add (.bi .len (.cons (.ix (.v 0) (.kI 0)) .nil)) (.bi .len (.cons (.ix (.v 0) (.kI 1)) .nil)))) (.seq (.set 4 (.lc (.call 28 (.cons (.v 0) (.cons (.v 1) (.cons (.v 5) (.cons (.ix (.ix (.ix (.v 0) (.kI 2)) (.v 2)) (.kI 1)) .nil))))) (.iRng .nil (.v 3)) (.nm 5) .nil [5])) (.seq (.ret (.lc (.v 6) (.iSeq (.v 4)) (.nm 6) (.cmp .IsNot (.v 6) .kN) [6])) .skip)))
def d_shades_at : Df := ⟨3, 7, b_shades_at, 0⟩
def b_seat_sums_0 : S := (.seq (.set 4 (.bin .Add (.v 4) (.lst (.cons (.call 19 (.cons (.v 3) (.cons (.v 5) .nil))) (.cons (.call 19 (.cons (.v 6) (.cons (.v 3) .nil))) .nil))))) .skip)
/-- 30 -/
def b_seat_sums : S := (.seq (.set 3 (.tup (.cons (.ix (.ix (.ix (.v 0) (.kI 2)) (.v 2)) (.kI 0)) (.cons (.kI 0) .nil)))) (.seq (.set 4 (.lst .nil)) (.seq (.fr (.tp (.cons (.nm 5) (.cons (.nm 6) .nil))) (.iSeq (.call 29 (.cons (.v 0) (.cons (.v 1) (.cons (.v 2) .nil))))) b_seat_sums_0) (.seq (.ret (.v 4)) .skip))))
def d_seat_sums : Df := ⟨3, 7, b_seat_sums, 0⟩
def b_is_shaded_0 : S := (.seq (.ifs (.band (.cmp .GtE (.call 24 (.cons (.v 1) (.cons (.call 19 (.cons (.v 3) (.cons (.v 4) .nil))) .nil))) (.kI 0)) (.one (.cmp .GtE (.call 24 (.cons (.v 1) (.cons (.call 19 (.cons (.v 5) (.cons (.v 3) .nil))) .nil))) (.kI 0)))) (.seq (.ret (.kB true)) .skip) .skip) .skip)
/-- 31 -/
def b_is_shaded : S := (.seq (.set 3 (.tup (.cons (.ix (.ix (.ix (.v 0) (.kI 2)) (.v 2)) (.kI 0)) (.cons (.kI 0) .nil)))) (.seq (.fr (.tp (.cons (.nm 4) (.cons (.nm 5) .nil))) (.iSeq (.call 29 (.cons (.v 0) (.cons (.ix (.v 1) (.kI 2)) (.cons (.v 2) .nil))))) b_is_shaded_0) (.seq (.ret (.kB false)) .skip)))
def d_is_shaded : Df := ⟨3, 6, b_is_shaded, 0⟩
/-- 32 -/
def b_put : S := (.seq (.ret (.bin .Add (.bin .Add (.sl (.v 0) .nil (.v 1)) (.tup (.cons (.v 2) .nil))) (.sl (.v 0) (.bin .Add (.v 1) (.kI 1)) .nil))) .skip)
def d_put : Df := ⟨3, 3, b_put, 0⟩
def b_let_out_0 : S := (.seq (.ifs (.cmp .GtE (.call 24 (.cons (.v 6) (.cons (.call 19 (.cons (.tup (.cons (.v 3) (.cons (.kI 0) .nil))) (.cons (.v 2) .nil))) .nil))) (.kI 0)) (.seq (.app 5 (.bin .Add (.sl (.v 6) .nil (.kI 2)) (.tup (.cons (.call 32 (.cons (.v 9) (.cons (.v 1) (.cons (.v 2) .nil)))) (.cons .kN .nil))))) .skip) (.seq (.app 5 (.bin .Add (.sl (.v 6) .nil (.kI 2)) (.tup (.cons (.v 9) (.cons (.v 4) .nil))))) .skip)) .skip)
/-- 33 -/
def b_let_out : S := (.seq (.asg (.tp (.cons (.nm 7) (.cons (.nm 8) (.cons (.nm 9) (.cons (.nm 10) .nil))))) (.v 0)) (.seq (.setO 5 (.lst .nil)) (.seq (.fr (.nm 6) (.iSeq (.call 27 (.cons (.v 0) (.cons (.lst (.cons (.call 19 (.cons (.tup (.cons (.v 3) (.cons (.kI 0) .nil))) (.cons (.v 2) .nil))) .nil)) .nil)))) b_let_out_0) (.seq (.ret (.v 5)) .skip))))
def d_let_out : Df := ⟨5, 11, b_let_out, 0⟩
def b_moved_0 : S := (.seq (.set 8 (.v 5)) (.seq (.ifs (.cmp .Lt (.call 24 (.cons (.v 7) (.cons (.v 5) .nil))) (.kI 0)) (.seq (.set 8 (.gl 4)) .skip) (.seq (.ifs (.cmp .Lt (.call 24 (.cons (.v 7) (.cons (.call 19 (.cons (.tup (.cons (.v 3) (.cons (.kI 0) .nil))) (.cons (.v 5) .nil))) .nil))) (.kI 0)) (.seq (.set 8 (.tup (.cons (.v 3) (.cons (.kI 0) .nil)))) .skip) .skip) .skip)) (.seq (.app 6 (.bin .Add (.sl (.v 7) .nil (.kI 2)) (.tup (.cons (.call 32 (.cons (.v 4) (.cons (.v 1) (.cons (.v 8) .nil)))) (.cons .kN .nil))))) .skip)))
/-- 34 -/
def b_moved : S := (.seq (.set 4 (.ix (.v 0) (.kI 2))) (.seq (.set 5 (.call 18 (.cons (.ix (.v 4) (.v 1)) (.cons (.tup (.cons (.v 2) (.cons (.kI 0) .nil))) .nil)))) (.seq (.setO 6 (.lst .nil)) (.seq (.fr (.nm 7) (.iSeq (.call 27 (.cons (.v 0) (.cons (.lst (.cons (.v 5) (.cons (.call 19 (.cons (.tup (.cons (.v 3) (.cons (.kI 0) .nil))) (.cons (.v 5) .nil))) .nil))) .nil)))) b_moved_0) (.seq (.ret (.v 6)) .skip)))))
def d_moved : Df := ⟨4, 9, b_moved, 0⟩
def b_covered_0 : S := (.seq (.ifs (.call 31 (.cons (.v 0) (.cons (.v 8) (.cons (.v 3) .nil)))) (.seq (.app 5 (.v 8)) .skip) (.seq (.ifs (.bor (.cmp .GtE (.v 13) (.v 10)) (.one (.cmp .Lt (.call 24 (.cons (.v 8) (.cons (.v 7) .nil))) (.kI 0)))) (.seq (.app 5 (.bin .Add (.sl (.v 8) .nil (.kI 3)) (.tup (.cons (.v 4) .nil)))) .skip) (.seq (.setO 5 (.bin .Add (.v 5) (.call 33 (.cons (.v 8) (.cons (.v 2) (.cons (.v 7) (.cons (.v 11) (.cons (.v 4) .nil)))))))) .skip)) .skip)) .skip)
/-- 35 -/
def b_covered : S := (.seq (.setO 5 (.lst .nil)) (.seq (.asg (.tp (.cons (.nm 9) (.cons (.nm 10) (.cons (.nm 11) .nil)))) (.ix (.ix (.v 0) (.kI 1)) (.v 2))) (.seq (.asg (.tp (.cons (.nm 12) (.cons (.nm 13) .nil))) (.ix (.ix (.v 0) (.kI 2)) (.v 3))) (.seq (.set 6 (.tup (.cons (.v 9) (.cons (.bin .Sub (.v 10) (.v 13)) .nil)))) (.seq (.set 7 (.call 19 (.cons (.tup (.cons (.v 12) (.cons (.kI 0) .nil))) (.cons (.v 6) .nil)))) (.seq (.fr (.nm 8) (.iSeq (.call 27 (.cons (.v 1) (.cons (.bin .Add (.call 30 (.cons (.v 0) (.cons (.ix (.v 1) (.kI 2)) (.cons (.v 3) .nil)))) (.lst (.cons (.v 7) .nil))) .nil)))) b_covered_0) (.seq (.ret (.v 5)) .skip)))))))
def d_covered : Df := ⟨5, 14, b_covered, 0⟩
def b_touched_0 : S := (.seq (.ifs (.cmp .Lt (.call 24 (.cons (.v 6) (.cons (.call 19 (.cons (.v 10) (.cons (.v 7) .nil))) .nil))) (.kI 0)) (.seq (.app 5 (.bin .Add (.sl (.v 6) .nil (.kI 3)) (.tup (.cons (.v 4) .nil)))) .skip) (.seq (.ifs (.cmp .GtE (.call 24 (.cons (.v 6) (.cons (.call 19 (.cons (.v 8) (.cons (.v 9) .nil))) .nil))) (.kI 0)) (.seq (.app 5 (.v 6)) .skip) (.seq (.setO 5 (.bin .Add (.v 5) (.call 33 (.cons (.v 6) (.cons (.v 2) (.cons (.call 19 (.cons (.v 9) (.cons (.v 7) .nil))) (.cons (.ix (.ix (.ix (.v 0) (.kI 1)) (.v 2)) (.kI 2)) (.cons (.v 4) .nil)))))))) .skip)) .skip)) .skip)
/-- 36 -/
def b_touched : S := (.seq (.setO 5 (.lst .nil)) (.seq (.asg (.tp (.cons (.nm 7) (.cons (.nm 8) .nil))) (.call 28 (.cons (.v 0) (.cons (.ix (.v 1) (.kI 2)) (.cons (.bin .Add (.bi .len (.cons (.ix (.v 0) (.kI 0)) .nil)) (.v 2)) (.cons (.kI 0) .nil)))))) (.seq (.asg (.tp (.cons (.nm 9) (.cons (.nm 10) .nil))) (.call 28 (.cons (.v 0) (.cons (.ix (.v 1) (.kI 2)) (.cons (.v 3) (.cons (.kI 0) .nil)))))) (.seq (.fr (.nm 6) (.iSeq (.call 27 (.cons (.v 1) (.cons (.lst (.cons (.call 19 (.cons (.v 8) (.cons (.v 9) .nil))) (.cons (.call 19 (.cons (.v 10) (.cons (.v 7) .nil))) .nil))) .nil)))) b_touched_0) (.seq (.ret (.v 5)) .skip)))))
def d_touched : Df := ⟨5, 11, b_touched, 0⟩
def b_stepped_0 : S := (.seq (.set 9 (.cmp .Eq (.call 31 (.cons (.v 0) (.cons (.v 8) (.cons (.v 5) .nil)))) (.cmp .Eq (.v 4) (.kS "when")))) (.seq (.set 7 (.bin .Add (.v 7) (.ite (.v 9) (.call 37 (.cons (.v 0) (.cons (.v 8) (.cons (.v 6) (.cons (.v 3) .nil))))) (.lst (.cons (.v 8) .nil))))) .skip))
/-- 37 -/
def b_stepped : S := (.seq (.asg (.tp (.cons (.nm 4) (.cons (.nm 5) (.cons (.nm 6) .nil)))) (.v 2)) (.seq (.ifs (.cmp .In (.v 4) (.tup (.cons (.kS "when") (.cons (.kS "unless") .nil)))) (.seq (.set 7 (.lst .nil)) (.seq (.fr (.nm 8) (.iSeq (.call 27 (.cons (.v 1) (.cons (.call 30 (.cons (.v 0) (.cons (.ix (.v 1) (.kI 2)) (.cons (.v 5) .nil)))) .nil)))) b_stepped_0) (.seq (.ret (.v 7)) .skip))) .skip) (.seq (.ifs (.cmp .Eq (.v 4) (.kS "cover")) (.seq (.ret (.call 35 (.cons (.v 0) (.cons (.v 1) (.cons (.v 5) (.cons (.v 6) (.cons (.v 3) .nil))))))) .skip) .skip) (.seq (.ifs (.cmp .Eq (.v 4) (.kS "touch")) (.seq (.ret (.call 36 (.cons (.v 0) (.cons (.v 1) (.cons (.v 5) (.cons (.v 6) (.cons (.v 3) .nil))))))) .skip) .skip) (.seq (.ret (.call 34 (.cons (.v 1) (.cons (.v 5) (.cons (.ite (.cmp .Eq (.v 4) (.kS "out")) (.v 6) (.neg (.v 6))) (.cons (.ix (.ix (.ix (.v 0) (.kI 1)) (.v 5)) (.kI 2)) .nil)))))) .skip)))))
def d_stepped : Df := ⟨4, 10, b_stepped, 0⟩
/-- 38 -/
def b_begun : S := (.seq (.ret (.tup (.cons (.v 1) (.cons (.v 2) (.cons (.bin .Mult (.tup (.cons (.gl 4) .nil)) (.bi .len (.cons (.ix (.v 0) (.kI 1)) .nil))) (.cons .kN .nil)))))) .skip)
def d_begun : Df := ⟨3, 3, b_begun, 0⟩
def b_gone_0 : S := (.seq (.set 5 (.bin .Add (.v 5) (.ite (.cmp .Is (.ix (.v 6) (.kI 3)) .kN) (.call 37 (.cons (.v 0) (.cons (.v 6) (.cons (.v 4) (.cons (.v 3) .nil))))) (.lst (.cons (.v 6) .nil))))) .skip)
def b_gone_1 : S := (.seq (.set 5 (.lst .nil)) (.seq (.fr (.nm 6) (.iSeq (.v 1)) b_gone_0) (.seq (.set 1 (.v 5)) .skip)))
/-- 39 -/
def b_gone : S := (.seq (.fr (.tp (.cons (.nm 3) (.cons (.nm 4) .nil))) (.iEnum (.v 2)) b_gone_1) (.seq (.ret (.v 1)) .skip))
def d_gone : Df := ⟨3, 7, b_gone, 0⟩
/-- 40 -/
def b_course : S := (.seq (.ret (.call 39 (.cons (.v 0) (.cons (.lst (.cons (.call 38 (.cons (.v 0) (.cons (.gl 2) (.cons (.gl 3) .nil)))) .nil)) (.cons (.v 1) .nil))))) .skip)
def d_course : Df := ⟨2, 2, b_course, 0⟩
/-- 41 -/
def b_at_lean : S := (.seq (.ret (.ix (.call 39 (.cons (.v 0) (.cons (.lst (.cons (.call 38 (.cons (.v 0) (.cons (.v 2) (.cons (.v 2) .nil)))) .nil)) (.cons (.v 1) .nil)))) (.kI 0))) .skip)
def d_at_lean : Df := ⟨3, 3, b_at_lean, 0⟩
/-- 42 -/
def b_shaded_in : S := (.seq (.ret (.bi .tuple (.cons (.lc (.v 2) (.iRng .nil (.bi .len (.cons (.ix (.v 0) (.kI 2)) .nil))) (.nm 2) (.call 31 (.cons (.v 0) (.cons (.v 1) (.cons (.v 2) .nil)))) [2]) .nil))) .skip)
def d_shaded_in : Df := ⟨2, 3, b_shaded_in, 0⟩
def b_by_seats_0 : S := (.seq (.set 5 (.bin .Add (.v 5) (.call 30 (.cons (.v 0) (.cons (.ix (.v 4) (.kI 2)) (.cons (.v 6) .nil)))))) .skip)
def b_by_seats_1 : S := (.seq (.set 5 (.lst .nil)) (.seq (.fr (.nm 6) (.iSeq (.v 2)) b_by_seats_0) (.seq (.set 3 (.bin .Add (.v 3) (.call 27 (.cons (.v 4) (.cons (.v 5) .nil))))) .skip)))
/-- 43 -/
def b_by_seats : S := (.seq (.set 3 (.lst .nil)) (.seq (.fr (.nm 4) (.iSeq (.v 1)) b_by_seats_1) (.seq (.ret (.v 3)) .skip)))
def d_by_seats : Df := ⟨3, 7, b_by_seats, 0⟩
/-- 44 -/
def b_range_of : S := (.seq (.asg (.tp (.cons (.nm 1) (.cons (.nm 2) .nil))) (.sl (.v 0) .nil (.kI 2))) (.seq (.ret (.tup (.cons (.v 1) (.cons (.cmp .Eq (.v 1) (.v 2)) (.cons (.v 2) (.cons (.cmp .Eq (.v 1) (.v 2)) .nil)))))) .skip))
def d_range_of : Df := ⟨1, 3, b_range_of, 0⟩
def b_joined_0 : S := (.seq (.set 4 (.call 44 (.cons (.v 2) .nil))) (.seq (.ifs (.band (.nilB 1 .NotEq) (.one (.cmp .Eq (.ix (.ixB 1 (-1)) (.kI 1)) (.v 3)))) (.seq (.set 5 (.ix (.ixB 1 (-1)) (.kI 0))) (.seq (.setIx 1 (-1) (.tup (.cons (.bin .Add (.sl (.v 5) .nil (.kI 2)) (.sl (.v 4) (.kI 2) .nil)) (.cons (.v 3) .nil)))) .skip)) (.seq (.app 1 (.tup (.cons (.v 4) (.cons (.v 3) .nil)))) .skip)) .skip))
/-- 45 -/
def b_joined : S := (.seq (.setO 1 (.lst .nil)) (.seq (.fr (.tp (.cons (.nm 2) (.cons (.nm 3) .nil))) (.iSeq (.v 0)) b_joined_0) (.seq (.ret (.v 1)) .skip)))
def d_joined : Df := ⟨1, 6, b_joined, 0⟩
/-- 46 -/
def b_ranges_true : S := (.seq (.ret (.lc (.v 1) (.iSeq (.call 45 (.cons (.v 0) .nil))) (.tp (.cons (.nm 1) (.cons (.nm 2) .nil))) (.v 2) [1, 2])) .skip)
def d_ranges_true : Df := ⟨1, 3, b_ranges_true, 0⟩
def b_simplest_between_0 : S := (.seq (.set 4 (.tup (.cons (.bin .Add (.ix (.v 2) (.kI 0)) (.ix (.v 3) (.kI 0))) (.cons (.bin .Add (.ix (.v 2) (.kI 1)) (.ix (.v 3) (.kI 1))) .nil)))) (.seq (.ifs (.nt (.call 21 (.cons (.v 0) (.cons (.v 4) .nil)))) (.seq (.set 2 (.v 4)) .skip) (.seq (.ifs (.nt (.call 21 (.cons (.v 4) (.cons (.v 1) .nil)))) (.seq (.set 3 (.v 4)) .skip) (.seq (.ret (.v 4)) .skip)) .skip)) .skip))
/-- 47 -/
def b_simplest_between : S := (.seq (.asg (.tp (.cons (.nm 2) (.cons (.nm 3) .nil))) (.tup (.cons (.tup (.cons (.kI 0) (.cons (.kI 1) .nil))) (.cons (.tup (.cons (.kI 1) (.cons (.kI 0) .nil))) .nil)))) (.seq (.wh (.kB true) b_simplest_between_0) .skip))
def d_simplest_between : Df := ⟨2, 5, b_simplest_between, bigF⟩
def b_simplest_of_0 : S := (.seq (.ifs (.call 21 (.cons (.v 2) (.cons (.v 4) .nil))) (.seq (.app 1 (.call 47 (.cons (.v 2) (.cons (.v 4) .nil)))) .skip) .skip) (.seq (.setO 1 (.bin .Add (.bin .Add (.v 1) (.ite (.v 3) (.lst (.cons (.v 2) .nil)) (.lst .nil))) (.ite (.v 5) (.lst (.cons (.v 4) .nil)) (.lst .nil)))) .skip))
/-- 48 -/
def b_simplest_of : S := (.seq (.setO 1 (.lst .nil)) (.seq (.fr (.tp (.cons (.nm 2) (.cons (.nm 3) (.cons (.nm 4) (.cons (.nm 5) .nil))))) (.iSeq (.v 0)) b_simplest_of_0) (.seq (.ret (.ite (.nilB 1 .NotEq) (.ix (.bi .min (.cons (.lc (.tup (.cons (.bin .Add (.ix (.v 6) (.kI 0)) (.ix (.v 6) (.kI 1))) (.cons (.v 6) .nil))) (.iSeq (.v 1)) (.nm 6) .nil [6]) .nil)) (.kI 1)) .kN)) .skip)))
def d_simplest_of : Df := ⟨1, 7, b_simplest_of, 0⟩
/-- 49 -/
def b_need_all : S := (.seq (.ex (.call 13 (.cons (.v 0) (.cons (.v 1) .nil)))) (.seq (.ex (.call 14 (.cons (.v 2) .nil))) .skip))
def d_need_all : Df := ⟨3, 3, b_need_all, 0⟩
/-- 50 -/
def b_told : S := (.seq (.ret (.call 9 (.cons (.call 20 (.cons (.v 0) (.cons (.v 1) .nil))) (.cons (.ix (.v 1) (.kI 1)) .nil)))) .skip)
def d_told : Df := ⟨2, 2, b_told, 0⟩
/-- 51 -/
def b_lengths : S := (.seq (.ex (.call 49 (.cons (.v 0) (.cons (.v 1) (.cons (.v 2) .nil))))) (.seq (.ret (.lc (.call 50 (.cons (.v 3) (.cons (.v 2) .nil))) (.iSeq (.ix (.call 41 (.cons (.v 0) (.cons (.v 1) (.cons (.v 2) .nil)))) (.kI 2))) (.nm 3) .nil [3])) .skip))
def d_lengths : Df := ⟨3, 4, b_lengths, 0⟩
/-- 52 -/
def b_stuck_at : S := (.seq (.ex (.call 49 (.cons (.v 0) (.cons (.v 1) (.cons (.v 2) .nil))))) (.seq (.ret (.ix (.call 41 (.cons (.v 0) (.cons (.v 1) (.cons (.v 2) .nil)))) (.kI 3))) .skip))
def d_stuck_at : Df := ⟨3, 3, b_stuck_at, 0⟩
/-- 53 -/
def b_shaded : S := (.seq (.ex (.call 49 (.cons (.v 0) (.cons (.v 1) (.cons (.v 2) .nil))))) (.seq (.ret (.bi .list (.cons (.call 42 (.cons (.v 0) (.cons (.call 41 (.cons (.v 0) (.cons (.v 1) (.cons (.v 2) .nil)))) .nil))) .nil))) .skip))
def d_shaded : Df := ⟨3, 3, b_shaded, 0⟩
/-- 54 -/
def b_shadow : S := (.seq (.ex (.call 49 (.cons (.v 0) (.cons (.v 1) (.cons (.v 2) .nil))))) (.seq (.ex (.call 15 (.cons (.v 3) (.cons (.kI 0) (.cons (.bin .Sub (.call 4 (.cons (.v 0) .nil)) (.kI 1)) .nil))))) (.seq (.ret (.call 55 (.cons (.v 0) (.cons (.call 41 (.cons (.v 0) (.cons (.v 1) (.cons (.v 2) .nil)))) (.cons (.v 3) .nil))))) .skip)))
def d_shadow : Df := ⟨4, 4, b_shadow, 0⟩
/-- 55 -/
def b_told_ends : S := (.seq (.asg (.tp (.cons (.nm 3) (.cons (.nm 4) .nil))) (.call 28 (.cons (.v 0) (.cons (.ix (.v 1) (.kI 2)) (.cons (.v 2) (.cons (.kI 0) .nil)))))) (.seq (.ret (.tup (.cons (.call 50 (.cons (.v 3) (.cons (.ix (.v 1) (.kI 0)) .nil))) (.cons (.call 50 (.cons (.v 4) (.cons (.ix (.v 1) (.kI 0)) .nil))) .nil)))) .skip))
def d_told_ends : Df := ⟨3, 5, b_told_ends, 0⟩
def b_length_forms_0 : S := (.seq (.set 6 (.ix (.ix (.v 3) (.kI 2)) (.v 2))) (.seq (.ifs (.cmp .Eq (.ix (.v 3) (.kI 0)) (.ix (.v 3) (.kI 1))) (.seq (.ifs (.band (.cmp .IsNot (.v 5) .kN) (.one (.cmp .NotEq (.call 20 (.cons (.v 5) (.cons (.ix (.v 3) (.kI 0)) .nil))) (.call 20 (.cons (.v 6) (.cons (.ix (.v 3) (.kI 0)) .nil)))))) (.seq (.set 5 .kN) .skip) .skip) .skip) (.seq (.ifs (.cmp .Eq (.v 6) (.v 5)) (.seq (.setIx 4 (-1) (.tup (.cons (.bin .Add (.sl (.ix (.ixB 4 (-1)) (.kI 0)) .nil (.kI 2)) (.sl (.call 44 (.cons (.v 3) .nil)) (.kI 2) .nil)) (.cons (.v 6) .nil)))) .skip) (.seq (.app 4 (.tup (.cons (.call 44 (.cons (.v 3) .nil)) (.cons (.v 6) .nil)))) (.seq (.set 5 (.v 6)) .skip))) .skip)) .skip))
/-- 56 -/
def b_length_forms : S := (.seq (.ex (.call 13 (.cons (.v 0) (.cons (.v 1) .nil)))) (.seq (.ex (.call 15 (.cons (.v 2) (.cons (.kI 0) (.cons (.bin .Sub (.bi .len (.cons (.ix (.v 0) (.kI 1)) .nil)) (.kI 1)) .nil))))) (.seq (.asg (.tp (.cons (.nm 4) (.cons (.nm 5) .nil))) (.tup (.cons (.lst .nil) (.cons .kN .nil)))) (.seq (.fr (.nm 3) (.iSeq (.call 40 (.cons (.v 0) (.cons (.v 1) .nil)))) b_length_forms_0) (.seq (.ret (.v 4)) .skip)))))
def d_length_forms : Df := ⟨3, 7, b_length_forms, 0⟩
/-- 57 -/
def b_stuck_ranges : S := (.seq (.ex (.call 13 (.cons (.v 0) (.cons (.v 1) .nil)))) (.seq (.ret (.call 45 (.cons (.lc (.tup (.cons (.v 2) (.cons (.ix (.v 2) (.kI 3)) .nil))) (.iSeq (.call 40 (.cons (.v 0) (.cons (.v 1) .nil)))) (.nm 2) .nil [2]) .nil))) .skip))
def d_stuck_ranges : Df := ⟨2, 3, b_stuck_ranges, 0⟩
/-- 58 -/
def b_shade_ranges : S := (.seq (.ex (.call 13 (.cons (.v 0) (.cons (.v 1) .nil)))) (.seq (.ex (.call 15 (.cons (.v 2) (.cons (.kI 0) (.cons (.bin .Sub (.bi .len (.cons (.ix (.v 0) (.kI 2)) .nil)) (.kI 1)) .nil))))) (.seq (.set 3 (.call 43 (.cons (.v 0) (.cons (.call 40 (.cons (.v 0) (.cons (.v 1) .nil))) (.cons (.lst (.cons (.v 2) .nil)) .nil))))) (.seq (.ret (.call 46 (.cons (.lc (.tup (.cons (.v 4) (.cons (.call 31 (.cons (.v 0) (.cons (.v 4) (.cons (.v 2) .nil)))) .nil))) (.iSeq (.v 3)) (.nm 4) .nil [4]) .nil))) .skip))))
def d_shade_ranges : Df := ⟨3, 5, b_shade_ranges, 0⟩
/-- 59 -/
def b_coming : S := (.seq (.ex (.call 13 (.cons (.v 0) (.cons (.v 1) .nil)))) (.seq (.set 2 (.call 43 (.cons (.v 0) (.cons (.call 40 (.cons (.v 0) (.cons (.v 1) .nil))) (.cons (.lRng (.bi .len (.cons (.ix (.v 0) (.kI 2)) .nil))) .nil))))) (.seq (.ret (.call 45 (.cons (.lc (.tup (.cons (.v 3) (.cons (.call 42 (.cons (.v 0) (.cons (.v 3) .nil))) .nil))) (.iSeq (.v 2)) (.nm 3) .nil [3]) .nil))) .skip)))
def d_coming : Df := ⟨2, 4, b_coming, 0⟩
def b_written_0 : S := (.seq (.set 1 (.bin .Add (.v 1) (.lc (.mt .join (.kS " ") (.cons (.bin .Add (.lst (.cons (.v 2) .nil)) (.lc (.bi .str (.cons (.v 5) .nil)) (.iSeq (.v 4)) (.nm 5) .nil [5])) .nil)) (.iSeq (.v 3)) (.nm 4) .nil [4]))) .skip)
/-- 60 -/
def b_written : S := (.seq (.set 1 (.lst .nil)) (.seq (.fr (.tp (.cons (.nm 2) (.cons (.nm 3) .nil))) (.iZip (.gl 5) (.v 0)) b_written_0) (.seq (.ret (.mt .join (.kS "\n") (.cons (.v 1) .nil))) .skip)))
def d_written : Df := ⟨1, 6, b_written, 0⟩
/-- 61 -/
def b_street_text : S := (.seq (.ex (.call 11 (.cons (.v 0) .nil))) (.seq (.ret (.call 60 (.cons (.v 0) .nil))) .skip))
def d_street_text : Df := ⟨1, 1, b_street_text, 0⟩
/-- 62 -/
def b_number_in : S := (.seq (.ifs (.bor (.cmp .NotIn (.bi .len (.cons (.v 0) .nil)) (.tup (.cons (.kI 1) (.cons (.kI 2) .nil)))) (.one (.nt (.bi .all (.cons (.lc (.cmp .In (.v 1) (.kS "0123456789")) (.iStr (.v 0)) (.nm 1) .nil [1]) .nil))))) (.seq (.ret .kN) .skip) .skip) (.seq (.ret (.bi .int (.cons (.v 0) .nil))) .skip))
def d_number_in : Df := ⟨1, 2, b_number_in, 0⟩
def b_read_street_0 : S := (.seq (.app 2 (.bi .tuple (.cons (.lc (.bi .tuple (.cons (.lc (.call 62 (.cons (.v 6) .nil)) (.iSeq (.sl (.v 5) (.kI 1) .nil)) (.nm 6) .nil [6]) .nil)) (.iSeq (.v 1)) (.nm 5) (.cmp .Eq (.ix (.v 5) (.kI 0)) (.v 3)) [5]) .nil))) .skip)
/-- 63 -/
def b_read_street : S := (.seq (.ifs (.nt (.isi (.v 0) .str)) (.seq (.rs "InvalidText") .skip) .skip) (.seq (.set 1 (.lc (.mt .split (.v 4) (.cons (.kS " ") .nil)) (.iSeq (.mt .split (.v 0) (.cons (.kS "\n") .nil))) (.nm 4) .nil [4])) (.seq (.setO 2 (.lst .nil)) (.seq (.fr (.nm 3) (.iSeq (.gl 5)) b_read_street_0) (.seq (.ifs (.bor (.nt (.call 3 (.cons (.bi .tuple (.cons (.v 2) .nil)) .nil))) (.one (.cmp .NotEq (.call 60 (.cons (.v 2) .nil)) (.v 0)))) (.seq (.rs "InvalidText") .skip) .skip) (.seq (.ret (.bi .tuple (.cons (.v 2) .nil))) .skip))))))
def d_read_street : Df := ⟨1, 7, b_read_street, 0⟩
/-- 64 -/
def b_cuts_of : S := (.seq (.ret (.lc (.ix (.v 1) (.kI 0)) (.iSeq (.v 0)) (.nm 1) (.cmp .Eq (.ix (.v 1) (.kI 0)) (.ix (.v 1) (.kI 1))) [1])) .skip)
def d_cuts_of : Df := ⟨1, 2, b_cuts_of, 0⟩
def b_lengths_in_0 : S := (.seq (.ifs (.band (.cmp .Eq (.v 1) (.v 2)) (.one (.bor (.chn .Eq .Eq (.ix (.v 3) (.kI 0)) (.v 1) (.ix (.v 3) (.kI 1))) (.one (.band (.call 21 (.cons (.ix (.v 3) (.kI 0)) (.cons (.v 1) .nil))) (.one (.call 21 (.cons (.v 1) (.cons (.ix (.v 3) (.kI 1)) .nil))))))))) (.seq (.ret (.ix (.v 3) (.kI 2))) .skip) .skip) (.seq (.ifs (.band (.cmp .NotEq (.v 1) (.v 2)) (.band (.cmp .NotEq (.ix (.v 3) (.kI 0)) (.ix (.v 3) (.kI 1))) (.band (.nt (.call 21 (.cons (.v 1) (.cons (.ix (.v 3) (.kI 0)) .nil)))) (.one (.nt (.call 21 (.cons (.ix (.v 3) (.kI 1)) (.cons (.v 2) .nil)))))))) (.seq (.ret (.ix (.v 3) (.kI 2))) .skip) .skip) .skip))
/-- 65 -/
def b_lengths_in : S := (.seq (.fr (.nm 3) (.iSeq (.v 0)) b_lengths_in_0) (.seq (.ret .kN) .skip))
def d_lengths_in : Df := ⟨3, 4, b_lengths_in, 0⟩
def b_unlike_ranges_0 : S := (.seq (.app 4 (.tup (.cons (.v 11) (.cons (.bi .any (.cons (.lc (.cmp .NotEq (.call 24 (.cons (.v 11) (.cons (.v 16) .nil))) (.kI 0)) (.iSeq (.v 10)) (.nm 16) .nil [16]) .nil)) .nil)))) .skip)
def b_unlike_ranges_1 : S := (.seq (.par [(12, false), (13, false)] (.cons (.call 65 (.cons (.v 5) (.cons (.v 8) (.cons (.v 9) .nil)))) (.cons (.call 65 (.cons (.v 6) (.cons (.v 8) (.cons (.v 9) .nil)))) .nil))) (.seq (.set 10 (.lc (.call 19 (.cons (.v 14) (.cons (.v 15) .nil))) (.iZip (.v 12) (.v 13)) (.tp (.cons (.nm 14) (.cons (.nm 15) .nil))) .nil [14, 15])) (.seq (.fr (.nm 11) (.iSeq (.call 27 (.cons (.tup (.cons (.v 8) (.cons (.v 9) .nil))) (.cons (.v 10) .nil)))) b_unlike_ranges_0) .skip)))
def b_unlike_ranges_2 : S := (.seq (.set 7 (.bin .Add (.v 7) (.lst (.cons (.tup (.cons (.v 8) (.cons (.v 3) .nil))) (.cons (.tup (.cons (.v 3) (.cons (.v 3) .nil))) .nil))))) (.seq (.set 8 (.v 3)) .skip))
/-- 67 -/
def b_unlike_ranges : S := (.seq (.par [(5, false), (6, false)] (.cons (.call 40 (.cons (.v 0) (.cons (.v 1) .nil))) (.cons (.call 40 (.cons (.v 0) (.cons (.v 2) .nil))) .nil))) (.seq (.par [(7, false), (8, false)] (.cons (.lst .nil) (.cons (.gl 2) .nil))) (.seq (.fr (.nm 3) (.iSeq (.call 66 (.cons (.bin .Add (.call 64 (.cons (.v 5) .nil)) (.call 64 (.cons (.v 6) .nil))) .nil))) b_unlike_ranges_2) (.seq (.setO 4 (.lst .nil)) (.seq (.fr (.tp (.cons (.nm 8) (.cons (.nm 9) .nil))) (.iSeq (.bin .Add (.v 7) (.lst (.cons (.tup (.cons (.v 8) (.cons (.gl 3) .nil))) .nil)))) b_unlike_ranges_1) (.seq (.ret (.call 46 (.cons (.v 4) .nil))) .skip))))))
def d_unlike_ranges : Df := ⟨3, 17, b_unlike_ranges, 0⟩
/-- 68 -/
def b_need_two : S := (.seq (.ex (.call 13 (.cons (.v 0) (.cons (.v 1) .nil)))) (.seq (.ex (.call 12 (.cons (.v 0) (.cons (.v 2) .nil)))) .skip))
def d_need_two : Df := ⟨3, 3, b_need_two, 0⟩
/-- 69 -/
def b_alike : S := (.seq (.ex (.call 68 (.cons (.v 0) (.cons (.v 1) (.cons (.v 2) .nil))))) (.seq (.ret (.cmp .Eq (.call 67 (.cons (.v 0) (.cons (.v 1) (.cons (.v 2) .nil)))) (.lst .nil))) .skip))
def d_alike : Df := ⟨3, 3, b_alike, 0⟩
/-- 70 -/
def b_parting : S := (.seq (.ex (.call 68 (.cons (.v 0) (.cons (.v 1) (.cons (.v 2) .nil))))) (.seq (.ret (.call 48 (.cons (.call 67 (.cons (.v 0) (.cons (.v 1) (.cons (.v 2) .nil)))) .nil))) .skip))
def d_parting : Df := ⟨3, 3, b_parting, 0⟩
def b_idle_steps_0 : S := (.seq (.ifs (.bi .all (.cons (.lc (.call 71 (.cons (.v 0) (.cons (.v 6) (.cons (.v 5) (.cons (.v 4) .nil))))) (.iSeq (.v 2)) (.nm 6) .nil [6]) .nil)) (.seq (.app 3 (.v 4)) .skip) .skip) (.seq (.set 2 (.call 73 (.cons (.v 0) (.cons (.v 2) (.cons (.v 5) (.cons (.v 4) .nil)))))) .skip))
/-- 72 -/
def b_idle_steps : S := (.seq (.ex (.call 13 (.cons (.v 0) (.cons (.v 1) .nil)))) (.seq (.par [(2, false), (3, true)] (.cons (.lst (.cons (.call 38 (.cons (.v 0) (.cons (.gl 2) (.cons (.gl 3) .nil)))) .nil)) (.cons (.lst .nil) .nil))) (.seq (.fr (.tp (.cons (.nm 4) (.cons (.nm 5) .nil))) (.iEnum (.v 1)) b_idle_steps_0) (.seq (.ret (.v 3)) .skip))))
def d_idle_steps : Df := ⟨2, 7, b_idle_steps, 0⟩
def b_later_pieces_0 : S := (.seq (.set 4 (.bin .Add (.v 4) (.ite (.cmp .Is (.ix (.v 5) (.kI 3)) .kN) (.call 37 (.cons (.v 0) (.cons (.v 5) (.cons (.v 2) (.cons (.v 3) .nil))))) (.lst (.cons (.v 5) .nil))))) .skip)
/-- 73 -/
def b_later_pieces : S := (.seq (.set 4 (.lst .nil)) (.seq (.fr (.nm 5) (.iSeq (.v 1)) b_later_pieces_0) (.seq (.ret (.v 4)) .skip)))
def d_later_pieces : Df := ⟨4, 6, b_later_pieces, 0⟩
/-- 74 -/
def b_are_seats : S := (.seq (.ifs (.bor (.nt (.isi (.v 1) .tuple)) (.one (.nt (.bi .all (.cons (.lc (.call 1 (.cons (.v 4) (.cons (.kI 0) (.cons (.bin .Sub (.bi .len (.cons (.ix (.v 0) (.kI 2)) .nil)) (.kI 1)) .nil)))) (.iSeq (.v 1)) (.nm 4) .nil [4]) .nil))))) (.seq (.ret (.kB false)) .skip) .skip) (.seq (.ret (.bi .all (.cons (.lc (.cmp .Lt (.v 2) (.v 3)) (.iZip (.v 1) (.sl (.v 1) (.kI 1) .nil)) (.tp (.cons (.nm 2) (.cons (.nm 3) .nil))) .nil [2, 3]) .nil))) .skip))
def d_are_seats : Df := ⟨2, 5, b_are_seats, 0⟩
/-- 75 -/
def b_need_seats : S := (.seq (.ifs (.nt (.call 74 (.cons (.v 0) (.cons (.v 1) .nil)))) (.seq (.rs "InvalidNumber") .skip) .skip) .skip)
def d_need_seats : Df := ⟨2, 2, b_need_seats, 0⟩
/-- 77 -/
def b_holds : S := (.seq (.set 6 (.bi .tuple (.cons (.lc (.tup (.cons (.v 8) (.cons (.kI 0) .nil))) (.iSeq (.v 1)) (.nm 8) .nil [8]) .nil))) (.seq (.set 7 (.lst (.cons (.tup (.cons (.v 4) (.cons (.v 4) (.cons (.v 6) .nil)))) .nil))) (.seq (.ifs (.cmp .NotEq (.v 4) (.v 5)) (.seq (.set 7 (.bin .Add (.bin .Add (.v 7) (.call 27 (.cons (.tup (.cons (.v 4) (.cons (.v 5) (.cons (.v 6) .nil)))) (.cons (.call 30 (.cons (.v 0) (.cons (.v 6) (.cons (.v 2) .nil)))) .nil)))) (.lst (.cons (.tup (.cons (.v 5) (.cons (.v 5) (.cons (.v 6) .nil)))) .nil)))) .skip) .skip) (.seq (.ret (.bi .all (.cons (.lc (.cmp .Eq (.call 31 (.cons (.v 0) (.cons (.v 9) (.cons (.v 2) .nil)))) (.v 3)) (.iSeq (.v 7)) (.nm 9) .nil [9]) .nil))) .skip))))
def d_holds : Df := ⟨6, 10, b_holds, 0⟩
/-- 78 -/
def b_is_good : S := (.seq (.set 6 (.bi .all (.cons (.lc (.call 77 (.cons (.v 0) (.cons (.v 1) (.cons (.v 7) (.cons (.kB true) (.cons (.v 4) (.cons (.v 5) .nil))))))) (.iSeq (.v 2)) (.nm 7) .nil [7]) .nil))) (.seq (.ret (.band (.v 6) (.one (.bi .all (.cons (.lc (.call 77 (.cons (.v 0) (.cons (.v 1) (.cons (.v 7) (.cons (.kB false) (.cons (.v 4) (.cons (.v 5) .nil))))))) (.iSeq (.v 3)) (.nm 7) .nil [7]) .nil))))) .skip))
def d_is_good : Df := ⟨6, 8, b_is_good, 0⟩
def b_least_out_0 : S := (.seq (.ifs (.nt (.bi .any (.cons (.lc (.call 80 (.cons (.v 7) (.cons (.v 6) .nil))) (.iSeq (.v 5)) (.nm 7) .nil [7]) .nil))) (.seq (.ifs (.call 78 (.cons (.v 0) (.cons (.v 6) (.cons (.v 1) (.cons (.v 2) (.cons (.v 3) (.cons (.v 4) .nil))))))) (.seq (.app 5 (.v 6)) .skip) .skip) .skip) .skip) .skip)
/-- 79 -/
def b_least_out : S := (.seq (.ex (.call 11 (.cons (.v 0) .nil))) (.seq (.ex (.call 75 (.cons (.v 0) (.cons (.v 1) .nil)))) (.seq (.ex (.call 75 (.cons (.v 0) (.cons (.v 2) .nil)))) (.seq (.ex (.call 14 (.cons (.v 3) .nil))) (.seq (.ex (.call 14 (.cons (.v 4) .nil))) (.seq (.ifs (.call 21 (.cons (.v 4) (.cons (.v 3) .nil))) (.seq (.rs "InvalidLean") .skip) .skip) (.seq (.setO 5 (.lst .nil)) (.seq (.fr (.nm 6) (.iSeq (.call 76 (.cons (.v 0) .nil))) b_least_out_0) (.seq (.ret (.v 5)) .skip)))))))))
def d_least_out : Df := ⟨5, 8, b_least_out, 0⟩
/-- 80 -/
def b_is_nowhere_greater : S := (.seq (.ret (.bi .all (.cons (.lc (.cmp .LtE (.v 2) (.v 3)) (.iZip (.v 0) (.v 1)) (.tp (.cons (.nm 2) (.cons (.nm 3) .nil))) .nil [2, 3]) .nil))) .skip)
def d_is_nowhere_greater : Df := ⟨2, 4, b_is_nowhere_greater, 0⟩
/-- 81 -/
def b_is_fact : S := (.seq (.ifs (.bor (.nt (.isi (.v 2) .tuple)) (.bor (.nt (.chn .LtE .LtE (.kI 2) (.bi .len (.cons (.v 2) .nil)) (.kI 3))) (.one (.nt (.isi (.ix (.v 2) (.kI 0)) .str))))) (.seq (.ret (.kB false)) .skip) .skip) (.seq (.ifs (.cmp .Eq (.bi .len (.cons (.v 2) .nil)) (.kI 3)) (.seq (.ret (.band (.cmp .In (.ix (.v 2) (.kI 0)) (.gl 6)) (.band (.call 1 (.cons (.ix (.v 2) (.kI 1)) (.cons (.kI 0) (.cons (.bin .Sub (.bi .len (.cons (.ix (.v 0) (.kI 1)) .nil)) (.kI 1)) .nil)))) (.one (.call 1 (.cons (.ix (.v 2) (.kI 2)) (.cons (.kI 0) (.cons (.gl 0) .nil)))))))) .skip) .skip) (.seq (.ifs (.cmp .Eq (.ix (.v 2) (.kI 0)) (.kS "stuck")) (.seq (.ret (.bor (.cmp .Is (.ix (.v 2) (.kI 1)) .kN) (.one (.call 1 (.cons (.ix (.v 2) (.kI 1)) (.cons (.kI 0) (.cons (.bin .Sub (.bi .len (.cons (.v 1) .nil)) (.kI 1)) .nil))))))) .skip) .skip) (.seq (.ret (.band (.cmp .In (.ix (.v 2) (.kI 0)) (.tup (.cons (.kS "shade") (.cons (.kS "sun") .nil)))) (.one (.call 1 (.cons (.ix (.v 2) (.kI 1)) (.cons (.kI 0) (.cons (.bin .Sub (.bi .len (.cons (.ix (.v 0) (.kI 2)) .nil)) (.kI 1)) .nil))))))) .skip))))
def d_is_fact : Df := ⟨3, 3, b_is_fact, 0⟩
/-- 82 -/
def b_need_facts : S := (.seq (.ex (.call 13 (.cons (.v 0) (.cons (.v 1) .nil)))) (.seq (.ifs (.bor (.nt (.isi (.v 2) .tuple)) (.one (.cmp .Gt (.bi .len (.cons (.v 2) .nil)) (.kI 8)))) (.seq (.rs "InvalidFacts") .skip) .skip) (.seq (.ifs (.nt (.bi .all (.cons (.lc (.call 81 (.cons (.v 0) (.cons (.v 1) (.cons (.v 3) .nil)))) (.iSeq (.v 2)) (.nm 3) .nil [3]) .nil))) (.seq (.rs "InvalidFacts") .skip) .skip) .skip)))
def d_need_facts : Df := ⟨3, 4, b_need_facts, 0⟩
/-- 83 -/
def b_gap_of : S := (.seq (.ret (.call 19 (.cons (.ix (.ix (.v 0) (.kI 2)) (.ix (.v 1) (.kI 1))) (.cons (.tup (.cons (.ix (.v 1) (.kI 2)) (.cons (.kI 0) .nil))) .nil)))) .skip)
def d_gap_of : Df := ⟨2, 2, b_gap_of, 0⟩
def b_cut_by_0 : S := (.seq (.set 3 (.bin .Add (.v 3) (.call 27 (.cons (.v 4) (.cons (.lst (.cons (.call 83 (.cons (.v 4) (.cons (.v 2) .nil))) .nil)) .nil))))) .skip)
/-- 84 -/
def b_cut_by : S := (.seq (.ifs (.cmp .In (.ix (.v 2) (.kI 0)) (.tup (.cons (.kS "shade") (.cons (.kS "sun") .nil)))) (.seq (.ret (.call 43 (.cons (.v 0) (.cons (.v 1) (.cons (.lst (.cons (.ix (.v 2) (.kI 1)) .nil)) .nil))))) .skip) .skip) (.seq (.ifs (.cmp .Eq (.ix (.v 2) (.kI 0)) (.kS "stuck")) (.seq (.ret (.v 1)) .skip) .skip) (.seq (.set 3 (.lst .nil)) (.seq (.fr (.nm 4) (.iSeq (.v 1)) b_cut_by_0) (.seq (.ret (.v 3)) .skip)))))
def d_cut_by : Df := ⟨3, 5, b_cut_by, 0⟩
def b_fact_rows_0 : S := (.seq (.set 3 (.call 84 (.cons (.v 0) (.cons (.v 3) (.cons (.v 4) .nil))))) .skip)
/-- 86 -/
def b_fact_rows : S := (.seq (.set 3 (.call 40 (.cons (.v 0) (.cons (.v 1) .nil)))) (.seq (.fr (.nm 4) (.iSeq (.v 2)) b_fact_rows_0) (.seq (.ret (.lc (.tup (.cons (.v 5) (.cons (.bi .all (.cons (.lc (.call 85 (.cons (.v 0) (.cons (.v 5) (.cons (.v 4) .nil)))) (.iSeq (.v 2)) (.nm 4) .nil [4]) .nil)) .nil))) (.iSeq (.v 3)) (.nm 5) .nil [5])) .skip)))
def d_fact_rows : Df := ⟨3, 6, b_fact_rows, 0⟩
/-- 87 -/
def b_leans : S := (.seq (.ex (.call 82 (.cons (.v 0) (.cons (.v 1) (.cons (.v 2) .nil))))) (.seq (.ret (.call 46 (.cons (.call 86 (.cons (.v 0) (.cons (.v 1) (.cons (.v 2) .nil)))) .nil))) .skip))
def d_leans : Df := ⟨3, 3, b_leans, 0⟩
/-- 88 -/
def b_simplest : S := (.seq (.ex (.call 82 (.cons (.v 0) (.cons (.v 1) (.cons (.v 2) .nil))))) (.seq (.ret (.call 48 (.cons (.call 46 (.cons (.call 86 (.cons (.v 0) (.cons (.v 1) (.cons (.v 2) .nil)))) .nil)) .nil))) .skip))
def d_simplest : Df := ⟨3, 3, b_simplest, 0⟩
def b_telling_0 : S := (.seq (.set 6 (.lc (.call 31 (.cons (.v 0) (.cons (.v 7) (.cons (.v 5) .nil)))) (.iSeq (.call 43 (.cons (.v 0) (.cons (.v 3) (.cons (.lst (.cons (.v 5) .nil)) .nil))))) (.nm 7) .nil [7])) (.seq (.set 4 (.bin .Add (.v 4) (.ite (.band (.bi .any (.cons (.v 6) .nil)) (.one (.nt (.bi .all (.cons (.v 6) .nil))))) (.lst (.cons (.v 5) .nil)) (.lst .nil)))) .skip))
/-- 89 -/
def b_telling : S := (.seq (.ex (.call 82 (.cons (.v 0) (.cons (.v 1) (.cons (.v 2) .nil))))) (.seq (.set 3 (.lc (.v 7) (.iSeq (.call 86 (.cons (.v 0) (.cons (.v 1) (.cons (.v 2) .nil))))) (.tp (.cons (.nm 7) (.cons (.nm 8) .nil))) (.v 8) [7, 8])) (.seq (.set 4 (.lst .nil)) (.seq (.fr (.nm 5) (.iRng .nil (.bi .len (.cons (.ix (.v 0) (.kI 2)) .nil))) b_telling_0) (.seq (.ret (.v 4)) .skip)))))
def d_telling : Df := ⟨3, 9, b_telling, 0⟩
/-- 100 -/
def b__law_cell : S := (.seq (.ifs (.cmp .Lt (.v 1) (.bi .len (.cons (.v 0) .nil))) (.seq (.ret (.ix (.v 0) (.v 1))) .skip) .skip) (.seq (.ifs (.cmp .Eq (.bi .len (.cons (.v 0) .nil)) (.kI 0)) (.seq (.ret (.bin .Add (.bin .Mult (.kI 7919) (.v 1)) (.kI 101))) .skip) .skip) (.seq (.ret (.bin .Add (.bin .Mod (.ix (.v 0) (.bin .Mod (.v 1) (.bi .len (.cons (.v 0) .nil)))) (.kI 1000003)) (.bin .Mult (.kI 7919) (.v 1)))) .skip)))
def d__law_cell : Df := ⟨2, 2, b__law_cell, 0⟩
def b__law_draws_0 : S := (.seq (.set 9 (.bin .Mult (.bin .Mod (.v 5) (.ix (.v 4) (.bin .Mod (.v 8) (.kI 8)))) (.bin .Add (.kI 48271) (.bin .Mult (.bin .Mult (.kI 2) (.v 8)) (.v 8))))) (.seq (.set 9 (.bin .Add (.bin .Add (.v 9) (.bin .Mult (.bin .Mult (.kI 7919) (.bin .Add (.v 8) (.kI 1))) (.bin .Add (.v 8) (.kI 1)))) (.bin .Mult (.kI 104729) (.v 1)))) (.seq (.set 9 (.bin .Mod (.v 9) (.ix (.v 4) (.bin .Mod (.bin .Add (.bin .Mult (.kI 3) (.v 8)) (.v 1)) (.kI 8))))) (.seq (.set 9 (.bin .Mod (.bin .Mult (.bin .Mult (.v 9) (.v 9)) (.v 9)) (.ix (.v 4) (.bin .Mod (.bin .Add (.v 8) (.kI 5)) (.kI 8))))) (.seq (.ifs (.cmp .Gt (.v 6) (.kI 0)) (.seq (.set 9 (.v 6)) .skip) .skip) (.seq (.app 7 (.bin .Mod (.v 9) (.v 3))) (.seq (.set 6 (.bin .FloorDiv (.v 6) (.v 3))) .skip)))))))
/-- 101 -/
def b__law_draws : S := (.seq (.set 4 (.tup (.cons (.kI 2147483647) (.cons (.kI 2147483629) (.cons (.kI 2147483587) (.cons (.kI 2147483579) (.cons (.kI 2147483563) (.cons (.kI 2147483549) (.cons (.kI 2147483543) (.cons (.kI 2147483497) .nil)))))))))) (.seq (.set 5 (.call 100 (.cons (.v 0) (.cons (.v 1) .nil)))) (.seq (.set 6 (.kI 0)) (.seq (.ifs (.cmp .GtE (.v 5) (.bin .Pow (.kI 10) (.kI 18))) (.seq (.set 6 (.v 5)) .skip) .skip) (.seq (.setO 7 (.lst .nil)) (.seq (.fr (.nm 8) (.iRng .nil (.v 2)) b__law_draws_0) (.seq (.retO 7) .skip)))))))
def d__law_draws : Df := ⟨4, 10, b__law_draws, 0⟩
/-- 102 -/
def b__law_bag : S := (.seq (.retF (.call 101 (.cons (.v 0) (.cons (.v 1) (.cons (.kI 150) (.cons (.kI 27720) .nil)))))) .skip)
def d__law_bag : Df := ⟨2, 2, b__law_bag, 0⟩
/-- 103 -/
def b__law_take : S := (.seq (.set 2 (.ite (.nilB 0 .NotEq) (.popB 0 (0)) (.kI 0))) (.seq (.ret (.bin .Mod (.bi .int (.cons (.v 2) .nil)) (.v 1))) .skip))
def d__law_take : Df := ⟨2, 3, b__law_take, 0⟩
/-- 104 -/
def b__law_choice : S := (.seq (.ret (.ix (.v 1) (.call 103 (.cons (.v 0) (.cons (.bi .len (.cons (.v 1) .nil)) .nil))))) .skip)
def d__law_choice : Df := ⟨2, 2, b__law_choice, 0⟩
def b__law_lowest_0 : S := (.seq (.par [(3, false), (4, false)] (.cons (.v 4) (.cons (.bin .Mod (.v 3) (.v 4)) .nil))) .skip)
/-- 105 -/
def b__law_lowest : S := (.seq (.par [(3, false), (4, false)] (.cons (.bi .abs (.cons (.v 0) .nil)) (.cons (.bi .abs (.cons (.v 1) .nil)) .nil))) (.seq (.wh (.cmp .NotEq (.v 4) (.kI 0)) b__law_lowest_0) (.seq (.set 2 (.ite (.cmp .Gt (.v 1) (.kI 0)) (.kI 1) (.neg (.kI 1)))) (.seq (.ret (.tup (.cons (.bin .FloorDiv (.bin .Mult (.v 2) (.v 0)) (.v 3)) (.cons (.bin .FloorDiv (.bin .Mult (.v 2) (.v 1)) (.v 3)) .nil)))) .skip))))
def d__law_lowest : Df := ⟨2, 5, b__law_lowest, bigF⟩
def b__law_street_0 : S := (.seq (.set 4 (.bin .Add (.v 4) (.tup (.cons (.tup (.cons (.call 103 (.cons (.v 0) (.cons (.kI 21) .nil))) (.cons (.call 104 (.cons (.v 0) (.cons (.lst (.cons (.kI 0) (.cons (.kI 0) (.cons (.kI 1) (.cons (.kI 2) (.cons (.kI 5) .nil)))))) .nil))) .nil))) .nil)))) .skip)
def b__law_street_1 : S := (.seq (.set 3 (.bin .Add (.v 3) (.tup (.cons (.tup (.cons (.call 103 (.cons (.v 0) (.cons (.kI 13) .nil))) (.cons (.bin .Add (.kI 2) (.call 103 (.cons (.v 0) (.cons (.kI 8) .nil)))) (.cons (.bin .Add (.kI 1) (.call 103 (.cons (.v 0) (.cons (.kI 9) .nil)))) .nil)))) .nil)))) .skip)
def b__law_street_2 : S := (.seq (.set 2 (.bin .Add (.v 2) (.tup (.cons (.tup (.cons (.call 103 (.cons (.v 0) (.cons (.kI 13) .nil))) (.cons (.bin .Add (.kI 1) (.call 103 (.cons (.v 0) (.cons (.kI 9) .nil)))) .nil))) .nil)))) .skip)
/-- 106 -/
def b__law_street : S := (.seq (.asg (.tp (.cons (.nm 2) (.cons (.nm 3) (.cons (.nm 4) .nil)))) (.tup (.cons (.tup .nil) (.cons (.tup .nil) (.cons (.tup .nil) .nil))))) (.seq (.fr (.nm 1) (.iRng .nil (.call 103 (.cons (.v 0) (.cons (.kI 3) .nil)))) b__law_street_2) (.seq (.fr (.nm 1) (.iRng .nil (.bin .Add (.kI 1) (.call 103 (.cons (.v 0) (.cons (.kI 2) .nil))))) b__law_street_1) (.seq (.fr (.nm 1) (.iRng .nil (.bin .Add (.kI 1) (.call 103 (.cons (.v 0) (.cons (.kI 3) .nil))))) b__law_street_0) (.seq (.ret (.tup (.cons (.v 2) (.cons (.v 3) (.cons (.v 4) .nil))))) .skip)))))
def d__law_street : Df := ⟨1, 5, b__law_street, 0⟩
/-- 107 -/
def b__law_single : S := (.seq (.asg (.tp (.cons (.nm 3) (.cons (.nm 4) .nil))) (.tup (.cons (.call 103 (.cons (.v 0) (.cons (.kI 7) .nil))) (.cons (.call 103 (.cons (.v 0) (.cons (.bi .len (.cons (.ix (.v 1) (.kI 1)) .nil)) .nil))) .nil)))) (.seq (.ifs (.cmp .Lt (.v 3) (.kI 2)) (.seq (.ret (.tup (.cons (.ite (.cmp .Eq (.v 3) (.kI 0)) (.kS "out") (.kS "in")) (.cons (.v 4) (.cons (.bin .Add (.kI 1) (.call 103 (.cons (.v 0) (.cons (.kI 5) .nil)))) .nil))))) .skip) .skip) (.seq (.ifs (.cmp .Lt (.v 3) (.kI 5)) (.seq (.ret (.tup (.cons (.kS "cover") (.cons (.v 4) (.cons (.call 103 (.cons (.v 0) (.cons (.bi .len (.cons (.ix (.v 1) (.kI 2)) .nil)) .nil))) .nil))))) .skip) .skip) (.seq (.set 2 (.lc (.v 5) (.iRng .nil (.bi .len (.cons (.bin .Add (.ix (.v 1) (.kI 0)) (.ix (.v 1) (.kI 1))) .nil))) (.nm 5) (.cmp .NotEq (.v 5) (.bin .Add (.bi .len (.cons (.ix (.v 1) (.kI 0)) .nil)) (.v 4))) [5])) (.seq (.ifs (.cmp .Eq (.v 2) (.lst .nil)) (.seq (.ret (.tup (.cons (.kS "out") (.cons (.v 4) (.cons (.bin .Add (.kI 1) (.call 103 (.cons (.v 0) (.cons (.kI 9) .nil)))) .nil))))) .skip) .skip) (.seq (.ret (.tup (.cons (.kS "touch") (.cons (.v 4) (.cons (.call 104 (.cons (.v 0) (.cons (.v 2) .nil))) .nil))))) .skip))))))
def d__law_single : Df := ⟨2, 6, b__law_single, 0⟩
def b__law_script_0 : S := (.seq (.par [(6, false), (7, false)] (.cons (.call 107 (.cons (.v 0) (.cons (.v 1) .nil))) (.cons (.call 103 (.cons (.v 0) (.cons (.bi .len (.cons (.ix (.v 1) (.kI 2)) .nil)) .nil))) .nil))) (.seq (.set 5 (.call 103 (.cons (.v 0) (.cons (.kI 6) .nil)))) (.seq (.ifs (.cmp .Lt (.v 5) (.kI 2)) (.seq (.set 6 (.tup (.cons (.ite (.cmp .Eq (.v 5) (.kI 0)) (.kS "when") (.kS "unless")) (.cons (.v 7) (.cons (.v 6) .nil))))) .skip) .skip) (.seq (.set 3 (.bin .Add (.v 3) (.tup (.cons (.v 6) .nil)))) .skip))))
/-- 108 -/
def b__law_script : S := (.seq (.set 3 (.tup .nil)) (.seq (.fr (.nm 4) (.iRng .nil (.call 103 (.cons (.v 0) (.cons (.bin .Add (.v 2) (.kI 1)) .nil)))) b__law_script_0) (.seq (.ret (.v 3)) .skip)))
def d__law_script : Df := ⟨3, 8, b__law_script, 0⟩
/-- 109 -/
def b__law_shadow : S := (.seq (.asg (.tp (.cons (.nm 5) (.cons (.nm 6) (.cons (.nm 7) .nil)))) (.v 0)) (.seq (.ifs (.cmp .Lt (.v 3) (.bi .len (.cons (.v 5) .nil))) (.seq (.asg (.tp (.cons (.nm 10) (.cons (.nm 11) .nil))) (.ix (.v 5) (.v 3))) (.seq (.set 8 (.bin .Mult (.v 10) (.ix (.v 2) (.kI 1)))) (.seq (.set 9 (.bin .Add (.v 8) (.bin .Mult (.bin .Sub (.v 11) (.v 4)) (.ix (.v 2) (.kI 0))))) .skip))) (.seq (.asg (.tp (.cons (.nm 10) (.cons (.nm 11) (.cons (.nm 12) .nil)))) (.ix (.v 6) (.bin .Sub (.v 3) (.bi .len (.cons (.v 5) .nil))))) (.seq (.set 8 (.bin .Add (.bin .Mult (.v 10) (.ix (.v 2) (.kI 1))) (.bin .Mult (.bin .Sub (.v 11) (.v 4)) (.ix (.v 2) (.kI 0))))) (.seq (.set 9 (.bin .Add (.v 8) (.ix (.v 1) (.bin .Sub (.v 3) (.bi .len (.cons (.v 5) .nil)))))) .skip)))) (.seq (.ret (.ite (.cmp .Lt (.v 4) (.v 11)) (.tup (.cons (.v 8) (.cons (.v 9) .nil))) .kN)) .skip)))
def d__law_shadow : Df := ⟨5, 13, b__law_shadow, 0⟩
def b__law_shade_0 : S := (.seq (.set 7 (.call 109 (.cons (.v 0) (.cons (.v 1) (.cons (.v 2) (.cons (.v 4) (.cons (.v 6) .nil))))))) (.seq (.ifs (.band (.cmp .IsNot (.v 7) .kN) (.one (.chn .LtE .LtE (.ix (.v 7) (.kI 0)) (.bin .Mult (.v 5) (.ix (.v 2) (.kI 1))) (.ix (.v 7) (.kI 1))))) (.seq (.ret (.kB true)) .skip) .skip) .skip))
/-- 110 -/
def b__law_shade : S := (.seq (.asg (.tp (.cons (.nm 5) (.cons (.nm 6) .nil))) (.ix (.ix (.v 0) (.kI 2)) (.v 3))) (.seq (.fr (.nm 4) (.iRng .nil (.bin .Add (.bi .len (.cons (.ix (.v 0) (.kI 0)) .nil)) (.bi .len (.cons (.ix (.v 0) (.kI 1)) .nil)))) b__law_shade_0) (.seq (.ret (.kB false)) .skip)))
def d__law_shade : Df := ⟨4, 8, b__law_shade, 0⟩
/-- 111 -/
def b__law_single_done : S := (.seq (.asg (.tp (.cons (.nm 5) (.cons (.nm 6) (.cons (.nm 7) .nil)))) (.v 3)) (.seq (.par [(8, false), (9, false)] (.cons (.bin .Mult (.ix (.ix (.ix (.v 0) (.kI 1)) (.v 6)) (.kI 2)) (.ix (.v 2) (.kI 1))) (.cons (.ix (.v 1) (.v 6)) .nil))) (.seq (.ifs (.cmp .In (.v 5) (.lst (.cons (.kS "out") (.cons (.kS "in") .nil)))) (.seq (.set 10 (.ite (.cmp .Eq (.v 5) (.kS "out")) (.bin .Mult (.v 7) (.ix (.v 2) (.kI 1))) (.bin .Mult (.neg (.v 7)) (.ix (.v 2) (.kI 1))))) (.seq (.set 9 (.ix (.bi .sorted (.cons (.lst (.cons (.kI 0) (.cons (.bin .Add (.v 9) (.v 10)) (.cons (.v 8) .nil)))) .nil)) (.kI 1))) (.seq (.ret (.bin .Add (.bin .Add (.sl (.v 1) .nil (.v 6)) (.lst (.cons (.v 9) .nil))) (.sl (.v 1) (.bin .Add (.v 6) (.kI 1)) .nil))) .skip))) .skip) (.seq (.set 4 (.bin .Add (.bi .len (.cons (.ix (.v 0) (.kI 0)) .nil)) (.v 6))) (.seq (.ifs (.cmp .Eq (.v 5) (.kS "cover")) (.seq (.asg (.tp (.cons (.nm 13) (.cons (.nm 14) .nil))) (.ix (.ix (.v 0) (.kI 2)) (.v 7))) (.seq (.ifs (.call 110 (.cons (.v 0) (.cons (.v 1) (.cons (.v 2) (.cons (.v 7) .nil))))) (.seq (.ret (.v 1)) .skip) .skip) (.seq (.set 11 (.call 109 (.cons (.v 0) (.cons (.v 1) (.cons (.v 2) (.cons (.v 4) (.cons (.v 14) .nil))))))) (.seq (.set 12 (.ite (.cmp .IsNot (.v 11) .kN) (.bin .Mult (.v 13) (.ix (.v 2) (.kI 1))) (.neg (.kI 1)))) .skip)))) (.seq (.set 11 (.call 109 (.cons (.v 0) (.cons (.v 1) (.cons (.v 2) (.cons (.v 4) (.cons (.kI 0) .nil))))))) (.seq (.asg (.tp (.cons (.nm 12) (.cons (.nm 15) .nil))) (.call 109 (.cons (.v 0) (.cons (.v 1) (.cons (.v 2) (.cons (.v 7) (.cons (.kI 0) .nil))))))) (.seq (.ifs (.band (.cmp .LtE (.ix (.v 11) (.kI 0)) (.v 15)) (.one (.cmp .LtE (.v 12) (.ix (.v 11) (.kI 1))))) (.seq (.ret (.v 1)) .skip) .skip) (.seq (.set 12 (.ite (.cmp .LtE (.ix (.v 11) (.kI 0)) (.v 15)) (.v 12) (.neg (.kI 1)))) .skip))))) (.seq (.ifs (.bor (.cmp .Lt (.v 12) (.kI 0)) (.bor (.cmp .Gt (.ix (.v 11) (.kI 0)) (.v 12)) (.one (.cmp .Gt (.bin .Sub (.v 12) (.ix (.v 11) (.kI 0))) (.v 8))))) (.seq (.ret .kN) .skip) .skip) (.seq (.ret (.bin .Add (.bin .Add (.sl (.v 1) .nil (.v 6)) (.lst (.cons (.bin .Sub (.v 12) (.ix (.v 11) (.kI 0))) .nil))) (.sl (.v 1) (.bin .Add (.v 6) (.kI 1)) .nil))) .skip)))))))
def d__law_single_done : Df := ⟨4, 16, b__law_single_done, 0⟩
def b__law_led_0 : S := (.seq (.par [(5, false), (6, false)] (.cons (.ix (.v 1) (.v 4)) (.cons (.kB true) .nil))) (.seq (.ifs (.cmp .In (.ix (.v 5) (.kI 0)) (.lst (.cons (.kS "when") (.cons (.kS "unless") .nil)))) (.seq (.set 6 (.cmp .Eq (.call 110 (.cons (.v 0) (.cons (.v 3) (.cons (.v 2) (.cons (.ix (.v 5) (.kI 1)) .nil))))) (.cmp .Eq (.ix (.v 5) (.kI 0)) (.kS "when")))) (.seq (.set 5 (.ix (.v 5) (.kI 2))) .skip)) .skip) (.seq (.ifs (.v 6) (.seq (.set 7 (.call 111 (.cons (.v 0) (.cons (.v 3) (.cons (.v 2) (.cons (.v 5) .nil)))))) (.seq (.ifs (.cmp .Is (.v 7) .kN) (.seq (.ret (.tup (.cons (.v 3) (.cons (.v 4) .nil)))) .skip) .skip) (.seq (.set 3 (.v 7)) .skip))) .skip) .skip)))
/-- 112 -/
def b__law_led : S := (.seq (.set 3 (.bin .Mult (.lst (.cons (.kI 0) .nil)) (.bi .len (.cons (.ix (.v 0) (.kI 1)) .nil)))) (.seq (.fr (.nm 4) (.iRng .nil (.bi .len (.cons (.v 1) .nil))) b__law_led_0) (.seq (.ret (.tup (.cons (.v 3) (.cons .kN .nil)))) .skip)))
def d__law_led : Df := ⟨3, 8, b__law_led, 0⟩
/-- 113 -/
def b__law_less : S := (.seq (.ret (.cmp .Lt (.bin .Mult (.ix (.v 0) (.kI 0)) (.ix (.v 1) (.kI 1))) (.bin .Mult (.ix (.v 1) (.kI 0)) (.ix (.v 0) (.kI 1))))) .skip)
def d__law_less : Df := ⟨2, 2, b__law_less, 0⟩
/-- 114 -/
def b__law_in : S := (.seq (.asg (.tp (.cons (.nm 2) (.cons (.nm 3) (.cons (.nm 4) (.cons (.nm 5) .nil))))) (.v 0)) (.seq (.ifs (.bor (.cmp .Eq (.v 2) (.v 1)) (.one (.cmp .Eq (.v 4) (.v 1)))) (.seq (.ret (.ite (.cmp .Eq (.v 2) (.v 1)) (.v 3) (.v 5))) .skip) .skip) (.seq (.ret (.band (.call 113 (.cons (.v 2) (.cons (.v 1) .nil))) (.one (.call 113 (.cons (.v 1) (.cons (.v 4) .nil)))))) .skip)))
def d__law_in : Df := ⟨2, 6, b__law_in, 0⟩
def b__law_simple_0 : S := (.seq (.ifs (.cmp .Eq (.call 105 (.cons (.v 3) (.cons (.bin .Sub (.v 2) (.v 3)) .nil))) (.tup (.cons (.v 3) (.cons (.bin .Sub (.v 2) (.v 3)) .nil)))) (.seq (.app 1 (.tup (.cons (.v 3) (.cons (.bin .Sub (.v 2) (.v 3)) .nil)))) .skip) .skip) .skip)
def b__law_simple_1 : S := (.seq (.fr (.nm 3) (.iRng (.kI 1) (.v 2)) b__law_simple_0) .skip)
/-- 115 -/
def b__law_simple : S := (.seq (.setO 1 (.lst .nil)) (.seq (.fr (.nm 2) (.iRng (.kI 2) (.bin .Add (.v 0) (.kI 1))) b__law_simple_1) (.seq (.retO 1) .skip)))
def d__law_simple : Df := ⟨1, 4, b__law_simple, 0⟩
def b__law_some_0 : S := (.seq (.app 2 (.call 105 (.cons (.bin .Add (.kI 1) (.call 103 (.cons (.v 0) (.cons (.bin .Pow (.kI 10) (.kI 5)) .nil)))) (.cons (.bin .Add (.kI 1) (.call 103 (.cons (.v 0) (.cons (.bin .Pow (.kI 10) (.kI 5)) .nil)))) .nil)))) .skip)
def b__law_some_1 : S := (.seq (.ifs (.band (.cmp .Gt (.v 4) (.kI 0)) (.one (.cmp .Gt (.v 5) (.kI 0)))) (.seq (.setO 2 (.bin .Add (.v 2) (.lst (.cons (.tup (.cons (.v 4) (.cons (.v 5) .nil))) (.cons (.call 105 (.cons (.bin .Add (.bin .Mult (.v 4) (.bin .Pow (.kI 10) (.kI 6))) (.kI 1)) (.cons (.bin .Mult (.v 5) (.bin .Pow (.kI 10) (.kI 6))) .nil))) .nil))))) (.seq (.app 2 (.call 105 (.cons (.bin .Mult (.v 4) (.bin .Pow (.kI 10) (.kI 6))) (.cons (.bin .Add (.bin .Mult (.v 5) (.bin .Pow (.kI 10) (.kI 6))) (.kI 1)) .nil)))) .skip)) .skip) .skip)
/-- 116 -/
def b__law_some : S := (.seq (.setO 2 (.call 115 (.cons (.kI 11) .nil))) (.seq (.fr (.tp (.cons (.nm 4) (.cons (.nm 5) .nil))) (.iSeq (.v 1)) b__law_some_1) (.seq (.fr (.nm 3) (.iRng .nil (.kI 8)) b__law_some_0) (.seq (.ret (.v 2)) .skip))))
def d__law_some : Df := ⟨2, 6, b__law_some, 0⟩
def b__law_points_0 : S := (.seq (.ifs (.band (.cmp .Gt (.ix (.v 4) (.kI 1)) (.v 3)) (.one (.cmp .Gt (.v 2) (.ix (.v 4) (.kI 0))))) (.seq (.app 1 (.call 105 (.cons (.bin .Sub (.v 2) (.ix (.v 4) (.kI 0))) (.cons (.bin .Sub (.ix (.v 4) (.kI 1)) (.v 3)) .nil)))) .skip) .skip) .skip)
def b__law_points_1 : S := (.seq (.fr (.nm 4) (.iSeq (.bin .Add (.ix (.v 0) (.kI 0)) (.ix (.v 0) (.kI 1)))) b__law_points_0) .skip)
/-- 117 -/
def b__law_points : S := (.seq (.setO 1 (.lst .nil)) (.seq (.fr (.tp (.cons (.nm 2) (.cons (.nm 3) .nil))) (.iSeq (.ix (.v 0) (.kI 2))) b__law_points_1) (.seq (.ret (.v 1)) .skip)))
def d__law_points : Df := ⟨1, 5, b__law_points, 0⟩
/-- 118 -/
def b__law_ends : S := (.seq (.ret (.bin .Add (.lc (.ix (.v 1) (.kI 0)) (.iSeq (.v 0)) (.nm 1) .nil [1]) (.lc (.ix (.v 1) (.kI 2)) (.iSeq (.v 0)) (.nm 1) .nil [1]))) .skip)
def d__law_ends : Df := ⟨1, 2, b__law_ends, 0⟩
/-- 119 -/
def b__law_seats : S := (.seq (.set 3 (.ix (.call 112 (.cons (.v 0) (.cons (.v 1) (.cons (.v 2) .nil)))) (.kI 0))) (.seq (.ret (.lc (.v 4) (.iRng .nil (.bi .len (.cons (.ix (.v 0) (.kI 2)) .nil))) (.nm 4) (.call 110 (.cons (.v 0) (.cons (.v 3) (.cons (.v 2) (.cons (.v 4) .nil))))) [4])) .skip))
def d__law_seats : Df := ⟨3, 5, b__law_seats, 0⟩
def GL : List D := [.int 9, .int 6, .tuple [.int 0, .int 1], .tuple [.int 1, .int 0], .tuple [.int 0, .int 0], .tuple [.str "wall", .str "awning", .str "seat"], .tuple [.str "less", .str "same", .str "more"]]
def tab0 : List Df := [d_is_plain, d_is_whole, d_are_rows, d_is_street, d_things_of, d_is_single, d_is_step, d_are_steps, d_divisor_of, d_lowest, d_is_lean, d_need_street, d_need_script, d_need_both, d_need_lean, d_need_number, d_is_script, d_count_things, d_plus, d_minus, d_worth, d_is_less, d_root_in, d_inner, d_sign_in, d_first_root, d_cut_at, d_refined, d_ends_of, d_shades_at]
def tab1 : List Df := [d_seat_sums, d_is_shaded, d_put, d_let_out, d_moved, d_covered, d_touched, d_stepped, d_begun, d_gone, d_course, d_at_lean, d_shaded_in, d_by_seats, d_range_of, d_joined, d_ranges_true, d_simplest_between, d_simplest_of, d_need_all, d_told, d_lengths, d_stuck_at, d_shaded, d_shadow, d_told_ends, d_length_forms, d_stuck_ranges, d_shade_ranges, d_coming]
def tab2 : List Df := [d_written, d_street_text, d_number_in, d_read_street, d_cuts_of, d_lengths_in, noDf, d_unlike_ranges, d_need_two, d_alike, d_parting, noDf, d_idle_steps, d_later_pieces, d_are_seats, d_need_seats, noDf, d_holds, d_is_good, d_least_out, d_is_nowhere_greater, d_is_fact, d_need_facts, d_gap_of, d_cut_by, noDf, d_fact_rows, d_leans, d_simplest, d_telling]
def tab3 : List Df := [noDf, noDf, noDf, noDf, noDf, noDf, noDf, noDf, noDf, noDf, d__law_cell, d__law_draws, d__law_bag, d__law_take, d__law_choice, d__law_lowest, d__law_street, d__law_single, d__law_script, d__law_shadow, d__law_shade, d__law_single_done, d__law_led, d__law_less, d__law_in, d__law_simple, d__law_some, d__law_points, d__law_ends, d__law_seats]
def tabM : List Df := tab0 ++ (tab1 ++ (tab2 ++ tab3))
end Ev
end
section
set_option Elab.async false
set_option maxRecDepth 100000
set_option linter.all false
set_option autoImplicit false
set_option maxHeartbeats 1000007
/-! P1: evaluating terms: calls, names, loops, comprehensions. -/
namespace Ev
open PySem
variable {C : Calls} {gl : List D} {fuel : Nat}
theorem call_at {tl : List Df} {tels : Nat → List Arg → RC} {j f : Nat} {d : Df} {args : List Arg} (hd : tabM[f]? = some d) (hf : f < 120) (hj : 1 ≤ j) : calls GL (tabM ++ tl) tels j f args = runF (calls GL (tabM ++ tl) tels (j - 1)) GL d args := by
  obtain ⟨i, rfl⟩ : ∃ i, j = i + 1 := ⟨j - 1, by omega⟩
  rw [calls_def (d := d) (by omega) (by rw [List.getElem?_append_left (by rw [show tabM.length = 120 from rfl]; exact hf)]; exact hd)]
  rfl
/-- a turn of a loop -/
def stepF (C : Calls) (gl : List D) (fuel : Nat) (t : Tg) (b : S) : D → Rho → Fl := fun x r => (Fl.of (asgT t x r)).andThen (evS C gl fuel b)
/-! ### terms, one by one -/
section
variable {r : Rho}
@[simp] theorem ev_kI (i : Int) : evE C gl (.kI i) r = .ok (.int i) r := rfl
@[simp] theorem ev_kS (i : Str) : evE C gl (.kS i) r = .ok (.str i) r := rfl
@[simp] theorem ev_kB (i : Bool) : evE C gl (.kB i) r = .ok (.bool i) r := rfl
@[simp] theorem ev_kN : evE C gl .kN r = .ok .none r := rfl
@[simp] theorem ev_v (i : Nat) : evE C gl (.v i) r = readV r i := rfl
@[simp] theorem ev_gl (j : Nat) : evE C gl (.gl j) r = R.of r gl[j]? := rfl
@[simp] theorem ev_bin (op : Operator) (a b : E) : evE C gl (.bin op a b) r = (evE C gl a r).bind fun x r1 => (evE C gl b r1).bind fun y r2 => R.of r2 (dBin op x y) := rfl
@[simp] theorem ev_neg (a : E) : evE C gl (.neg a) r = (evE C gl a r).bind fun x r1 => match x with
    | .int i => .ok (.int (-i)) r1
    | _ => .no := rfl
@[simp] theorem ev_nt (a : E) : evE C gl (.nt a) r = (evE C gl a r).bind fun x r1 => match x with
    | .bool b => .ok (.bool (!b)) r1
    | _ => .no := rfl
@[simp] theorem ev_band (a b : E) : evE C gl (.band a b) r = (evE C gl a r).bind fun x r1 => match x with
    | .bool true => evE C gl b r1
    | .bool false => .ok (.bool false) r1
    | _ => .no := rfl
@[simp] theorem ev_bor (a b : E) : evE C gl (.bor a b) r = (evE C gl a r).bind fun x r1 => match x with
    | .bool true => .ok (.bool true) r1
    | .bool false => evE C gl b r1
    | _ => .no := rfl
@[simp] theorem ev_one (a : E) : evE C gl (.one a) r = evE C gl a r := rfl
@[simp] theorem ev_cmp (op : CmpOp) (a b : E) : evE C gl (.cmp op a b) r = (evE C gl a r).bind fun x r1 => (evE C gl b r1).bind fun y r2 => R.of r2 (dCmp op x y) := rfl
@[simp] theorem ev_chn (op op' : CmpOp) (a b c : E) : evE C gl (.chn op op' a b c) r = (evE C gl a r).bind fun x r1 => (evE C gl b r1).bind fun y r2 => match dCmp op x y with
    | some (.bool true) => (evE C gl c r2).bind fun z r3 => R.of r3 (dCmp op' y z)
    | some (.bool false) => .ok (.bool false) r2
    | _ => .no := rfl
@[simp] theorem ev_ite (c a b : E) : evE C gl (.ite c a b) r = (evE C gl c r).bind fun x r1 => match x with
    | .bool true => evE C gl a r1
    | .bool false => evE C gl b r1
    | _ => .no := rfl
@[simp] theorem ev_call (f : Nat) (as : E) : evE C gl (.call f as) r = (evAs C gl as r).bind fun avs r1 => (doCall C f avs r1).bind fun rv r2 => ofRv r2 rv := rfl
@[simp] theorem ev_bi (b : Bi) (as : E) : evE C gl (.bi b as) r = (evDs C gl as r).bind fun xs r1 => R.of r1 (dBi b xs) := rfl
@[simp] theorem ev_isi (a : E) (t : Ty) : evE C gl (.isi a t) r = (evE C gl a r).bind fun x r1 => R.of r1 ((dIsi x t).map .bool) := rfl
@[simp] theorem ev_tup (as : E) : evE C gl (.tup as) r = (evDs C gl as r).bind fun xs r1 => if xs.length ≤ lenLim then .ok (.tuple xs) r1 else .no := rfl
@[simp] theorem ev_lst (as : E) : evE C gl (.lst as) r = (evDs C gl as r).bind fun xs r1 => if xs.length ≤ lenLim then .ok (.list xs) r1 else .no := rfl
@[simp] theorem ev_ix (a b : E) : evE C gl (.ix a b) r = (evE C gl a r).bind fun x r1 => (evE C gl b r1).bind fun y r2 => R.of r2 (dIx x y) := rfl
@[simp] theorem ev_sl (a lo hi : E) : evE C gl (.sl a lo hi) r = (evE C gl a r).bind fun x r1 => (optI lo (evE C gl lo) r1).bind fun l r2 => (optI hi (evE C gl hi) r2).bind fun h r3 => R.of r3 (dSl x l h) := rfl
@[simp] theorem ev_rev (a : E) : evE C gl (.rev a) r = (evE C gl a r).bind fun x r1 => R.of r1 (dRev x) := rfl
@[simp] theorem ev_revT (a : E) : evE C gl (.revT a) r = (evE C gl a r).bind fun x r1 => R.of r1 (dRevT x) := rfl
@[simp] theorem ev_lRng (a : E) : evE C gl (.lRng a) r = (evE C gl a r).bind fun x r1 => match x with
    | .int n => if rngOk 0 n then .ok (.list (rngD 0 n)) r1 else .no
    | _ => .no := rfl
@[simp] theorem ev_mt (m : Mt) (a as : E) : evE C gl (.mt m a as) r = (evE C gl a r).bind fun x r1 => match x with
    | .str z => (evDs C gl as r1).bind fun xs r2 => R.of r2 (dMt m (.str z) xs)
    | _ => .no := rfl
@[simp] theorem ev_tell (h : Nat) (b : E) : evE C gl (.tell h b) r = telEv (C (1000 + h)) (evE C gl b r) := rfl
@[simp] theorem ds_nil : evDs C gl .nil r = .ok [] r := rfl
@[simp] theorem ds_cons (a b : E) : evDs C gl (.cons a b) r = (evE C gl a r).bind fun x r1 => (evDs C gl b r1).bind fun xs r2 => .ok (x :: xs) r2 := rfl
@[simp] theorem as_nil : evAs C gl .nil r = .ok [] r := rfl
@[simp] theorem as_cons (a b : E) : evAs C gl (.cons a b) r = (avOf a (evE C gl a) r).bind fun x r1 => (evAs C gl b r1).bind fun xs r2 => .ok (x :: xs) r2 := rfl
@[simp] theorem it_seq (a : E) : evI C gl (.iSeq a) r = (evE C gl a r).bind fun x r1 => R.of r1 (unList x) := rfl
@[simp] theorem it_rng (a b : E) : evI C gl (.iRng a b) r = (optZ a (evE C gl a) r).bind fun x r1 => (evE C gl b r1).bind fun y r2 => match x, y with
    | .int m, .int n => if rngOk m n then .ok (rngD m n) r2 else .no
    | _, _ => .no := rfl
@[simp] theorem it_zip (a b : E) : evI C gl (.iZip a b) r = (evE C gl a r).bind fun x r1 => (evE C gl b r1).bind fun y r2 => match unList x, unList y with
    | some xs, some ys => .ok (zipD xs ys) r2
    | _, _ => .no := rfl
@[simp] theorem it_enum (a : E) : evI C gl (.iEnum a) r = (evE C gl a r).bind fun x r1 => R.of r1 ((unList x).map (enumD 0)) := rfl
@[simp] theorem st_skip : evS C gl fuel .skip r = .nx r := rfl
@[simp] theorem st_seq (a b : S) : evS C gl fuel (.seq a b) r = (evS C gl fuel a r).andThen (evS C gl fuel b) := rfl
@[simp] theorem st_set (i : Nat) (e : E) : evS C gl fuel (.set i e) r = (evE C gl e r).fl fun x r1 => .of (put r1 i (.d x)) := rfl
@[simp] theorem st_setO (i : Nat) (e : E) : evS C gl fuel (.setO i e) r = (evF C gl e r).fl fun v r1 => match v with
    | .fr ds => .of (put r1 i (.own (.lst ds)))
    | _ => .no := rfl
@[simp] theorem st_asg (t : Tg) (e : E) : evS C gl fuel (.asg t e) r = (evE C gl e r).fl fun x r1 => .of (asgT t x r1) := rfl
@[simp] theorem st_par (ts : List (Nat × Bool)) (es : E) : evS C gl fuel (.par ts es) r = (evDs C gl es r).fl fun xs r1 => .of (putL r1 (ts.map (·.1)) xs) := rfl
@[simp] theorem st_app (i : Nat) (e : E) : evS C gl fuel (.app i e) r = match mutAt r i with
    | none => .no
    | some _ => (evE C gl e r).fl fun x r1 => match mutAt r1 i with
      | some ds => if ds.length < lenLim then .nx (putC r1 i (.lst (ds ++ [x]))) else .no
      | none => .no := rfl
@[simp] theorem st_setIx (i : Nat) (k : Int) (e : E) : evS C gl fuel (.setIx i k e) r = (evE C gl e r).fl fun x r1 => match mutAt r1 i with
    | some ds => match ixP ds.length k with
      | some j => .nx (putC r1 i (.lst (ds.set j x)))
      | none => .no
    | none => .no := rfl
@[simp] theorem st_fr (t : Tg) (it : E) (b : S) : evS C gl fuel (.fr t it b) r = (evI C gl it r).fl fun items r1 => forLoop (stepF C gl fuel t b) items r1 := rfl
@[simp] theorem st_wh (c : E) (b : S) : evS C gl fuel (.wh c b) r = whLoop (evE C gl c) (evS C gl fuel b) fuel r := rfl
@[simp] theorem st_ifs (c : E) (a b : S) : evS C gl fuel (.ifs c a b) r = (evE C gl c r).fl fun x r1 => match x with
    | .bool true => evS C gl fuel a r1
    | .bool false => evS C gl fuel b r1
    | _ => .no := rfl
@[simp] theorem st_ret (e : E) : evS C gl fuel (.ret e) r = (evE C gl e r).fl fun x r1 => .rt (.d x) r1 := rfl
@[simp] theorem st_retN : evS C gl fuel .retN r = .rt (.d .none) r := rfl
@[simp] theorem st_retF (e : E) : evS C gl fuel (.retF e) r = (evF C gl e r).fl fun v r1 => match v with
    | .par _ => .no
    | v => .rt v r1 := rfl
@[simp] theorem st_retO (i : Nat) : evS C gl fuel (.retO i) r = match r[i]? with
    | some (.own (.lst ds)) => .rt (.fr ds) r
    | _ => .no := rfl
@[simp] theorem st_rs (c : Str) : evS C gl fuel (.rs c) r = .ex c r := rfl
@[simp] theorem st_ex (e : E) : evS C gl fuel (.ex e) r = (evE C gl e r).fl fun _ r1 => .nx r1 := rfl
@[simp] theorem st_brk : evS C gl fuel .brk r = .bk r := rfl
@[simp] theorem st_cnt : evS C gl fuel .cnt r = .ct r := rfl
@[simp] theorem ef_lst (as : E) : evF C gl (.lst as) r = (evDs C gl as r).bind fun xs r1 => if xs.length ≤ lenLim then .ok (.fr xs) r1 else .no := rfl
@[simp] theorem ef_call (f : Nat) (as : E) : evF C gl (.call f as) r = (evAs C gl as r).bind fun avs r1 => doCall C f avs r1 := rfl
@[simp] theorem ef_add (a b : E) : evF C gl (.bin .Add a b) r = (evE C gl a r).bind fun x r1 => (evE C gl b r1).bind fun y r2 => match x, y with
    | .list xs, .list ys => if xs.length + ys.length ≤ lenLim then .ok (.fr (xs ++ ys)) r2 else .no
    | _, _ => .no := rfl
/-! ### names -/
@[simp] theorem readV_d {i : Nat} {x : D} (h : r[i]? = some (.d x)) : readV r i = .ok x r := by unfold readV; rw [h]
theorem readV_own {i : Nat} {ds : List D} (h : r[i]? = some (.own (.lst ds))) : readV r i = .ok (.list ds) (r.set i (.d (.list ds))) := by unfold readV; rw [h]
/-- a slot that may be stored to -/
def fr : Slot → Bool
  | .par _ => false
  | _ => true
/-- a slot that owns nothing -/
def ls : Slot → Bool
  | .non => true
  | .d _ => true
  | _ => false
theorem fr_ls {s : Slot} (h : ls s = true) : fr s = true := by cases s <;> first | rfl | cases h
@[simp] theorem fr_non : fr .non = true := rfl
@[simp] theorem fr_d (x : D) : fr (.d x) = true := rfl
@[simp] theorem fr_own (x : Ct) : fr (.own x) = true := rfl
@[simp] theorem ls_non : ls .non = true := rfl
@[simp] theorem ls_d (x : D) : ls (.d x) = true := rfl
@[simp] theorem put_eq {i : Nat} {x : Slot} : put r i x = match r[i]? with
    | some s => if fr s = true then some (r.set i x) else none
    | none => none := by
  unfold put free?
  cases r[i]? with
  | none => rfl
  | some s => cases s <;> rfl
@[simp] theorem lstAt_own {i : Nat} {ds : List D} (h : r[i]? = some (.own (.lst ds))) : lstAt r i = some ds := by unfold lstAt; rw [h]
@[simp] theorem lstAt_par {i : Nat} {ds : List D} (h : r[i]? = some (.par (.lst ds))) : lstAt r i = some ds := by unfold lstAt; rw [h]
@[simp] theorem lstAt_d {i : Nat} {ds : List D} (h : r[i]? = some (.d (.list ds))) : lstAt r i = some ds := by unfold lstAt; rw [h]
@[simp] theorem mutAt_own {i : Nat} {ds : List D} (h : r[i]? = some (.own (.lst ds))) : mutAt r i = some ds := by unfold mutAt; rw [h]
@[simp] theorem mutAt_par {i : Nat} {ds : List D} (h : r[i]? = some (.par (.lst ds))) : mutAt r i = some ds := by unfold mutAt; rw [h]
@[simp] theorem putC_ow {i : Nat} {c c' : Ct} (h : r[i]? = some (.own c')) : putC r i c = r.set i (.own c) := by unfold putC; rw [h]
@[simp] theorem putC_pa {i : Nat} {c c' : Ct} (h : r[i]? = some (.par c')) : putC r i c = r.set i (.par c) := by unfold putC; rw [h]
@[simp] theorem avOf_v_d {i : Nat} {x : D} {f : Rho → R D} (h : r[i]? = some (.d x)) : avOf (.v i) f r = .ok (.d x) r := by simp only [avOf, h]
@[simp] theorem avOf_v_own {i : Nat} {x : Ct} {f : Rho → R D} (h : r[i]? = some (.own x)) : avOf (.v i) f r = .ok (.sl i) r := by simp only [avOf, h]
@[simp] theorem avOf_v_par {i : Nat} {x : Ct} {f : Rho → R D} (h : r[i]? = some (.par x)) : avOf (.v i) f r = .ok (.sl i) r := by simp only [avOf, h]
@[simp] theorem avOf_kI (i : Int) {f : Rho → R D} : avOf (.kI i) f r = (f r).bind fun x r1 => .ok (.d x) r1 := rfl
@[simp] theorem avOf_kS (i : Str) {f : Rho → R D} : avOf (.kS i) f r = (f r).bind fun x r1 => .ok (.d x) r1 := rfl
@[simp] theorem avOf_kN {f : Rho → R D} : avOf .kN f r = (f r).bind fun x r1 => .ok (.d x) r1 := rfl
@[simp] theorem avOf_kB (b : Bool) {f : Rho → R D} : avOf (.kB b) f r = (f r).bind fun x r1 => .ok (.d x) r1 := rfl
@[simp] theorem avOf_gl (i : Nat) {f : Rho → R D} : avOf (.gl i) f r = (f r).bind fun x r1 => .ok (.d x) r1 := rfl
@[simp] theorem avOf_bin (o : Operator) (a b : E) {f : Rho → R D} : avOf (.bin o a b) f r = (f r).bind fun x r1 => .ok (.d x) r1 := rfl
@[simp] theorem avOf_neg (a : E) {f : Rho → R D} : avOf (.neg a) f r = (f r).bind fun x r1 => .ok (.d x) r1 := rfl
@[simp] theorem avOf_call (ff : Nat) (a : E) {f : Rho → R D} : avOf (.call ff a) f r = (f r).bind fun x r1 => .ok (.d x) r1 := rfl
@[simp] theorem avOf_bi (ff : Bi) (a : E) {f : Rho → R D} : avOf (.bi ff a) f r = (f r).bind fun x r1 => .ok (.d x) r1 := rfl
@[simp] theorem avOf_tup (a : E) {f : Rho → R D} : avOf (.tup a) f r = (f r).bind fun x r1 => .ok (.d x) r1 := rfl
@[simp] theorem avOf_lst (a : E) {f : Rho → R D} : avOf (.lst a) f r = (f r).bind fun x r1 => .ok (.d x) r1 := rfl
@[simp] theorem avOf_ix (a b : E) {f : Rho → R D} : avOf (.ix a b) f r = (f r).bind fun x r1 => .ok (.d x) r1 := rfl
@[simp] theorem avOf_sl (a b c : E) {f : Rho → R D} : avOf (.sl a b c) f r = (f r).bind fun x r1 => .ok (.d x) r1 := rfl
@[simp] theorem avOf_lenB (i : Nat) {f : Rho → R D} : avOf (.lenB i) f r = (f r).bind fun x r1 => .ok (.d x) r1 := rfl
@[simp] theorem avOf_ixB (i : Nat) (k : Int) {f : Rho → R D} : avOf (.ixB i k) f r = (f r).bind fun x r1 => .ok (.d x) r1 := rfl
@[simp] theorem avOf_ite (a b c : E) {f : Rho → R D} : avOf (.ite a b c) f r = (f r).bind fun x r1 => .ok (.d x) r1 := rfl
@[simp] theorem avOf_lRng (a : E) {f : Rho → R D} : avOf (.lRng a) f r = (f r).bind fun x r1 => .ok (.d x) r1 := rfl
@[simp] theorem avOf_lc (a b : E) (t : Tg) (c : E) (o : List Nat) {f : Rho → R D} : avOf (.lc a b t c o) f r = (f r).bind fun x r1 => .ok (.d x) r1 := rfl
@[simp] theorem avOf_cmp (o : CmpOp) (a b : E) {f : Rho → R D} : avOf (.cmp o a b) f r = (f r).bind fun x r1 => .ok (.d x) r1 := rfl
@[simp] theorem avOf_mt (m : Mt) (a b : E) {f : Rho → R D} : avOf (.mt m a b) f r = (f r).bind fun x r1 => .ok (.d x) r1 := rfl
@[simp] theorem avOf_rev (a : E) {f : Rho → R D} : avOf (.rev a) f r = (f r).bind fun x r1 => .ok (.d x) r1 := rfl
@[simp] theorem optI_nil {f : Rho → R D} : optI .nil f r = .ok none r := rfl
@[simp] theorem optB_nil {f : Rho → R D} : optB .nil f r = .ok true r := rfl
@[simp] theorem optZ_nil {f : Rho → R D} : optZ .nil f r = .ok (.int 0) r := rfl
def noNil : E → Bool
  | .nil => false
  | _ => true
theorem optI_e {e : E} {f : Rho → R D} (h : noNil e = true) : optI e f r = (f r).bind fun x r1 => match x with
    | .int i => .ok (some i) r1
    | _ => .no := by cases e <;> first | rfl | cases h
@[simp] theorem optI_v {i : Nat} {f : Rho → R D} : optI (.v i) f r = (f r).bind fun x r1 => match x with
    | .int i => .ok (some i) r1
    | _ => .no := rfl
@[simp] theorem optI_kI {i : Int} {f : Rho → R D} : optI (.kI i) f r = (f r).bind fun x r1 => match x with
    | .int i => .ok (some i) r1
    | _ => .no := rfl
@[simp] theorem optI_bin {o : Operator} {a b : E} {f : Rho → R D} : optI (.bin o a b) f r = (f r).bind fun x r1 => match x with
    | .int i => .ok (some i) r1
    | _ => .no := rfl
@[simp] theorem optI_neg {a : E} {f : Rho → R D} : optI (.neg a) f r = (f r).bind fun x r1 => match x with
    | .int i => .ok (some i) r1
    | _ => .no := rfl
@[simp] theorem optZ_v {i : Nat} {f : Rho → R D} : optZ (.v i) f r = f r := rfl
@[simp] theorem optZ_kI {i : Int} {f : Rho → R D} : optZ (.kI i) f r = f r := rfl
@[simp] theorem optZ_bin {o : Operator} {a b : E} {f : Rho → R D} : optZ (.bin o a b) f r = f r := rfl
theorem optB_e {e : E} {f : Rho → R D} (h : noNil e = true) : optB e f r = (f r).bind fun x r1 => match x with
    | .bool i => .ok i r1
    | _ => .no := by cases e <;> first | rfl | cases h
end
/-! ### loops -/
theorem forLoop_inv {step : D → Rho → Fl} (I : List D → Rho → Prop) : ∀ {xs : List D} {r : Rho}, I xs r → (∀ x ys r, I (x :: ys) r → ∃ r', (step x r = .nx r' ∨ step x r = .ct r') ∧ I ys r') → ∃ r', forLoop step xs r = .nx r' ∧ I [] r'
  | [], r, h, _ => ⟨r, rfl, h⟩
  | x :: xs, r, h, k => by
    obtain ⟨r1, e, h1⟩ := k x xs r h
    obtain ⟨r2, e2, h2⟩ := forLoop_inv I h1 k
    refine ⟨r2, ?_, h2⟩
    rw [← e2]
    rcases e with e | e <;> (unfold forLoop; rw [e]; cases xs <;> rfl)
@[simp] theorem forLoop_nil {step : D → Rho → Fl} {r : Rho} : forLoop step [] r = .nx r := rfl
theorem forLoop_cons {step : D → Rho → Fl} {x : D} {xs : List D} {r : Rho} : forLoop step (x :: xs) r = match step x r with
    | .nx r1 => forLoop step xs r1
    | .ct r1 => forLoop step xs r1
    | .bk r1 => .nx r1
    | .rt v r1 => .rt v r1
    | .ex c r1 => .ex c r1
    | .no => .no := rfl
@[simp] theorem lcLoop_nil {step : D → Rho → R (Option D)} {r : Rho} : lcLoop step [] r = .ok [] r := rfl
theorem lcLoop_cons {step : D → Rho → R (Option D)} {x : D} {xs : List D} {r : Rho} : lcLoop step (x :: xs) r = (step x r).bind fun o r1 => (lcLoop step xs r1).bind fun ys r2 => .ok (o.toList ++ ys) r2 := rfl
theorem lcLoop_map {step : D → Rho → R (Option D)} {r : Rho} {f : D → Option D} : ∀ {xs : List D}, (∀ x ∈ xs, step x r = .ok (f x) r) → lcLoop step xs r = .ok (xs.filterMap f) r
  | [], _ => rfl
  | x :: xs, h => by
    rw [lcLoop_cons, h x List.mem_cons_self, R.bind_ok, lcLoop_map fun y hy => h y (List.mem_cons_of_mem _ hy), R.bind_ok, List.filterMap_cons]
    cases f x <;> rfl
theorem len_wipe (r : Rho) : ∀ own, (wipeR r own).length = r.length
  | [] => rfl
  | i :: is => by show ((wipeR r is).set i .non).length = _; rw [List.length_set, len_wipe r is]
theorem len_back (r0 r : Rho) : ∀ own, (backR r0 r own).length = r.length
  | [] => rfl
  | i :: is => by show ((backR r0 r is).set i _).length = _; rw [List.length_set, len_back r0 r is]
theorem wipeR_out (r : Rho) {j : Nat} : ∀ {own : List Nat}, j ∉ own → (wipeR r own)[j]? = r[j]?
  | [], _ => rfl
  | i :: is, h => by
    show ((wipeR r is).set i .non)[j]? = _
    rw [List.getElem?_set_ne (fun z => h (by rw [z]; exact List.mem_cons_self)), wipeR_out r fun z => h (List.mem_cons_of_mem _ z)]
theorem backR_out (r0 r : Rho) {j : Nat} : ∀ {own : List Nat}, j ∉ own → (backR r0 r own)[j]? = r[j]?
  | [], _ => rfl
  | i :: is, h => by
    show ((backR r0 r is).set i _)[j]? = _
    rw [List.getElem?_set_ne (fun z => h (by rw [z]; exact List.mem_cons_self)), backR_out r0 r fun z => h (List.mem_cons_of_mem _ z)]
theorem backR_in (r0 r : Rho) {j : Nat} : ∀ {own : List Nat}, j ∈ own → j < r.length → (backR r0 r own)[j]? = some (r0.getD j .non)
  | [], h, _ => by cases h
  | i :: is, h, l => by
    show ((backR r0 r is).set i _)[j]? = _
    by_cases e : i = j
    · subst e
      rw [List.getElem?_set_self (by rw [len_back]; exact l)]
    · rw [List.getElem?_set_ne e, backR_in r0 r ((List.mem_cons.mp h).resolve_left fun z => e z.symm) l]
theorem loose_lt {r : Rho} {own : List Nat} (h : loose? r own = true) {i : Nat} (m : i ∈ own) : i < r.length := by
  have := List.all_eq_true.mp h i m
  cases e : r[i]? with
  | none => rw [e] at this; cases this
  | some s => exact (List.getElem?_eq_some_iff.mp e).1
theorem backR_wipe {r : Rho} {own : List Nat} (h : loose? r own = true) : backR r (wipeR r own) own = r := by
  refine (List.ext_getElem? fun j => ?_)
  by_cases m : j ∈ own
  · have l := loose_lt h m
    rw [backR_in r _ m (by rw [len_wipe]; exact l), List.getD_eq_getElem?_getD, List.getElem?_eq_getElem l]
    rfl
  · rw [backR_out _ _ m, wipeR_out _ m]
/-- a comprehension whose turns leave the names as they are -/
theorem ev_lc {elt it cond : E} {t : Tg} {own : List Nat} {r r1 : Rho} {items : List D} (f : D → Option D) (hi : evI C gl it r = .ok items r1) (hl : loose? r1 own = true) (hn : items.length ≤ lenLim)
    (h : ∀ x ∈ items, ∃ r' b, asgT t x (wipeR r1 own) = some r' ∧ optB cond (evE C gl cond) r' = .ok b r' ∧ wipeR r' own = wipeR r1 own ∧ if b = true then ∃ y, evE C gl elt r' = .ok y r' ∧ f x = some y else f x = none) :
    evE C gl (.lc elt it t cond own) r = .ok (.list (items.filterMap f)) r1 := by
  show (evI C gl it r).bind _ = _
  rw [hi, R.bind_ok]
  have : (loose? r1 own && decide (items.length ≤ lenLim)) = true := by rw [hl]; exact decide_eq_true hn
  rw [if_pos this, lcLoop_map (f := f) fun x hx => ?_, R.bind_ok, backR_wipe hl]
  obtain ⟨r', b, h1, h2, h3, h4⟩ := h x hx
  rw [h1]
  show ((optB cond (evE C gl cond) r').bind _).noex = _
  rw [h2, R.bind_ok]
  cases b with
  | true =>
    rw [if_pos rfl] at h4
    obtain ⟨y, e, ef⟩ := h4
    rw [if_pos rfl, e, ef, R.bind_ok, h3]
    rfl
  | false =>
    rw [if_neg (by decide)] at h4
    rw [if_neg (by decide), h4, h3]
    rfl
/-! ### data that can be compared -/
theorem all_lay : ∀ {xs : List D}, PyData.canLayAll0 xs = xs.all PyData.canLay0
  | [] => rfl
  | x :: xs => by rw [PyData.canLayAll0, List.all_cons, all_lay]
theorem depth_le {n : Nat} : ∀ {xs : List D}, PyData.depthAll xs ≤ n ↔ ∀ x ∈ xs, x.depth ≤ n
  | [] => (by simp [PyData.depthAll])
  | x :: xs => by
    rw [PyData.depthAll, List.forall_mem_cons, ← depth_le (xs := xs)]
    omega
/-- comparable data of at most so many layers -/
def Sh (n : Nat) (d : D) : Prop := d.canLay0 = true ∧ d.depth ≤ n
theorem Sh.mono {n m : Nat} {d : D} (h : Sh n d) (l : n ≤ m) : Sh m d := ⟨h.1, Nat.le_trans h.2 l⟩
theorem Sh.int (n : Nat) (i : Int) : Sh n (.int i) := ⟨rfl, Nat.zero_le _⟩
theorem Sh.none (n : Nat) : Sh n .none := ⟨rfl, Nat.zero_le _⟩
theorem Sh.bool (n : Nat) (b : Bool) : Sh n (.bool b) := ⟨rfl, Nat.zero_le _⟩
theorem Sh.str (n : Nat) {x : Str} (h : x.cps.all (· < 0x110000) = true) : Sh n (.str x) := ⟨h, Nat.zero_le _⟩
theorem Sh.tup {n : Nat} {xs : List D} (h : ∀ x ∈ xs, Sh n x) : Sh (n + 1) (.tuple xs) :=
  ⟨by rw [PyData.canLay0, all_lay]; exact List.all_eq_true.mpr fun x m => (h x m).1, by rw [PyData.depth]; exact Nat.succ_le_succ (depth_le.mpr fun x m => (h x m).2)⟩
theorem Sh.lst {n : Nat} {xs : List D} (h : ∀ x ∈ xs, Sh n x) : Sh (n + 1) (.list xs) :=
  ⟨by rw [PyData.canLay0, all_lay]; exact List.all_eq_true.mpr fun x m => (h x m).1, by rw [PyData.depth]; exact Nat.succ_le_succ (depth_le.mpr fun x m => (h x m).2)⟩
theorem Sh.ok {n : Nat} {d : D} (h : Sh n d) (l : n ≤ 64) : SeqAt.shaped d = true := by
  unfold SeqAt.shaped
  rw [h.1, Bool.true_and]
  exact decide_eq_true (Nat.le_trans h.2 l)
theorem cmp_eq {x y : D} {n m : Nat} (a : Sh n x) (b : Sh m y) (l : n ≤ 64) (l' : m ≤ 64) : dCmp .Eq x y = some (.bool (PyData.eqv x y)) := by
  show (if shaped2 x y then _ else _) = _
  rw [if_pos (by unfold shaped2; rw [a.ok l, b.ok l']; rfl)]
theorem cmp_ne {x y : D} {n m : Nat} (a : Sh n x) (b : Sh m y) (l : n ≤ 64) (l' : m ≤ 64) : dCmp .NotEq x y = some (.bool (!PyData.eqv x y)) := by
  show (if shaped2 x y then _ else _) = _
  rw [if_pos (by unfold shaped2; rw [a.ok l, b.ok l']; rfl)]
mutual
theorem eqv_refl : ∀ {d : D}, d.canLay0 = true → PyData.eqv d d = true
  | .none, _ => rfl
  | .bool b, _ => (by simp [PyData.eqv])
  | .int i, _ => (by simp [PyData.eqv])
  | .str x, _ => (by simp [PyData.eqv])
  | .list xs, h => by rw [PyData.eqv]; exact eqvs_refl h
  | .tuple xs, h => by rw [PyData.eqv]; exact eqvs_refl h
  | .dict _, h => by cases h
theorem eqvs_refl : ∀ {d : List D}, PyData.canLayAll0 d = true → PyData.eqvAll d d = true
  | [], _ => rfl
  | x :: xs, h => by
    rw [PyData.canLayAll0, Bool.and_eq_true] at h
    rw [PyData.eqvAll, eqv_refl h.1, eqvs_refl h.2]
    rfl
end
theorem Sh.refl {n : Nat} {d : D} (h : Sh n d) : PyData.eqv d d = true := eqv_refl h.1
end Ev
end
section
set_option Elab.async false
set_option maxRecDepth 100000
set_option linter.all false
set_option autoImplicit false
set_option maxHeartbeats 1000007
/-! P2: the draws of the laws. -/
namespace Ev
open PySem
variable {C : Calls} {gl : List D} {fuel : Nat}
section
variable {r : Rho}
@[simp] theorem ev_nilB {i : Nat} {op : CmpOp} : evE C gl (.nilB i op) r = match lstAt r i with
    | some ds => if SeqAt.shaped (.list ds) then match op with
      | .Eq => .ok (.bool ds.isEmpty) r
      | .NotEq => .ok (.bool (!ds.isEmpty)) r
      | _ => .no
      else .no
    | none => .no := rfl
@[simp] theorem ev_lenB {i : Nat} : evE C gl (.lenB i) r = match lstAt r i with
    | some ds => .ok (.int ds.length) r
    | none => .no := rfl
@[simp] theorem ev_ixB {i : Nat} {k : Int} : evE C gl (.ixB i k) r = match lstAt r i with
    | some ds => R.of r (atP ds k)
    | none => .no := rfl
@[simp] theorem ev_popB {i : Nat} {k : Int} : evE C gl (.popB i k) r = match mutAt r i with
    | some ds => match ixP ds.length k with
      | some j => match ds[j]? with
        | some x => .ok x (putC r i (.lst (ds.eraseIdx j)))
        | none => .no
      | none => .no
    | none => .no := rfl
@[simp] theorem ixP_zero (n : Nat) : ixP (n + 1) 0 = some 0 := by
  unfold ixP
  simp
end
def iL (l : List Int) : List D := l.map .int
theorem iL_sh (l : List Int) : Sh 1 (.list (iL l)) := .lst fun x m => by
  obtain ⟨i, _, rfl⟩ := List.mem_map.mp m
  exact .int _ _
@[simp] theorem iL_shaped (l : List Int) : SeqAt.shaped (.list (iL l)) = true := (iL_sh l).ok (by decide)
@[simp] theorem iL_nil : iL [] = [] := rfl
theorem iL_cons (a : Int) (l : List Int) : iL (a :: l) = .int a :: iL l := rfl
@[simp] theorem iL_isEmpty (l : List Int) : (iL l).isEmpty = l.isEmpty := by cases l <;> rfl
@[simp] theorem iL_length (l : List Int) : (iL l).length = l.length := List.length_map ..
@[simp] theorem shaped_nil : SeqAt.shaped (.list []) = true := rfl
@[simp] theorem bin_add (i j : Int) : dBin .Add (.int i) (.int j) = some (.int (i + j)) := rfl
@[simp] theorem bin_sub (i j : Int) : dBin .Sub (.int i) (.int j) = some (.int (i - j)) := rfl
theorem bin_mul {i j : Int} (h : i.natAbs.log2 + j.natAbs.log2 < 1000000) : dBin .Mult (.int i) (.int j) = some (.int (i * j)) := if_pos h
theorem bin_mod {i j : Int} (h : 0 < j) : dBin .Mod (.int i) (.int j) = some (.int (i % j)) := if_pos h
theorem bin_div {i j : Int} (h : 0 < j) (l : j.natAbs.log2 < 9000) : dBin .FloorDiv (.int i) (.int j) = some (.int (i / j)) := if_pos ⟨h, l⟩
theorem log2_lt {n k : Nat} (h : n < 2 ^ (k + 1)) : n.log2 ≤ k := by
  by_cases z : n = 0
  · subst z; exact Nat.zero_le _
  · exact Nat.le_of_lt_succ ((Nat.log2_lt z).mpr h)
@[simp] theorem cmp_lt (i j : Int) : dCmp .Lt (.int i) (.int j) = some (.bool (decide (i < j))) := rfl
@[simp] theorem cmp_le (i j : Int) : dCmp .LtE (.int i) (.int j) = some (.bool (decide (i ≤ j))) := rfl
@[simp] theorem cmp_gt (i j : Int) : dCmp .Gt (.int i) (.int j) = some (.bool (decide (j < i))) := rfl
@[simp] theorem cmp_ge (i j : Int) : dCmp .GtE (.int i) (.int j) = some (.bool (decide (j ≤ i))) := rfl
@[simp] theorem cmp_eqI (i j : Int) : dCmp .Eq (.int i) (.int j) = some (.bool (decide (i = j))) := by
  rw [cmp_eq (Sh.int 0 i) (Sh.int 0 j) (by decide) (by decide)]
  rfl
@[simp] theorem cmp_neI (i j : Int) : dCmp .NotEq (.int i) (.int j) = some (.bool (!decide (i = j))) := by
  rw [cmp_ne (Sh.int 0 i) (Sh.int 0 j) (by decide) (by decide)]
  rfl
@[simp] theorem of_map_bool (r : Rho) (b : Bool) : R.of r ((some b).map PyData.bool) = .ok (.bool b) r := rfl
@[simp] theorem bi_len_l (xs : List D) : dBi .len [.list xs] = some (.int xs.length) := rfl
@[simp] theorem bi_len_t (xs : List D) : dBi .len [.tuple xs] = some (.int xs.length) := rfl
@[simp] theorem bi_int (i : Int) : dBi .int [.int i] = some (.int i) := rfl
theorem take_run (bag : List Int) {m : Int} (hm : 0 < m) : runF C gl d__law_take [.ob (.lst (iL bag)), .d (.int m)] = .ok (.d (.int (bag.headD 0 % m))) [.lst (iL bag.tail)] := by
  cases bag with
  | nil => simp [runF, d__law_take, b__law_take, slotOf, bin_mod hm, retC, outsOf]
  | cons a bag =>
    have sh : SeqAt.shaped (.list (.int a :: iL bag)) = true := iL_shaped (a :: bag)
    simp [runF, d__law_take, b__law_take, slotOf, bin_mod hm, retC, outsOf, iL_cons, sh]
end Ev
end
section
set_option Elab.async false
set_option maxRecDepth 100000
set_option linter.all false
set_option autoImplicit false
set_option maxHeartbeats 1000007
/-! P3: the laws' streets. -/
namespace Ev
open PySem
abbrev CC (tl : List Df) (tels : Nat → List Arg → RC) (j : Nat) : Calls := calls GL (tabM ++ tl) tels j
variable {tl : List Df} {tels : Nat → List Arg → RC} {j : Nat} {fuel : Nat}
@[simp] theorem doCall_eq {C : Calls} {f : Nat} {avs : List AV} {r : Rho} : doCall C f avs r = match gather r [] avs with
  | none => .no
  | some args => match C f args with
    | .ok rv outs => .ok rv (putBack r avs outs)
    | .ex c outs => .ex c (putBack r avs outs)
    | .no => .no := rfl
@[simp] theorem gather_nil {r : Rho} {s : List Nat} : gather r s [] = some [] := rfl
@[simp] theorem gather_d {r : Rho} {s : List Nat} {x : D} {as : List AV} : gather r s (.d x :: as) = (gather r s as).map (.d x :: ·) := rfl
@[simp] theorem gather_sl {r : Rho} {s : List Nat} {i : Nat} {as : List AV} : gather r s (.sl i :: as) = if i ∈ s then none else (ctAt r i).bind fun c => (gather r (i :: s) as).map (.ob c :: ·) := rfl
@[simp] theorem ctAt_o {r : Rho} {i : Nat} {c : Ct} (h : r[i]? = some (.own c)) : ctAt r i = some c := by unfold ctAt; rw [h]
@[simp] theorem ctAt_p {r : Rho} {i : Nat} {c : Ct} (h : r[i]? = some (.par c)) : ctAt r i = some c := by unfold ctAt; rw [h]
@[simp] theorem putBack_nil {r : Rho} {outs : List Ct} : putBack r [] outs = r := rfl
@[simp] theorem putBack_d {r : Rho} {x : D} {as : List AV} {outs : List Ct} : putBack r (.d x :: as) outs = putBack r as outs := rfl
@[simp] theorem putBack_sl {r : Rho} {i : Nat} {as : List AV} {c : Ct} {outs : List Ct} : putBack r (.sl i :: as) (c :: outs) = putBack (putC r i c) as outs := rfl
@[simp] theorem ofRv_d {r : Rho} {x : D} : ofRv r (.d x) = .ok x r := rfl
@[simp] theorem ofRv_fr {r : Rho} {x : List D} : ofRv r (.fr x) = .ok (.list x) r := rfl
@[simp] theorem asgT_nm {i : Nat} {x : D} {r : Rho} : asgT (.nm i) x r = put r i (.d x) := by rw [asgT]
@[simp] theorem asgT_tp {ts : Tg} {x : D} {r : Rho} : asgT (.tp ts) x r = (unTup x).bind fun xs => asgL ts xs r := by rw [asgT]
@[simp] theorem asgL_nil {r : Rho} : asgL .nil [] r = some r := by rw [asgL]
@[simp] theorem asgL_cons {a b : Tg} {x : D} {xs : List D} {r : Rho} : asgL (.cons a b) (x :: xs) r = (asgT a x r).bind fun r' => asgL b xs r' := by rw [asgL]
@[simp] theorem unTup_t {xs : List D} : unTup (.tuple xs) = some xs := rfl
@[simp] theorem unList_t {xs : List D} : unList (.tuple xs) = some xs := rfl
@[simp] theorem unList_l {xs : List D} : unList (.list xs) = some xs := rfl
@[simp] theorem slotOf_d {x : D} : slotOf (.d x) = .d x := rfl
@[simp] theorem slotOf_o {c : Ct} : slotOf (.ob c) = .par c := rfl
theorem bin_addT {xs ys : List D} (h : xs.length + ys.length ≤ lenLim) : dBin .Add (.tuple xs) (.tuple ys) = some (.tuple (xs ++ ys)) := if_pos h
theorem bin_addL {xs ys : List D} (h : xs.length + ys.length ≤ lenLim) : dBin .Add (.list xs) (.list ys) = some (.list (xs ++ ys)) := if_pos h
theorem bin_addS {x y : Str} (h : x.length + y.length ≤ lenLim) : dBin .Add (.str x) (.str y) = some (.str (x ++ y)) := if_pos h
@[simp] theorem lenLim_le (n : Nat) (h : n ≤ 1000) : n ≤ lenLim := Nat.le_trans h (by decide)
/-- a draw -/
def tk (bag : List Int) (m : Int) : Int := bag.headD 0 % m
theorem tk_lt (bag : List Int) {m : Int} (h : 0 < m) : 0 ≤ tk bag m ∧ tk bag m < m := ⟨Int.emod_nonneg _ (by omega), Int.emod_lt_of_pos _ h⟩
theorem take_call (hj : 1 ≤ j) (bag : List Int) {m : Int} (hm : 0 < m) : CC tl tels j 103 [.ob (.lst (iL bag)), .d (.int m)] = .ok (.d (.int (tk bag m))) [.lst (iL bag.tail)] := by
  rw [show CC tl tels j 103 _ = _ from call_at (d := d__law_take) rfl (by decide) hj]
  exact take_run bag hm
theorem rng_ok {a b : Int} (h1 : -1000000000 ≤ a) (h2 : b ≤ 1000000000) (h3 : b - a ≤ 16000000) (h4 : a ≤ 1000000000) (h5 : -1000000000 ≤ b) : rngOk a b = true := decide_eq_true ⟨h1, h4, h5, h2, h3⟩
theorem rngD_len (a b : Int) : (rngD a b).length = (b - a).toNat := by simp [rngD]
theorem choice_call (hj : 2 ≤ j) (bag : List Int) {xs : List D} (hx : xs ≠ []) (hl : xs.length ≤ 1000) : ∃ x ∈ xs, CC tl tels j 104 [.ob (.lst (iL bag)), .d (.list xs)] = .ok (.d x) [.lst (iL bag.tail)] := by
  have hp : 0 < xs.length := List.length_pos_iff.mpr hx
  have hm : (0 : Int) < xs.length := by omega
  obtain ⟨h0, h1⟩ := tk_lt bag hm
  have hi : (tk bag xs.length).toNat < xs.length := by omega
  refine ⟨xs[(tk bag xs.length).toNat], List.getElem_mem hi, ?_⟩
  rw [show CC tl tels j 104 _ = _ from call_at (d := d__law_choice) rfl (by decide) (by omega)]
  have at_ : atP xs (tk bag xs.length) = some xs[(tk bag xs.length).toNat] := by
    unfold atP ixP
    rw [if_pos h0, if_pos h1]
    exact List.getElem?_eq_getElem hi
  have ix : dIx (.list xs) (.int (tk bag xs.length)) = some xs[(tk bag xs.length).toNat] := at_
  simp [runF, d__law_choice, b__law_choice, take_call (show 1 ≤ j - 1 by omega) bag hm, ix, retC, outsOf]
/-! ### streets -/
structure Street where
  ws : List (Int × Int)
  as : List (Int × Int × Int)
  ss : List (Int × Int)
def p2 (p : Int × Int) : D := .tuple [.int p.1, .int p.2]
def p3 (p : Int × Int × Int) : D := .tuple [.int p.1, .int p.2.1, .int p.2.2]
def Street.d (s : Street) : D := .tuple [.tuple (s.ws.map p2), .tuple (s.as.map p3), .tuple (s.ss.map p2)]
def okW (p : Int × Int) : Prop := 0 ≤ p.1 ∧ p.1 ≤ 12 ∧ 1 ≤ p.2 ∧ p.2 ≤ 9
def okA (p : Int × Int × Int) : Prop := 0 ≤ p.1 ∧ p.1 ≤ 12 ∧ 2 ≤ p.2.1 ∧ p.2.1 ≤ 9 ∧ 1 ≤ p.2.2 ∧ p.2.2 ≤ 9
def okS (p : Int × Int) : Prop := 0 ≤ p.1 ∧ p.1 ≤ 20 ∧ 0 ≤ p.2 ∧ p.2 ≤ 5
/-- a street as the laws draw it -/
structure Drawn (s : Street) : Prop where
  w : s.ws.length ≤ 2 ∧ ∀ p ∈ s.ws, okW p
  a : (1 ≤ s.as.length ∧ s.as.length ≤ 2) ∧ ∀ p ∈ s.as, okA p
  s : (1 ≤ s.ss.length ∧ s.ss.length ≤ 3) ∧ ∀ p ∈ s.ss, okS p
theorem walls_loop (hj : 1 ≤ j) {n : Int} (hn : 0 ≤ n ∧ n ≤ 2) (bag : List Int) {s1 : Slot} (hs : fr s1 = true) (A B : Slot) :
    ∃ bag' s1' ws, forLoop (stepF (CC tl tels j) GL fuel (.nm 1) b__law_street_2) (rngD 0 n) [.par (.lst (iL bag)), s1, .d (.tuple []), A, B] = .nx [.par (.lst (iL bag')), s1', .d (.tuple (List.map p2 ws)), A, B] ∧
      fr s1' = true ∧ ws.length = n.toNat ∧ ∀ p ∈ ws, okW p := by
  obtain ⟨r, e, bag', s1', ws, h1, h2, h3, h4⟩ := forLoop_inv (step := stepF (CC tl tels j) GL fuel (.nm 1) b__law_street_2) (xs := rngD 0 n) (r := [.par (.lst (iL bag)), s1, .d (.tuple []), A, B])
    (fun ys r => ∃ bag s1 ws, fr s1 = true ∧ r = [.par (.lst (iL bag)), s1, .d (.tuple (List.map p2 ws)), A, B] ∧ ws.length + ys.length = n.toNat ∧ ∀ p ∈ ws, okW p)
    ⟨bag, s1, [], hs, rfl, by simp [rngD_len], by simp⟩ fun x ys r ⟨bag, s1, ws, h1, h2, h3, h4⟩ => by
      subst h2
      have hl : (List.map p2 ws).length + 1 ≤ lenLim := by
        rw [List.length_map]
        simp at h3
        exact Nat.le_trans (show _ ≤ 3 by omega) (by decide)
      have t1 := tk_lt bag (m := 13) (by decide)
      have t2 := tk_lt bag.tail (m := 9) (by decide)
      refine ⟨[.par (.lst (iL bag.tail.tail)), .d x, .d (.tuple (List.map p2 (ws ++ [(tk bag 13, 1 + tk bag.tail 9)]))), A, B], .inl ?_, bag.tail.tail, .d x, _, rfl, rfl, ?_, ?_⟩
      · simp [stepF, b__law_street_2, h1, take_call hj bag (m := 13) (by decide), take_call hj bag.tail (m := 9) (by decide), bin_addT (ys := [_]) hl, p2]
      · simp at h3 ⊢
        omega
      · intro p hp
        rcases (List.mem_append.mp hp) with hp | hp
        · exact h4 p hp
        · rw [(List.mem_singleton.mp hp)]
          exact ⟨t1.1, by show tk bag 13 ≤ 12; omega, by show 1 ≤ 1 + tk bag.tail 9; omega, by show 1 + tk bag.tail 9 ≤ 9; omega⟩
  subst h2
  exact ⟨bag', s1', ws, e, h1, by simpa using h3, h4⟩
end Ev
end
section
set_option Elab.async false
set_option maxRecDepth 100000
set_option linter.all false
set_option autoImplicit false
set_option maxHeartbeats 1000007
/-! P4: the laws' streets, done; their bags. -/
namespace Ev
open PySem
variable {tl : List Df} {tels : Nat → List Arg → RC} {j : Nat} {fuel : Nat}
theorem awn_loop (hj : 1 ≤ j) {n : Int} (hn : 0 ≤ n ∧ n ≤ 2) (bag : List Int) {s1 : Slot} (hs : fr s1 = true) (A B : Slot) :
    ∃ bag' s1' ws, forLoop (stepF (CC tl tels j) GL fuel (.nm 1) b__law_street_1) (rngD 0 n) [.par (.lst (iL bag)), s1, A, .d (.tuple []), B] = .nx [.par (.lst (iL bag')), s1', A, .d (.tuple (List.map p3 ws)), B] ∧
      fr s1' = true ∧ ws.length = n.toNat ∧ ∀ p ∈ ws, okA p := by
  obtain ⟨r, e, bag', s1', ws, h1, h2, h3, h4⟩ := forLoop_inv (step := stepF (CC tl tels j) GL fuel (.nm 1) b__law_street_1) (xs := rngD 0 n) (r := [.par (.lst (iL bag)), s1, A, .d (.tuple []), B])
    (fun ys r => ∃ bag s1 ws, fr s1 = true ∧ r = [.par (.lst (iL bag)), s1, A, .d (.tuple (List.map p3 ws)), B] ∧ ws.length + ys.length = n.toNat ∧ ∀ p ∈ ws, okA p)
    ⟨bag, s1, [], hs, rfl, by simp [rngD_len], by simp⟩ fun x ys r ⟨bag, s1, ws, h1, h2, h3, h4⟩ => by
      subst h2
      have hl : (List.map p3 ws).length + 1 ≤ lenLim := by
        rw [List.length_map]
        simp at h3
        exact Nat.le_trans (show _ ≤ 3 by omega) (by decide)
      have t1 := tk_lt bag (m := 13) (by decide)
      have t2 := tk_lt bag.tail (m := 8) (by decide)
      have t3 := tk_lt bag.tail.tail (m := 9) (by decide)
      refine ⟨[.par (.lst (iL bag.tail.tail.tail)), .d x, A, .d (.tuple (List.map p3 (ws ++ [(tk bag 13, 2 + tk bag.tail 8, 1 + tk bag.tail.tail 9)]))), B], .inl ?_, bag.tail.tail.tail, .d x, _, rfl, rfl, ?_, ?_⟩
      · simp [stepF, b__law_street_1, h1, take_call hj bag (m := 13) (by decide), take_call hj bag.tail (m := 8) (by decide), take_call hj bag.tail.tail (m := 9) (by decide), bin_addT (ys := [_]) hl, p3]
      · simp at h3 ⊢
        omega
      · intro p hp
        rcases (List.mem_append.mp hp) with hp | hp
        · exact h4 p hp
        · rw [(List.mem_singleton.mp hp)]
          exact ⟨t1.1, by show tk bag 13 ≤ 12; omega, by show 2 ≤ 2 + tk bag.tail 8; omega, by show 2 + tk bag.tail 8 ≤ 9; omega, by show 1 ≤ 1 + tk bag.tail.tail 9; omega, by show 1 + tk bag.tail.tail 9 ≤ 9; omega⟩
  subst h2
  exact ⟨bag', s1', ws, e, h1, by simpa using h3, h4⟩
theorem seat_loop (hj : 2 ≤ j) {n : Int} (hn : 0 ≤ n ∧ n ≤ 3) (bag : List Int) {s1 : Slot} (hs : fr s1 = true) (A B : Slot) :
    ∃ bag' s1' ws, forLoop (stepF (CC tl tels j) GL fuel (.nm 1) b__law_street_0) (rngD 0 n) [.par (.lst (iL bag)), s1, A, B, .d (.tuple [])] = .nx [.par (.lst (iL bag')), s1', A, B, .d (.tuple (List.map p2 ws))] ∧
      fr s1' = true ∧ ws.length = n.toNat ∧ ∀ p ∈ ws, okS p := by
  obtain ⟨r, e, bag', s1', ws, h1, h2, h3, h4⟩ := forLoop_inv (step := stepF (CC tl tels j) GL fuel (.nm 1) b__law_street_0) (xs := rngD 0 n) (r := [.par (.lst (iL bag)), s1, A, B, .d (.tuple [])])
    (fun ys r => ∃ bag s1 ws, fr s1 = true ∧ r = [.par (.lst (iL bag)), s1, A, B, .d (.tuple (List.map p2 ws))] ∧ ws.length + ys.length = n.toNat ∧ ∀ p ∈ ws, okS p)
    ⟨bag, s1, [], hs, rfl, by simp [rngD_len], by simp⟩ fun x ys r ⟨bag, s1, ws, h1, h2, h3, h4⟩ => by
      subst h2
      have hl : (List.map p2 ws).length + 1 ≤ lenLim := by
        rw [List.length_map]
        simp at h3
        exact Nat.le_trans (show _ ≤ 4 by omega) (by decide)
      have t1 := tk_lt bag (m := 21) (by decide)
      obtain ⟨y, hy, ey⟩ := choice_call (tl := tl) (tels := tels) hj bag.tail (xs := iL [0, 0, 1, 2, 5]) (by decide) (by decide)
      obtain ⟨i, hi, rfl⟩ := List.mem_map.mp hy
      have ey : CC tl tels j 104 [.ob (.lst (iL bag.tail)), .d (.list [.int 0, .int 0, .int 1, .int 2, .int 5])] = .ok (.d (.int i)) [.lst (iL bag.tail.tail)] := ey
      refine ⟨[.par (.lst (iL bag.tail.tail)), .d x, A, B, .d (.tuple (List.map p2 (ws ++ [(tk bag 21, i)])))], .inl ?_, bag.tail.tail, .d x, _, rfl, rfl, ?_, ?_⟩
      · simp [stepF, b__law_street_0, h1, take_call (show 1 ≤ j by omega) bag (m := 21) (by decide), ey, bin_addT (ys := [_]) hl, p2]
      · simp at h3 ⊢
        omega
      · intro p hp
        rcases (List.mem_append.mp hp) with hp | hp
        · exact h4 p hp
        · rw [(List.mem_singleton.mp hp)]
          have : 0 ≤ i ∧ i ≤ 5 := by simp at hi; omega
          exact ⟨t1.1, by show tk bag 21 ≤ 20; omega, this.1, this.2⟩
  subst h2
  exact ⟨bag', s1', ws, e, h1, by simpa using h3, h4⟩
theorem street_call (hj : 3 ≤ j) (bag : List Int) : ∃ s bag', Drawn s ∧ CC tl tels j 106 [.ob (.lst (iL bag))] = .ok (.d s.d) [.lst (iL bag')] := by
  have t1 := tk_lt bag (m := 3) (by decide)
  obtain ⟨bag1, s1, ws, e1, f1, l1, o1⟩ := walls_loop (tl := tl) (tels := tels) (fuel := 0) (j := j - 1) (by omega) (n := tk bag 3) ⟨t1.1, by omega⟩ bag.tail (s1 := .non) rfl (.d (.tuple [])) (.d (.tuple []))
  have t2 := tk_lt bag1 (m := 2) (by decide)
  obtain ⟨bag2, s2, as, e2, f2, l2, o2⟩ := awn_loop (tl := tl) (tels := tels) (fuel := 0) (j := j - 1) (by omega) (n := 1 + tk bag1 2) ⟨by omega, by omega⟩ bag1.tail (s1 := s1) f1 (.d (.tuple (ws.map p2))) (.d (.tuple []))
  have t3 := tk_lt bag2 (m := 3) (by decide)
  obtain ⟨bag3, s3, ss, e3, f3, l3, o3⟩ := seat_loop (tl := tl) (tels := tels) (fuel := 0) (j := j - 1) (by omega) (n := 1 + tk bag2 3) ⟨by omega, by omega⟩ bag2.tail (s1 := s2) f2 (.d (.tuple (ws.map p2))) (.d (.tuple (as.map p3)))
  refine ⟨⟨ws, as, ss⟩, bag3, ⟨⟨by show ws.length ≤ 2; omega, o1⟩, ⟨⟨by show 1 ≤ as.length; omega, by show as.length ≤ 2; omega⟩, o2⟩, ⟨by show 1 ≤ ss.length; omega, by show ss.length ≤ 3; omega⟩, o3⟩, ?_⟩
  rw [show CC tl tels j 106 _ = _ from call_at (d := d__law_street) rfl (by decide) (by omega)]
  have g1 := rng_ok (a := 0) (b := tk bag 3) (by omega) (by omega) (by omega) (by omega) (by omega)
  have g2 := rng_ok (a := 0) (b := 1 + tk bag1 2) (by omega) (by omega) (by omega) (by omega) (by omega)
  have g3 := rng_ok (a := 0) (b := 1 + tk bag2 3) (by omega) (by omega) (by omega) (by omega) (by omega)
  simp [runF, d__law_street, b__law_street, take_call (show 1 ≤ j - 1 by omega) bag (m := 3) (by decide), g1, e1, take_call (show 1 ≤ j - 1 by omega) bag1 (m := 2) (by decide), g2, e2, take_call (show 1 ≤ j - 1 by omega) bag2 (m := 3) (by decide), g3, e3, retC, outsOf, Street.d]
end Ev
end
section
set_option Elab.async false
set_option maxRecDepth 100000
set_option linter.all false
set_option autoImplicit false
set_option maxHeartbeats 1000007
/-! P5: the laws' bags. -/
namespace Ev
open PySem
variable {tl : List Df} {tels : Nat → List Arg → RC} {j : Nat} {fuel : Nat}
theorem log2_of {i : Int} {n : Nat} (h : i.natAbs < 2 ^ (n + 1)) : i.natAbs.log2 ≤ n := log2_lt h
/-- factors of at most 400 bits -/
def Sm (i : Int) : Prop := i.natAbs < 2 ^ 400
theorem mul_sm {i j : Int} (h : Sm i) (k : Sm j) : dBin .Mult (.int i) (.int j) = some (.int (i * j)) := bin_mul (by
  have h1 := log2_of (n := 399) h
  have h2 := log2_of (n := 399) k
  omega)
theorem sm_of {i : Int} {n : Nat} (h : i.natAbs < n) (l : n ≤ 2 ^ 400) : Sm i := Nat.lt_of_lt_of_le h l
theorem sm64 {i : Int} (h1 : -1000000000000000000 < i) (h2 : i < 1000000000000000000) : Sm i := sm_of (n := 1000000000000000000) (by omega) (by decide)
theorem rngD_mem {a b : Int} {x : D} (h : x ∈ rngD a b) : ∃ i : Int, x = .int i ∧ a ≤ i ∧ i < b := by
  obtain ⟨i, hi, rfl⟩ := (List.mem_map.mp h)
  have := List.mem_range.mp hi
  exact ⟨a + i, rfl, by omega, by omega⟩
theorem at_in {xs : List D} {i : Int} (h0 : 0 ≤ i) (h1 : i < xs.length) : ∃ x ∈ xs, atP xs i = some x := by
  have hi : i.toNat < xs.length := by omega
  refine ⟨xs[i.toNat], List.getElem_mem hi, ?_⟩
  unfold atP ixP
  rw [if_pos h0, if_pos h1]
  exact List.getElem?_eq_getElem hi
def primes : List Int := [2147483647, 2147483629, 2147483587, 2147483579, 2147483563, 2147483549, 2147483543, 2147483497]
theorem prime_at {m : Int} (h0 : 0 ≤ m) (h1 : m < 8) : ∃ p : Int, dIx (.tuple (iL primes)) (.int m) = some (.int p) ∧ 0 < p ∧ p < 2147483648 := by
  obtain ⟨x, hx, e⟩ := at_in (xs := iL primes) h0 h1
  obtain ⟨p, hp, rfl⟩ := List.mem_map.mp hx
  refine ⟨p, e, ?_⟩
  simp [primes] at hp
  omega
theorem cell_call (hj : 1 ≤ j) (ns : List Int) {k : Int} (h0 : 0 ≤ k) (h1 : k ≤ 1000) : ∃ c : Int, CC tl tels j 100 [.d (.list (iL ns)), .d (.int k)] = .ok (.d (.int c)) [] := by
  rw [show CC tl tels j 100 _ = _ from call_at (d := d__law_cell) rfl (by decide) hj]
  have m1 := mul_sm (i := 7919) (j := k) (sm64 (by decide) (by decide)) (sm64 (by omega) (by omega))
  by_cases lt : k < ns.length
  · obtain ⟨x, hx, e⟩ := at_in (xs := iL ns) h0 (by simpa using lt)
    obtain ⟨c, _, rfl⟩ := List.mem_map.mp hx
    have ix : dIx (.list (iL ns)) (.int k) = some (.int c) := e
    exact ⟨c, by simp [runF, d__law_cell, b__law_cell, lt, ix, retC, outsOf]⟩
  · by_cases z : ns = []
    · subst z
      have lt : ¬ k < 0 := by omega
      exact ⟨7919 * k + 101, by simp [runF, d__law_cell, b__law_cell, lt, m1, retC, outsOf]⟩
    · have hp : 0 < ns.length := List.length_pos_iff.mpr z
      have hp' : (0 : Int) < ns.length := by omega
      have hz : ¬ (ns.length : Int) = 0 := by omega
      obtain ⟨x, hx, e⟩ := at_in (xs := iL ns) (i := k % ns.length) (Int.emod_nonneg _ hz) (by simpa using Int.emod_lt_of_pos k hp')
      obtain ⟨c, _, rfl⟩ := List.mem_map.mp hx
      have ix : dIx (.list (iL ns)) (.int (k % ns.length)) = some (.int c) := e
      exact ⟨c % 1000003 + 7919 * k, by simp [runF, d__law_cell, b__law_cell, lt, z, ix, m1, bin_mod hp', bin_mod (i := c) (j := 1000003) (by decide), retC, outsOf]⟩
end Ev
end
section
set_option Elab.async false
set_option maxRecDepth 100000
set_option linter.all false
set_option autoImplicit false
set_option maxHeartbeats 1000007
/-! P6: the laws' bags, done. -/
namespace Ev
open PySem
variable {tl : List Df} {tels : Nat → List Arg → RC} {j : Nat} {fuel : Nat}
theorem iL_snoc (l : List Int) (v : Int) : iL l ++ [.int v] = iL (l ++ [v]) := by simp [iL]
theorem draw_turn {C : Calls} {gl : List D} (ns : D) {k m b c q t : Int} (hk : 0 ≤ k ∧ k ≤ 1000) (hb : 0 < b ∧ b < 1000000) (ht : 0 ≤ t ∧ t < 1000) (l : List Int) (hl : l.length ≤ 1000) {s8 s9 : Slot} (f8 : fr s8 = true) (f9 : fr s9 = true) :
    ∃ v w z, stepF C gl fuel (.nm 8) b__law_draws_0 (.int t) [.d ns, .d (.int k), .d (.int m), .d (.int b), .d (.tuple (iL primes)), .d (.int c), .d (.int q), .own (.lst (iL l)), s8, s9] =
      .nx [.d ns, .d (.int k), .d (.int m), .d (.int b), .d (.tuple (iL primes)), .d (.int c), .d (.int w), .own (.lst (iL (l ++ [v]))), .d (.int t), .d (.int z)] := by
  obtain ⟨p1, e1, a1, b1⟩ := prime_at (m := t % 8) (by omega) (by omega)
  obtain ⟨p2, e2, a2, b2⟩ := prime_at (m := (3 * t + k) % 8) (by omega) (by omega)
  obtain ⟨p3, e3, a3, b3⟩ := prime_at (m := (t + 5) % 8) (by omega) (by omega)
  have c0 := Int.emod_nonneg c (b := p1) (by omega)
  have c1 := Int.emod_lt_of_pos c a1
  have t2 : 0 ≤ t * t ∧ t * t ≤ 1000000 := ⟨Int.mul_nonneg ht.1 ht.1, Int.le_trans (Int.mul_le_mul (show t ≤ 1000 by omega) (show t ≤ 1000 by omega) ht.1 (by decide)) (by decide)⟩
  have r8 := bin_mod (i := t) (j := 8) (by decide)
  have x1 := mul_sm (i := 2) (j := t) (sm64 (by decide) (by decide)) (sm64 (by omega) (by omega))
  have x2 := mul_sm (i := 2 * t) (j := t) (sm64 (by omega) (by omega)) (sm64 (by omega) (by omega))
  have e4 : 2 * t * t = 2 * (t * t) := Int.mul_assoc 2 t t
  have x3 := mul_sm (i := c % p1) (j := 48271 + 2 * t * t) (sm64 (by omega) (by omega)) (sm64 (by omega) (by omega))
  have x4 := mul_sm (i := 7919) (j := t + 1) (sm64 (by decide) (by decide)) (sm64 (by omega) (by omega))
  have x5 := mul_sm (i := 7919 * (t + 1)) (j := t + 1) (sm64 (by omega) (by omega)) (sm64 (by omega) (by omega))
  have x6 := mul_sm (i := 104729) (j := k) (sm64 (by decide) (by decide)) (sm64 (by omega) (by omega))
  have x7 := mul_sm (i := 3) (j := t) (sm64 (by decide) (by decide)) (sm64 (by omega) (by omega))
  have r2 := bin_mod (i := 3 * t + k) (j := 8) (by decide)
  have r3 := bin_mod (i := t + 5) (j := 8) (by decide)
  obtain ⟨y, hy⟩ : ∃ y, y = c % p1 * (48271 + 2 * t * t) + 7919 * (t + 1) * (t + 1) + 104729 * k := ⟨_, rfl⟩
  have y0 := Int.emod_nonneg y (b := p2) (by omega)
  have y1 := Int.emod_lt_of_pos y a2
  have z1 : 0 ≤ y % p2 * (y % p2) ∧ y % p2 * (y % p2) ≤ 4611686018427387904 := ⟨Int.mul_nonneg y0 y0, Int.le_trans (Int.mul_le_mul (show y % p2 ≤ 2147483648 by omega) (show y % p2 ≤ 2147483648 by omega) y0 (by decide)) (by decide)⟩
  have x8 := mul_sm (i := y % p2) (j := y % p2) (sm64 (by omega) (by omega)) (sm64 (by omega) (by omega))
  have x9 := mul_sm (i := y % p2 * (y % p2)) (j := y % p2) (sm_of (n := 4611686018427387905) (by omega) (by decide)) (sm64 (by omega) (by omega))
  have m1 := bin_mod (i := c) a1
  have m2 := bin_mod (i := y) a2
  have m3 := bin_mod (i := y % p2 * (y % p2) * (y % p2)) a3
  have m4 := fun i : Int => bin_mod (i := i) hb.1
  have dv := bin_div (i := q) hb.1 (Nat.lt_of_le_of_lt (log2_lt (k := 20) (show b.natAbs < 2 ^ 21 by omega)) (by decide))
  have hl' : l.length < lenLim := Nat.lt_of_le_of_lt hl (by decide)
  by_cases hq : 0 < q
  · refine ⟨q % b, q / b, q, ?_⟩
    simp [stepF, b__law_draws_0, f8, f9, r8, e1, m1, x1, x2, x3, x4, x5, x6, x7, r2, e2, ← hy, m2, x8, x9, r3, e3, m3, hq, m4, dv, hl', iL_snoc]
  · refine ⟨y % p2 * (y % p2) * (y % p2) % p3 % b, q / b, y % p2 * (y % p2) * (y % p2) % p3, ?_⟩
    simp [stepF, b__law_draws_0, f8, f9, r8, e1, m1, x1, x2, x3, x4, x5, x6, x7, r2, e2, ← hy, m2, x8, x9, r3, e3, m3, hq, m4, dv, hl', iL_snoc]
theorem pow18 : dBin .Pow (.int 10) (.int 18) = some (.int 1000000000000000000) := by
  show (if (0 : Int) ≤ 18 ∧ (18 : Int) ≤ 1000 ∧ (10 : Int).natAbs < 1000 then some (PyData.int (10 ^ (18 : Int).toNat)) else none) = _
  rw [if_pos (by decide)]
  rfl
theorem draws_call (hj : 2 ≤ j) (ns : List Int) {k : Int} (h0 : 0 ≤ k) (h1 : k ≤ 1000) : ∃ l, CC tl tels j 101 [.d (.list (iL ns)), .d (.int k), .d (.int 150), .d (.int 27720)] = .ok (.fr (iL l)) [] := by
  rw [show CC tl tels j 101 _ = _ from call_at (d := d__law_draws) rfl (by decide) (by omega)]
  obtain ⟨c, ec⟩ := cell_call (tl := tl) (tels := tels) (j := j - 1) (by omega) ns h0 h1
  obtain ⟨q, eq⟩ : ∃ q : Int, q = if 1000000000000000000 ≤ c then c else 0 := ⟨_, rfl⟩
  obtain ⟨r, e, l, w, s8, s9, f8, f9, hr, hn⟩ := forLoop_inv (step := stepF (CC tl tels (j - 1)) GL 0 (.nm 8) b__law_draws_0) (xs := rngD 0 150)
    (r := [.d (.list (iL ns)), .d (.int k), .d (.int 150), .d (.int 27720), .d (.tuple (iL primes)), .d (.int c), .d (.int q), .own (.lst (iL [])), .non, .non])
    (fun ys r => ∃ l w s8 s9, fr s8 = true ∧ fr s9 = true ∧ r = [.d (.list (iL ns)), .d (.int k), .d (.int 150), .d (.int 27720), .d (.tuple (iL primes)), .d (.int c), .d (.int w), .own (.lst (iL l)), s8, s9] ∧ l.length + ys.length = 150 ∧ ∀ y ∈ ys, y ∈ rngD 0 150)
    ⟨[], q, .non, .non, rfl, rfl, rfl, by simp [rngD_len], fun _ h => h⟩ fun x ys r ⟨l, w, s8, s9, f8, f9, hr, hn, hm⟩ => by
      subst hr
      obtain ⟨t, rfl, t0, t1⟩ := rngD_mem (hm x List.mem_cons_self)
      simp at hn
      obtain ⟨v, w', z, e⟩ := draw_turn (fuel := 0) (C := CC tl tels (j - 1)) (gl := GL) (.list (iL ns)) (m := 150) (b := 27720) (c := c) (q := w) ⟨h0, h1⟩ ⟨by decide, by decide⟩ ⟨t0, by omega⟩ l (by omega) f8 f9
      exact ⟨_, .inl e, l ++ [v], w', _, _, rfl, rfl, rfl, by simp; omega, fun y hy => hm y (List.mem_cons_of_mem _ hy)⟩
  refine ⟨l, ?_⟩
  subst hr
  have e : forLoop (stepF (CC tl tels (j - 1)) GL 0 (.nm 8) b__law_draws_0) (rngD 0 150) [.d (.list (iL ns)), .d (.int k), .d (.int 150), .d (.int 27720), .d (.tuple [.int 2147483647, .int 2147483629, .int 2147483587, .int 2147483579, .int 2147483563, .int 2147483549, .int 2147483543, .int 2147483497]), .d (.int c), .d (.int q), .own (.lst []), .non, .non] = _ := e
  have g := rng_ok (a := 0) (b := 150) (by decide) (by decide) (by decide) (by decide) (by decide)
  by_cases hc : 1000000000000000000 ≤ c
  · rw [if_pos hc] at eq
    subst eq
    simp [runF, d__law_draws, b__law_draws, ec, pow18, hc, e, g, retC, outsOf]
  · rw [if_neg hc] at eq
    subst eq
    simp [runF, d__law_draws, b__law_draws, ec, pow18, hc, e, g, retC, outsOf]
theorem bag_call (hj : 3 ≤ j) (ns : List Int) {k : Int} (h0 : 0 ≤ k) (h1 : k ≤ 1000) : ∃ l, CC tl tels j 102 [.d (.list (iL ns)), .d (.int k)] = .ok (.fr (iL l)) [] := by
  obtain ⟨l, e⟩ := draws_call (tl := tl) (tels := tels) (j := j - 1) (by omega) ns h0 h1
  refine ⟨l, ?_⟩
  rw [show CC tl tels j 102 _ = _ from call_at (d := d__law_bag) rfl (by decide) (by omega)]
  simp [runF, d__law_bag, b__law_bag, e, retC, outsOf]
end Ev
end
section
set_option Elab.async false
set_option maxRecDepth 100000
set_option linter.all false
set_option autoImplicit false
set_option maxHeartbeats 1000007
/-! P7: what is a street. -/
namespace Ev
open PySem
variable {tl : List Df} {tels : Nat → List Arg → RC} {j : Nat} {fuel : Nat} {C : Calls} {gl : List D}
@[simp] theorem GL_0 : GL[0]? = some (.int 9) := rfl
@[simp] theorem GL_1 : GL[1]? = some (.int 6) := rfl
@[simp] theorem GL_2 : GL[2]? = some (.tuple [.int 0, .int 1]) := rfl
@[simp] theorem GL_3 : GL[3]? = some (.tuple [.int 1, .int 0]) := rfl
@[simp] theorem GL_4 : GL[4]? = some (.tuple [.int 0, .int 0]) := rfl
@[simp] theorem GL_5 : GL[5]? = some (.tuple [.str "wall", .str "awning", .str "seat"]) := rfl
@[simp] theorem GL_6 : GL[6]? = some (.tuple [.str "less", .str "same", .str "more"]) := rfl
def isInt : D → Bool
  | .int _ => true
  | _ => false
@[simp] theorem isi_none_int  : dIsi .none .int = some false := rfl
@[simp] theorem isi_none_bool  : dIsi .none .bool = some false := rfl
@[simp] theorem isi_none_str  : dIsi .none .str = some false := rfl
@[simp] theorem isi_none_tuple  : dIsi .none .tuple = some false := rfl
@[simp] theorem isi_none_list  : dIsi .none .list = some false := rfl
@[simp] theorem isi_bool_int (b : Bool) : dIsi (.bool b) .int = some true := rfl
@[simp] theorem isi_bool_bool (b : Bool) : dIsi (.bool b) .bool = some true := rfl
@[simp] theorem isi_bool_str (b : Bool) : dIsi (.bool b) .str = some false := rfl
@[simp] theorem isi_bool_tuple (b : Bool) : dIsi (.bool b) .tuple = some false := rfl
@[simp] theorem isi_bool_list (b : Bool) : dIsi (.bool b) .list = some false := rfl
@[simp] theorem isi_int_int (b : Int) : dIsi (.int b) .int = some true := rfl
@[simp] theorem isi_int_bool (b : Int) : dIsi (.int b) .bool = some false := rfl
@[simp] theorem isi_int_str (b : Int) : dIsi (.int b) .str = some false := rfl
@[simp] theorem isi_int_tuple (b : Int) : dIsi (.int b) .tuple = some false := rfl
@[simp] theorem isi_int_list (b : Int) : dIsi (.int b) .list = some false := rfl
@[simp] theorem isi_str_int (b : Str) : dIsi (.str b) .int = some false := rfl
@[simp] theorem isi_str_bool (b : Str) : dIsi (.str b) .bool = some false := rfl
@[simp] theorem isi_str_str (b : Str) : dIsi (.str b) .str = some true := rfl
@[simp] theorem isi_str_tuple (b : Str) : dIsi (.str b) .tuple = some false := rfl
@[simp] theorem isi_str_list (b : Str) : dIsi (.str b) .list = some false := rfl
@[simp] theorem isi_list_int (b : List D) : dIsi (.list b) .int = some false := rfl
@[simp] theorem isi_list_bool (b : List D) : dIsi (.list b) .bool = some false := rfl
@[simp] theorem isi_list_str (b : List D) : dIsi (.list b) .str = some false := rfl
@[simp] theorem isi_list_tuple (b : List D) : dIsi (.list b) .tuple = some false := rfl
@[simp] theorem isi_list_list (b : List D) : dIsi (.list b) .list = some true := rfl
@[simp] theorem isi_tuple_int (b : List D) : dIsi (.tuple b) .int = some false := rfl
@[simp] theorem isi_tuple_bool (b : List D) : dIsi (.tuple b) .bool = some false := rfl
@[simp] theorem isi_tuple_str (b : List D) : dIsi (.tuple b) .str = some false := rfl
@[simp] theorem isi_tuple_tuple (b : List D) : dIsi (.tuple b) .tuple = some true := rfl
@[simp] theorem isi_tuple_list (b : List D) : dIsi (.tuple b) .list = some false := rfl
/-- no dict -/
def nd : D → Bool
  | .dict _ => false
  | _ => true
theorem nd_of {d : D} (h : d.canLay0 = true) : nd d = true := by cases d <;> first | rfl | cases h
def wholeB (x : D) (lo hi : Int) : Bool := match x with
  | .int i => decide (lo ≤ i) && decide (i ≤ hi)
  | _ => false
theorem plain_call (hj : 1 ≤ j) {x : D} (h : nd x = true) : CC tl tels j 0 [.d x] = .ok (.d (.bool (isInt x))) [] := by
  rw [show CC tl tels j 0 _ = _ from call_at (d := d_is_plain) rfl (by decide) hj]
  cases x <;> first | rfl | cases h
theorem whole_call (hj : 2 ≤ j) {x : D} (h : nd x = true) (lo hi : Int) : CC tl tels j 1 [.d x, .d (.int lo), .d (.int hi)] = .ok (.d (.bool (wholeB x lo hi))) [] := by
  rw [show CC tl tels j 1 _ = _ from call_at (d := d_is_whole) rfl (by decide) (by omega)]
  have p := plain_call (tl := tl) (tels := tels) (j := j - 1) (by omega) h
  cases x with
  | int i => by_cases le : lo ≤ i <;> simp [runF, d_is_whole, b_is_whole, p, isInt, le, wholeB, retC, outsOf]
  | dict _ => cases h
  | _ => simp [runF, d_is_whole, b_is_whole, p, isInt, wholeB, retC, outsOf]
def rowB (bs : List (Int × Int)) : D → Bool
  | .tuple ps => decide (ps.length = bs.length) && (List.zip ps bs).all fun q => wholeB q.1 q.2.1 q.2.2
  | _ => false
def rowsB (v : D) (lo hi : Int) (bs : List (Int × Int)) : Bool := match v with
  | .tuple xs => (decide (lo ≤ xs.length) && decide ((xs.length : Int) ≤ hi)) && xs.all (rowB bs)
  | _ => false
/-- a loop that gives v at the first item without p -/
theorem forLoop_all {step : D → Rho → Fl} {I : Rho → Prop} {p : D → Bool} {v : Rv} : ∀ {xs : List D} {r : Rho}, I r → (∀ x ∈ xs, ∀ r, I r → ∃ r', I r' ∧ step x r = if p x = true then .nx r' else .rt v r') →
    ∃ r', I r' ∧ forLoop step xs r = if xs.all p = true then .nx r' else .rt v r'
  | [], r, h, _ => ⟨r, h, rfl⟩
  | x :: xs, r, h, k => by
    obtain ⟨r1, h1, e1⟩ := k x List.mem_cons_self r h
    rw [forLoop_cons, e1, List.all_cons]
    by_cases px : p x = true
    · rw [if_pos px, px, Bool.true_and]
      exact forLoop_all h1 fun y hy => k y (List.mem_cons_of_mem _ hy)
    · refine ⟨r1, h1, ?_⟩
      rw [if_neg px, if_neg (by simp [px])]
theorem allB_map {α : Type} (f : α → Bool) : ∀ l : List α, allB (l.map fun x => PyData.bool (f x)) = some (l.map f)
  | [] => rfl
  | x :: l => by
    show (allB (l.map _)).map (f x :: ·) = _
    rw [allB_map f l]
    rfl
theorem bi_all {α : Type} (f : α → Bool) (l : List α) : dBi .all [.list (l.map fun x => PyData.bool (f x))] = some (.bool (l.all f)) := by
  show (allB _).map _ = _
  rw [allB_map]
  show some (PyData.bool _) = _
  rw [List.all_map]
  rfl
theorem bi_any {α : Type} (f : α → Bool) (l : List α) : dBi .any [.list (l.map fun x => PyData.bool (f x))] = some (.bool (l.any f)) := by
  show (allB _).map _ = _
  rw [allB_map]
  show some (PyData.bool _) = _
  rw [List.any_map]
  rfl
def partF : D → Option D
  | .tuple [p, .tuple [.int a, .int b]] => some (.bool (wholeB p a b))
  | _ => none
theorem parts_eq : ∀ (ps : List D) (bs : List (Int × Int)), (zipD ps (bs.map p2)).filterMap partF = (List.zip ps bs).map fun q => PyData.bool (wholeB q.1 q.2.1 q.2.2)
  | [], _ => by simp [zipD]
  | _ :: _, [] => by simp [zipD]
  | p :: ps, b :: bs => by
    show (.tuple [p, p2 b] :: zipD ps (bs.map p2)).filterMap partF = _
    rw [List.filterMap_cons]
    show PyData.bool (wholeB p b.1 b.2) :: _ = _
    rw [parts_eq ps bs]
    rfl
theorem zipD_mem {xs ys : List D} {z : D} (h : z ∈ zipD xs ys) : ∃ x ∈ xs, ∃ y ∈ ys, z = .tuple [x, y] := by
  unfold zipD at h
  rw [← List.map_uncurry_zip_eq_zipWith] at h
  obtain ⟨⟨x, y⟩, hm, rfl⟩ := List.mem_map.mp h
  exact ⟨x, (List.of_mem_zip hm).1, y, (List.of_mem_zip hm).2, rfl⟩
theorem zipD_len (xs ys : List D) : (zipD xs ys).length = min xs.length ys.length := by simp [zipD]
@[simp] theorem unList_none {d : D} (h : unList d = none) : unList d = none := h
theorem at0 (x : D) (xs : List D) : dIx (.tuple (x :: xs)) (.int 0) = some x := by
  show atP (x :: xs) 0 = _
  unfold atP ixP
  simp
theorem at1 (x y : D) (xs : List D) : dIx (.tuple (x :: y :: xs)) (.int 1) = some y := by
  show (ixP (x :: y :: xs).length 1).bind _ = _
  have : ixP (x :: y :: xs).length 1 = some 1 := by
    unfold ixP
    rw [if_pos (by decide), if_pos (by simp only [List.length_cons]; omega)]
    rfl
  rw [this]
  rfl
theorem at2 (x y z : D) (xs : List D) : dIx (.tuple (x :: y :: z :: xs)) (.int 2) = some z := by
  show (ixP (x :: y :: z :: xs).length 2).bind _ = _
  have : ixP (x :: y :: z :: xs).length 2 = some 2 := by
    unfold ixP
    rw [if_pos (by decide), if_pos (by simp only [List.length_cons]; omega)]
    rfl
  rw [this]
  rfl
theorem row_turn (hj : 2 ≤ j) {v lo hi : D} {bs : List (Int × Int)} (hb : bs.length ≤ 10) {x : D} (hx : x.canLay0 = true) {s4 : Slot} (f4 : fr s4 = true) :
    stepF (CC tl tels j) GL fuel (.nm 4) b_are_rows_0 x [.d v, .d lo, .d hi, .d (.list (bs.map p2)), s4, .non, .non] =
      if rowB bs x = true then .nx [.d v, .d lo, .d hi, .d (.list (bs.map p2)), .d x, .non, .non] else .rt (.d (.bool false)) [.d v, .d lo, .d hi, .d (.list (bs.map p2)), .d x, .non, .non] := by
  cases x with
  | tuple ps =>
    by_cases hl : ps.length = bs.length
    · have hl' : (ps.length : Int) = bs.length := by omega
      have lc := ev_lc (C := CC tl tels j) (gl := GL) (elt := .call 1 (.cons (.v 5) (.cons (.ix (.v 6) (.kI 0)) (.cons (.ix (.v 6) (.kI 1)) .nil)))) (it := .iZip (.v 4) (.v 3)) (cond := .nil) (t := .tp (.cons (.nm 5) (.cons (.nm 6) .nil))) (own := [5, 6])
        (r := [.d v, .d lo, .d hi, .d (.list (bs.map p2)), .d (.tuple ps), .non, .non]) (r1 := [.d v, .d lo, .d hi, .d (.list (bs.map p2)), .d (.tuple ps), .non, .non]) (items := zipD ps (bs.map p2)) partF (by simp) (by simp [loose?])
        (by rw [zipD_len, hl, List.length_map]; exact lenLim_le _ (by omega)) fun z hz => by
          obtain ⟨p, hp, y, hy, rfl⟩ := zipD_mem hz
          obtain ⟨b, _, rfl⟩ := (List.mem_map.mp hy)
          have np : nd p = true := nd_of (List.all_eq_true.mp (by rw [← all_lay]; exact hx) p hp)
          refine ⟨[.d v, .d lo, .d hi, .d (.list (bs.map p2)), .d (.tuple ps), .d p, .d (p2 b)], true, by simp [wipeR], by simp, by simp [wipeR], ?_⟩
          rw [if_pos rfl]
          exact ⟨.bool (wholeB p b.1 b.2), by simp [p2, at0, at1, whole_call hj np], rfl⟩
      rw [parts_eq] at lc
      have al := bi_all (fun q : D × Int × Int => wholeB q.1 q.2.1 q.2.2) (List.zip ps bs)
      have hr : rowB bs (.tuple ps) = (List.zip ps bs).all fun q => wholeB q.1 q.2.1 q.2.2 := by
        show (decide (ps.length = bs.length) && _) = _
        rw [decide_eq_true hl, Bool.true_and]
      rw [hr]
      cases q : (List.zip ps bs).all fun q => wholeB q.1 q.2.1 q.2.2 with
      | true => rw [q] at al; simp [stepF, b_are_rows_0, f4, hl', lc, al]
      | false => rw [q] at al; simp [stepF, b_are_rows_0, f4, hl', lc, al]
    · have hl' : ¬ (ps.length : Int) = bs.length := by omega
      have hr : rowB bs (.tuple ps) = false := by
        show (decide (ps.length = bs.length) && _) = _
        rw [decide_eq_false hl, Bool.false_and]
      rw [hr]
      simp [stepF, b_are_rows_0, f4, hl']
  | dict _ => cases hx
  | _ => simp [stepF, b_are_rows_0, f4, rowB]
theorem rows_call (hj : 3 ≤ j) {v : D} (hv : v.canLay0 = true) (lo hi : Int) {bs : List (Int × Int)} (hb : bs.length ≤ 10) : CC tl tels j 2 [.d v, .d (.int lo), .d (.int hi), .d (.list (bs.map p2))] = .ok (.d (.bool (rowsB v lo hi bs))) [] := by
  rw [show CC tl tels j 2 _ = _ from call_at (d := d_are_rows) rfl (by decide) (by omega)]
  cases v with
  | tuple xs =>
    obtain ⟨r, ⟨s4, f4, hr⟩, e⟩ := forLoop_all (step := stepF (CC tl tels (j - 1)) GL 0 (.nm 4) b_are_rows_0) (xs := xs) (p := rowB bs) (v := .d (.bool false)) (r := [.d (.tuple xs), .d (.int lo), .d (.int hi), .d (.list (bs.map p2)), .non, .non, .non])
      (I := fun r => ∃ s4, fr s4 = true ∧ r = [.d (.tuple xs), .d (.int lo), .d (.int hi), .d (.list (bs.map p2)), s4, .non, .non]) ⟨.non, rfl, rfl⟩ fun x hx r ⟨s4, f4, hr⟩ => by
        subst hr
        exact ⟨_, ⟨.d x, rfl, rfl⟩, row_turn (by omega) hb (List.all_eq_true.mp (by rw [← all_lay]; exact hv) x hx) f4⟩
    subst hr
    by_cases l1 : lo ≤ xs.length
    · by_cases l2 : (xs.length : Int) ≤ hi
      · cases q : xs.all (rowB bs) with
        | true => rw [q] at e; simp [runF, d_are_rows, b_are_rows, l1, l2, e, rowsB, q, retC, outsOf]
        | false => rw [q] at e; simp [runF, d_are_rows, b_are_rows, l1, l2, e, rowsB, q, retC, outsOf]
      · simp [runF, d_are_rows, b_are_rows, l1, l2, rowsB, retC, outsOf]
    · simp [runF, d_are_rows, b_are_rows, l1, rowsB, retC, outsOf]
  | dict _ => cases hv
  | _ => simp [runF, d_are_rows, b_are_rows, rowsB, retC, outsOf]
/-- whether a value is a street -/
def streetB : D → Bool
  | .tuple [w, a, s] => (rowsB w 0 3 [(0, 20), (1, 9)] && rowsB a 1 3 [(0, 20), (1, 9), (1, 9)]) && rowsB s 1 4 [(0, 20), (0, 5)]
  | _ => false
theorem street_is (hj : 4 ≤ j) {v : D} (hv : v.canLay0 = true) : CC tl tels j 3 [.d v] = .ok (.d (.bool (streetB v))) [] := by
  rw [show CC tl tels j 3 _ = _ from call_at (d := d_is_street) rfl (by decide) (by omega)]
  cases v with
  | tuple xs =>
    by_cases l : xs.length = 3
    · match xs, l with
      | [w, a, s], _ =>
        have lay := fun x hx => List.all_eq_true.mp (by rw [← all_lay]; exact hv) x (hx : x ∈ [w, a, s])
        have c1 := rows_call (tl := tl) (tels := tels) (j := j - 1) (by omega) (lay w (by simp)) 0 3 (bs := [(0, 20), (1, 9)]) (by decide)
        have c2 := rows_call (tl := tl) (tels := tels) (j := j - 1) (by omega) (lay a (by simp)) 1 3 (bs := [(0, 20), (1, 9), (1, 9)]) (by decide)
        have c3 := rows_call (tl := tl) (tels := tels) (j := j - 1) (by omega) (lay s (by simp)) 1 4 (bs := [(0, 20), (0, 5)]) (by decide)
        simp only [List.map_cons, List.map_nil, p2] at c1 c2 c3
        cases q1 : rowsB w 0 3 [(0, 20), (1, 9)] with
        | false => rw [q1] at c1; simp [runF, d_is_street, b_is_street, at0, at1, at2, putL, c1, q1, streetB, retC, outsOf]
        | true =>
          cases q2 : rowsB a 1 3 [(0, 20), (1, 9), (1, 9)] with
          | false => rw [q1] at c1; rw [q2] at c2; simp [runF, d_is_street, b_is_street, at0, at1, at2, putL, c1, c2, q1, q2, streetB, retC, outsOf]
          | true => rw [q1] at c1; rw [q2] at c2; simp [runF, d_is_street, b_is_street, at0, at1, at2, putL, c1, c2, c3, q1, q2, streetB, retC, outsOf]
    · have l' : ¬ (xs.length : Int) = 3 := by omega
      have e : streetB (.tuple xs) = false := by
        match xs, l with
        | [], _ => rfl
        | [_], _ => rfl
        | [_, _], _ => rfl
        | [_, _, _], l => exact absurd rfl l
        | _ :: _ :: _ :: _ :: _, _ => rfl
      simp [runF, d_is_street, b_is_street, l', e, retC, outsOf]
  | dict _ => cases hv
  | _ => simp [runF, d_is_street, b_is_street, streetB, retC, outsOf]
end Ev
end
section
set_option Elab.async false
set_option maxRecDepth 100000
set_option linter.all false
set_option autoImplicit false
set_option maxHeartbeats 1000007
/-! P8: texts of streets: written. -/
namespace Ev
open PySem
variable {tl : List Df} {tels : Nat → List Arg → RC} {j : Nat} {fuel : Nat} {C : Calls} {gl : List D}
/-! ### joined and split texts -/
theorem strsOf_map : ∀ l : List Str, strsOf (l.map .str) = some l
  | [] => rfl
  | x :: l => by
    show (strsOf (l.map .str)).map (x :: ·) = _
    rw [strsOf_map l]
    rfl
theorem mt_join {sep : Str} {zs : List Str} (h : (zs.map (·.length)).sum + zs.length * sep.length ≤ lenLim) : dMt .join (.str sep) [.list (zs.map .str)] = some (.str (Txt.join sep zs)) := by
  show (strsOf _).bind _ = _
  rw [strsOf_map]
  exact if_pos h
theorem mt_split {z sep : Str} (h : sep.length ≠ 0) (l : z.length + 2 ≤ lenLim) : dMt .split (.str z) [.str sep] = some (.list ((Txt.split z sep).map .str)) := if_pos ⟨h, l⟩
theorem sum_le {b : Nat} : ∀ {zs : List Str}, (∀ z ∈ zs, z.length ≤ b) → (zs.map (·.length)).sum ≤ zs.length * b
  | [], _ => Nat.zero_le _
  | z :: zs, h => by
    have h1 := h z List.mem_cons_self
    have h2 := sum_le fun y hy => h y (List.mem_cons_of_mem _ hy)
    rw [(List.map_cons), List.sum_cons, List.length_cons, Nat.succ_mul]
    omega
theorem app_len (x y : Str) : (x ++ y).length = x.length + y.length := by
  rw [TL.len_tl, TL.len_tl x, TL.len_tl y, TL.tl_append, List.length_append]
theorem join_len (y : Str) : ∀ zs : List Str, (Txt.join y zs).length ≤ (zs.map (·.length)).sum + zs.length * y.length
  | [] => by rw [TL.join_eq]; exact Nat.zero_le _
  | [z] => by
    rw [TL.join_eq]
    show z.length ≤ _
    rw [(List.map_cons), List.sum_cons]
    omega
  | z :: x :: r => by
    have ih := join_len y (x :: r)
    rw [TL.join_eq] at ih ⊢
    show (z ++ y ++ Str.join y (x :: r)).length ≤ _
    rw [app_len, app_len, List.map_cons, List.sum_cons, List.length_cons, Nat.succ_mul]
    omega
theorem join_has {y : Str} {c : Nat} : ∀ {zs : List Str} {p : Str}, p ∈ zs → c ∈ TL.tl p → c ∈ TL.tl (Str.join y zs)
  | [z], p, h, hc => by rw [List.mem_singleton.mp h] at hc; exact hc
  | z :: x :: r, p, h, hc => by
    show c ∈ TL.tl (z ++ y ++ Str.join y (x :: r))
    rw [TL.tl_append, TL.tl_append, List.mem_append, List.mem_append]
    rcases (List.mem_cons.mp h) with rfl | h
    · exact .inl (.inl hc)
    · exact .inr (join_has h hc)
/-- the signs of a text are code points -/
def cpOk (x : Str) : Prop := ∀ c ∈ TL.tl x, c < 0x110000
theorem cpOk.lay {x : Str} (h : cpOk x) : (PyData.str x).canLay0 = true := by
  show x.cps.all _ = true
  rw [← Array.all_toList]
  exact List.all_eq_true.mpr fun c hc => decide_eq_true (h c hc)
theorem cpOk.sh {x : Str} (h : cpOk x) (n : Nat) : Sh n (.str x) := ⟨h.lay, Nat.zero_le _⟩
theorem split_cp {x y p : Str} (h : cpOk x) (m : p ∈ Txt.split x y) : cpOk p := fun c hc => h c (by
  have := join_has (y := y) m hc
  rw [StrLaws.join_split] at this
  exact this)
theorem join_cp {y : Str} (hy : cpOk y) : ∀ {zs : List Str}, (∀ z ∈ zs, cpOk z) → cpOk (Txt.join y zs)
  | [], _ => by rw [TL.join_eq]; intro c hc; cases hc
  | [z], h => by rw [TL.join_eq]; exact h z List.mem_cons_self
  | z :: x :: r, h => by
    have ih := join_cp hy (zs := x :: r) fun y hy => h y (List.mem_cons_of_mem _ hy)
    rw [TL.join_eq] at ih ⊢
    intro c hc
    have hc : c ∈ TL.tl (z ++ y ++ Str.join y (x :: r)) := hc
    rw [TL.tl_append, TL.tl_append, List.mem_append, List.mem_append] at hc
    rcases hc with (hc | hc) | hc
    · exact h z List.mem_cons_self c hc
    · exact hy c hc
    · exact ih c hc
/-! ### lines -/
abbrev strI (i : Int) : Str := Str.ofString (toString i)
def lineT (w : Str) (row : List Int) : Str := Txt.join " " (w :: row.map strI)
def rowD (row : List Int) : D := .tuple (iL row)
def rowsD (rows : List (List Int)) : D := .tuple (rows.map rowD)
/-- rows as a street has them -/
structure Bd (rows : List (List Int)) : Prop where
  few : rows.length ≤ 4
  row : ∀ r ∈ rows, r.length ≤ 3 ∧ ∀ i ∈ r, 0 ≤ i ∧ i ≤ 20
theorem strI_len : ∀ n : Nat, n < 21 → (strI (n : Int)).length ≤ 2 ∧ (strI (n : Int)).length ≠ 0 ∧ (∀ c ∈ TL.tl (strI (n : Int)), 48 ≤ c ∧ c ≤ 57) := by decide +kernel
theorem strI_at {i : Int} (h : 0 ≤ i ∧ i ≤ 20) : (strI i).length ≤ 2 ∧ (strI i).length ≠ 0 ∧ (∀ c ∈ TL.tl (strI i), 48 ≤ c ∧ c ≤ 57) := by
  have := strI_len i.toNat (by omega)
  rw [show ((i.toNat : Nat) : Int) = i by omega] at this
  exact this
def unI : D → Int
  | .int i => i
  | _ => 0
theorem unI_iL (l : List Int) : (iL l).map unI = l := by
  rw [iL, List.map_map]
  exact List.map_id'' (fun _ => rfl) l
theorem line_len {w : Str} (hw : w.length ≤ 10) {row : List Int} (h : row.length ≤ 3 ∧ ∀ i ∈ row, 0 ≤ i ∧ i ≤ 20) :
    (((w :: row.map strI).map (·.length)).sum + (w :: row.map strI).length * 1 ≤ 20) ∧ (lineT w row).length ≤ 20 := by
  have s := sum_le (b := 2) (zs := row.map strI) fun z hz => by
    obtain ⟨i, hi, rfl⟩ := List.mem_map.mp hz
    exact (strI_at (h.2 i hi)).1
  rw [List.length_map] at s
  have e : ((w :: row.map strI).map (·.length)).sum + (w :: row.map strI).length * 1 ≤ 20 := by
    rw [List.map_cons, List.sum_cons, List.length_cons, List.length_map]
    omega
  exact ⟨e, Nat.le_trans (join_len " " _) e⟩
theorem bi_str {i : Int} (h : 0 ≤ i ∧ i ≤ 20) : dBi .str [.int i] = some (.str (strI i)) := if_pos (Nat.lt_of_le_of_lt (log2_of (i := i) (n := 10) (by omega)) (by decide))
def strF : D → Option D
  | .int i => some (.str (strI i))
  | _ => none
theorem strF_iL : ∀ l : List Int, (iL l).filterMap strF = (l.map strI).map .str
  | [] => rfl
  | i :: l => by
    rw [iL_cons, List.filterMap_cons]
    show PyData.str (strI i) :: _ = _
    rw [strF_iL l]
    rfl
/-- the line of a row -/
theorem line_run {w : Str} (hw : w.length ≤ 10) {row : List Int} (h : row.length ≤ 3 ∧ ∀ i ∈ row, 0 ≤ i ∧ i ≤ 20) {a b c : Slot} :
    evE C gl (.mt .join (.kS " ") (.cons (.bin .Add (.lst (.cons (.v 2) .nil)) (.lc (.bi .str (.cons (.v 5) .nil)) (.iSeq (.v 4)) (.nm 5) .nil [5])) .nil)) [a, b, .d (.str w), c, .d (rowD row), .non] =
      .ok (.str (lineT w row)) [a, b, .d (.str w), c, .d (rowD row), .non] := by
  have lc := ev_lc (C := C) (gl := gl) (elt := .bi .str (.cons (.v 5) .nil)) (it := .iSeq (.v 4)) (cond := .nil) (t := .nm 5) (own := [5]) (r := [a, b, .d (.str w), c, .d (rowD row), .non]) (r1 := [a, b, .d (.str w), c, .d (rowD row), .non]) (items := iL row) strF
    (by simp [rowD]) (by simp [loose?]) (by rw [iL_length]; exact lenLim_le _ (by omega)) fun z hz => by
      obtain ⟨i, hi, rfl⟩ := List.mem_map.mp hz
      refine ⟨[a, b, .d (.str w), c, .d (rowD row), .d (.int i)], true, by simp [wipeR], by simp, by simp [wipeR], ?_⟩
      rw [if_pos rfl]
      exact ⟨.str (strI i), by simp [bi_str (h.2 i hi)], rfl⟩
  rw [strF_iL] at lc
  have ad := bin_addL (xs := [.str w]) (ys := (row.map strI).map .str) (by simp; exact lenLim_le _ (by omega))
  have jn := mt_join (sep := " ") (zs := w :: row.map strI) (Nat.le_trans (line_len hw h).1 (by decide))
  have jn : dMt .join (.str " ") [.list ([.str w] ++ (row.map strI).map .str)] = _ := jn
  simp only [ev_mt, ev_kS, R.bind_ok, ds_cons, ev_bin, ev_lst, ds_nil, ev_v, readV_d (show ([a, b, .d (.str w), c, .d (rowD row), .non] : Rho)[2]? = some (.d (.str w)) from rfl), lc]
  rw [if_pos (lenLim_le _ (by simp))]
  simp only [R.bind_ok, lc, ad, R.of_some, jn]
  rfl
/-! ### written -/
def linesT (ks : List (Str × List (List Int))) : List Str := ks.flatMap fun k => k.2.map (lineT k.1)
def textT (r1 r2 r3 : List (List Int)) : Str := Txt.join "\n" (linesT [("wall", r1), ("awning", r2), ("seat", r3)])
def lineF (w : Str) : D → Option D
  | .tuple xs => some (.str (lineT w (xs.map unI)))
  | _ => none
theorem lineF_rows (w : Str) : ∀ rows : List (List Int), (rows.map rowD).filterMap (lineF w) = (rows.map (lineT w)).map .str
  | [] => rfl
  | r :: rows => by
    rw [List.map_cons, List.filterMap_cons]
    show PyData.str (lineT w ((iL r).map unI)) :: _ = _
    rw [unI_iL, lineF_rows w rows]
    rfl
/-- one kind's lines are added -/
theorem kind_turn (b : S) (hb : b = .seq (.set 1 (.bin .Add (.v 1) (.lc (.mt .join (.kS " ") (.cons (.bin .Add (.lst (.cons (.v 2) .nil)) (.lc (.bi .str (.cons (.v 5) .nil)) (.iSeq (.v 4)) (.nm 5) .nil [5])) .nil)) (.iSeq (.v 3)) (.nm 4) .nil [4]))) .skip)
    {w : Str} (hw : w.length ≤ 10) {rows : List (List Int)} (h : Bd rows) {a : Slot} {zs : List Str} (hz : zs.length ≤ 100) {s2 s3 : Slot} (f2 : fr s2 = true) (f3 : fr s3 = true) :
    stepF C gl fuel (.tp (.cons (.nm 2) (.cons (.nm 3) .nil))) b (.tuple [.str w, rowsD rows]) [a, .d (.list (zs.map .str)), s2, s3, .non, .non] =
      .nx [a, .d (.list ((zs ++ rows.map (lineT w)).map .str)), .d (.str w), .d (rowsD rows), .non, .non] := by
  subst hb
  have lc := ev_lc (C := C) (gl := gl) (elt := .mt .join (.kS " ") (.cons (.bin .Add (.lst (.cons (.v 2) .nil)) (.lc (.bi .str (.cons (.v 5) .nil)) (.iSeq (.v 4)) (.nm 5) .nil [5])) .nil)) (it := .iSeq (.v 3)) (cond := .nil) (t := .nm 4) (own := [4])
    (r := [a, .d (.list (zs.map .str)), .d (.str w), .d (rowsD rows), .non, .non]) (r1 := [a, .d (.list (zs.map .str)), .d (.str w), .d (rowsD rows), .non, .non]) (items := rows.map rowD) (lineF w)
    (by simp [rowsD]) (by simp [loose?]) (by rw [List.length_map]; exact lenLim_le _ (by have := h.few; omega)) fun z hz => by
      obtain ⟨r, hr, rfl⟩ := List.mem_map.mp hz
      refine ⟨[a, .d (.list (zs.map .str)), .d (.str w), .d (rowsD rows), .d (rowD r), .non], true, by simp [wipeR], by simp, by simp [wipeR], ?_⟩
      rw [if_pos rfl]
      refine ⟨.str (lineT w r), line_run hw (h.row r hr), ?_⟩
      show some (PyData.str (lineT w ((iL r).map unI))) = _
      rw [unI_iL]
  rw [lineF_rows] at lc
  have few := h.few
  have ad := bin_addL (xs := zs.map .str) (ys := (rows.map (lineT w)).map .str) (by simp only [List.length_map]; exact lenLim_le _ (by omega))
  rw [← List.map_append] at ad
  simp [stepF, f2, f3, lc, ad, -List.map_append, -List.map_map, -ev_mt]
end Ev
end
section
set_option Elab.async false
set_option maxRecDepth 100000
set_option linter.all false
set_option autoImplicit false
set_option maxHeartbeats 1000007
/-! P9: texts of streets: written, read. -/
namespace Ev
open PySem
variable {tl : List Df} {tels : Nat → List Arg → RC} {j : Nat} {fuel : Nat} {C : Calls} {gl : List D}
theorem text_fit {r1 r2 r3 : List (List Int)} (h1 : Bd r1) (h2 : Bd r2) (h3 : Bd r3) :
    ((linesT [("wall", r1), ("awning", r2), ("seat", r3)]).map (·.length)).sum + (linesT [("wall", r1), ("awning", r2), ("seat", r3)]).length * 1 ≤ 300 ∧ (textT r1 r2 r3).length ≤ 300 := by
  have e : linesT [("wall", r1), ("awning", r2), ("seat", r3)] = r1.map (lineT "wall") ++ (r2.map (lineT "awning") ++ r3.map (lineT "seat")) := by simp [linesT]
  have s := sum_le (b := 20) (zs := linesT [("wall", r1), ("awning", r2), ("seat", r3)]) fun z hz => by
    rw [e] at hz
    rcases List.mem_append.mp hz with hz | hz
    · obtain ⟨r, hr, rfl⟩ := List.mem_map.mp hz
      exact (line_len (by decide) (h1.row r hr)).2
    · rcases List.mem_append.mp hz with hz | hz
      · obtain ⟨r, hr, rfl⟩ := List.mem_map.mp hz
        exact (line_len (by decide) (h2.row r hr)).2
      · obtain ⟨r, hr, rfl⟩ := List.mem_map.mp hz
        exact (line_len (by decide) (h3.row r hr)).2
  have l : (linesT [("wall", r1), ("awning", r2), ("seat", r3)]).length ≤ 12 := by
    have a1 := h1.few
    have a2 := h2.few
    have a3 := h3.few
    rw [e]
    simp only [List.length_append, List.length_map]
    omega
  have q : ((linesT [("wall", r1), ("awning", r2), ("seat", r3)]).map (·.length)).sum + (linesT [("wall", r1), ("awning", r2), ("seat", r3)]).length * 1 ≤ 300 := by omega
  exact ⟨q, Nat.le_trans (join_len "\n" _) q⟩
theorem written_call (hj : 1 ≤ j) {v : D} {r1 r2 r3 : List (List Int)} (hv : unList v = some [rowsD r1, rowsD r2, rowsD r3]) (h1 : Bd r1) (h2 : Bd r2) (h3 : Bd r3) : CC tl tels j 60 [.d v] = .ok (.d (.str (textT r1 r2 r3))) [] := by
  rw [show CC tl tels j 60 _ = _ from call_at (d := d_written) rfl (by decide) (by omega)]
  have a1 := h1.few
  have a2 := h2.few
  have t1 := kind_turn (C := CC tl tels (j - 1)) (gl := GL) (fuel := 0) b_written_0 rfl (w := "wall") (by decide) h1 (a := .d v) (zs := []) (by simp) (s2 := .non) (s3 := .non) rfl rfl
  have t2 := kind_turn (C := CC tl tels (j - 1)) (gl := GL) (fuel := 0) b_written_0 rfl (w := "awning") (by decide) h2 (a := .d v) (zs := [] ++ r1.map (lineT "wall")) (by simp; omega) (s2 := .d (.str "wall")) (s3 := .d (rowsD r1)) rfl rfl
  have t3 := kind_turn (C := CC tl tels (j - 1)) (gl := GL) (fuel := 0) b_written_0 rfl (w := "seat") (by decide) h3 (a := .d v) (zs := [] ++ r1.map (lineT "wall") ++ r2.map (lineT "awning")) (by simp; omega) (s2 := .d (.str "awning")) (s3 := .d (rowsD r2)) rfl rfl
  have e : linesT [("wall", r1), ("awning", r2), ("seat", r3)] = [] ++ r1.map (lineT "wall") ++ r2.map (lineT "awning") ++ r3.map (lineT "seat") := by simp [linesT]
  have jn := mt_join (sep := "\n") (zs := linesT [("wall", r1), ("awning", r2), ("seat", r3)]) (Nat.le_trans (text_fit h1 h2 h3).1 (by decide))
  rw [e] at jn
  have z : zipD [.str "wall", .str "awning", .str "seat"] [rowsD r1, rowsD r2, rowsD r3] = [.tuple [.str "wall", rowsD r1], .tuple [.str "awning", rowsD r2], .tuple [.str "seat", rowsD r3]] := rfl
  have t1 : stepF (CC tl tels (j - 1)) GL 0 ((Tg.nm 2).cons ((Tg.nm 3).cons Tg.nil)).tp b_written_0 (.tuple [.str "wall", rowsD r1]) [.d v, .d (.list []), .non, .non, .non, .non] = _ := t1
  simp only [List.nil_append] at t1 t2 t3 jn e
  simp [runF, d_written, b_written, hv, z, forLoop_cons, t1, t2, t3, -List.map_append, -List.map_map, -List.append_assoc, jn, retC, outsOf]
  rw [textT, e]
/-! ### streets by rows -/
def Street.r1 (s : Street) : List (List Int) := s.ws.map fun p => [p.1, p.2]
def Street.r2 (s : Street) : List (List Int) := s.as.map fun p => [p.1, p.2.1, p.2.2]
def Street.r3 (s : Street) : List (List Int) := s.ss.map fun p => [p.1, p.2]
theorem Street.d_rows (s : Street) : s.d = .tuple [rowsD s.r1, rowsD s.r2, rowsD s.r3] := by
  simp [Street.d, rowsD, Street.r1, Street.r2, Street.r3, rowD, p2, p3, iL, Function.comp_def]
theorem Drawn.b1 {s : Street} (h : Drawn s) : Bd s.r1 := ⟨by simp [Street.r1]; have := h.w.1; omega, fun r hr => by
  obtain ⟨p, hp, rfl⟩ := List.mem_map.mp hr
  obtain ⟨a, b, c, d⟩ := h.w.2 p hp
  exact ⟨by simp, fun i hi => by simp at hi; omega⟩⟩
theorem Drawn.b2 {s : Street} (h : Drawn s) : Bd s.r2 := ⟨by simp [Street.r2]; have := h.a.1; omega, fun r hr => by
  obtain ⟨p, hp, rfl⟩ := List.mem_map.mp hr
  obtain ⟨a, b, c, d, e, f⟩ := h.a.2 p hp
  exact ⟨by simp, fun i hi => by simp at hi; omega⟩⟩
theorem Drawn.b3 {s : Street} (h : Drawn s) : Bd s.r3 := ⟨by simp [Street.r3]; have := h.s.1; omega, fun r hr => by
  obtain ⟨p, hp, rfl⟩ := List.mem_map.mp hr
  obtain ⟨a, b, c, d⟩ := h.s.2 p hp
  exact ⟨by simp, fun i hi => by simp at hi; omega⟩⟩
theorem whole_in {i lo hi : Int} (h : lo ≤ i ∧ i ≤ hi) : wholeB (.int i) lo hi = true := by
  show (decide _ && decide _) = true
  rw [decide_eq_true h.1, decide_eq_true h.2]
  rfl
theorem Drawn.street {s : Street} (h : Drawn s) : streetB s.d = true := by
  have w1 : rowsB (.tuple (s.ws.map p2)) 0 3 [(0, 20), (1, 9)] = true := by
    have := h.w.1
    have l : (decide ((0 : Int) ≤ (s.ws.map p2).length) && decide (((s.ws.map p2).length : Int) ≤ 3)) = true := by simp; omega
    show (_ && _) = true
    rw [l, Bool.true_and, List.all_eq_true]
    intro x hx
    obtain ⟨p, hp, rfl⟩ := List.mem_map.mp hx
    obtain ⟨a, b, c, d⟩ := h.w.2 p hp
    simp [rowB, p2, whole_in (i := p.1) (lo := 0) (hi := 20) (by omega), whole_in (i := p.2) (lo := 1) (hi := 9) (by omega)]
  have w2 : rowsB (.tuple (s.as.map p3)) 1 3 [(0, 20), (1, 9), (1, 9)] = true := by
    have := h.a.1
    have l : (decide ((1 : Int) ≤ (s.as.map p3).length) && decide (((s.as.map p3).length : Int) ≤ 3)) = true := by simp; omega
    show (_ && _) = true
    rw [l, Bool.true_and, List.all_eq_true]
    intro x hx
    obtain ⟨p, hp, rfl⟩ := List.mem_map.mp hx
    obtain ⟨a, b, c, d, e, f⟩ := h.a.2 p hp
    simp [rowB, p3, whole_in (i := p.1) (lo := 0) (hi := 20) (by omega), whole_in (i := p.2.1) (lo := 1) (hi := 9) (by omega), whole_in (i := p.2.2) (lo := 1) (hi := 9) (by omega)]
  have w3 : rowsB (.tuple (s.ss.map p2)) 1 4 [(0, 20), (0, 5)] = true := by
    have := h.s.1
    have l : (decide ((1 : Int) ≤ (s.ss.map p2).length) && decide (((s.ss.map p2).length : Int) ≤ 4)) = true := by simp; omega
    show (_ && _) = true
    rw [l, Bool.true_and, List.all_eq_true]
    intro x hx
    obtain ⟨p, hp, rfl⟩ := List.mem_map.mp hx
    obtain ⟨a, b, c, d⟩ := h.s.2 p hp
    simp [rowB, p2, whole_in (i := p.1) (lo := 0) (hi := 20) (by omega), whole_in (i := p.2) (lo := 0) (hi := 5) (by omega)]
  show ((_ && _) && _) = true
  rw [w1, w2, w3]
  rfl
theorem p2_sh (p : Int × Int) : Sh 1 (p2 p) := .tup fun x hx => by simp at hx; rcases hx with rfl | rfl <;> exact .int _ _
theorem p3_sh (p : Int × Int × Int) : Sh 1 (p3 p) := .tup fun x hx => by simp at hx; rcases hx with rfl | rfl | rfl <;> exact .int _ _
theorem Street.sh (s : Street) : Sh 3 s.d := .tup fun x hx => by
  simp at hx
  rcases hx with rfl | rfl | rfl
  · exact .tup fun y hy => by obtain ⟨p, _, rfl⟩ := List.mem_map.mp hy; exact p2_sh p
  · exact .tup fun y hy => by obtain ⟨p, _, rfl⟩ := List.mem_map.mp hy; exact p3_sh p
  · exact .tup fun y hy => by obtain ⟨p, _, rfl⟩ := List.mem_map.mp hy; exact p2_sh p
theorem need_street_call (hj : 5 ≤ j) {v : D} (hv : v.canLay0 = true) : CC tl tels j 11 [.d v] = if streetB v = true then .ok (.d .none) [] else .ex "InvalidStreet" [] := by
  rw [show CC tl tels j 11 _ = _ from call_at (d := d_need_street) rfl (by decide) (by omega)]
  have c := street_is (tl := tl) (tels := tels) (j := j - 1) (by omega) hv
  cases q : streetB v <;> (rw [q] at c; simp [runF, d_need_street, b_need_street, c, retC, outsOf])
theorem text_call (hj : 6 ≤ j) {s : Street} (h : Drawn s) : CC tl tels j 61 [.d s.d] = .ok (.d (.str (textT s.r1 s.r2 s.r3))) [] := by
  rw [show CC tl tels j 61 _ = _ from call_at (d := d_street_text) rfl (by decide) (by omega)]
  have c := need_street_call (tl := tl) (tels := tels) (j := j - 1) (by omega) (v := s.d) s.sh.1
  rw [if_pos h.street] at c
  have w := written_call (tl := tl) (tels := tels) (j := j - 1) (by omega) (v := s.d) (by rw [s.d_rows]; rfl) h.b1 h.b2 h.b3
  simp [runF, d_street_text, b_street_text, c, w, retC, outsOf]
theorem text_bad (hj : 6 ≤ j) {v : D} (hv : v.canLay0 = true) (no : streetB v = false) : CC tl tels j 61 [.d v] = .ex "InvalidStreet" [] := by
  rw [show CC tl tels j 61 _ = _ from call_at (d := d_street_text) rfl (by decide) (by omega)]
  have c := need_street_call (tl := tl) (tels := tels) (j := j - 1) (by omega) hv
  rw [no] at c
  simp [runF, d_street_text, b_street_text, c, retC, outsOf]
end Ev
end
section
set_option Elab.async false
set_option maxRecDepth 100000
set_option linter.all false
set_option autoImplicit false
set_option maxHeartbeats 1000007
/-! P10: texts of streets: read. -/
namespace Ev
open PySem
variable {tl : List Df} {tels : Nat → List Arg → RC} {j : Nat} {fuel : Nat} {C : Calls} {gl : List D}
theorem it_str {r : Rho} (a : E) : evI C gl (.iStr a) r = (evE C gl a r).bind fun x r1 => R.of r1 (unStr x) := rfl
def digits : Str := "0123456789"
def dig (c : Nat) : Bool := decide (c ∈ TL.tl digits)
theorem dig_iff {c : Nat} (h : dig c = true) : 48 ≤ c ∧ c ≤ 57 := by
  have h := of_decide_eq_true h
  have e : TL.tl digits = [48, 49, 50, 51, 52, 53, 54, 55, 56, 57] := by decide +kernel
  rw [e] at h
  simp at h
  omega
theorem dig_of {c : Nat} (h : 48 ≤ c ∧ c ≤ 57) : dig c = true := by
  refine decide_eq_true ?_
  have e : TL.tl digits = [48, 49, 50, 51, 52, 53, 54, 55, 56, 57] := by decide +kernel
  rw [e]
  simp
  omega
/-- whether a word is one of one or two figures -/
def numB (x : Str) : Bool := (decide (1 = x.length) || decide (2 = x.length)) && (TL.tl x).all dig
def numT (x : Str) : D := if numB x = true then (intD (.str x)).getD .none else .none
theorem nums_one : ∀ c, c < 10 → ∃ n : Int, intD (.str ⟨#[48 + c]⟩) = some (.int n) := by
  have : ∀ c, c < 10 → (intText? ⟨#[48 + c]⟩).isSome = true := by decide +kernel
  intro c hc
  obtain ⟨n, hn⟩ := Option.isSome_iff_exists.mp (this c hc)
  exact ⟨n, by show (if (⟨#[48 + c]⟩ : Str).length ≤ 640 then (intText? ⟨#[48 + c]⟩).map PyData.int else none) = _; rw [if_pos (show (⟨#[48 + c]⟩ : Str).length ≤ 640 from (by decide : 1 ≤ 640)), hn]; rfl⟩
theorem nums_two : ∀ c, c < 10 → ∀ d, d < 10 → ∃ n : Int, intD (.str ⟨#[48 + c, 48 + d]⟩) = some (.int n) := by
  have : ∀ c, c < 10 → ∀ d, d < 10 → (intText? ⟨#[48 + c, 48 + d]⟩).isSome = true := by decide +kernel
  intro c hc d hd
  obtain ⟨n, hn⟩ := Option.isSome_iff_exists.mp (this c hc d hd)
  exact ⟨n, by show (if (⟨#[48 + c, 48 + d]⟩ : Str).length ≤ 640 then (intText? ⟨#[48 + c, 48 + d]⟩).map PyData.int else none) = _; rw [if_pos (show (⟨#[48 + c, 48 + d]⟩ : Str).length ≤ 640 from (by decide : 2 ≤ 640)), hn]; rfl⟩
theorem num_int {x : Str} (h : numB x = true) : ∃ n : Int, intD (.str x) = some (.int n) := by
  unfold numB at h
  rw [Bool.and_eq_true, Bool.or_eq_true, decide_eq_true_eq, decide_eq_true_eq] at h
  obtain ⟨l, a⟩ := h
  rw [TL.len_tl] at l
  have e := TL.mk_tl x
  match q : TL.tl x, l with
  | [c], _ =>
    rw [q] at a e
    simp at a
    have := dig_iff a
    obtain ⟨n, hn⟩ := nums_one (c - 48) (by omega)
    rw [← e]
    rw [show 48 + (c - 48) = c by omega] at hn
    exact ⟨n, hn⟩
  | [c, d], _ =>
    rw [q] at a e
    simp at a
    have h1 := dig_iff a.1
    have h2 := dig_iff a.2
    obtain ⟨n, hn⟩ := nums_two (c - 48) (by omega) (d - 48) (by omega)
    rw [← e]
    rw [show 48 + (c - 48) = c by omega, show 48 + (d - 48) = d by omega] at hn
    exact ⟨n, hn⟩
  | [], l => simp at l
  | _ :: _ :: _ :: _, l => simp at l
theorem numT_sh (x : Str) : Sh 0 (numT x) := by
  unfold numT
  split
  · rename_i h
    obtain ⟨n, hn⟩ := num_int h
    rw [hn]
    exact .int _ _
  · exact .none _
theorem not_in12 (n : Int) : dCmp .NotIn (.int n) (.tuple [.int 1, .int 2]) = some (.bool (!(decide (1 = n) || decide (2 = n)))) := by
  show ((dIn (.int n) (.tuple [.int 1, .int 2])).map fun b => PyData.bool (!b)) = _
  have : dIn (.int n) (.tuple [.int 1, .int 2]) = some (decide (1 = n) || decide (2 = n)) := by
    show (if (flatD (.int n) && [PyData.int 1, PyData.int 2].all flatD) = true then some ([PyData.int 1, PyData.int 2].any fun y => PyData.eqv y (.int n)) else none) = _
    rw [if_pos (show (flatD (.int n) && [PyData.int 1, PyData.int 2].all flatD) = true from rfl)]
    simp [PyData.eqv, BEq.beq]
  rw [this]
  rfl
def signF : D → Option D
  | .str y => some (.bool (!(Builtin.Str.occurrences digits y 0 digits.length 1).isEmpty))
  | _ => none
theorem signs_eq : ∀ l : List Nat, (l.map fun c => PyData.str ⟨#[c]⟩).filterMap signF = l.map fun c => PyData.bool (dig c)
  | [] => rfl
  | c :: l => by
    rw [List.map_cons, List.filterMap_cons]
    have e : signF (.str ⟨#[c]⟩) = some (.bool (dig c)) := by
      show some (PyData.bool _) = _
      rw [StrLaws.found_one]
      rfl
    rw [e]
    show PyData.bool (dig c) :: _ = _
    rw [signs_eq l]
    rfl
theorem bi_len_s {z : Str} (h : z.length ≤ lenLim) : dBi .len [.str z] = some (.int z.length) := if_pos h
theorem num_call (hj : 1 ≤ j) {x : Str} (h : x.length ≤ 1000000) : CC tl tels j 62 [.d (.str x)] = .ok (.d (numT x)) [] := by
  rw [show CC tl tels j 62 _ = _ from call_at (d := d_number_in) rfl (by decide) (by omega)]
  have ln := bi_len_s (z := x) (Nat.le_trans h (by decide))
  have lc := ev_lc (C := CC tl tels (j - 1)) (gl := GL) (elt := .cmp .In (.v 1) (.kS "0123456789")) (it := .iStr (.v 0)) (cond := .nil) (t := .nm 1) (own := [1]) (r := [.d (.str x), .non]) (r1 := [.d (.str x), .non]) (items := signsD x) signF
    (by simp [it_str, unStr]) (by simp [loose?])
    (by simp only [signsD, List.length_map]; exact Nat.le_trans (Nat.le_trans (Nat.le_of_eq (TL.len_tl x).symm) h) (by decide)) fun z hz => by
      obtain ⟨c, hc, rfl⟩ := List.mem_map.mp hz
      refine ⟨[.d (.str x), .d (.str ⟨#[c]⟩)], true, by simp [wipeR], by simp, by simp [wipeR], ?_⟩
      rw [if_pos rfl]
      refine ⟨.bool (!(Builtin.Str.occurrences digits ⟨#[c]⟩ 0 digits.length 1).isEmpty), ?_, rfl⟩
      simp only [ev_cmp, ev_v, ev_kS, readV_d (show ([.d (.str x), .d (.str ⟨#[c]⟩)] : Rho)[1]? = _ from rfl), R.bind_ok]
      rfl
  unfold signsD at lc
  rw [signs_eq] at lc
  have al := bi_all dig (TL.tl x)
  by_cases q : numB x = true
  · obtain ⟨n, hn⟩ := num_int q
    have r : numT x = .int n := by unfold numT; rw [if_pos q, hn]; rfl
    rw [r]
    have q' := q
    unfold numB at q'
    rw [Bool.and_eq_true] at q'
    rw [q'.2] at al
    have len : (decide ((1 : Int) = (x.length : Int)) || decide ((2 : Int) = (x.length : Int))) = true := by
      have := q'.1
      rw [Bool.or_eq_true, decide_eq_true_eq, decide_eq_true_eq] at this ⊢
      omega
    have bi : dBi .int [.str x] = some (.int n) := hn
    simp [runF, d_number_in, b_number_in, ln, not_in12, len, lc, al, bi, retC, outsOf]
  · have r : numT x = .none := by unfold numT; rw [if_neg q]
    rw [r]
    by_cases len : (decide ((1 : Int) = (x.length : Int)) || decide ((2 : Int) = (x.length : Int))) = true
    · have a : (TL.tl x).all dig = false := by
        cases e : (TL.tl x).all dig with
        | false => rfl
        | true =>
          exfalso
          refine q ?_
          unfold numB
          rw [e, Bool.and_true]
          rw [Bool.or_eq_true, decide_eq_true_eq, decide_eq_true_eq] at len ⊢
          omega
      rw [a] at al
      simp [runF, d_number_in, b_number_in, ln, not_in12, len, lc, al, retC, outsOf]
    · rw [Bool.not_eq_true] at len
      simp [runF, d_number_in, b_number_in, ln, not_in12, len, retC, outsOf]
end Ev
end
section
set_option Elab.async false
set_option maxRecDepth 100000
set_option linter.all false
set_option autoImplicit false
set_option maxHeartbeats 1000007
/-! P11: a text read. -/
namespace Ev
open PySem
variable {tl : List Df} {tels : Nat → List Arg → RC} {j : Nat} {fuel : Nat} {C : Calls} {gl : List D}
/-- the words of all lines -/
def linesR (z : Str) : List (List Str) := (Txt.split z "\n").map fun l => Txt.split l " "
def wordsD (ws : List Str) : D := .list (ws.map .str)
def rowF (w : Str) (ws : List Str) : Option D := if ws.head? = some w then some (.tuple (ws.tail.map numT)) else none
def kindT (z w : Str) : D := .tuple ((linesR z).filterMap (rowF w))
theorem split_ne (x y : Str) : Txt.split x y ≠ [] := fun e => by
  have := PyProof.Rows.split_pos x y
  rw [e] at this
  exact absurd this (by decide)
theorem cut_tail (xs : List D) : cutP xs (some 1) none = xs.tail := by
  unfold cutP sEnd
  cases xs with
  | nil => rfl
  | cons x xs =>
    have e : (if (1 : Int) < 0 then 1 + ((x :: xs).length : Int) else min 1 ((x :: xs).length : Int)).toNat = 1 := by
      rw [if_neg (by decide)]
      simp only [List.length_cons]
      omega
    show List.take _ (List.drop (if (1 : Int) < 0 then 1 + ((x :: xs).length : Int) else min 1 ((x :: xs).length : Int)).toNat (x :: xs)) = xs
    show List.take ((x :: xs).length - (if (1 : Int) < 0 then 1 + ((x :: xs).length : Int) else min 1 ((x :: xs).length : Int)).toNat) _ = xs
    rw [e]
    exact (List.take_of_length_le (by simp))
def numF : D → Option D
  | .str x => some (numT x)
  | _ => none
theorem numF_map : ∀ ws : List Str, (ws.map PyData.str).filterMap numF = ws.map numT
  | [] => rfl
  | w :: ws => by
    rw [List.map_cons, List.filterMap_cons]
    show numT w :: _ = _
    rw [numF_map ws]
    rfl
def unS : D → Str
  | .str x => x
  | _ => Str.empty
theorem unS_map (ws : List Str) : (ws.map PyData.str).map unS = ws := by
  rw [List.map_map]
  exact List.map_id'' (fun _ => rfl) ws
def rowFD (w : Str) : D → Option D
  | .list xs => rowF w (xs.map unS)
  | _ => none
theorem rowFD_words (w : Str) (l : List Str) : rowFD w (wordsD l) = rowF w l := by
  show rowF w ((l.map PyData.str).map unS) = _
  rw [unS_map]
theorem rowFD_map (w : Str) : ∀ ls : List (List Str), (ls.map wordsD).filterMap (rowFD w) = ls.filterMap (rowF w)
  | [] => rfl
  | l :: ls => by rw [List.map_cons, List.filterMap_cons, List.filterMap_cons, rowFD_map w ls, rowFD_words]
theorem eqv_str (a b : Str) : PyData.eqv (.str a) (.str b) = decide (a = b) := by
  show (a == b) = _
  rfl
theorem st_app_d {i : Nat} {e : E} {r : Rho} {ds : List D} {x : D} (m : mutAt r i = some ds) (h : evE C gl e r = .ok x r) (l : ds.length < lenLim) : evS C gl fuel (.app i e) r = .nx (putC r i (.lst (ds ++ [x]))) := by
  rw [st_app, m, h]
  show (match mutAt r i with
    | some ds => _
    | none => _) = _
  rw [m]
  exact if_pos l
/-- texts that can be read within the limits -/
structure Rd0 (z : Str) : Prop where
  len : z.length ≤ 1000000
  cp : cpOk z
theorem Rd0.parts {z : Str} (h : Rd0 z) {l : Str} (m : l ∈ Txt.split z "\n") : l.length ≤ 1000000 ∧ cpOk l ∧ ∀ p ∈ Txt.split l " ", p.length ≤ 1000000 ∧ cpOk p := by
  have l1 := Nat.le_trans (PyProof.Rows.part_short m) h.len
  have c1 := split_cp h.cp m
  exact ⟨l1, c1, fun p hp => ⟨Nat.le_trans (PyProof.Rows.part_short hp) l1, split_cp c1 hp⟩⟩
theorem rows_run {z : Str} (h : Rd0 z) {a b c d e f : Slot} (la : ls c = true) :
    evE C gl (.lc (.mt .split (.v 4) (.cons (.kS " ") .nil)) (.iSeq (.mt .split (.v 0) (.cons (.kS "\n") .nil))) (.nm 4) .nil [4]) [.d (.str z), a, b, d, .non, e, f] = .ok (.list ((linesR z).map wordsD)) [.d (.str z), a, b, d, .non, e, f] := by
  have sp := mt_split (z := z) (sep := "\n") (by decide) (Nat.le_trans (Nat.add_le_add_right h.len 2) (by decide))
  have lc := ev_lc (C := C) (gl := gl) (elt := .mt .split (.v 4) (.cons (.kS " ") .nil)) (it := .iSeq (.mt .split (.v 0) (.cons (.kS "\n") .nil))) (cond := .nil) (t := .nm 4) (own := [4]) (r := [.d (.str z), a, b, d, .non, e, f]) (r1 := [.d (.str z), a, b, d, .non, e, f])
    (items := (Txt.split z "\n").map .str) (fun x => match x with | .str l => some (wordsD (Txt.split l " ")) | _ => none)
    (by simp [sp]) (by simp [loose?]) (by rw [List.length_map]; exact Nat.le_trans (PyProof.Rows.split_le z "\n") (Nat.le_trans (Nat.add_le_add_right h.len 2) (by decide))) fun x hx => by
      obtain ⟨l, hl, rfl⟩ := List.mem_map.mp hx
      have sp2 := mt_split (z := l) (sep := " ") (by decide) (Nat.le_trans (Nat.add_le_add_right (h.parts hl).1 2) (by decide))
      refine ⟨[.d (.str z), a, b, d, .d (.str l), e, f], true, by simp [wipeR], by simp, by simp [wipeR], ?_⟩
      rw [if_pos rfl]
      exact ⟨wordsD (Txt.split l " "), by simp [sp2, wordsD], rfl⟩
  rw [lc]
  congr 2
  unfold linesR
  rw [List.map_map]
  generalize Txt.split z "\n" = ls'
  induction ls' with
  | nil => rfl
  | cons l ls' ih => rw [List.map_cons, List.filterMap_cons, List.map_cons, ih]; rfl
/-- one kind's rows are read -/
theorem read_turn (hj : 1 ≤ j) {z w : Str} (h : Rd0 z) (hw : cpOk w) {ds : List D} (hd : ds.length ≤ 10) {s3 s4 : Slot} (f3 : fr s3 = true) :
    stepF (CC tl tels j) GL fuel (.nm 3) b_read_street_0 (.str w) [.d (.str z), .d (.list ((linesR z).map wordsD)), .own (.lst ds), s3, s4, .non, .non] =
      .nx [.d (.str z), .d (.list ((linesR z).map wordsD)), .own (.lst (ds ++ [kindT z w])), .d (.str w), s4, .non, .non] := by
  have lc := ev_lc (C := CC tl tels j) (gl := GL) (elt := .bi .tuple (.cons (.lc (.call 62 (.cons (.v 6) .nil)) (.iSeq (.sl (.v 5) (.kI 1) .nil)) (.nm 6) .nil [6]) .nil)) (it := .iSeq (.v 1)) (cond := .cmp .Eq (.ix (.v 5) (.kI 0)) (.v 3)) (t := .nm 5) (own := [5])
    (r := [.d (.str z), .d (.list ((linesR z).map wordsD)), .own (.lst ds), .d (.str w), s4, .non, .non]) (r1 := [.d (.str z), .d (.list ((linesR z).map wordsD)), .own (.lst ds), .d (.str w), s4, .non, .non]) (items := (linesR z).map wordsD) (rowFD w)
    (by simp) (by simp [loose?]) (by simp only [List.length_map, linesR]; exact Nat.le_trans (PyProof.Rows.split_le z "\n") (Nat.le_trans (Nat.add_le_add_right h.len 2) (by decide))) fun x hx => by
      obtain ⟨ws, hws, rfl⟩ := List.mem_map.mp hx
      obtain ⟨l, hl, rfl⟩ := List.mem_map.mp hws
      obtain ⟨l1, c1, pp⟩ := h.parts hl
      match q : Txt.split l " ", split_ne l " " with
      | w0 :: rest, _ =>
        rw [q] at pp
        have c0 := (pp w0 List.mem_cons_self).2
        refine ⟨[.d (.str z), .d (.list ((linesR z).map wordsD)), .own (.lst ds), .d (.str w), s4, .d (wordsD (w0 :: rest)), .non], decide (w0 = w), by simp [wipeR], ?_, by simp [wipeR], ?_⟩
        · rw [optB_e (by rfl)]
          have ix : dIx (.list (PyData.str w0 :: rest.map PyData.str)) (.int 0) = some (.str w0) := by
            show atP (PyData.str w0 :: rest.map PyData.str) 0 = _
            unfold atP ixP
            simp
          simp [wordsD, ix, cmp_eq (c0.sh 0) (hw.sh 0) (by decide) (by decide), eqv_str]
        · by_cases e : w0 = w
          · rw [decide_eq_true e, if_pos rfl]
            have inner := ev_lc (C := CC tl tels j) (gl := GL) (elt := .call 62 (.cons (.v 6) .nil)) (it := .iSeq (.sl (.v 5) (.kI 1) .nil)) (cond := .nil) (t := .nm 6) (own := [6])
              (r := [.d (.str z), .d (.list ((linesR z).map wordsD)), .own (.lst ds), .d (.str w), s4, .d (wordsD (w0 :: rest)), .non]) (r1 := [.d (.str z), .d (.list ((linesR z).map wordsD)), .own (.lst ds), .d (.str w), s4, .d (wordsD (w0 :: rest)), .non])
              (items := rest.map PyData.str) numF
              (by
                have sl : dSl (wordsD (w0 :: rest)) (some 1) none = some (.list (rest.map PyData.str)) := by
                  show some (PyData.list (cutP ((w0 :: rest).map PyData.str) (some 1) none)) = _
                  rw [cut_tail]
                  rfl
                simp [sl]) (by simp [loose?])
              (by
                rw [List.length_map]
                have := PyProof.Rows.split_le l " "
                rw [q, List.length_cons] at this
                exact Nat.le_trans (show rest.length ≤ 1000002 by omega) (by decide)) fun y hy => by
                obtain ⟨p, hp, rfl⟩ := List.mem_map.mp hy
                have nc := num_call (tl := tl) (tels := tels) hj (x := p) (Nat.le_trans (pp p (List.mem_cons_of_mem _ hp)).1 (by decide))
                refine ⟨[.d (.str z), .d (.list ((linesR z).map wordsD)), .own (.lst ds), .d (.str w), s4, .d (wordsD (w0 :: rest)), .d (.str p)], true, by simp [wipeR], by simp, by simp [wipeR], ?_⟩
                rw [if_pos rfl]
                exact ⟨numT p, by simp [nc], rfl⟩
            rw [numF_map] at inner
            refine ⟨.tuple (rest.map numT), ?_, ?_⟩
            · simp only [ev_bi, ds_cons, inner, R.bind_ok, ds_nil]
              rfl
            · rw [rowFD_words]
              exact if_pos (by rw [e]; rfl)
          · rw [decide_eq_false e, if_neg (by decide)]
            rw [rowFD_words]
            exact if_neg fun z => e (Option.some.inj z)
  rw [rowFD_map] at lc
  have val : evE (CC tl tels j) GL (.bi .tuple (.cons (.lc (.bi .tuple (.cons (.lc (.call 62 (.cons (.v 6) .nil)) (.iSeq (.sl (.v 5) (.kI 1) .nil)) (.nm 6) .nil [6]) .nil)) (.iSeq (.v 1)) (.nm 5) (.cmp .Eq (.ix (.v 5) (.kI 0)) (.v 3)) [5]) .nil))
      [.d (.str z), .d (.list ((linesR z).map wordsD)), .own (.lst ds), .d (.str w), s4, .non, .non] = .ok (kindT z w) [.d (.str z), .d (.list ((linesR z).map wordsD)), .own (.lst ds), .d (.str w), s4, .non, .non] := by
    simp only [ev_bi, ds_cons, lc, R.bind_ok, ds_nil]
    rfl
  have ap := st_app_d (C := CC tl tels j) (gl := GL) (fuel := fuel) (i := 2) (ds := ds) (by simp) val (Nat.lt_of_le_of_lt hd (by decide))
  show (Fl.of (asgT (.nm 3) (.str w) _)).andThen _ = _
  simp only [asgT_nm, put_eq]
  simp only [List.getElem?_cons_succ, List.getElem?_cons_zero, f3, if_true, Fl.of_some, Fl.then_nx, List.set_cons_succ, List.set_cons_zero, b_read_street_0, st_seq, ap, st_skip]
  simp
end Ev
end
section
set_option Elab.async false
set_option maxRecDepth 100000
set_option linter.all false
set_option autoImplicit false
set_option maxHeartbeats 1000007
/-! P12: read_street of a text. -/
namespace Ev
open PySem
variable {tl : List Df} {tels : Nat → List Arg → RC} {j : Nat} {fuel : Nat} {C : Calls} {gl : List D}
def foundT (z : Str) : List D := [kindT z "wall", kindT z "awning", kindT z "seat"]
theorem kindT_sh (z w : Str) : Sh 2 (kindT z w) := .tup fun x hx => by
  obtain ⟨ws, _, e⟩ := List.mem_filterMap.mp hx
  unfold rowF at e
  split at e
  · cases e
    exact .tup fun y hy => by
      obtain ⟨p, _, rfl⟩ := List.mem_map.mp hy
      exact numT_sh p
  · cases e
theorem found_sh (z : Str) : Sh 3 (.tuple (foundT z)) := .tup fun x hx => by
  simp [foundT] at hx
  rcases hx with rfl | rfl | rfl <;> exact kindT_sh _ _
/-- rows that are good are rows of small ints -/
theorem whole_is {x : D} {lo hi : Int} (h : wholeB x lo hi = true) : ∃ i : Int, x = .int i ∧ lo ≤ i ∧ i ≤ hi := by
  cases x with
  | int i =>
    have h : (decide (lo ≤ i) && decide (i ≤ hi)) = true := h
    rw [Bool.and_eq_true, decide_eq_true_eq, decide_eq_true_eq] at h
    exact ⟨i, rfl, h.1, h.2⟩
  | _ => cases h
theorem part_is : ∀ {ps : List D} {bs : List (Int × Int)}, ps.length = bs.length → ((List.zip ps bs).all fun q => wholeB q.1 q.2.1 q.2.2) = true → (∀ b ∈ bs, 0 ≤ b.1 ∧ b.2 ≤ 20) → ∃ r : List Int, ps = iL r ∧ ∀ i ∈ r, 0 ≤ i ∧ i ≤ 20
  | [], [], _, _, _ => ⟨[], rfl, by simp⟩
  | [], _ :: _, l, _, _ => by cases l
  | _ :: _, [], l, _, _ => by cases l
  | p :: ps, b :: bs, l, h, hb => by
    rw [List.zip_cons_cons, List.all_cons, Bool.and_eq_true] at h
    obtain ⟨i, rfl, h1, h2⟩ := whole_is h.1
    obtain ⟨r, rfl, hr⟩ := part_is (by simpa using l) h.2 fun b hx => hb b (List.mem_cons_of_mem _ hx)
    have b0 := hb b List.mem_cons_self
    have h1 : b.1 ≤ i := h1
    have h2 : i ≤ b.2 := h2
    refine ⟨i :: r, rfl, fun k hk => ?_⟩
    rcases List.mem_cons.mp hk with rfl | hk
    · omega
    · exact hr k hk
theorem rows_is : ∀ {xs : List D} {bs : List (Int × Int)}, xs.all (rowB bs) = true → (∀ b ∈ bs, 0 ≤ b.1 ∧ b.2 ≤ 20) → ∃ rows : List (List Int), xs = rows.map rowD ∧ ∀ r ∈ rows, r.length = bs.length ∧ ∀ i ∈ r, 0 ≤ i ∧ i ≤ 20
  | [], _, _, _ => ⟨[], rfl, by simp⟩
  | x :: xs, bs, h, hb => by
    rw [(List.all_cons), Bool.and_eq_true] at h
    obtain ⟨rows, rfl, hr⟩ := rows_is h.2 hb
    cases x with
    | tuple ps =>
      have h1 : (decide (ps.length = bs.length) && _) = true := h.1
      rw [Bool.and_eq_true, decide_eq_true_eq] at h1
      obtain ⟨r, rfl, h2⟩ := part_is h1.1 h1.2 hb
      refine ⟨r :: rows, rfl, fun q hq => ?_⟩
      rcases (List.mem_cons.mp hq) with rfl | hq
      · exact ⟨by simpa using h1.1, h2⟩
      · exact hr q hq
    | _ => cases h.1
theorem rowsB_is {v : D} {lo hi : Int} {bs : List (Int × Int)} (h : rowsB v lo hi bs = true) (hh : hi ≤ 4) (hb : ∀ b ∈ bs, 0 ≤ b.1 ∧ b.2 ≤ 20) (hl : bs.length ≤ 3) : ∃ rows, v = rowsD rows ∧ Bd rows := by
  cases v with
  | tuple xs =>
    have h : ((decide (lo ≤ xs.length) && decide ((xs.length : Int) ≤ hi)) && xs.all (rowB bs)) = true := h
    rw [Bool.and_eq_true, Bool.and_eq_true, decide_eq_true_eq, decide_eq_true_eq] at h
    obtain ⟨rows, rfl, hr⟩ := rows_is h.2 hb
    have := h.1.2
    rw [List.length_map] at this
    exact ⟨rows, rfl, ⟨by omega, fun r hx => ⟨by rw [(hr r hx).1]; exact hl, (hr r hx).2⟩⟩⟩
  | _ => cases h
theorem streetB_is {w a s : D} (h : streetB (.tuple [w, a, s]) = true) : ∃ r1 r2 r3, w = rowsD r1 ∧ a = rowsD r2 ∧ s = rowsD r3 ∧ Bd r1 ∧ Bd r2 ∧ Bd r3 := by
  have h : ((rowsB w 0 3 [(0, 20), (1, 9)] && rowsB a 1 3 [(0, 20), (1, 9), (1, 9)]) && rowsB s 1 4 [(0, 20), (0, 5)]) = true := h
  rw [Bool.and_eq_true, Bool.and_eq_true] at h
  obtain ⟨r1, e1, b1⟩ := rowsB_is h.1.1 (by decide) (by decide) (by decide)
  obtain ⟨r2, e2, b2⟩ := rowsB_is h.1.2 (by decide) (by decide) (by decide)
  obtain ⟨r3, e3, b3⟩ := rowsB_is h.2 (by decide) (by decide) (by decide)
  exact ⟨r1, r2, r3, e1, e2, e3, b1, b2, b3⟩
theorem text_cp {r1 r2 r3 : List (List Int)} (h1 : Bd r1) (h2 : Bd r2) (h3 : Bd r3) : cpOk (textT r1 r2 r3) := by
  have sp : cpOk " " := by unfold cpOk; decide +kernel
  have nl : cpOk "\n" := by unfold cpOk; decide +kernel
  have line : ∀ {w : Str} {rows : List (List Int)}, cpOk w → Bd rows → ∀ r ∈ rows, cpOk (lineT w r) := fun hw hb r hr => join_cp sp fun z hz => by
    rcases (List.mem_cons.mp hz) with rfl | hz
    · exact hw
    · obtain ⟨i, hi, rfl⟩ := List.mem_map.mp hz
      intro c hc
      have := (strI_at ((hb.row r hr).2 i hi)).2.2 c hc
      omega
  have w1 : cpOk "wall" := by unfold cpOk; decide +kernel
  have w2 : cpOk "awning" := by unfold cpOk; decide +kernel
  have w3 : cpOk "seat" := by unfold cpOk; decide +kernel
  refine join_cp nl fun z hz => ?_
  have hz : z ∈ r1.map (lineT "wall") ++ (r2.map (lineT "awning") ++ r3.map (lineT "seat")) := by simpa [linesT] using hz
  rcases List.mem_append.mp hz with hz | hz
  · obtain ⟨r, hr, rfl⟩ := List.mem_map.mp hz
    exact line w1 h1 r hr
  · rcases List.mem_append.mp hz with hz | hz
    · obtain ⟨r, hr, rfl⟩ := List.mem_map.mp hz
      exact line w2 h2 r hr
    · obtain ⟨r, hr, rfl⟩ := List.mem_map.mp hz
      exact line w3 h3 r hr
/-- the rows that a value stands for -/
def unR : D → List (List Int)
  | .tuple xs => xs.map fun r => match r with
    | .tuple ys => ys.map unI
    | _ => []
  | _ => []
theorem unR_rows (rows : List (List Int)) : unR (rowsD rows) = rows := by
  show (rows.map rowD).map _ = _
  rw [List.map_map]
  refine (List.map_congr_left fun r _ => ?_).trans (List.map_id rows)
  show (iL r).map unI = r
  exact unI_iL r
def textU (z : Str) : Str := textT (unR (kindT z "wall")) (unR (kindT z "awning")) (unR (kindT z "seat"))
theorem read_street_run (hj : 5 ≤ j) {z : Str} (h : Rd0 z) : CC tl tels j 63 [.d (.str z)] = if streetB (.tuple (foundT z)) = true then
    if textU z = z then .ok (.d (.tuple (foundT z))) [] else .ex "InvalidText" []
    else .ex "InvalidText" [] := by
  have w1 : cpOk "wall" := by unfold cpOk; decide +kernel
  have w2 : cpOk "awning" := by unfold cpOk; decide +kernel
  have w3 : cpOk "seat" := by unfold cpOk; decide +kernel
  have e0 : CC tl tels j 63 [.d (.str z)] = runF (CC tl tels (j - 1)) GL d_read_street [.d (.str z)] := call_at (d := d_read_street) rfl (by decide) (by omega)
  have rr := rows_run (C := CC tl tels (j - 1)) (gl := GL) h (a := .non) (b := .non) (c := .non) (d := .non) (e := .non) (f := .non) rfl
  have t1 := read_turn (tl := tl) (tels := tels) (fuel := 0) (j := j - 1) (by omega) h w1 (ds := []) (by simp) (s3 := .non) (s4 := .non) rfl
  have t2 := read_turn (tl := tl) (tels := tels) (fuel := 0) (j := j - 1) (by omega) h w2 (ds := [kindT z "wall"]) (by simp) (s3 := .d (.str "wall")) (s4 := .non) rfl
  have t3 := read_turn (tl := tl) (tels := tels) (fuel := 0) (j := j - 1) (by omega) h w3 (ds := [kindT z "wall", kindT z "awning"]) (by simp) (s3 := .d (.str "awning")) (s4 := .non) rfl
  simp only [List.nil_append, List.cons_append] at t1 t2 t3
  have si := street_is (tl := tl) (tels := tels) (j := j - 1) (by omega) (found_sh z).1
  have tp : dBi .tuple [.list [kindT z "wall", kindT z "awning", kindT z "seat"]] = some (.tuple (foundT z)) := rfl
  have tp2 : dBi .tuple [.list (foundT z)] = some (.tuple (foundT z)) := rfl
  cases q : streetB (.tuple (foundT z)) with
  | false =>
    rw [q] at si
    rw [e0, if_neg (by decide)]
    simp [runF, d_read_street, b_read_street, rr, forLoop_cons, t1, t2, t3, readV_own, tp, si, retC, outsOf]
  | true =>
    rw [q] at si
    rw [if_pos rfl]
    obtain ⟨r1, r2, r3, f1, f2, f3, b1, b2, b3⟩ := streetB_is q
    have wr := written_call (tl := tl) (tels := tels) (j := j - 1) (by omega) (v := .list (foundT z)) (by show some (foundT z) = _; unfold foundT; rw [f1, f2, f3]) b1 b2 b3
    have eu : textU z = textT r1 r2 r3 := by unfold textU; rw [f1, f2, f3, unR_rows, unR_rows, unR_rows]
    rw [eu]
    have ne := cmp_ne (x := .str (textT r1 r2 r3)) (y := .str z) ((text_cp b1 b2 b3).sh 0) (h.cp.sh 0) (by decide) (by decide)
    rw [eqv_str] at ne
    unfold foundT at wr tp2 ⊢
    by_cases e : textT r1 r2 r3 = z
    · rw [if_pos e, e0]
      rw [decide_eq_true e] at ne
      simp [runF, d_read_street, b_read_street, rr, forLoop_cons, t1, t2, t3, readV_own, tp, si, wr, ne, tp2, retC, outsOf]
      rfl
    · rw [if_neg e, e0]
      rw [decide_eq_false e] at ne
      simp [runF, d_read_street, b_read_street, rr, forLoop_cons, t1, t2, t3, readV_own, tp, si, wr, ne, tp2, retC, outsOf]
theorem read_good (hj : 5 ≤ j) {z : Str} (h : Rd0 z) (g : streetB (.tuple (foundT z)) = true ∧ textU z = z) : CC tl tels j 63 [.d (.str z)] = .ok (.d (.tuple (foundT z))) [] := by
  rw [read_street_run hj h, if_pos g.1, if_pos g.2]
theorem read_bad (hj : 5 ≤ j) {z : Str} (h : Rd0 z) (g : ¬ (streetB (.tuple (foundT z)) = true ∧ textU z = z)) : CC tl tels j 63 [.d (.str z)] = .ex "InvalidText" [] := by
  rw [read_street_run hj h]
  split
  · rename_i g1
    exact if_neg fun g2 => g ⟨g1, g2⟩
  · rfl
theorem read_odd (hj : 5 ≤ j) {v : D} (hv : nd v = true) (no : dIsi v .str = some false) : CC tl tels j 63 [.d v] = .ex "InvalidText" [] := by
  rw [show CC tl tels j 63 _ = _ from call_at (d := d_read_street) rfl (by decide) (by omega)]
  simp [runF, d_read_street, b_read_street, no, retC, outsOf]
/-! ### what is written can be read -/
theorem numT_str : ∀ n : Nat, n < 21 → numT (strI (n : Int)) = .int (n : Int) := by
  have : ∀ n : Nat, n < 21 → numB (strI (n : Int)) = true ∧ intText? (strI (n : Int)) = some (n : Int) := by decide +kernel
  intro n hn
  obtain ⟨h1, h2⟩ := this n hn
  unfold numT
  rw [if_pos h1]
  have l := (strI_len n hn).1
  show (if (strI (n : Int)).length ≤ 640 then (intText? (strI (n : Int))).map PyData.int else none).getD .none = _
  rw [if_pos (by omega), h2]
  rfl
theorem numT_at {i : Int} (h : 0 ≤ i ∧ i ≤ 20) : numT (strI i) = .int i := by
  have := numT_str i.toNat (by omega)
  rw [show ((i.toNat : Nat) : Int) = i by omega] at this
  exact this
theorem line_split {w : Str} (hw : 32 ∉ TL.tl w) {r : List Int} (hr : ∀ i ∈ r, 0 ≤ i ∧ i ≤ 20) : Txt.split (lineT w r) " " = w :: r.map strI := by
  refine TL.split_join (s := 32) (S := []) (by decide +kernel) (by decide +kernel) (by simp) fun p hp => ?_
  rcases (List.mem_cons.mp hp) with rfl | hp
  · exact hw
  · obtain ⟨i, hi, rfl⟩ := List.mem_map.mp hp
    intro hc
    have := (strI_at (hr i hi)).2.2 32 hc
    omega
theorem line_free {w : Str} (hw : 10 ∉ TL.tl w) {r : List Int} (hr : ∀ i ∈ r, 0 ≤ i ∧ i ≤ 20) : 10 ∉ TL.tl (lineT w r) := by
  unfold lineT
  rw [TL.join_eq]
  have gen : ∀ zs : List Str, (∀ z ∈ zs, 10 ∉ TL.tl z) → 10 ∉ TL.tl (Str.join " " zs) := by
    intro zs
    induction zs with
    | nil => intro _ h; cases h
    | cons z zs ih =>
      intro hz
      cases zs with
      | nil => exact hz z List.mem_cons_self
      | cons y ys =>
        show 10 ∉ TL.tl (z ++ " " ++ Str.join " " (y :: ys))
        rw [TL.tl_append, TL.tl_append, List.mem_append, List.mem_append]
        rintro ((h | h) | h)
        · exact hz z List.mem_cons_self h
        · exact absurd h (by decide +kernel)
        · exact ih (fun q hq => hz q (List.mem_cons_of_mem _ hq)) h
  refine gen _ fun z hz => ?_
  rcases (List.mem_cons.mp hz) with rfl | hz
  · exact hw
  · obtain ⟨i, hi, rfl⟩ := List.mem_map.mp hz
    intro hc
    have := (strI_at (hr i hi)).2.2 10 hc
    omega
theorem lines_filter {w v : Str} {rows : List (List Int)} (hb : ∀ r ∈ rows, ∀ i ∈ r, 0 ≤ i ∧ i ≤ 20) : (rows.map fun r => v :: r.map strI).filterMap (rowF w) = if v = w then rows.map rowD else [] := by
  induction rows with
  | nil => split <;> rfl
  | cons r rows ih =>
    rw [List.map_cons, List.filterMap_cons, ih fun q hq => hb q (List.mem_cons_of_mem _ hq)]
    have e : rowF w (v :: r.map strI) = if v = w then some (rowD r) else none := by
      unfold rowF
      by_cases q : v = w
      · subst q
        rw [if_pos (show (v :: List.map strI r).head? = some v from rfl), if_pos rfl]
        have : (r.map strI).map numT = iL r := by
          rw [List.map_map]
          exact List.map_congr_left fun i hi => numT_at (hb r List.mem_cons_self i hi)
        show some (PyData.tuple ((r.map strI).map numT)) = _
        rw [this]
        rfl
      · rw [if_neg q, if_neg (show ¬ (v :: List.map strI r).head? = some w from fun z => q (Option.some.inj z))]
    rw [e]
    by_cases q : v = w
    · rw [(if_pos q), if_pos q, if_pos q]
      rfl
    · rw [(if_neg q), if_neg q, if_neg q]
theorem linesR_text {r1 r2 r3 : List (List Int)} (h1 : Bd r1) (h2 : Bd r2) (h3 : Bd r3) (ne : r3 ≠ []) :
    linesR (textT r1 r2 r3) = (r1.map fun r => Str.ofString "wall" :: r.map strI) ++ ((r2.map fun r => Str.ofString "awning" :: r.map strI) ++ (r3.map fun r => Str.ofString "seat" :: r.map strI)) := by
  have e : linesT [("wall", r1), ("awning", r2), ("seat", r3)] = r1.map (lineT "wall") ++ (r2.map (lineT "awning") ++ r3.map (lineT "seat")) := by simp [linesT]
  have sp : Txt.split (textT r1 r2 r3) "\n" = linesT [("wall", r1), ("awning", r2), ("seat", r3)] := by
    refine TL.split_join (s := 10) (S := []) (by decide +kernel) (by decide +kernel) (fun z => ?_) fun p hp => ?_
    · rw [e] at z
      exact ne (List.map_eq_nil_iff.mp (List.append_eq_nil_iff.mp (List.append_eq_nil_iff.mp z).2).2)
    · rw [e] at hp
      rcases (List.mem_append.mp hp) with hp | hp
      · obtain ⟨r, hr, rfl⟩ := List.mem_map.mp hp
        exact line_free (by decide +kernel) (h1.row r hr).2
      · rcases (List.mem_append.mp hp) with hp | hp
        · obtain ⟨r, hr, rfl⟩ := List.mem_map.mp hp
          exact line_free (by decide +kernel) (h2.row r hr).2
        · obtain ⟨r, hr, rfl⟩ := List.mem_map.mp hp
          exact line_free (by decide +kernel) (h3.row r hr).2
  unfold linesR
  rw [sp, e, List.map_append, List.map_append, List.map_map, List.map_map, List.map_map]
  congr 1
  · exact List.map_congr_left fun r hr => line_split (by decide +kernel) (h1.row r hr).2
  · congr 1
    · exact List.map_congr_left fun r hr => line_split (by decide +kernel) (h2.row r hr).2
    · exact List.map_congr_left fun r hr => line_split (by decide +kernel) (h3.row r hr).2
theorem found_text {r1 r2 r3 : List (List Int)} (h1 : Bd r1) (h2 : Bd r2) (h3 : Bd r3) (ne : r3 ≠ []) : foundT (textT r1 r2 r3) = [rowsD r1, rowsD r2, rowsD r3] := by
  have l := linesR_text h1 h2 h3 ne
  have f1 : ∀ {v w : Str}, _ := fun {v w : Str} => lines_filter (w := w) (v := v) fun r hr => (h1.row r hr).2
  have f2 : ∀ {v w : Str}, _ := fun {v w : Str} => lines_filter (w := w) (v := v) fun r hr => (h2.row r hr).2
  have f3 : ∀ {v w : Str}, _ := fun {v w : Str} => lines_filter (w := w) (v := v) fun r hr => (h3.row r hr).2
  have a : (Str.ofString "wall" = Str.ofString "awning") = False := eq_false (by decide +kernel)
  have b : (Str.ofString "wall" = Str.ofString "seat") = False := eq_false (by decide +kernel)
  have c : (Str.ofString "awning" = Str.ofString "wall") = False := eq_false (by decide +kernel)
  have d : (Str.ofString "awning" = Str.ofString "seat") = False := eq_false (by decide +kernel)
  have e : (Str.ofString "seat" = Str.ofString "wall") = False := eq_false (by decide +kernel)
  have f : (Str.ofString "seat" = Str.ofString "awning") = False := eq_false (by decide +kernel)
  unfold foundT kindT
  rw [l]
  simp only [List.filterMap_append, f1, f2, f3, a, b, c, d, e, f, if_true, if_false, List.append_nil, List.nil_append]
  rfl
theorem textU_text {r1 r2 r3 : List (List Int)} (h1 : Bd r1) (h2 : Bd r2) (h3 : Bd r3) (ne : r3 ≠ []) : textU (textT r1 r2 r3) = textT r1 r2 r3 := by
  have f := found_text h1 h2 h3 ne
  unfold foundT at f
  injection f with e1 f
  injection f with e2 f
  injection f with e3 f
  unfold textU
  rw [e1, e2, e3, unR_rows, unR_rows, unR_rows]
end Ev
end
section
set_option Elab.async false
set_option maxRecDepth 100000
set_option linter.all false
set_option autoImplicit false
set_option maxHeartbeats 1000007
/-! P13: what is a step, a script. -/
namespace Ev
open PySem
variable {tl : List Df} {tels : Nat → List Arg → RC} {j : Nat} {fuel : Nat} {C : Calls} {gl : List D}
theorem Street.ix0 (s : Street) : dIx s.d (.int 0) = some (.tuple (s.ws.map p2)) := at0 _ _
theorem Street.ix1 (s : Street) : dIx s.d (.int 1) = some (.tuple (s.as.map p3)) := at1 _ _ _
theorem Street.ix2 (s : Street) : dIx s.d (.int 2) = some (.tuple (s.ss.map p2)) := at2 _ _ _ _
abbrev Street.nW (s : Street) : Int := s.ws.length
abbrev Street.nA (s : Street) : Int := s.as.length
abbrev Street.nS (s : Street) : Int := s.ss.length
theorem things_call (hj : 1 ≤ j) (s : Street) : CC tl tels j 4 [.d s.d] = .ok (.d (.int (s.nW + s.nA))) [] := by
  rw [show CC tl tels j 4 _ = _ from call_at (d := d_things_of) rfl (by decide) hj]
  simp [runF, d_things_of, b_things_of, s.ix0, s.ix1, retC, outsOf]
theorem in_strs2 (w a b : Str) : dCmp .In (.str w) (.tuple [.str a, .str b]) = some (.bool (decide (a = w) || decide (b = w))) := by
  show (dIn (.str w) (.tuple [.str a, .str b])).map PyData.bool = _
  have : dIn (.str w) (.tuple [.str a, .str b]) = some (decide (a = w) || decide (b = w)) := by
    show (if (flatD (.str w) && [PyData.str a, PyData.str b].all flatD) = true then some ([PyData.str a, PyData.str b].any fun y => PyData.eqv y (.str w)) else none) = _
    rw [if_pos (show (flatD (.str w) && [PyData.str a, PyData.str b].all flatD) = true from rfl)]
    simp [eqv_str]
  rw [this]
  rfl
theorem eq_strs {a b : Str} (ha : cpOk a) (hb : cpOk b) : dCmp .Eq (.str a) (.str b) = some (.bool (decide (a = b))) := by
  rw [cmp_eq (ha.sh 0) (hb.sh 0) (by decide) (by decide), eqv_str]
theorem cp_of {x : Str} (h : (PyData.str x).canLay0 = true) : cpOk x := fun c hc => by
  have h : x.cps.all (· < 0x110000) = true := h
  rw [← Array.all_toList] at h
  exact (of_decide_eq_true (List.all_eq_true.mp h c hc))
def farB (nw : Int) : D → D → Bool
  | .int a, .int n => !decide (n = nw + a)
  | _, _ => false
/-- whether a value is a step that is done at once -/
def singleB (s : Street) : D → Bool
  | .tuple [.str w, a, n] => wholeB a 0 (s.nA - 1) && (if (decide (Str.ofString "out" = w) || decide (Str.ofString "in" = w)) = true then wholeB n 1 9 else if w = "cover" then wholeB n 0 (s.nS - 1) else decide (w = "touch") && (wholeB n 0 (s.nW + s.nA - 1) && farB s.nW a n))
  | _ => false
def stepB (s : Street) (v : D) : Bool := singleB s v || match v with
  | .tuple [.str w, i, g] => ((decide (Str.ofString "when" = w) || decide (Str.ofString "unless" = w)) && wholeB i 0 (s.nS - 1)) && singleB s g
  | _ => false
def stepsB (s : Street) : D → Bool
  | .tuple xs => xs.all (stepB s)
  | _ => false
def scriptB (s : Street) : D → Bool
  | .tuple xs => xs.all (stepB s) && decide (xs.length ≤ 6)
  | _ => false
theorem cp_cover : cpOk "cover" := by unfold cpOk; decide +kernel
theorem cp_touch : cpOk "touch" := by unfold cpOk; decide +kernel
theorem lay_of {xs : List D} (h : (PyData.tuple xs).canLay0 = true) : ∀ x ∈ xs, x.canLay0 = true := fun x hx => List.all_eq_true.mp (by rw [← all_lay]; exact h) x hx
theorem single_is (hj : 3 ≤ j) (s : Street) {v : D} (hv : v.canLay0 = true) : CC tl tels j 5 [.d s.d, .d v] = .ok (.d (.bool (singleB s v))) [] := by
  rw [show CC tl tels j 5 _ = _ from call_at (d := d_is_single) rfl (by decide) (by omega)]
  cases v with
  | tuple xs =>
    by_cases l : xs.length = 3
    · match xs, l with
      | [x, a, n], _ =>
        have lay := lay_of hv
        cases x with
        | str w =>
          have cw := cp_of (lay (.str w) (by simp))
          have ca := fun lo hi => whole_call (tl := tl) (tels := tels) (j := j - 1) (by omega) (nd_of (lay a (by simp))) lo hi
          have cn := fun lo hi => whole_call (tl := tl) (tels := tels) (j := j - 1) (by omega) (nd_of (lay n (by simp))) lo hi
          have th := things_call (tl := tl) (tels := tels) (j := j - 1) (by omega) s
          cases qa : wholeB a 0 (s.nA - 1) with
          | false =>
            have ca := ca 0 (s.nA - 1)
            rw [qa] at ca
            simp [runF, d_is_single, b_is_single, at0, at1, s.ix1, ca, singleB, qa, retC, outsOf]
          | true =>
            obtain ⟨i, rfl, _⟩ := whole_is qa
            have ca := ca 0 (s.nA - 1)
            rw [qa] at ca
            by_cases w1 : (decide (Str.ofString "out" = w) || decide (Str.ofString "in" = w)) = true
            · have i1 := in_strs2 w "out" "in"
              rw [w1] at i1
              have r : singleB s (.tuple [.str w, .int i, n]) = wholeB n 1 9 := by simp only [singleB]; rw [qa, if_pos w1]; rfl
              rw [r]
              simp [runF, d_is_single, b_is_single, at0, at1, s.ix1, ca, i1, cn, retC, outsOf]
            · have i1 := in_strs2 w "out" "in"
              rw [Bool.not_eq_true _ |>.mp w1] at i1
              have e2 := eq_strs cw cp_cover
              have e3 := eq_strs cw cp_touch
              by_cases w2 : w = "cover"
              · rw [decide_eq_true w2] at e2
                have r : singleB s (.tuple [.str w, .int i, n]) = wholeB n 0 (s.nS - 1) := by simp only [singleB]; rw [qa, if_neg w1, if_pos w2]; rfl
                rw [r]
                simp [runF, d_is_single, b_is_single, at0, at1, s.ix1, s.ix2, ca, i1, cn, e2, retC, outsOf]
              · rw [decide_eq_false w2] at e2
                have r : singleB s (.tuple [.str w, .int i, n]) = (decide (w = "touch") && (wholeB n 0 (s.nW + s.nA - 1) && farB s.nW (.int i) n)) := by simp only [singleB]; rw [qa, if_neg w1, if_neg w2]; rfl
                rw [r]
                by_cases w3 : w = "touch"
                · rw [decide_eq_true w3] at e3 ⊢
                  have cn := cn 0 (s.nW + s.nA - 1)
                  cases qn : wholeB n 0 (s.nW + s.nA - 1) with
                  | false =>
                    rw [qn] at cn
                    simp [runF, d_is_single, b_is_single, at0, at1, s.ix1, ca, i1, cn, e2, e3, th, retC, outsOf]
                  | true =>
                    rw [qn] at cn
                    obtain ⟨m, rfl, _⟩ := whole_is qn
                    simp [runF, d_is_single, b_is_single, at0, at1, s.ix0, s.ix1, ca, i1, cn, e2, e3, th, farB, retC, outsOf]
                · rw [decide_eq_false w3] at e3 ⊢
                  simp [runF, d_is_single, b_is_single, at0, at1, s.ix1, ca, i1, e2, e3, retC, outsOf]
        | dict kvs => cases lay (.dict kvs) List.mem_cons_self
        | _ => simp [runF, d_is_single, b_is_single, at0, singleB, retC, outsOf]
    · have l' : ¬ (xs.length : Int) = 3 := by omega
      have r : singleB s (.tuple xs) = false := by
        match xs, l with
        | [], _ => rfl
        | [x], _ => cases x <;> rfl
        | [x, _], _ => cases x <;> rfl
        | [_, _, _], l => exact absurd rfl l
        | x :: _ :: _ :: _ :: _, _ => cases x <;> rfl
      rw [r]
      simp [runF, d_is_single, b_is_single, l', retC, outsOf]
  | dict _ => cases hv
  | _ => simp [runF, d_is_single, b_is_single, singleB, retC, outsOf]
theorem single_tup {s : Street} {v : D} (h : singleB s v = true) : ∃ w a n, v = .tuple [.str w, a, n] := by
  unfold singleB at h
  split at h
  · exact ⟨_, _, _, rfl⟩
  · cases h
theorem step_is (hj : 4 ≤ j) (s : Street) {v : D} (hv : v.canLay0 = true) : CC tl tels j 6 [.d s.d, .d v] = .ok (.d (.bool (stepB s v))) [] := by
  rw [show CC tl tels j 6 _ = _ from call_at (d := d_is_step) rfl (by decide) (by omega)]
  have sg := single_is (tl := tl) (tels := tels) (j := j - 1) (by omega) s hv
  cases q : singleB s v with
  | true =>
    rw [q] at sg
    have r : stepB s v = true := by unfold stepB; rw [q]; rfl
    rw [r]
    simp [runF, d_is_step, b_is_step, sg, retC, outsOf]
  | false =>
    rw [q] at sg
    cases v with
    | tuple xs =>
      by_cases l : xs.length = 3
      · match xs, l with
        | [x, i, g], _ =>
          have lay := lay_of hv
          cases x with
          | str w =>
            have ci := whole_call (tl := tl) (tels := tels) (j := j - 1) (by omega) (nd_of (lay i (by simp))) 0 (s.nS - 1)
            have cg := single_is (tl := tl) (tels := tels) (j := j - 1) (by omega) s (lay g (by simp))
            have i1 := in_strs2 w "when" "unless"
            have r : stepB s (.tuple [.str w, i, g]) = (((decide (Str.ofString "when" = w) || decide (Str.ofString "unless" = w)) && wholeB i 0 (s.nS - 1)) && singleB s g) := by unfold stepB; rw [q]; rfl
            rw [r]
            cases qw : (decide (Str.ofString "when" = w) || decide (Str.ofString "unless" = w)) with
            | false =>
              rw [qw] at i1
              simp [runF, d_is_step, b_is_step, sg, at0, i1, retC, outsOf]
            | true =>
              rw [qw] at i1
              cases qi : wholeB i 0 (s.nS - 1) with
              | false =>
                rw [qi] at ci
                simp [runF, d_is_step, b_is_step, sg, at0, at1, s.ix2, ci, i1, retC, outsOf]
              | true =>
                rw [qi] at ci
                simp [runF, d_is_step, b_is_step, sg, at0, at1, at2, s.ix2, ci, i1, cg, retC, outsOf]
          | dict kvs => cases lay (.dict kvs) List.mem_cons_self
          | _ => simp [runF, d_is_step, b_is_step, sg, at0, stepB, singleB, retC, outsOf]
      · have l' : ¬ (xs.length : Int) = 3 := by omega
        have r : stepB s (.tuple xs) = false := by
          unfold stepB
          rw [q]
          match xs, l with
          | [], _ => rfl
          | [x], _ => cases x <;> rfl
          | [x, _], _ => cases x <;> rfl
          | [_, _, _], l => exact absurd rfl l
          | x :: _ :: _ :: _ :: _, _ => cases x <;> rfl
        rw [r]
        simp [runF, d_is_step, b_is_step, sg, l', retC, outsOf]
    | dict _ => cases hv
    | _ => simp [runF, d_is_step, b_is_step, sg, stepB, singleB, retC, outsOf]
theorem steps_is (hj : 5 ≤ j) (s : Street) {v : D} (hv : v.canLay0 = true) (hl : ∀ xs, v = .tuple xs → xs.length ≤ 1000) : CC tl tels j 7 [.d s.d, .d v] = .ok (.d (.bool (stepsB s v))) [] := by
  rw [show CC tl tels j 7 _ = _ from call_at (d := d_are_steps) rfl (by decide) (by omega)]
  cases v with
  | tuple xs =>
    have lay := lay_of hv
    have lc := ev_lc (C := CC tl tels (j - 1)) (gl := GL) (elt := .call 6 (.cons (.v 0) (.cons (.v 2) .nil))) (it := .iSeq (.v 1)) (cond := .nil) (t := .nm 2) (own := [2]) (r := [.d s.d, .d (.tuple xs), .non]) (r1 := [.d s.d, .d (.tuple xs), .non]) (items := xs)
      (fun x => some (.bool (stepB s x))) (by simp) (by simp [loose?]) (lenLim_le _ (hl xs rfl)) fun x hx => by
        refine ⟨[.d s.d, .d (.tuple xs), .d x], true, by simp [wipeR], by simp, by simp [wipeR], ?_⟩
        rw [if_pos rfl]
        exact ⟨_, by simp [step_is (tl := tl) (tels := tels) (j := j - 1) (by omega) s (lay x hx)], rfl⟩
    rw [List.filterMap_eq_map'] at lc
    have al := bi_all (stepB s) xs
    simp [runF, d_are_steps, b_are_steps, lc, al, stepsB, retC, outsOf]
  | dict _ => cases hv
  | _ => simp [runF, d_are_steps, b_are_steps, stepsB, retC, outsOf]
theorem script_is (hj : 6 ≤ j) {s : Street} (hs : streetB s.d = true) {v : D} (hv : v.canLay0 = true) (hl : ∀ xs, v = .tuple xs → xs.length ≤ 1000) : CC tl tels j 16 [.d s.d, .d v] = .ok (.d (.bool (scriptB s v))) [] := by
  rw [show CC tl tels j 16 _ = _ from call_at (d := d_is_script) rfl (by decide) (by omega)]
  have nd := need_street_call (tl := tl) (tels := tels) (j := j - 1) (by omega) s.sh.1
  rw [if_pos hs] at nd
  have st := steps_is (tl := tl) (tels := tels) (j := j - 1) (by omega) s hv hl
  cases v with
  | tuple xs =>
    have r : scriptB s (.tuple xs) = (xs.all (stepB s) && decide (xs.length ≤ 6)) := rfl
    have r0 : stepsB s (.tuple xs) = xs.all (stepB s) := rfl
    rw [r0] at st
    rw [r]
    cases q : xs.all (stepB s) with
    | false => rw [q] at st; simp [runF, d_is_script, b_is_script, nd, st, retC, outsOf]
    | true =>
      rw [q] at st
      have e : decide ((xs.length : Int) ≤ 6) = decide (xs.length ≤ 6) := decide_eq_decide.mpr (by omega)
      simp [runF, d_is_script, b_is_script, nd, st, e, retC, outsOf]
  | dict _ => cases hv
  | _ => simp only [stepsB] at st; simp [runF, d_is_script, b_is_script, nd, st, scriptB, retC, outsOf]
theorem script_bad (hj : 6 ≤ j) {v x : D} (hv : v.canLay0 = true) (no : streetB v = false) : CC tl tels j 16 [.d v, .d x] = .ex "InvalidStreet" [] := by
  rw [show CC tl tels j 16 _ = _ from call_at (d := d_is_script) rfl (by decide) (by omega)]
  have c := need_street_call (tl := tl) (tels := tels) (j := j - 1) (by omega) hv
  rw [no] at c
  simp [runF, d_is_script, b_is_script, c, retC, outsOf]
theorem count_bad (hj : 6 ≤ j) {v : D} (hv : v.canLay0 = true) (no : streetB v = false) : CC tl tels j 17 [.d v] = .ex "InvalidStreet" [] := by
  rw [show CC tl tels j 17 _ = _ from call_at (d := d_count_things) rfl (by decide) (by omega)]
  have c := need_street_call (tl := tl) (tels := tels) (j := j - 1) (by omega) hv
  rw [no] at c
  simp [runF, d_count_things, b_count_things, c, retC, outsOf]
theorem count_good (hj : 6 ≤ j) {v : D} (hv : v.canLay0 = true) (yes : streetB v = true) : ∃ n : Int, CC tl tels j 17 [.d v] = .ok (.d (.int n)) [] := by
  rw [show CC tl tels j 17 _ = _ from call_at (d := d_count_things) rfl (by decide) (by omega)]
  have c := need_street_call (tl := tl) (tels := tels) (j := j - 1) (by omega) hv
  rw [if_pos yes] at c
  obtain ⟨w, a, x, rfl⟩ : ∃ w a x, v = .tuple [w, a, x] := by
    unfold streetB at yes
    split at yes
    · exact ⟨_, _, _, rfl⟩
    · cases yes
  obtain ⟨r1, r2, r3, rfl, rfl, rfl, _⟩ := streetB_is yes
  have t : CC tl tels (j - 1) 4 [.d (.tuple [rowsD r1, rowsD r2, rowsD r3])] = .ok (.d (.int ((r1.length : Int) + r2.length))) [] := by
    rw [show CC tl tels (j - 1) 4 _ = _ from call_at (d := d_things_of) rfl (by decide) (by omega)]
    have l1 : dBi .len [rowsD r1] = some (.int r1.length) := by unfold rowsD; rw [bi_len_t, List.length_map]
    have l2 : dBi .len [rowsD r2] = some (.int r2.length) := by unfold rowsD; rw [bi_len_t, List.length_map]
    simp [runF, d_things_of, b_things_of, at0, at1, l1, l2, retC, outsOf]
  exact ⟨_, by simp [runF, d_count_things, b_count_things, c, t, retC, outsOf]; rfl⟩
theorem count_street (hj : 6 ≤ j) {s : Street} (hs : streetB s.d = true) : CC tl tels j 17 [.d s.d] = .ok (.d (.int (s.nW + s.nA))) [] := by
  rw [show CC tl tels j 17 _ = _ from call_at (d := d_count_things) rfl (by decide) (by omega)]
  have c := need_street_call (tl := tl) (tels := tels) (j := j - 1) (by omega) s.sh.1
  rw [if_pos hs] at c
  simp [runF, d_count_things, b_count_things, c, things_call (tl := tl) (tels := tels) (j := j - 1) (by omega) s, retC, outsOf]
end Ev
end
section
set_option Elab.async false
set_option maxRecDepth 100000
set_option linter.all false
set_option autoImplicit false
set_option maxHeartbeats 1000007
set_option exponentiation.threshold 20001
/-! P14: fractions, leans. -/
namespace Ev
open PySem
variable {tl : List Df} {tels : Nat → List Arg → RC} {j : Nat} {fuel : Nat} {C : Calls} {gl : List D}
/-- numbers of at most 8000 bits -/
def Bn (i : Int) : Prop := i.natAbs < 2 ^ 8000
theorem bigF_gt {n : Nat} (h : n < 2 ^ 8000) : n < bigF := Nat.lt_of_lt_of_le h (Nat.pow_le_pow_right (by decide) (by decide))
theorem Bn.log {i : Int} (h : Bn i) : i.natAbs.log2 ≤ 7999 := log2_lt (k := 7999) h
theorem mul_bn {i j : Int} (h : Bn i) (k : Bn j) : dBin .Mult (.int i) (.int j) = some (.int (i * j)) := bin_mul (by
  have h1 := h.log
  have h2 := k.log
  omega)
theorem div_bn {i j : Int} (p : 0 < j) (k : Bn j) : dBin .FloorDiv (.int i) (.int j) = some (.int (i / j)) := bin_div p (by
  have := k.log
  omega)
theorem bn_small {i : Int} {n : Nat} (h : i.natAbs ≤ n) (l : n < 2 ^ 8000) : Bn i := Nat.lt_of_le_of_lt h l
theorem whLoop_succ {c : Rho → R D} {b : Rho → Fl} {n : Nat} {r : Rho} : whLoop c b (n + 1) r = (c r).fl fun x r1 => match x with
    | .bool true => (match b r1 with
      | .nx r2 => whLoop c b n r2
      | .ct r2 => whLoop c b n r2
      | .bk r2 => .nx r2
      | .rt v r2 => .rt v r2
      | .ex c r2 => .ex c r2
      | .no => .no)
    | .bool false => .nx r1
    | _ => .no := rfl
theorem gcd_turn (m n : Nat) : Nat.gcd n (m % n) = Nat.gcd m n := by
  rw [Nat.gcd_comm n, ← Nat.gcd_rec, Nat.gcd_comm]
theorem divisor_loop : ∀ (f m n : Nat), n < f → whLoop (evE C gl (.cmp .NotEq (.v 1) (.kI 0))) (evS C gl fuel b_divisor_of_0) f [.d (.int (m : Int)), .d (.int (n : Int))] = .nx [.d (.int (Nat.gcd m n : Nat)), .d (.int 0)]
  | 0, _, _, h => (absurd h (Nat.not_lt_zero _))
  | f + 1, m, n, h => by
    rw [whLoop_succ]
    by_cases z : n = 0
    · subst z
      simp
    · have z' : ¬ (n : Int) = 0 := by omega
      have md := bin_mod (i := (m : Int)) (j := (n : Int)) (by omega)
      have ih := divisor_loop f n (m % n) (Nat.lt_of_lt_of_le (Nat.mod_lt _ (by omega)) (Nat.le_of_lt_succ h))
      rw [gcd_turn] at ih
      have ih : whLoop (evE C gl (.cmp .NotEq (.v 1) (.kI 0))) (evS C gl fuel b_divisor_of_0) f [.d (.int (n : Int)), .d (.int ((m : Int) % (n : Int)))] = _ := ih
      have turn : evS C gl fuel b_divisor_of_0 [.d (.int (m : Int)), .d (.int (n : Int))] = .nx [.d (.int (n : Int)), .d (.int ((m : Int) % (n : Int)))] := by simp [b_divisor_of_0, md, putL]
      simp [z, turn, ih]
theorem bi_abs (i : Int) : dBi .abs [.int i] = some (.int (i.natAbs : Nat)) := by
  show some (PyData.int (if i < 0 then -i else i)) = _
  congr 2
  split <;> omega
def gcdI (a b : Int) : Int := (Nat.gcd a.natAbs b.natAbs : Nat)
theorem divisor_call (hj : 1 ≤ j) {a b : Int} (hb : b.natAbs < bigF) : CC tl tels j 8 [.d (.int a), .d (.int b)] = .ok (.d (.int (gcdI a b))) [] := by
  rw [show CC tl tels j 8 _ = _ from call_at (d := d_divisor_of) rfl (by decide) hj]
  have lp := divisor_loop (C := CC tl tels (j - 1)) (gl := GL) (fuel := bigF) bigF a.natAbs b.natAbs hb
  simp [runF, d_divisor_of, b_divisor_of, bi_abs, putL, lp, gcdI, retC, outsOf, -ev_cmp]
theorem gcdI_pos {a b : Int} (hb : 0 < b) : 0 < gcdI a b := by
  have := Nat.gcd_pos_of_pos_right a.natAbs (show 0 < b.natAbs by omega)
  unfold gcdI
  omega
theorem gcdI_le {a b : Int} (hb : 0 < b) : gcdI a b ≤ b := by
  have := Nat.gcd_le_right a.natAbs (show 0 < b.natAbs by omega)
  unfold gcdI
  omega
theorem gcdI_bn {a b : Int} (hb : 0 < b) (h : Bn b) : Bn (gcdI a b) := by
  have h1 := gcdI_pos (a := a) hb
  have h2 := gcdI_le (a := a) hb
  exact Nat.lt_of_le_of_lt (show (gcdI a b).natAbs ≤ b.natAbs by omega) h
/-- in lowest terms -/
def low (a b : Int) : Int × Int := (a / gcdI a b, b / gcdI a b)
theorem lowest_call (hj : 2 ≤ j) {a b : Int} (hb : 0 < b) (h : Bn b) : CC tl tels j 9 [.d (.int a), .d (.int b)] = .ok (.d (p2 (low a b))) [] := by
  rw [show CC tl tels j 9 _ = _ from call_at (d := d_lowest) rfl (by decide) (by omega)]
  have g := divisor_call (tl := tl) (tels := tels) (j := j - 1) (by omega) (a := a) (b := b) (bigF_gt h)
  have d1 := div_bn (i := a) (gcdI_pos (a := a) hb) (gcdI_bn hb h)
  have d2 := div_bn (i := b) (gcdI_pos (a := a) hb) (gcdI_bn hb h)
  simp [runF, d_lowest, b_lowest, g, d1, d2, p2, low, retC, outsOf]
theorem lawlow_loop : ∀ (f m n : Nat) (a b c : Slot), n < f → whLoop (evE C gl (.cmp .NotEq (.v 4) (.kI 0))) (evS C gl fuel b__law_lowest_0) f [a, b, c, .d (.int (m : Int)), .d (.int (n : Int))] = .nx [a, b, c, .d (.int (Nat.gcd m n : Nat)), .d (.int 0)]
  | 0, _, _, _, _, _, h => absurd h (Nat.not_lt_zero _)
  | f + 1, m, n, a, b, c, h => by
    rw [whLoop_succ]
    by_cases z : n = 0
    · subst z
      simp
    · have z' : ¬ (n : Int) = 0 := by omega
      have md := bin_mod (i := (m : Int)) (j := (n : Int)) (by omega)
      have ih := lawlow_loop f n (m % n) a b c (Nat.lt_of_lt_of_le (Nat.mod_lt _ (by omega)) (Nat.le_of_lt_succ h))
      rw [gcd_turn] at ih
      have ih : whLoop (evE C gl (.cmp .NotEq (.v 4) (.kI 0))) (evS C gl fuel b__law_lowest_0) f [a, b, c, .d (.int (n : Int)), .d (.int ((m : Int) % (n : Int)))] = _ := ih
      have turn : evS C gl fuel b__law_lowest_0 [a, b, c, .d (.int (m : Int)), .d (.int (n : Int))] = .nx [a, b, c, .d (.int (n : Int)), .d (.int ((m : Int) % (n : Int)))] := by simp [b__law_lowest_0, md, putL]
      simp [z, turn, ih]
theorem lawlow_call (hj : 1 ≤ j) {a b : Int} (hb : 0 < b) (h : Bn b) (k : Bn a) : CC tl tels j 105 [.d (.int a), .d (.int b)] = .ok (.d (p2 (low a b))) [] := by
  rw [show CC tl tels j 105 _ = _ from call_at (d := d__law_lowest) rfl (by decide) hj]
  have lp := lawlow_loop (C := CC tl tels (j - 1)) (gl := GL) (fuel := bigF) bigF a.natAbs b.natAbs (.d (.int a)) (.d (.int b)) .non (bigF_gt h)
  have lp : _ = Fl.nx [.d (.int a), .d (.int b), .non, .d (.int (gcdI a b)), .d (.int 0)] := lp
  have one : Bn 1 := bn_small (n := 1) (by decide) (by decide)
  have m1 := mul_bn one k
  have m2 := mul_bn one h
  have d1 := div_bn (i := a) (gcdI_pos (a := a) hb) (gcdI_bn hb h)
  have d2 := div_bn (i := b) (gcdI_pos (a := a) hb) (gcdI_bn hb h)
  rw [Int.one_mul] at m1 m2
  simp [runF, d__law_lowest, b__law_lowest, bi_abs, putL, lp, hb, m1, m2, d1, d2, p2, low, retC, outsOf, -ev_cmp]
  simp [hb, m1, m2, d1, d2]
/-- whether a value is a lean -/
def leanB : D → Bool
  | .tuple [.int a, .int b] => decide (0 < a) && (decide (0 < b) && decide (gcdI a b = 1))
  | _ => false
theorem lean_is (hj : 2 ≤ j) {v : D} (hv : v.canLay0 = true) (hb : ∀ a b, v = .tuple [.int a, .int b] → b.natAbs < bigF) : CC tl tels j 10 [.d v] = .ok (.d (.bool (leanB v))) [] := by
  rw [show CC tl tels j 10 _ = _ from call_at (d := d_is_lean) rfl (by decide) (by omega)]
  cases v with
  | tuple xs =>
    by_cases l : xs.length = 2
    · match xs, l with
      | [x, y], _ =>
        have lay := lay_of hv
        have p1 := plain_call (tl := tl) (tels := tels) (j := j - 1) (by omega) (nd_of (lay x (by simp)))
        have p2 := plain_call (tl := tl) (tels := tels) (j := j - 1) (by omega) (nd_of (lay y (by simp)))
        cases qx : isInt x with
        | false =>
          rw [qx] at p1
          have r : leanB (.tuple [x, y]) = false := by cases x <;> first | rfl | cases qx
          rw [r]
          simp [runF, d_is_lean, b_is_lean, at0, p1, retC, outsOf]
        | true =>
          rw [qx] at p1
          cases qy : isInt y with
          | false =>
            rw [qy] at p2
            have r : leanB (.tuple [x, y]) = false := by cases x <;> cases y <;> first | rfl | cases qy
            rw [r]
            simp [runF, d_is_lean, b_is_lean, at0, at1, p1, p2, retC, outsOf]
          | true =>
            rw [qy] at p2
            obtain ⟨a, rfl⟩ : ∃ a, x = .int a := by cases x <;> first | exact ⟨_, rfl⟩ | cases qx
            obtain ⟨b, rfl⟩ : ∃ b, y = .int b := by cases y <;> first | exact ⟨_, rfl⟩ | cases qy
            have dv := divisor_call (tl := tl) (tels := tels) (j := j - 1) (by omega) (a := a) (b := b) (hb a b rfl)
            by_cases a0 : 0 < a
            · by_cases b0 : 0 < b
              · simp [runF, d_is_lean, b_is_lean, at0, at1, p1, p2, dv, a0, b0, leanB, retC, outsOf]
              · simp [runF, d_is_lean, b_is_lean, at0, at1, p1, p2, a0, b0, leanB, retC, outsOf]
            · simp [runF, d_is_lean, b_is_lean, at0, at1, p1, p2, a0, leanB, retC, outsOf]
    · have l' : ¬ (xs.length : Int) = 2 := by omega
      have r : leanB (.tuple xs) = false := by
        match xs, l with
        | [], _ => rfl
        | [x], _ => cases x <;> rfl
        | [_, _], l => exact absurd rfl l
        | x :: y :: _ :: _, _ => cases x <;> first | rfl | (cases y <;> rfl)
      rw [r]
      simp [runF, d_is_lean, b_is_lean, l', retC, outsOf]
  | dict _ => cases hv
  | _ => simp [runF, d_is_lean, b_is_lean, leanB, retC, outsOf]
/-! ### leans -/
/-- a fraction above 0 in lowest terms -/
structure Lean (p : Int × Int) : Prop where
  top : 0 < p.1
  below : 0 < p.2
  gcd : gcdI p.1 p.2 = 1
theorem Lean.is {p : Int × Int} (h : Lean p) : leanB (p2 p) = true := by
  show (decide (0 < p.1) && (decide (0 < p.2) && decide (gcdI p.1 p.2 = 1))) = true
  rw [decide_eq_true h.top, decide_eq_true h.below, decide_eq_true h.gcd]
  rfl
theorem gcdI_dvd_left (a b : Int) : gcdI a b ∣ a := by
  unfold gcdI
  exact Int.ofNat_dvd_left.mpr (Nat.gcd_dvd_left _ _)
theorem gcdI_dvd_right (a b : Int) : gcdI a b ∣ b := by
  unfold gcdI
  exact Int.ofNat_dvd_left.mpr (Nat.gcd_dvd_right _ _)
theorem low_eq {a b : Int} (hb : 0 < b) : (low a b).1 * gcdI a b = a ∧ (low a b).2 * gcdI a b = b := ⟨Int.ediv_mul_cancel (gcdI_dvd_left a b), Int.ediv_mul_cancel (gcdI_dvd_right a b)⟩
theorem low_below {a b : Int} (hb : 0 < b) : 0 < (low a b).2 := Int.ediv_pos_of_pos_of_dvd hb (Int.le_of_lt (gcdI_pos hb)) (gcdI_dvd_right a b)
theorem low_gcd {a b : Int} (hb : 0 < b) : gcdI (low a b).1 (low a b).2 = 1 := by
  have g := Nat.gcd_pos_of_pos_right a.natAbs (show 0 < b.natAbs by omega)
  have h := Nat.gcd_div (Nat.gcd_dvd_left a.natAbs b.natAbs) (Nat.gcd_dvd_right a.natAbs b.natAbs)
  rw [Nat.div_self g] at h
  unfold gcdI low
  rw [show (a / gcdI a b).natAbs = a.natAbs / Nat.gcd a.natAbs b.natAbs from Int.natAbs_ediv_of_dvd (gcdI_dvd_left a b), show (b / gcdI a b).natAbs = b.natAbs / Nat.gcd a.natAbs b.natAbs from Int.natAbs_ediv_of_dvd (gcdI_dvd_right a b), h]
  rfl
theorem low_lean {a b : Int} (ha : 0 < a) (hb : 0 < b) : Lean (low a b) := ⟨Int.ediv_pos_of_pos_of_dvd ha (Int.le_of_lt (gcdI_pos hb)) (gcdI_dvd_left a b), low_below hb, low_gcd hb⟩
theorem low_le {a b : Int} (ha : 0 ≤ a) (hb : 0 < b) : (low a b).1 ≤ a ∧ (low a b).2 ≤ b := by
  have g := gcdI_pos (a := a) hb
  exact ⟨Int.ediv_le_self _ ha, Int.ediv_le_self _ (Int.le_of_lt hb)⟩
theorem low_same {p : Int × Int} (h : gcdI p.1 p.2 = 1) : low p.1 p.2 = p := by
  unfold low
  rw [h, Int.ediv_one, Int.ediv_one]
end Ev
end
section
set_option Elab.async false
set_option maxRecDepth 100000
set_option linter.all false
set_option autoImplicit false
set_option maxHeartbeats 1000007
set_option exponentiation.threshold 20001
/-! P15: the laws' scripts and leans. -/
namespace Ev
open PySem
variable {tl : List Df} {tels : Nat → List Arg → RC} {j : Nat} {fuel : Nat} {C : Calls} {gl : List D}
/-- a step that is done at once -/
inductive Sgl where
  | mv (out : Bool) (a : Nat) (n : Int)
  | cover (a i : Nat)
  | touch (a t : Nat)
def mvW (out : Bool) : Str := if out = true then "out" else "in"
def Sgl.d : Sgl → D
  | .mv o a n => .tuple [.str (mvW o), .int a, .int n]
  | .cover a i => .tuple [.str "cover", .int a, .int i]
  | .touch a t => .tuple [.str "touch", .int a, .int t]
def Sgl.Ok (s : Street) : Sgl → Prop
  | .mv _ a n => a < s.as.length ∧ 1 ≤ n ∧ n ≤ 9
  | .cover a i => a < s.as.length ∧ i < s.ss.length
  | .touch a t => a < s.as.length ∧ t < s.ws.length + s.as.length ∧ t ≠ s.ws.length + a
inductive Stp where
  | now (g : Sgl)
  | cond (w : Bool) (i : Nat) (g : Sgl)
def whenW (w : Bool) : Str := if w = true then "when" else "unless"
def Stp.d : Stp → D
  | .now g => g.d
  | .cond w i g => .tuple [.str (whenW w), .int i, g.d]
def Stp.Ok (s : Street) : Stp → Prop
  | .now g => g.Ok s
  | .cond _ i g => i < s.ss.length ∧ g.Ok s
theorem tk_nat (bag : List Int) {m : Nat} (h : 0 < m) : ∃ n : Nat, tk bag (m : Int) = n ∧ n < m := by
  have := tk_lt bag (m := (m : Int)) (by omega)
  exact ⟨(tk bag m).toNat, by omega, by omega⟩
theorem eqv_nil_r (xs : List D) : PyData.eqv (.list xs) (.list []) = xs.isEmpty := by cases xs <;> rfl
def otherF (x : Int) : D → Option D
  | .int t => if t ≠ x then some (.int t) else none
  | _ => none
theorem single_call (hj : 3 ≤ j) {s : Street} (hs : Drawn s) (bag : List Int) : ∃ g bag', g.Ok s ∧ CC tl tels j 107 [.ob (.lst (iL bag)), .d s.d] = .ok (.d (Sgl.d g)) [.lst (iL bag')] := by
  have e0 : CC tl tels j 107 [.ob (.lst (iL bag)), .d s.d] = runF (CC tl tels (j - 1)) GL d__law_single [.ob (.lst (iL bag)), .d s.d] := call_at (d := d__law_single) rfl (by decide) (by omega)
  have nA := hs.a.1
  have nS := hs.s.1
  have nW := hs.w.1
  have k1 := take_call (tl := tl) (tels := tels) (j := j - 1) (by omega) bag (m := 7) (by decide)
  have k2 := take_call (tl := tl) (tels := tels) (j := j - 1) (by omega) bag.tail (m := (s.as.length : Int)) (by omega)
  obtain ⟨way, hw⟩ : ∃ a, a = tk bag 7 := ⟨_, rfl⟩
  obtain ⟨a, ha, la⟩ := tk_nat bag.tail (m := s.as.length) (by omega)
  rw [← hw] at k1
  rw [ha] at k2
  by_cases w2 : way < 2
  · have k3 := take_call (tl := tl) (tels := tels) (j := j - 1) (by omega) bag.tail.tail (m := 5) (by decide)
    have t := tk_lt bag.tail.tail (m := 5) (by decide)
    refine ⟨.mv (decide (way = 0)) a (1 + tk bag.tail.tail 5), bag.tail.tail.tail, ⟨la, by omega, by omega⟩, ?_⟩
    rw [e0]
    by_cases w0 : way = 0
    · simp [runF, d__law_single, b__law_single, s.ix1, k1, k2, putL, w2, w0, k3, retC, outsOf, Sgl.d, mvW]
    · simp [runF, d__law_single, b__law_single, s.ix1, k1, k2, putL, w2, w0, k3, retC, outsOf, Sgl.d, mvW]
  · by_cases w5 : way < 5
    · have k3 := take_call (tl := tl) (tels := tels) (j := j - 1) (by omega) bag.tail.tail (m := (s.ss.length : Int)) (by omega)
      obtain ⟨i, hi, li⟩ := tk_nat bag.tail.tail (m := s.ss.length) (by omega)
      rw [hi] at k3
      refine ⟨.cover a i, bag.tail.tail.tail, ⟨la, li⟩, ?_⟩
      rw [e0]
      simp [runF, d__law_single, b__law_single, s.ix1, s.ix2, k1, k2, putL, w2, w5, k3, retC, outsOf, Sgl.d]
    · have ad := bin_addT (xs := s.ws.map p2) (ys := s.as.map p3) (by rw [List.length_map, List.length_map]; exact lenLim_le _ (by omega))
      have ln : dBi .len [.tuple (s.ws.map p2 ++ s.as.map p3)] = some (.int ((s.ws.length + s.as.length : Nat) : Int)) := by rw [bi_len_t, List.length_append, List.length_map, List.length_map]
      have g := rng_ok (a := 0) (b := ((s.ws.length + s.as.length : Nat) : Int)) (by omega) (by omega) (by omega) (by omega) (by omega)
      have lc := ev_lc (C := CC tl tels (j - 1)) (gl := GL) (elt := .v 5) (it := .iRng .nil (.bi .len (.cons (.bin .Add (.ix (.v 1) (.kI 0)) (.ix (.v 1) (.kI 1))) .nil))) (cond := .cmp .NotEq (.v 5) (.bin .Add (.bi .len (.cons (.ix (.v 1) (.kI 0)) .nil)) (.v 4))) (t := .nm 5) (own := [5])
        (r := [.par (.lst (iL bag.tail.tail)), .d s.d, .non, .d (.int way), .d (.int (a : Int)), .non]) (r1 := [.par (.lst (iL bag.tail.tail)), .d s.d, .non, .d (.int way), .d (.int (a : Int)), .non]) (items := rngD 0 ((s.ws.length + s.as.length : Nat) : Int)) (otherF ((s.ws.length : Int) + a))
        (by simp [s.ix0, s.ix1, ad, ln, g, -bi_len_t, -Int.natCast_add]) (by simp [loose?]) (by rw [rngD_len]; exact lenLim_le _ (by omega)) fun x hx => by
          obtain ⟨t, rfl, _, _⟩ := rngD_mem hx
          refine ⟨[.par (.lst (iL bag.tail.tail)), .d s.d, .non, .d (.int way), .d (.int (a : Int)), .d (.int t)], !decide (t = (s.ws.length : Int) + a), by simp [wipeR], by rw [optB_e rfl]; simp [s.ix0], by simp [wipeR], ?_⟩
          by_cases e : t = (s.ws.length : Int) + a
          · simp [e, otherF]
          · simp [e, otherF]
      obtain ⟨os, ho⟩ : ∃ os, os = (rngD 0 ((s.ws.length + s.as.length : Nat) : Int)).filterMap (otherF ((s.ws.length : Int) + a)) := ⟨_, rfl⟩
      rw [← ho] at lc
      have os_mem : ∀ x ∈ os, ∃ t : Nat, x = .int t ∧ t < s.ws.length + s.as.length ∧ t ≠ s.ws.length + a := fun x hx => by
        rw [ho] at hx
        obtain ⟨y, hy, e⟩ := List.mem_filterMap.mp hx
        obtain ⟨t, rfl, t0, t1⟩ := rngD_mem hy
        unfold otherF at e
        simp only at e
        split at e
        · rename_i ne
          cases e
          exact ⟨t.toNat, by rw [show ((t.toNat : Nat) : Int) = t by omega], by omega, by omega⟩
        · cases e
      have os_len : os.length ≤ 1000 := by
        rw [ho]
        refine Nat.le_trans (List.length_filterMap_le _ _) ?_
        rw [rngD_len]
        omega
      have sh : Sh 1 (.list os) := .lst fun x hx => by
        obtain ⟨t, rfl, _⟩ := os_mem x hx
        exact .int _ _
      have ce := cmp_eq (x := .list os) (y := .list []) sh (.lst (n := 0) fun x hx => nomatch hx) (by decide) (by decide)
      rw [eqv_nil_r] at ce
      cases q : os.isEmpty with
      | true =>
        rw [q] at ce
        have k3 := take_call (tl := tl) (tels := tels) (j := j - 1) (by omega) bag.tail.tail (m := 9) (by decide)
        have t := tk_lt bag.tail.tail (m := 9) (by decide)
        refine ⟨.mv true a (1 + tk bag.tail.tail 9), bag.tail.tail.tail, ⟨la, by omega, by omega⟩, ?_⟩
        rw [e0]
        simp [runF, d__law_single, b__law_single, s.ix1, k1, k2, putL, w2, w5, lc, ce, k3, retC, outsOf, Sgl.d, mvW]
      | false =>
        rw [q] at ce
        obtain ⟨x, hx, k3⟩ := choice_call (tl := tl) (tels := tels) (j := j - 1) (by omega) bag.tail.tail (xs := os) (by intro z; rw [z] at q; cases q) os_len
        obtain ⟨t, rfl, t1, t2⟩ := os_mem x hx
        refine ⟨.touch a t, bag.tail.tail.tail, ⟨la, t1, t2⟩, ?_⟩
        rw [e0]
        simp [runF, d__law_single, b__law_single, s.ix1, k1, k2, putL, w2, w5, lc, ce, k3, retC, outsOf, Sgl.d]
end Ev
end
section
set_option Elab.async false
set_option maxRecDepth 100000
set_option linter.all false
set_option autoImplicit false
set_option maxHeartbeats 1000007
set_option exponentiation.threshold 20001
/-! P16: the laws' scripts and leans, done. -/
namespace Ev
open PySem
variable {tl : List Df} {tels : Nat → List Arg → RC} {j : Nat} {fuel : Nat} {C : Calls} {gl : List D}
theorem script_turn (hj : 4 ≤ j) {s : Street} (hs : Drawn s) (bag : List Int) {x : D} {sc : List Stp} (hl : sc.length ≤ 500) {m : Int} {s4 s5 s6 s7 : Slot} (f4 : fr s4 = true) (f5 : fr s5 = true) (f6 : fr s6 = true) (f7 : fr s7 = true) :
    ∃ bag' st a b c, Stp.Ok s st ∧ stepF (CC tl tels j) GL fuel (.nm 4) b__law_script_0 x [.par (.lst (iL bag)), .d s.d, .d (.int m), .d (.tuple (sc.map Stp.d)), s4, s5, s6, s7] =
      .nx [.par (.lst (iL bag')), .d s.d, .d (.int m), .d (.tuple ((sc ++ [st]).map Stp.d)), .d x, .d a, .d b, .d c] := by
  obtain ⟨g, bag1, og, k1⟩ := single_call (tl := tl) (tels := tels) (j := j) (by omega) hs bag
  have nS := hs.s.1
  have k2 := take_call (tl := tl) (tels := tels) (j := j) (by omega) bag1 (m := (s.ss.length : Int)) (by omega)
  obtain ⟨i, hi, li⟩ := tk_nat bag1 (m := s.ss.length) (by omega)
  rw [hi] at k2
  have k3 := take_call (tl := tl) (tels := tels) (j := j) (by omega) bag1.tail (m := 6) (by decide)
  obtain ⟨way, hw⟩ : ∃ a, a = tk bag1.tail 6 := ⟨_, rfl⟩
  rw [← hw] at k3
  have ad : ∀ y : Stp, dBin .Add (.tuple (sc.map Stp.d)) (.tuple [y.d]) = some (.tuple ((sc ++ [y]).map Stp.d)) := fun y => by
    rw [List.map_append]
    exact bin_addT (by rw [List.length_map]; exact lenLim_le _ (by simp; omega))
  by_cases w2 : way < 2
  · have ad := ad (.cond (decide (way = 0)) i g)
    by_cases w0 : way = 0
    · refine ⟨bag1.tail.tail, .cond (decide (way = 0)) i g, .int way, (Stp.cond (decide (way = 0)) i g).d, .int i, ⟨li, og⟩, ?_⟩
      rw [decide_eq_true w0] at ad ⊢
      simp only [Stp.d, whenW, if_true] at ad
      simp [stepF, b__law_script_0, f4, f5, f6, f7, k1, s.ix2, k2, k3, putL, w2, w0, ad, Stp.d, whenW, -List.map_append]
    · refine ⟨bag1.tail.tail, .cond (decide (way = 0)) i g, .int way, (Stp.cond (decide (way = 0)) i g).d, .int i, ⟨li, og⟩, ?_⟩
      rw [decide_eq_false w0] at ad ⊢
      simp only [Stp.d, whenW, if_neg (show ¬ (false = true) by decide)] at ad
      simp [stepF, b__law_script_0, f4, f5, f6, f7, k1, s.ix2, k2, k3, putL, w2, w0, ad, Stp.d, whenW, -List.map_append]
  · have ad := ad (.now g)
    refine ⟨bag1.tail.tail, .now g, .int way, g.d, .int i, og, ?_⟩
    simp only [Stp.d] at ad
    simp [stepF, b__law_script_0, f4, f5, f6, f7, k1, s.ix2, k2, k3, putL, w2, ad, -List.map_append]
theorem script_call (hj : 5 ≤ j) {s : Street} (hs : Drawn s) (bag : List Int) {m : Nat} (hm : m ≤ 100) : ∃ (sc : List Stp) (bag' : List Int), sc.length ≤ m ∧ (∀ st ∈ sc, Stp.Ok s st) ∧
    CC tl tels j 108 [.ob (.lst (iL bag)), .d s.d, .d (.int (m : Int))] = .ok (.d (.tuple (sc.map Stp.d))) [.lst (iL bag')] := by
  have k1 := take_call (tl := tl) (tels := tels) (j := j - 1) (by omega) bag (m := (m : Int) + 1) (by omega)
  have t := tk_lt bag (m := (m : Int) + 1) (by omega)
  have g := rng_ok (a := 0) (b := tk bag ((m : Int) + 1)) (by omega) (by omega) (by omega) (by omega) (by omega)
  obtain ⟨r, e, bag2, sc, s4, s5, s6, s7, f4, f5, f6, f7, hr, hl, ok⟩ := forLoop_inv (step := stepF (CC tl tels (j - 1)) GL 0 (.nm 4) b__law_script_0) (xs := rngD 0 (tk bag ((m : Int) + 1)))
    (r := [.par (.lst (iL bag.tail)), .d s.d, .d (.int (m : Int)), .d (.tuple (([] : List Stp).map Stp.d)), .non, .non, .non, .non])
    (fun ys r => ∃ (bag : List Int) (sc : List Stp) (s4 s5 s6 s7 : Slot), fr s4 = true ∧ fr s5 = true ∧ fr s6 = true ∧ fr s7 = true ∧ r = [.par (.lst (iL bag)), .d s.d, .d (.int (m : Int)), .d (.tuple (sc.map Stp.d)), s4, s5, s6, s7] ∧ sc.length + ys.length ≤ m ∧ ∀ st ∈ sc, Stp.Ok s st)
    ⟨bag.tail, [], .non, .non, .non, .non, rfl, rfl, rfl, rfl, rfl, by simp [rngD_len]; omega, fun _ h => nomatch h⟩ fun x ys r ⟨bag, sc, s4, s5, s6, s7, f4, f5, f6, f7, hr, hl, ok⟩ => by
      subst hr
      simp at hl
      obtain ⟨bag', st, a, b, c, o, e⟩ := script_turn (tl := tl) (tels := tels) (fuel := 0) (j := j - 1) (by omega) hs bag (x := x) (sc := sc) (by omega) (m := (m : Int)) f4 f5 f6 f7
      refine ⟨_, .inl e, bag', sc ++ [st], _, _, _, _, rfl, rfl, rfl, rfl, rfl, by simp; omega, fun y hy => ?_⟩
      rcases List.mem_append.mp hy with h | h
      · exact ok y h
      · rw [List.mem_singleton.mp h]; exact o
  subst hr
  refine ⟨sc, bag2, by simpa using hl, ok, ?_⟩
  rw [show CC tl tels j 108 _ = _ from call_at (d := d__law_script) rfl (by decide) (by omega)]
  have e : forLoop (stepF (CC tl tels (j - 1)) GL 0 (.nm 4) b__law_script_0) (rngD 0 (tk bag ((m : Int) + 1))) [.par (.lst (iL bag.tail)), .d s.d, .d (.int (m : Int)), .d (.tuple []), .non, .non, .non, .non] = _ := e
  simp [runF, d__law_script, b__law_script, k1, g, e, retC, outsOf]
/-! ### leans -/
/-- all leans with a sum up to some -/
def simpleL (n : Nat) : List (Int × Int) := (List.range (n + 1)).flatMap fun w => (List.range w).filterMap fun t => if 1 ≤ t ∧ Nat.gcd t (w - t) = 1 then some ((t : Int), ((w - t : Nat) : Int)) else none
def simp11 : List (Int × Int) := [(1, 1), (1, 2), (2, 1), (1, 3), (3, 1), (1, 4), (2, 3), (3, 2), (4, 1), (1, 5), (5, 1), (1, 6), (2, 5), (3, 4), (4, 3), (5, 2), (6, 1), (1, 7), (3, 5), (5, 3), (7, 1), (1, 8), (2, 7), (4, 5), (5, 4), (7, 2), (8, 1), (1, 9), (3, 7), (7, 3), (9, 1), (1, 10), (2, 9), (3, 8), (4, 7), (5, 6), (6, 5), (7, 4), (8, 3), (9, 2), (10, 1)]
def simp6 : List (Int × Int) := [(1, 1), (1, 2), (2, 1), (1, 3), (3, 1), (1, 4), (2, 3), (3, 2), (4, 1), (1, 5), (5, 1)]
theorem simp11_lean : ∀ p ∈ simp11, Lean p ∧ p.1 ≤ 10 ∧ p.2 ≤ 10 := by
  have : ∀ p ∈ simp11, 0 < p.1 ∧ 0 < p.2 ∧ gcdI p.1 p.2 = 1 ∧ p.1 ≤ 10 ∧ p.2 ≤ 10 := by decide +kernel
  exact fun p hp => ⟨⟨(this p hp).1, (this p hp).2.1, (this p hp).2.2.1⟩, (this p hp).2.2.2⟩
theorem simp6_lean : ∀ p ∈ simp6, Lean p ∧ p.1 ≤ 10 ∧ p.2 ≤ 10 := by
  have : ∀ p ∈ simp6, 0 < p.1 ∧ 0 < p.2 ∧ gcdI p.1 p.2 = 1 ∧ p.1 ≤ 10 ∧ p.2 ≤ 10 := by decide +kernel
  exact fun p hp => ⟨⟨(this p hp).1, (this p hp).2.1, (this p hp).2.2.1⟩, (this p hp).2.2.2⟩
theorem simple11_call (hj : 3 ≤ j) : CC tl tels j 115 [.d (.int 11)] = .ok (.fr (simp11.map p2)) [] := by
  obtain ⟨i, rfl⟩ : ∃ i, j = i + 3 := ⟨j - 3, by omega⟩
  kernel_rfl
theorem simple6_call (hj : 3 ≤ j) : CC tl tels j 115 [.d (.int 6)] = .ok (.fr (simp6.map p2)) [] := by
  obtain ⟨i, rfl⟩ : ∃ i, j = i + 3 := ⟨j - 3, by omega⟩
  kernel_rfl
end Ev
end
section
set_option Elab.async false
set_option maxRecDepth 100000
set_option linter.all false
set_option autoImplicit false
set_option maxHeartbeats 1000007
set_option exponentiation.threshold 20001
/-! P17: the laws' leans, many. -/
namespace Ev
open PySem
variable {tl : List Df} {tels : Nat → List Arg → RC} {j : Nat} {fuel : Nat} {C : Calls} {gl : List D}
theorem pow5 : dBin .Pow (.int 10) (.int 5) = some (.int 100000) := by
  show (if (0 : Int) ≤ 5 ∧ (5 : Int) ≤ 1000 ∧ (10 : Int).natAbs < 1000 then some (PyData.int (10 ^ (5 : Int).toNat)) else none) = _
  rw [if_pos (by decide)]
  rfl
theorem pow6 : dBin .Pow (.int 10) (.int 6) = some (.int 1000000) := by
  show (if (0 : Int) ≤ 6 ∧ (6 : Int) ≤ 1000 ∧ (10 : Int).natAbs < 1000 then some (PyData.int (10 ^ (6 : Int).toNat)) else none) = _
  rw [if_pos (by decide)]
  rfl
/-- numbers of at most 7900 bits -/
def Bm (i : Int) : Prop := i.natAbs < 2 ^ 7900
theorem Bm.bn {i : Int} (h : Bm i) : Bn i := Nat.lt_of_lt_of_le h (Nat.pow_le_pow_right (by decide) (by decide))
theorem Bm.wide {i k : Int} (h : Bm i) (l : k.natAbs ≤ 2000000 * i.natAbs + 2000000) : Bn k := by
  have e : (2 : Nat) ^ 8000 = 2 ^ 100 * 2 ^ 7900 := by rw [← Nat.pow_add]
  unfold Bn
  unfold Bm at h
  have one : 1 ≤ (2 : Nat) ^ 7900 := Nat.one_le_two_pow
  rw [e]
  generalize (2 : Nat) ^ 7900 = p at *
  have : (2 : Nat) ^ 100 = 1267650600228229401496703205376 := by decide
  rw [this]
  omega
theorem bn_lit {i : Int} (h : i.natAbs ≤ 2000000) : Bn i := bn_small h (by decide)
/-- a lean that is told, and two near it -/
def near (p : Int × Int) : List (Int × Int) := if 0 < p.1 ∧ 0 < p.2 then [p, low (p.1 * 1000000 + 1) (p.2 * 1000000), low (p.1 * 1000000) (p.2 * 1000000 + 1)] else []
theorem near_len (p : Int × Int) : (near p).length ≤ 3 := by
  unfold near
  split <;> simp
theorem near_all : ∀ ds : List (Int × Int), (ds.flatMap near).length ≤ 3 * ds.length
  | [] => Nat.zero_le _
  | d :: ds => by
    rw [List.flatMap_cons, List.length_append, List.length_cons]
    have := near_len d
    have := near_all ds
    omega
theorem some_near (hj : 2 ≤ j) {p : Int × Int} (h : Bm p.1 ∧ Bm p.2) {acc : List (Int × Int)} (hl : acc.length ≤ 100000) {a b s3 s4 s5 : Slot} (f4 : fr s4 = true) (f5 : fr s5 = true) :
    stepF (CC tl tels j) GL fuel (.tp (.cons (.nm 4) (.cons (.nm 5) .nil))) b__law_some_1 (p2 p) [a, b, .own (.lst (acc.map p2)), s3, s4, s5] = .nx [a, b, .own (.lst ((acc ++ near p).map p2)), s3, .d (.int p.1), .d (.int p.2)] := by
  by_cases g1 : 0 < p.1
  · by_cases g2 : 0 < p.2
    · have e6 : Bn 1000000 := bn_lit (by decide)
      have m1 := mul_bn h.1.bn e6
      have m2 := mul_bn h.2.bn e6
      have b1 : Bn (p.1 * 1000000 + 1) := h.1.wide (by omega)
      have b2 : Bn (p.2 * 1000000) := h.2.wide (by omega)
      have b3 : Bn (p.1 * 1000000) := h.1.wide (by omega)
      have b4 : Bn (p.2 * 1000000 + 1) := h.2.wide (by omega)
      have l1 := lawlow_call (tl := tl) (tels := tels) (j := j) (by omega) (a := p.1 * 1000000 + 1) (b := p.2 * 1000000) (by omega) b2 b1
      have l2 := lawlow_call (tl := tl) (tels := tels) (j := j) (by omega) (a := p.1 * 1000000) (b := p.2 * 1000000 + 1) (by omega) b4 b3
      have nr : near p = [p, low (p.1 * 1000000 + 1) (p.2 * 1000000), low (p.1 * 1000000) (p.2 * 1000000 + 1)] := if_pos ⟨g1, g2⟩
      have len : (acc.map p2).length + 2 ≤ lenLim := by rw [List.length_map]; exact Nat.le_trans (show _ ≤ 200000 by omega) (by decide)
      have len2 : (acc.map p2).length + 1 + 1 < lenLim := by rw [List.length_map]; exact Nat.lt_of_le_of_lt (show _ ≤ 200000 by omega) (by decide)
      have two : ∀ x y : D, [x, y].length ≤ lenLim := fun x y => lenLim_le _ (by simp)
      rw [nr]
      simp only [List.length_map] at len len2
      simp only [p2] at l1 l2
      simp [stepF, b__law_some_1, p2, f4, f5, g1, g2, pow6, m1, m2, readV_own, len, l1, l2, len2]
    · have nr : near p = [] := if_neg fun z => g2 z.2
      rw [nr]
      simp [stepF, b__law_some_1, p2, f4, f5, g1, g2]
  · have nr : near p = [] := if_neg fun z => g1 z.1
    rw [nr]
    simp [stepF, b__law_some_1, p2, f4, f5, g1]

theorem some_last (hj : 2 ≤ j) (bag : List Int) {x : D} {acc : List (Int × Int)} (hl : acc.length ≤ 100000) {b s3 s4 s5 : Slot} (f3 : fr s3 = true) :
    ∃ q bag', (Lean q ∧ q.1 ≤ 100000 ∧ q.2 ≤ 100000) ∧ stepF (CC tl tels j) GL fuel (.nm 3) b__law_some_0 x [.par (.lst (iL bag)), b, .own (.lst (acc.map p2)), s3, s4, s5] = .nx [.par (.lst (iL bag')), b, .own (.lst ((acc ++ [q]).map p2)), .d x, s4, s5] := by
  have k1 := take_call (tl := tl) (tels := tels) (j := j) (by omega) bag (m := 100000) (by decide)
  have k2 := take_call (tl := tl) (tels := tels) (j := j) (by omega) bag.tail (m := 100000) (by decide)
  have t1 := tk_lt bag (m := 100000) (by decide)
  have t2 := tk_lt bag.tail (m := 100000) (by decide)
  have l1 := lawlow_call (tl := tl) (tels := tels) (j := j) (by omega) (a := 1 + tk bag 100000) (b := 1 + tk bag.tail 100000) (by omega) (bn_lit (by omega)) (bn_lit (by omega))
  have le := low_le (a := 1 + tk bag 100000) (b := 1 + tk bag.tail 100000) (by omega) (by omega)
  have len2 : (acc.map p2).length < lenLim := by rw [List.length_map]; exact Nat.lt_of_le_of_lt hl (by decide)
  simp only [List.length_map] at len2
  refine ⟨low (1 + tk bag 100000) (1 + tk bag.tail 100000), bag.tail.tail, ⟨low_lean (by omega) (by omega), by omega, by omega⟩, ?_⟩
  simp only [p2] at l1
  simp [stepF, b__law_some_0, p2, f3, pow5, k1, k2, l1, len2]
theorem some_call (hj : 4 ≤ j) (bag : List Int) {pts : List (Int × Int)} (hp : ∀ p ∈ pts, Bm p.1 ∧ Bm p.2) (hl : pts.length ≤ 10000) : ∃ last bag', (last.length = 8 ∧ ∀ q ∈ last, Lean q ∧ q.1 ≤ 100000 ∧ q.2 ≤ 100000) ∧
    CC tl tels j 116 [.ob (.lst (iL bag)), .d (.list (pts.map p2))] = .ok (.d (.list ((simp11 ++ pts.flatMap near ++ last).map p2))) [.lst (iL bag')] := by
  have s11 := simple11_call (tl := tl) (tels := tels) (j := j - 1) (by omega)
  obtain ⟨r1, e1, done, s4, s5, hr1, f4, f5, hd⟩ := forLoop_inv (step := stepF (CC tl tels (j - 1)) GL 0 (.tp (.cons (.nm 4) (.cons (.nm 5) .nil))) b__law_some_1) (xs := pts.map p2)
    (r := [.par (.lst (iL bag)), .d (.list (pts.map p2)), .own (.lst (simp11.map p2)), .non, .non, .non])
    (fun ys r => ∃ (done : List (Int × Int)) (s4 s5 : Slot), r = [.par (.lst (iL bag)), .d (.list (pts.map p2)), .own (.lst ((simp11 ++ done.flatMap near).map p2)), .non, s4, s5] ∧ fr s4 = true ∧ fr s5 = true ∧ ∃ rest, pts = done ++ rest ∧ ys = rest.map p2)
    ⟨[], .non, .non, by simp, rfl, rfl, pts, rfl, rfl⟩ fun x ys r ⟨done, s4, s5, hr, f4, f5, rest, h1, h2⟩ => by
      subst hr
      cases rest with
      | nil => cases h2
      | cons q rest =>
        injection h2 with h2 h3
        subst h2
        have bl : (simp11 ++ done.flatMap near).length ≤ 100000 := by
          have := near_all done
          have : done.length ≤ 10000 := by
            have := congrArg List.length h1
            rw [List.length_append] at this
            omega
          have : simp11.length = 41 := by decide
          rw [List.length_append]
          omega
        have t := some_near (tl := tl) (tels := tels) (fuel := 0) (j := j - 1) (by omega) (p := q) (hp q (by rw [h1]; exact List.mem_append_right _ List.mem_cons_self)) (acc := simp11 ++ done.flatMap near) bl (a := .par (.lst (iL bag))) (b := .d (.list (pts.map p2))) (s3 := .non) f4 f5
        refine ⟨_, .inl t, done ++ [q], .d (.int q.1), .d (.int q.2), ?_, rfl, rfl, rest, by rw [h1, List.append_assoc]; rfl, h3⟩
        rw [List.flatMap_append, List.flatMap_cons, List.flatMap_nil, List.append_nil, List.append_assoc]
  obtain ⟨rest, h1, h2⟩ := hd
  have : rest = [] := List.map_eq_nil_iff.mp h2.symm
  subst this
  rw [List.append_nil] at h1
  subst h1
  subst hr1
  have bl : (simp11 ++ pts.flatMap near).length ≤ 50000 := by
    have := near_all pts
    have : simp11.length = 41 := by decide
    rw [List.length_append]
    omega
  obtain ⟨r2, e2, last, bag2, s3, hr2, f3, hn, hq⟩ := forLoop_inv (step := stepF (CC tl tels (j - 1)) GL 0 (.nm 3) b__law_some_0) (xs := rngD 0 8)
    (r := [.par (.lst (iL bag)), .d (.list (pts.map p2)), .own (.lst ((simp11 ++ pts.flatMap near).map p2)), .non, s4, s5])
    (fun ys r => ∃ (last : List (Int × Int)) (bag2 : List Int) (s3 : Slot), r = [.par (.lst (iL bag2)), .d (.list (pts.map p2)), .own (.lst ((simp11 ++ pts.flatMap near ++ last).map p2)), s3, s4, s5] ∧ fr s3 = true ∧ last.length + ys.length = 8 ∧ ∀ q ∈ last, Lean q ∧ q.1 ≤ 100000 ∧ q.2 ≤ 100000)
    ⟨[], bag, .non, by rw [List.append_nil], rfl, by simp [rngD_len], fun _ h => nomatch h⟩ fun x ys r ⟨last, bag2, s3, hr, f3, hn, hq⟩ => by
      subst hr
      simp at hn
      obtain ⟨q, bag3, oq, t⟩ := some_last (tl := tl) (tels := tels) (fuel := 0) (j := j - 1) (by omega) bag2 (x := x) (acc := simp11 ++ pts.flatMap near ++ last) (by rw [List.length_append]; omega) (b := .d (.list (pts.map p2))) (s4 := s4) (s5 := s5) f3
      refine ⟨_, .inl t, last ++ [q], bag3, .d x, by rw [List.append_assoc (simp11 ++ pts.flatMap near)], rfl, by simp; omega, fun y hy => ?_⟩
      rcases List.mem_append.mp hy with h | h
      · exact hq y h
      · rw [List.mem_singleton.mp h]; exact oq
  subst hr2
  refine ⟨last, bag2, ⟨by simpa using hn, hq⟩, ?_⟩
  rw [show CC tl tels j 116 _ = _ from call_at (d := d__law_some) rfl (by decide) (by omega)]
  have g := rng_ok (a := 0) (b := 8) (by decide) (by decide) (by decide) (by decide) (by decide)
  simp [runF, d__law_some, b__law_some, s11, e1, g, e2, readV_own, retC, outsOf, -List.map_append, -List.append_assoc]
end Ev
end
section
set_option Elab.async false
set_option maxRecDepth 100000
set_option linter.all false
/-! D01: the terms of the defs of this law alone (printed by gen3.py). -/
namespace K01
open PySem Ev
/-- 202 -/
def b__law_truly : S := (.seq (.ret (.band (.isi (.v 0) .bool) (.one (.cmp .Eq (.v 0) (.v 1))))) .skip)
def d__law_truly : Df := ⟨2, 2, b__law_truly, 0⟩
/-- 203 -/
def b__law_whole : S := (.seq (.ret (.band (.isi (.v 0) .int) (.band (.nt (.isi (.v 0) .bool)) (.one (.chn .LtE .LtE (.v 1) (.v 0) (.v 2)))))) .skip)
def d__law_whole : Df := ⟨3, 3, b__law_whole, 0⟩
def b__law_rows_0 : S := (.seq (.ifs (.nt (.call 203 (.cons (.v 5) (.cons (.v 6) (.cons (.v 7) .nil))))) (.seq (.ret (.kB false)) .skip) .skip) .skip)
def b__law_rows_1 : S := (.seq (.ifs (.bor (.nt (.isi (.v 4) .tuple)) (.one (.cmp .NotEq (.bi .len (.cons (.v 4) .nil)) (.bi .len (.cons (.v 3) .nil))))) (.seq (.ret (.kB false)) .skip) .skip) (.seq (.fr (.tp (.cons (.nm 5) (.cons (.tp (.cons (.nm 6) (.cons (.nm 7) .nil))) .nil))) (.iZip (.v 4) (.v 3)) b__law_rows_0) .skip))
/-- 204 -/
def b__law_rows : S := (.seq (.ifs (.bor (.nt (.isi (.v 0) .tuple)) (.one (.nt (.chn .LtE .LtE (.v 1) (.bi .len (.cons (.v 0) .nil)) (.v 2))))) (.seq (.ret (.kB false)) .skip) .skip) (.seq (.fr (.nm 4) (.iSeq (.v 0)) b__law_rows_1) (.seq (.ret (.kB true)) .skip)))
def d__law_rows : Df := ⟨4, 8, b__law_rows, 0⟩
/-- 205 -/
def b__law_good : S := (.seq (.ifs (.bor (.nt (.isi (.v 0) .tuple)) (.one (.cmp .NotEq (.bi .len (.cons (.v 0) .nil)) (.kI 3)))) (.seq (.ret (.kB false)) .skip) .skip) (.seq (.ifs (.bor (.nt (.call 204 (.cons (.ix (.v 0) (.kI 0)) (.cons (.kI 0) (.cons (.kI 3) (.cons (.lst (.cons (.tup (.cons (.kI 0) (.cons (.kI 20) .nil))) (.cons (.tup (.cons (.kI 1) (.cons (.kI 9) .nil))) .nil))) .nil)))))) (.one (.nt (.call 204 (.cons (.ix (.v 0) (.kI 2)) (.cons (.kI 1) (.cons (.kI 4) (.cons (.lst (.cons (.tup (.cons (.kI 0) (.cons (.kI 20) .nil))) (.cons (.tup (.cons (.kI 0) (.cons (.kI 5) .nil))) .nil))) .nil)))))))) (.seq (.ret (.kB false)) .skip) .skip) (.seq (.ret (.call 204 (.cons (.ix (.v 0) (.kI 1)) (.cons (.kI 1) (.cons (.kI 3) (.cons (.lst (.cons (.tup (.cons (.kI 0) (.cons (.kI 20) .nil))) (.cons (.tup (.cons (.kI 1) (.cons (.kI 9) .nil))) (.cons (.tup (.cons (.kI 1) (.cons (.kI 9) .nil))) .nil)))) .nil)))))) .skip)))
def d__law_good : Df := ⟨1, 1, b__law_good, 0⟩
/-- 206 -/
def b__law_good_step : S := (.seq (.ifs (.bor (.nt (.isi (.v 1) .tuple)) (.bor (.cmp .NotEq (.bi .len (.cons (.v 1) .nil)) (.kI 3)) (.one (.nt (.isi (.ix (.v 1) (.kI 0)) .str))))) (.seq (.ret (.kB false)) .skip) .skip) (.seq (.asg (.tp (.cons (.nm 3) (.cons (.nm 4) (.cons (.nm 5) .nil)))) (.v 1)) (.seq (.ifs (.cmp .In (.v 3) (.lst (.cons (.kS "when") (.cons (.kS "unless") .nil)))) (.seq (.ret (.band (.v 2) (.band (.call 203 (.cons (.v 4) (.cons (.kI 0) (.cons (.bin .Sub (.bi .len (.cons (.ix (.v 0) (.kI 2)) .nil)) (.kI 1)) .nil)))) (.one (.call 206 (.cons (.v 0) (.cons (.v 5) (.cons (.kB false) .nil)))))))) .skip) .skip) (.seq (.ifs (.bor (.cmp .NotIn (.v 3) (.lst (.cons (.kS "out") (.cons (.kS "in") (.cons (.kS "cover") (.cons (.kS "touch") .nil)))))) (.one (.nt (.call 203 (.cons (.v 4) (.cons (.kI 0) (.cons (.bin .Sub (.bi .len (.cons (.ix (.v 0) (.kI 1)) .nil)) (.kI 1)) .nil))))))) (.seq (.ret (.kB false)) .skip) .skip) (.seq (.ifs (.cmp .Eq (.v 3) (.kS "cover")) (.seq (.ret (.call 203 (.cons (.v 5) (.cons (.kI 0) (.cons (.bin .Sub (.bi .len (.cons (.ix (.v 0) (.kI 2)) .nil)) (.kI 1)) .nil))))) .skip) .skip) (.seq (.ifs (.cmp .Eq (.v 3) (.kS "touch")) (.seq (.ret (.band (.call 203 (.cons (.v 5) (.cons (.kI 0) (.cons (.bin .Sub (.bi .len (.cons (.bin .Add (.ix (.v 0) (.kI 0)) (.ix (.v 0) (.kI 1))) .nil)) (.kI 1)) .nil)))) (.one (.cmp .NotEq (.bin .Sub (.v 5) (.v 4)) (.bi .len (.cons (.ix (.v 0) (.kI 0)) .nil)))))) .skip) .skip) (.seq (.ret (.call 203 (.cons (.v 5) (.cons (.kI 1) (.cons (.kI 9) .nil))))) .skip)))))))
def d__law_good_step : Df := ⟨3, 6, b__law_good_step, 0⟩
/-- 207 -/
def b__law_good_script : S := (.seq (.ifs (.bor (.nt (.isi (.v 1) .tuple)) (.one (.cmp .Gt (.bi .len (.cons (.v 1) .nil)) (.kI 6)))) (.seq (.ret (.kB false)) .skip) .skip) (.seq (.ret (.cmp .Eq (.lc (.v 2) (.iSeq (.v 1)) (.nm 2) (.nt (.call 206 (.cons (.v 0) (.cons (.v 2) (.cons (.kB true) .nil))))) [2]) (.lst .nil))) .skip))
def d__law_good_script : Df := ⟨2, 3, b__law_good_script, 0⟩
/-- 208 -/
def b__law_spoilt : S := (.seq (.ifs (.isi (.v 1) .list) (.seq (.ret (.bi .tuple (.cons (.v 1) .nil))) .skip) .skip) (.seq (.ifs (.band (.isi (.v 1) .tuple) (.band (.cmp .NotEq (.v 1) (.tup .nil)) (.one (.cmp .Gt (.call 103 (.cons (.v 0) (.cons (.kI 5) .nil))) (.kI 0))))) (.seq (.set 3 (.call 103 (.cons (.v 0) (.cons (.bi .len (.cons (.v 1) .nil)) .nil)))) (.seq (.ret (.bin .Add (.bin .Add (.sl (.v 1) .nil (.v 3)) (.tup (.cons (.call 208 (.cons (.v 0) (.cons (.ix (.v 1) (.v 3)) .nil))) .nil))) (.sl (.v 1) (.bin .Add (.v 3) (.kI 1)) .nil))) .skip)) .skip) (.seq (.set 2 (.call 103 (.cons (.v 0) (.cons (.kI 7) .nil)))) (.seq (.ifs (.isi (.v 1) .tuple) (.seq (.set 4 (.ix (.lst (.cons (.tup (.cons (.kS "out") (.cons (.kI 0) (.cons (.kI 3) .nil)))) (.cons (.tup (.cons (.kS "when") (.cons (.kI 0) (.cons (.tup (.cons (.kS "in") (.cons (.kI 0) (.cons (.kI 1) .nil)))) .nil)))) (.cons (.tup (.cons (.kI 4) (.cons (.kI 2) .nil))) (.cons (.kI 5) .nil))))) (.call 103 (.cons (.v 0) (.cons (.kI 4) .nil))))) (.seq (.ret (.ix (.lst (.cons (.bi .list (.cons (.v 1) .nil)) (.cons (.sl (.v 1) (.kI 1) .nil) (.cons (.bin .Add (.v 1) (.sl (.v 1) (.neg (.kI 1)) .nil)) (.cons (.revT (.v 1)) (.cons (.tup .nil) (.cons (.bin .Add (.v 1) (.tup (.cons (.v 4) .nil))) (.cons .kN .nil)))))))) (.v 2))) .skip)) .skip) (.seq (.ifs (.isi (.v 1) .int) (.seq (.ret (.ix (.lst (.cons (.bin .Add (.v 1) (.kI 1)) (.cons (.bin .Sub (.v 1) (.kI 1)) (.cons (.bin .Add (.v 1) (.kI 9)) (.cons (.kB true) (.cons .kN (.cons (.kI 0) (.cons (.kS "1") .nil)))))))) (.v 2))) .skip) .skip) (.seq (.ret (.ix (.lst (.cons (.kS "out") (.cons (.kS "in") (.cons (.kS "cover") (.cons (.kS "touch") (.cons (.kS "when") (.cons (.kS "unless") (.cons (.kS "OUT") .nil)))))))) (.v 2))) .skip))))))
def d__law_spoilt : Df := ⟨2, 5, b__law_spoilt, 0⟩
def b_law_0 : S := (.seq (.ifs (.cmp .IsNot (.call 10 (.cons (.v 7) .nil)) (.kB true)) (.seq (.ret (.kB false)) .skip) .skip) .skip)
def b_law_1 : S := (.seq (.ifs (.cmp .IsNot (.call 10 (.cons (.v 7) .nil)) (.kB false)) (.seq (.ret (.kB false)) .skip) .skip) .skip)
def b_law_2 : S := (.seq (.set 8 (.call 208 (.cons (.v 4) (.cons (.ite (.cmp .Eq (.bin .Mod (.v 6) (.kI 3)) (.kI 0)) (.v 2) (.v 8)) .nil)))) (.seq (.set 9 (.call 208 (.cons (.v 4) (.cons (.ite (.cmp .Eq (.bin .Mod (.v 6) (.kI 3)) (.kI 0)) (.v 5) (.v 9)) .nil)))) (.seq (.set 10 (.call 205 (.cons (.v 8) .nil))) (.seq (.ifs (.nt (.call 202 (.cons (.call 3 (.cons (.v 8) .nil)) (.cons (.v 10) .nil)))) (.seq (.ret (.kB false)) .skip) .skip) (.seq (.ifs (.nt (.call 202 (.cons (.call 16 (.cons (.v 2) (.cons (.v 9) .nil))) (.cons (.call 207 (.cons (.v 2) (.cons (.v 9) .nil))) .nil)))) (.seq (.ret (.kB false)) .skip) .skip) (.seq (.ifs (.cmp .NotEq (.tell 0 (.call 17 (.cons (.v 8) .nil))) (.ite (.v 10) (.kS "") (.kS "street value"))) (.seq (.ret (.kB false)) .skip) .skip) (.seq (.ifs (.band (.nt (.v 10)) (.one (.cmp .NotEq (.tell 0 (.call 16 (.cons (.v 8) (.cons (.tup .nil) .nil)))) (.kS "street value")))) (.seq (.ret (.kB false)) .skip) .skip) .skip)))))))
def b_law_3 : S := (.seq (.setO 4 (.call 102 (.cons (.v 0) (.cons (.v 1) .nil)))) (.seq (.set 2 (.call 106 (.cons (.v 4) .nil))) (.seq (.set 5 (.call 108 (.cons (.v 4) (.cons (.v 2) (.cons (.kI 6) .nil))))) (.seq (.ifs (.bor (.cmp .IsNot (.call 3 (.cons (.v 2) .nil)) (.kB true)) (.one (.cmp .NotEq (.call 17 (.cons (.v 2) .nil)) (.bin .Add (.bi .len (.cons (.ix (.v 2) (.kI 0)) .nil)) (.bi .len (.cons (.ix (.v 2) (.kI 1)) .nil)))))) (.seq (.ret (.kB false)) .skip) .skip) (.seq (.asg (.tp (.cons (.nm 8) (.cons (.nm 9) .nil))) (.tup (.cons (.v 2) (.cons (.v 5) .nil)))) (.seq (.fr (.nm 6) (.iRng .nil (.kI 16)) b_law_2) (.seq (.fr (.nm 7) (.iSeq (.lst (.cons (.tup (.cons (.kI 0) (.cons (.kI 1) .nil))) (.cons (.tup (.cons (.kI 2) (.cons (.kI 4) .nil))) (.cons (.tup (.cons (.neg (.kI 1)) (.cons (.kI 2) .nil))) (.cons (.tup (.cons (.kB true) (.cons (.kI 2) .nil))) (.cons (.tup (.cons (.kI 1) (.cons (.kI 2) (.cons (.kI 3) .nil)))) (.cons (.lst (.cons (.kI 1) (.cons (.kI 2) .nil))) (.cons (.kI 1) (.cons .kN (.cons (.kS "1") (.cons (.tup (.cons (.kI 1) (.cons (.kI 0) .nil))) .nil)))))))))))) b_law_1) (.seq (.fr (.nm 7) (.iSeq (.bin .Add (.sl (.call 116 (.cons (.v 4) (.cons (.lst .nil) .nil))) (.neg (.kI 8)) .nil) (.lst (.cons (.tup (.cons (.kI 1) (.cons (.kI 1) .nil))) (.cons (.tup (.cons (.bin .Pow (.kI 10) (.kI 30)) (.cons (.kI 1) .nil))) .nil))))) b_law_0) .skip))))))))
/-- 209 -/
def b_law : S := (.seq (.fr (.nm 1) (.iRng .nil (.kI 7)) b_law_3) (.seq (.set 2 (.tup (.cons (.tup (.cons (.tup (.cons (.kI 2) (.cons (.kI 4) .nil))) .nil)) (.cons (.tup (.cons (.tup (.cons (.kI 0) (.cons (.kI 6) (.cons (.kI 9) .nil)))) (.cons (.tup (.cons (.kI 5) (.cons (.kI 3) (.cons (.kI 4) .nil)))) .nil))) (.cons (.tup (.cons (.tup (.cons (.kI 6) (.cons (.kI 0) .nil))) (.cons (.tup (.cons (.kI 9) (.cons (.kI 1) .nil))) .nil))) .nil))))) (.seq (.setO 3 (.lst (.cons (.call 16 (.cons (.v 2) (.cons (.tup (.cons (.tup (.cons (.kS "touch") (.cons (.kI 1) (.cons (.kI 2) .nil)))) .nil)) .nil))) (.cons (.call 16 (.cons (.v 2) (.cons (.tup (.cons (.tup (.cons (.kS "touch") (.cons (.kI 1) (.cons (.kI 1) .nil)))) .nil)) .nil))) .nil)))) (.seq (.app 3 (.call 16 (.cons (.v 2) (.cons (.tup (.cons (.tup (.cons (.kS "out") (.cons (.kI 2) (.cons (.kI 1) .nil)))) .nil)) .nil)))) (.seq (.app 3 (.call 16 (.cons (.v 2) (.cons (.tup (.cons (.tup (.cons (.kS "when") (.cons (.kI 0) (.cons (.tup (.cons (.kS "when") (.cons (.kI 0) (.cons (.tup (.cons (.kS "out") (.cons (.kI 0) (.cons (.kI 1) .nil)))) .nil)))) .nil)))) .nil)) .nil)))) (.seq (.ret (.cmp .Eq (.v 3) (.lst (.cons (.kB false) (.cons (.kB true) (.cons (.kB false) (.cons (.kB false) .nil))))))) .skip))))))
def d_law : Df := ⟨1, 11, b_law, 0⟩
def tabL : List Df := ([noDf, noDf, noDf, noDf, noDf, noDf, noDf, noDf, noDf, noDf, noDf, noDf, noDf, noDf, noDf, noDf, noDf, noDf, noDf, noDf, noDf, noDf, noDf, noDf, noDf, noDf, noDf, noDf, noDf, noDf] : List Df) ++ ([noDf, noDf, noDf, noDf, noDf, noDf, noDf, noDf, noDf, noDf, noDf, noDf, noDf, noDf, noDf, noDf, noDf, noDf, noDf, noDf, noDf, noDf, noDf, noDf, noDf, noDf, noDf, noDf, noDf, noDf] : List Df) ++ ([noDf, noDf, noDf, noDf, noDf, noDf, noDf, noDf, noDf, noDf, noDf, noDf, noDf, noDf, noDf, noDf, noDf, noDf, noDf, noDf, noDf, noDf, d__law_truly, d__law_whole, d__law_rows, d__law_good, d__law_good_step, d__law_good_script, d__law_spoilt, d_law] : List Df)
def tab : List Df := tabM ++ tabL
end K01
end
section
set_option Elab.async false
set_option maxRecDepth 100000
set_option linter.all false
set_option autoImplicit false
set_option maxHeartbeats 1000007
/-! L01: the law of streets and scripts, evaluated: its own defs. -/
namespace K01
open PySem Ev
abbrev tels : Nat → List Ev.Arg → RC := fun _ => telG false nam
abbrev CK (j : Nat) : Calls := CC tabL tels j
variable {j : Nat} {fuel : Nat}
theorem own_at {f : Nat} {d : Df} {args : List Ev.Arg} (hd : (tabM ++ tabL)[f]? = some d) (hf : f < 1000) (hj : 1 ≤ j) : CK j f args = runF (CK (j - 1)) GL d args := by
  obtain ⟨i, rfl⟩ : ∃ i, j = i + 1 := ⟨j - 1, by omega⟩
  show calls GL (tabM ++ tabL) tels (i + 1) f args = _
  rw [calls_def hf hd]
  rfl
theorem truly_call (hj : 1 ≤ j) (a b : Bool) : CK j 202 [.d (.bool a), .d (.bool b)] = .ok (.d (.bool (a == b))) [] := by
  rw [show CK j 202 _ = _ from own_at (d := d__law_truly) rfl (by decide) hj]
  have e := cmp_eq (x := .bool a) (y := .bool b) (.bool 0 a) (.bool 0 b) (by decide) (by decide)
  rw [show PyData.eqv (.bool a) (.bool b) = (a == b) by simp [PyData.eqv]] at e
  simp [runF, d__law_truly, b__law_truly, e, retC, outsOf]
theorem lwhole_call (hj : 1 ≤ j) {x : D} (h : nd x = true) (lo hi : Int) : CK j 203 [.d x, .d (.int lo), .d (.int hi)] = .ok (.d (.bool (wholeB x lo hi))) [] := by
  rw [show CK j 203 _ = _ from own_at (d := d__law_whole) rfl (by decide) hj]
  cases x with
  | int i => by_cases le : lo ≤ i <;> simp [runF, d__law_whole, b__law_whole, le, wholeB, retC, outsOf]
  | dict _ => cases h
  | _ => simp [runF, d__law_whole, b__law_whole, wholeB, retC, outsOf]
/-- the parts of a row, one by one -/
theorem parts_loop (hj : 1 ≤ j) {v lo hi bd row : Slot} : ∀ (ps : List D) (bs : List (Int × Int)) (s5 s6 s7 : Slot), fr s5 = true → fr s6 = true → fr s7 = true → (∀ p ∈ ps, nd p = true) → ∃ s5' s6' s7', (fr s5' = true ∧ fr s6' = true ∧ fr s7' = true) ∧
    forLoop (stepF (CK j) GL fuel (.tp (.cons (.nm 5) (.cons (.tp (.cons (.nm 6) (.cons (.nm 7) .nil))) .nil))) b__law_rows_0) (zipD ps (bs.map p2)) [v, lo, hi, bd, row, s5, s6, s7] =
      if ((List.zip ps bs).all fun q => wholeB q.1 q.2.1 q.2.2) = true then .nx [v, lo, hi, bd, row, s5', s6', s7'] else .rt (.d (.bool false)) [v, lo, hi, bd, row, s5', s6', s7']
  | [], _, s5, s6, s7, f5, f6, f7, _ => ⟨s5, s6, s7, ⟨f5, f6, f7⟩, by simp [zipD]⟩
  | _ :: _, [], s5, s6, s7, f5, f6, f7, _ => ⟨s5, s6, s7, ⟨f5, f6, f7⟩, by simp [zipD]⟩
  | p :: ps, b :: bs, s5, s6, s7, f5, f6, f7, hn => by
    have w := lwhole_call (j := j) hj (hn p List.mem_cons_self) b.1 b.2
    have z : zipD (p :: ps) ((b :: bs).map p2) = .tuple [p, p2 b] :: zipD ps (bs.map p2) := rfl
    rw [z, forLoop_cons, List.zip_cons_cons, List.all_cons]
    cases q : wholeB p b.1 b.2 with
    | false =>
      rw [q] at w
      refine ⟨.d p, .d (.int b.1), .d (.int b.2), ⟨rfl, rfl, rfl⟩, ?_⟩
      simp [stepF, b__law_rows_0, p2, f5, f6, f7, w, q]
    | true =>
      rw [q] at w
      obtain ⟨t5, t6, t7, ff, e⟩ := parts_loop hj ps bs (.d p) (.d (.int b.1)) (.d (.int b.2)) rfl rfl rfl fun x hx => hn x (List.mem_cons_of_mem _ hx)
      refine ⟨t5, t6, t7, ff, ?_⟩
      have st : stepF (CK j) GL fuel (.tp (.cons (.nm 5) (.cons (.tp (.cons (.nm 6) (.cons (.nm 7) .nil))) .nil))) b__law_rows_0 (.tuple [p, p2 b]) [v, lo, hi, bd, row, s5, s6, s7] = .nx [v, lo, hi, bd, row, .d p, .d (.int b.1), .d (.int b.2)] := by
        simp [stepF, b__law_rows_0, p2, f5, f6, f7, w]
      rw [st]
      show forLoop _ _ _ = _
      rw [e, Bool.true_and]
theorem lrow_turn (hj : 1 ≤ j) {v lo hi : D} {bs : List (Int × Int)} {x : D} (hx : x.canLay0 = true) {s4 s5 s6 s7 : Slot} (f4 : fr s4 = true) (f5 : fr s5 = true) (f6 : fr s6 = true) (f7 : fr s7 = true) :
    ∃ s5' s6' s7', (fr s5' = true ∧ fr s6' = true ∧ fr s7' = true) ∧ stepF (CK j) GL fuel (.nm 4) b__law_rows_1 x [.d v, .d lo, .d hi, .d (.list (bs.map p2)), s4, s5, s6, s7] =
      if rowB bs x = true then .nx [.d v, .d lo, .d hi, .d (.list (bs.map p2)), .d x, s5', s6', s7'] else .rt (.d (.bool false)) [.d v, .d lo, .d hi, .d (.list (bs.map p2)), .d x, s5', s6', s7'] := by
  cases x with
  | tuple ps =>
    by_cases hl : ps.length = bs.length
    · have hl' : (ps.length : Int) = bs.length := by omega
      obtain ⟨t5, t6, t7, ff, e⟩ := parts_loop (fuel := fuel) hj (v := .d v) (lo := .d lo) (hi := .d hi) (bd := .d (.list (bs.map p2))) (row := .d (.tuple ps)) ps bs s5 s6 s7 f5 f6 f7 fun p hp => nd_of (lay_of hx p hp)
      have hr : rowB bs (.tuple ps) = (List.zip ps bs).all fun q => wholeB q.1 q.2.1 q.2.2 := by
        show (decide (ps.length = bs.length) && _) = _
        rw [decide_eq_true hl, Bool.true_and]
      refine ⟨t5, t6, t7, ff, ?_⟩
      rw [hr]
      cases q : (List.zip ps bs).all fun q => wholeB q.1 q.2.1 q.2.2 with
      | true =>
        rw [q] at e
        show (Fl.of (asgT (.nm 4) (.tuple ps) _)).andThen (evS (CK j) GL fuel b__law_rows_1) = _
        simp [b__law_rows_1, f4, hl', e]
      | false =>
        rw [q] at e
        show (Fl.of (asgT (.nm 4) (.tuple ps) _)).andThen (evS (CK j) GL fuel b__law_rows_1) = _
        simp [b__law_rows_1, f4, hl', e]
    · have hl' : ¬ (ps.length : Int) = bs.length := by omega
      have hr : rowB bs (.tuple ps) = false := by
        show (decide (ps.length = bs.length) && _) = _
        rw [decide_eq_false hl, Bool.false_and]
      refine ⟨s5, s6, s7, ⟨f5, f6, f7⟩, ?_⟩
      rw [hr]
      simp [stepF, b__law_rows_1, f4, hl']
  | dict _ => cases hx
  | _ => exact ⟨s5, s6, s7, ⟨f5, f6, f7⟩, by simp [stepF, b__law_rows_1, f4, rowB]⟩
theorem lrows_call (hj : 2 ≤ j) {v : D} (hv : v.canLay0 = true) (lo hi : Int) (bs : List (Int × Int)) : CK j 204 [.d v, .d (.int lo), .d (.int hi), .d (.list (bs.map p2))] = .ok (.d (.bool (rowsB v lo hi bs))) [] := by
  rw [show CK j 204 _ = _ from own_at (d := d__law_rows) rfl (by decide) (by omega)]
  cases v with
  | tuple xs =>
    obtain ⟨r, ⟨s4, s5, s6, s7, f4, f5, f6, f7, hr⟩, e⟩ := forLoop_all (step := stepF (CK (j - 1)) GL 0 (.nm 4) b__law_rows_1) (xs := xs) (p := rowB bs) (v := .d (.bool false)) (r := [.d (.tuple xs), .d (.int lo), .d (.int hi), .d (.list (bs.map p2)), .non, .non, .non, .non])
      (I := fun r => ∃ s4 s5 s6 s7, fr s4 = true ∧ fr s5 = true ∧ fr s6 = true ∧ fr s7 = true ∧ r = [.d (.tuple xs), .d (.int lo), .d (.int hi), .d (.list (bs.map p2)), s4, s5, s6, s7]) ⟨.non, .non, .non, .non, rfl, rfl, rfl, rfl, rfl⟩ fun x hx r ⟨s4, s5, s6, s7, f4, f5, f6, f7, hr⟩ => by
        subst hr
        obtain ⟨t5, t6, t7, ⟨g5, g6, g7⟩, e⟩ := lrow_turn (fuel := 0) (j := j - 1) (by omega) (v := .tuple xs) (lo := .int lo) (hi := .int hi) (bs := bs) (lay_of hv x hx) f4 f5 f6 f7
        exact ⟨_, ⟨.d x, t5, t6, t7, rfl, g5, g6, g7, rfl⟩, e⟩
    subst hr
    by_cases l1 : lo ≤ xs.length
    · by_cases l2 : (xs.length : Int) ≤ hi
      · cases q : xs.all (rowB bs) with
        | true => rw [q] at e; simp [runF, d__law_rows, b__law_rows, l1, l2, e, rowsB, q, retC, outsOf]
        | false => rw [q] at e; simp [runF, d__law_rows, b__law_rows, l1, l2, e, rowsB, q, retC, outsOf]
      · simp [runF, d__law_rows, b__law_rows, l1, l2, rowsB, retC, outsOf]
    · simp [runF, d__law_rows, b__law_rows, l1, rowsB, retC, outsOf]
  | dict _ => cases hv
  | _ => simp [runF, d__law_rows, b__law_rows, rowsB, retC, outsOf]
theorem good_call (hj : 3 ≤ j) {v : D} (hv : v.canLay0 = true) : CK j 205 [.d v] = .ok (.d (.bool (streetB v))) [] := by
  rw [show CK j 205 _ = _ from own_at (d := d__law_good) rfl (by decide) (by omega)]
  cases v with
  | tuple xs =>
    by_cases l : xs.length = 3
    · match xs, l with
      | [w, a, s], _ =>
        have lay := lay_of hv
        have c1 := lrows_call (j := j - 1) (by omega) (lay w (by simp)) 0 3 [(0, 20), (1, 9)]
        have c2 := lrows_call (j := j - 1) (by omega) (lay a (by simp)) 1 3 [(0, 20), (1, 9), (1, 9)]
        have c3 := lrows_call (j := j - 1) (by omega) (lay s (by simp)) 1 4 [(0, 20), (0, 5)]
        simp only [List.map_cons, List.map_nil, p2] at c1 c2 c3
        have r : streetB (.tuple [w, a, s]) = ((rowsB w 0 3 [(0, 20), (1, 9)] && rowsB a 1 3 [(0, 20), (1, 9), (1, 9)]) && rowsB s 1 4 [(0, 20), (0, 5)]) := rfl
        rw [r]
        cases q1 : rowsB w 0 3 [(0, 20), (1, 9)] with
        | false => rw [q1] at c1; simp [runF, d__law_good, b__law_good, at0, at1, at2, c1, retC, outsOf]
        | true =>
          rw [q1] at c1
          cases q3 : rowsB s 1 4 [(0, 20), (0, 5)] with
          | false => rw [q3] at c3; simp [runF, d__law_good, b__law_good, at0, at1, at2, c1, c3, retC, outsOf]
          | true => rw [q3] at c3; simp [runF, d__law_good, b__law_good, at0, at1, at2, c1, c2, c3, retC, outsOf]
    · have l' : ¬ (xs.length : Int) = 3 := by omega
      have e : streetB (.tuple xs) = false := by
        match xs, l with
        | [], _ => rfl
        | [_], _ => rfl
        | [_, _], _ => rfl
        | [_, _, _], l => exact absurd rfl l
        | _ :: _ :: _ :: _ :: _, _ => rfl
      simp [runF, d__law_good, b__law_good, l', e, retC, outsOf]
  | dict _ => cases hv
  | _ => simp [runF, d__law_good, b__law_good, streetB, retC, outsOf]
end K01
end
section
set_option Elab.async false
set_option maxRecDepth 100000
set_option linter.all false
set_option autoImplicit false
set_option maxHeartbeats 1000007
/-! M01: steps and scripts as the law knows them; spoilt values. -/
namespace K01
open PySem Ev
variable {j : Nat} {fuel : Nat}
theorem in_l2 (w a b : Str) : dCmp .In (.str w) (.list [.str a, .str b]) = some (.bool (decide (a = w) || decide (b = w))) := by
  show (dIn (.str w) (.list [.str a, .str b])).map PyData.bool = _
  have : dIn (.str w) (.list [.str a, .str b]) = some (decide (a = w) || decide (b = w)) := by
    show (if (flatD (.str w) && [PyData.str a, PyData.str b].all flatD) = true then some ([PyData.str a, PyData.str b].any fun y => PyData.eqv y (.str w)) else none) = _
    rw [if_pos (show (flatD (.str w) && [PyData.str a, PyData.str b].all flatD) = true from rfl)]
    simp [eqv_str]
  rw [this]
  rfl
theorem nin_l4 (w a b c d : Str) : dCmp .NotIn (.str w) (.list [.str a, .str b, .str c, .str d]) = some (.bool (!(decide (a = w) || (decide (b = w) || (decide (c = w) || decide (d = w)))))) := by
  show (dIn (.str w) (.list [.str a, .str b, .str c, .str d])).map (fun b => PyData.bool (!b)) = _
  have : dIn (.str w) (.list [.str a, .str b, .str c, .str d]) = some (decide (a = w) || (decide (b = w) || (decide (c = w) || decide (d = w)))) := by
    show (if (flatD (.str w) && [PyData.str a, PyData.str b, PyData.str c, PyData.str d].all flatD) = true then some ([PyData.str a, PyData.str b, PyData.str c, PyData.str d].any fun y => PyData.eqv y (.str w)) else none) = _
    rw [if_pos (show (flatD (.str w) && [PyData.str a, PyData.str b, PyData.str c, PyData.str d].all flatD) = true from rfl)]
    simp [eqv_str]
  rw [this]
  rfl
theorem short_tup {xs : List D} (l : xs.length ≠ 3) (s : Street) : stepB s (.tuple xs) = false ∧ singleB s (.tuple xs) = false := by
  match xs, l with
  | [], _ => exact ⟨rfl, rfl⟩
  | [x], _ => cases x <;> exact ⟨rfl, rfl⟩
  | [x, _], _ => cases x <;> exact ⟨rfl, rfl⟩
  | [_, _, _], l => exact absurd rfl l
  | x :: _ :: _ :: _ :: _, _ => cases x <;> exact ⟨rfl, rfl⟩
/-- a step whose word is none of when and unless -/
theorem gstep_word (hj : 2 ≤ j) {s : Street} (hs : Drawn s) {w : Str} {a n : D} (cw : cpOk w) (na : nd a = true) (nn : nd n = true) (deep : Bool) (no : (decide (Str.ofString "when" = w) || decide (Str.ofString "unless" = w)) = false) :
    CK j 206 [.d s.d, .d (.tuple [.str w, a, n]), .d (.bool deep)] = .ok (.d (.bool (singleB s (.tuple [.str w, a, n])))) [] := by
  rw [show CK j 206 _ = _ from own_at (d := d__law_good_step) rfl (by decide) (by omega)]
  have i1 := in_l2 w "when" "unless"
  rw [no] at i1
  have i2 := nin_l4 w "out" "in" "cover" "touch"
  have e2 := eq_strs cw cp_cover
  have e3 := eq_strs cw cp_touch
  have ca := lwhole_call (j := j - 1) (by omega) na 0 (s.nA - 1)
  have cn := fun lo hi => lwhole_call (j := j - 1) (by omega) nn lo hi
  cases qa : wholeB a 0 (s.nA - 1) with
  | false =>
    rw [qa] at ca
    have r : singleB s (.tuple [.str w, a, n]) = false := by simp only [singleB]; rw [qa]; rfl
    rw [r]
    cases q : (decide (Str.ofString "out" = w) || (decide (Str.ofString "in" = w) || (decide (Str.ofString "cover" = w) || decide (Str.ofString "touch" = w)))) with
    | false => rw [q] at i2; simp [runF, d__law_good_step, b__law_good_step, at0, i1, i2, retC, outsOf]
    | true => rw [q] at i2; simp [runF, d__law_good_step, b__law_good_step, at0, s.ix1, i1, i2, ca, retC, outsOf]
  | true =>
    rw [qa] at ca
    obtain ⟨i, rfl, _⟩ := whole_is qa
    by_cases w1 : (decide (Str.ofString "out" = w) || decide (Str.ofString "in" = w)) = true
    · have r : singleB s (.tuple [.str w, .int i, n]) = wholeB n 1 9 := by simp only [singleB]; rw [qa, if_pos w1]; rfl
      rw [r]
      have w2 : ¬ w = "cover" := fun z => by rw [z] at w1; revert w1; decide +kernel
      have w3 : ¬ w = "touch" := fun z => by rw [z] at w1; revert w1; decide +kernel
      rw [decide_eq_false w2] at e2
      rw [decide_eq_false w3] at e3
      have q : (decide (Str.ofString "out" = w) || (decide (Str.ofString "in" = w) || (decide (Str.ofString "cover" = w) || decide (Str.ofString "touch" = w)))) = true := by rw [← Bool.or_assoc, w1]; rfl
      rw [q] at i2
      simp [runF, d__law_good_step, b__law_good_step, at0, s.ix1, i1, i2, ca, cn, e2, e3, retC, outsOf]
    · by_cases w2 : w = "cover"
      · rw [decide_eq_true w2] at e2
        have r : singleB s (.tuple [.str w, .int i, n]) = wholeB n 0 (s.nS - 1) := by simp only [singleB]; rw [qa, if_neg w1, if_pos w2]; rfl
        rw [r]
        have q : (decide (Str.ofString "out" = w) || (decide (Str.ofString "in" = w) || (decide (Str.ofString "cover" = w) || decide (Str.ofString "touch" = w)))) = true := by rw [w2]; decide +kernel
        rw [q] at i2
        simp [runF, d__law_good_step, b__law_good_step, at0, s.ix1, s.ix2, i1, i2, ca, cn, e2, retC, outsOf]
      · rw [decide_eq_false w2] at e2
        have r : singleB s (.tuple [.str w, .int i, n]) = (decide (w = "touch") && (wholeB n 0 (s.nW + s.nA - 1) && farB s.nW (.int i) n)) := by simp only [singleB]; rw [qa, if_neg w1, if_neg w2]; rfl
        rw [r]
        by_cases w3 : w = "touch"
        · rw [decide_eq_true w3] at e3 ⊢
          have q : (decide (Str.ofString "out" = w) || (decide (Str.ofString "in" = w) || (decide (Str.ofString "cover" = w) || decide (Str.ofString "touch" = w)))) = true := by rw [w3]; decide +kernel
          rw [q] at i2
          have nA := hs.a.1
          have nW := hs.w.1
          have ad := bin_addT (xs := s.ws.map p2) (ys := s.as.map p3) (by rw [List.length_map, List.length_map]; exact lenLim_le _ (by omega))
          have ln : dBi .len [.tuple (s.ws.map p2 ++ s.as.map p3)] = some (.int (s.nW + s.nA)) := by rw [bi_len_t, List.length_append, List.length_map, List.length_map, Int.natCast_add]
          have cn := cn 0 (s.nW + s.nA - 1)
          have l3 : dBi .len [.tuple [.str w, .int i, n]] = some (.int 3) := rfl
          cases qn : wholeB n 0 (s.nW + s.nA - 1) with
          | false =>
            rw [qn] at cn
            simp [runF, d__law_good_step, b__law_good_step, at0, s.ix0, s.ix1, i1, i2, ca, e2, e3, ad, cn, retC, outsOf]
          | true =>
            rw [qn] at cn
            obtain ⟨m, rfl, _⟩ := whole_is qn
            have l3 : dBi .len [.tuple [.str w, .int i, .int m]] = some (.int 3) := rfl
            have eq : decide (m - i = s.nW) = decide (m = s.nW + i) := decide_eq_decide.mpr (by omega)
            have l0 : dBi .len [.tuple (s.ws.map p2)] = some (.int s.nW) := by rw [bi_len_t, List.length_map]
            simp [runF, d__law_good_step, b__law_good_step, at0, s.ix0, s.ix1, i1, i2, ca, e2, e3, ad, cn, farB, eq, retC, outsOf]
        · rw [decide_eq_false w3] at e3 ⊢
          have q : (decide (Str.ofString "out" = w) || (decide (Str.ofString "in" = w) || (decide (Str.ofString "cover" = w) || decide (Str.ofString "touch" = w)))) = false := by
            rw [← Bool.or_assoc, Bool.not_eq_true _ |>.mp w1, decide_eq_false (fun z => w2 z.symm), decide_eq_false (fun z => w3 z.symm)]
            rfl
          rw [q] at i2
          simp [runF, d__law_good_step, b__law_good_step, at0, i1, i2, retC, outsOf]
/-- a step that is done at once, as the law knows it -/
theorem gsingle_call (hj : 2 ≤ j) {s : Street} (hs : Drawn s) {v : D} (hv : v.canLay0 = true) : CK j 206 [.d s.d, .d v, .d (.bool false)] = .ok (.d (.bool (singleB s v))) [] := by
  cases v with
  | tuple xs =>
    by_cases l : xs.length = 3
    · match xs, l with
      | [x, a, n], _ =>
        have lay := lay_of hv
        cases x with
        | str w =>
          cases q : (decide (Str.ofString "when" = w) || decide (Str.ofString "unless" = w)) with
          | false => exact gstep_word hj hs (cp_of (lay (.str w) (by simp))) (nd_of (lay a (by simp))) (nd_of (lay n (by simp))) false q
          | true =>
            rw [show CK j 206 _ = _ from own_at (d := d__law_good_step) rfl (by decide) (by omega)]
            have i1 := in_l2 w "when" "unless"
            rw [q] at i1
            have r : singleB s (.tuple [.str w, a, n]) = false := by
              have w' : w = "when" ∨ w = "unless" := by
                rcases Bool.or_eq_true _ _ |>.mp q with h | h
                · exact .inl (of_decide_eq_true h).symm
                · exact .inr (of_decide_eq_true h).symm
              simp only [singleB]
              rcases w' with rfl | rfl
              · rw [if_neg (by decide +kernel), if_neg (by decide +kernel), decide_eq_false (by decide +kernel), Bool.false_and, Bool.and_false]
              · rw [if_neg (by decide +kernel), if_neg (by decide +kernel), decide_eq_false (by decide +kernel), Bool.false_and, Bool.and_false]
            rw [r]
            simp [runF, d__law_good_step, b__law_good_step, at0, i1, retC, outsOf]
        | dict kvs => cases lay (.dict kvs) List.mem_cons_self
        | _ =>
          rw [show CK j 206 _ = _ from own_at (d := d__law_good_step) rfl (by decide) (by omega)]
          simp [runF, d__law_good_step, b__law_good_step, at0, singleB, retC, outsOf]
    · rw [show CK j 206 _ = _ from own_at (d := d__law_good_step) rfl (by decide) (by omega), (short_tup l s).2]
      have l' : ¬ (xs.length : Int) = 3 := by omega
      simp [runF, d__law_good_step, b__law_good_step, l', retC, outsOf]
  | dict _ => cases hv
  | _ =>
    rw [show CK j 206 _ = _ from own_at (d := d__law_good_step) rfl (by decide) (by omega)]
    simp [runF, d__law_good_step, b__law_good_step, singleB, retC, outsOf]
theorem gstep_call (hj : 3 ≤ j) {s : Street} (hs : Drawn s) {v : D} (hv : v.canLay0 = true) : CK j 206 [.d s.d, .d v, .d (.bool true)] = .ok (.d (.bool (stepB s v))) [] := by
  cases v with
  | tuple xs =>
    by_cases l : xs.length = 3
    · match xs, l with
      | [x, a, n], _ =>
        have lay := lay_of hv
        cases x with
        | str w =>
          have r : stepB s (.tuple [.str w, a, n]) = (singleB s (.tuple [.str w, a, n]) || (((decide (Str.ofString "when" = w) || decide (Str.ofString "unless" = w)) && wholeB a 0 (s.nS - 1)) && singleB s n)) := by unfold stepB; rfl
          cases q : (decide (Str.ofString "when" = w) || decide (Str.ofString "unless" = w)) with
          | false =>
            rw [r, q, Bool.false_and, Bool.false_and, Bool.or_false]
            exact gstep_word (by omega) hs (cp_of (lay (.str w) (by simp))) (nd_of (lay a (by simp))) (nd_of (lay n (by simp))) true q
          | true =>
            rw [show CK j 206 _ = _ from own_at (d := d__law_good_step) rfl (by decide) (by omega)]
            have i1 := in_l2 w "when" "unless"
            rw [q] at i1
            have r' : singleB s (.tuple [.str w, a, n]) = false := by
              have w' : w = "when" ∨ w = "unless" := by
                rcases Bool.or_eq_true _ _ |>.mp q with h | h
                · exact .inl (of_decide_eq_true h).symm
                · exact .inr (of_decide_eq_true h).symm
              simp only [singleB]
              rcases w' with rfl | rfl
              · rw [if_neg (by decide +kernel), if_neg (by decide +kernel), decide_eq_false (by decide +kernel), Bool.false_and, Bool.and_false]
              · rw [if_neg (by decide +kernel), if_neg (by decide +kernel), decide_eq_false (by decide +kernel), Bool.false_and, Bool.and_false]
            have ca := lwhole_call (j := j - 1) (by omega) (nd_of (lay a (by simp))) 0 (s.nS - 1)
            have cg := gsingle_call (j := j - 1) (by omega) hs (lay n (by simp))
            rw [r, r', q, Bool.true_and, Bool.false_or]
            cases qa : wholeB a 0 (s.nS - 1) with
            | false => rw [qa] at ca; simp [runF, d__law_good_step, b__law_good_step, at0, s.ix2, i1, ca, retC, outsOf]
            | true => rw [qa] at ca; simp [runF, d__law_good_step, b__law_good_step, at0, s.ix2, i1, ca, cg, retC, outsOf]
        | dict kvs => cases lay (.dict kvs) List.mem_cons_self
        | _ =>
          rw [show CK j 206 _ = _ from own_at (d := d__law_good_step) rfl (by decide) (by omega)]
          simp [runF, d__law_good_step, b__law_good_step, at0, stepB, singleB, retC, outsOf]
    · rw [show CK j 206 _ = _ from own_at (d := d__law_good_step) rfl (by decide) (by omega), (short_tup l s).1]
      have l' : ¬ (xs.length : Int) = 3 := by omega
      simp [runF, d__law_good_step, b__law_good_step, l', retC, outsOf]
  | dict _ => cases hv
  | _ =>
    rw [show CK j 206 _ = _ from own_at (d := d__law_good_step) rfl (by decide) (by omega)]
    simp [runF, d__law_good_step, b__law_good_step, stepB, singleB, retC, outsOf]
def badF (s : Street) (x : D) : Option D := if stepB s x = true then none else some x
theorem badF_nil (s : Street) : ∀ xs : List D, (xs.filterMap (badF s)).isEmpty = xs.all (stepB s)
  | [] => rfl
  | x :: xs => by
    rw [List.filterMap_cons, List.all_cons]
    cases q : stepB s x with
    | true => rw [show badF s x = none from if_pos q]; simpa using badF_nil s xs
    | false => rw [show badF s x = some x from if_neg (by rw [q]; decide)]; rfl
theorem gscript_call (hj : 4 ≤ j) {s : Street} (hs : Drawn s) {v : D} {n : Nat} (hv : Sh n v) (hn : n ≤ 64) : CK j 207 [.d s.d, .d v] = .ok (.d (.bool (scriptB s v))) [] := by
  rw [show CK j 207 _ = _ from own_at (d := d__law_good_script) rfl (by decide) (by omega)]
  cases v with
  | tuple xs =>
    have r : scriptB s (.tuple xs) = (xs.all (stepB s) && decide (xs.length ≤ 6)) := rfl
    rw [r]
    by_cases l : xs.length ≤ 6
    · have l' : ¬ (6 : Int) < xs.length := by omega
      have lay := lay_of hv.1
      have lc := ev_lc (C := CK (j - 1)) (gl := GL) (elt := .v 2) (it := .iSeq (.v 1)) (cond := .nt (.call 206 (.cons (.v 0) (.cons (.v 2) (.cons (.kB true) .nil))))) (t := .nm 2) (own := [2]) (r := [.d s.d, .d (.tuple xs), .non]) (r1 := [.d s.d, .d (.tuple xs), .non]) (items := xs)
        (badF s) (by simp) (by simp [loose?]) (lenLim_le _ (by omega)) fun x hx => by
          have st := gstep_call (j := j - 1) (by omega) hs (lay x hx)
          refine ⟨[.d s.d, .d (.tuple xs), .d x], !stepB s x, by simp [wipeR], by rw [optB_e rfl]; simp [st], by simp [wipeR], ?_⟩
          unfold badF
          cases q : stepB s x with
          | true => simp
          | false => simp
      have sh : Sh n (.list (xs.filterMap (badF s))) := by
        have d := hv.2
        rw [PyData.depth] at d
        refine ⟨?_, ?_⟩
        · rw [PyData.canLay0, all_lay]
          refine List.all_eq_true.mpr fun y hy => ?_
          obtain ⟨x, hx, e⟩ := List.mem_filterMap.mp hy
          unfold badF at e
          split at e
          · cases e
          · cases e; exact lay _ hx
        · rw [PyData.depth]
          refine Nat.le_trans ?_ d
          have : PyData.depthAll (xs.filterMap (badF s)) ≤ PyData.depthAll xs := depth_le.mpr fun y hy => by
            obtain ⟨x, hx, e⟩ := List.mem_filterMap.mp hy
            unfold badF at e
            split at e
            · cases e
            · cases e; exact depth_le.mp (Nat.le_refl _) _ hx
          omega
      have ce := cmp_eq (x := .list (xs.filterMap (badF s))) (y := .list []) sh (.lst (n := 0) fun x hx => nomatch hx) (by omega) (by decide)
      rw [eqv_nil_r, badF_nil] at ce
      simp [runF, d__law_good_script, b__law_good_script, l', lc, ce, l, retC, outsOf]
    · have l' : (6 : Int) < xs.length := by omega
      rw [decide_eq_false l, Bool.and_false]
      simp [runF, d__law_good_script, b__law_good_script, l', retC, outsOf]
  | dict _ => cases hv.1
  | _ => simp [runF, d__law_good_script, b__law_good_script, scriptB, retC, outsOf]
end K01
end
section
set_option Elab.async false
set_option maxRecDepth 100000
set_option linter.all false
set_option autoImplicit false
set_option maxHeartbeats 1000007
/-! O01: spoilt values. -/
namespace K01
open PySem Ev
variable {j : Nat} {fuel : Nat}
/-- values of so many layers, no row longer than L -/
inductive Vl (L : Nat) : Nat → D → Prop
  | none {n : Nat} : Vl L n .none
  | bool {n : Nat} (b : Bool) : Vl L n (.bool b)
  | int {n : Nat} (i : Int) : Vl L n (.int i)
  | str {n : Nat} {z : Str} : cpOk z → Vl L n (.str z)
  | lst {n : Nat} {xs : List D} : xs.length ≤ L → (∀ x ∈ xs, Vl L n x) → Vl L (n + 1) (.list xs)
  | tup {n : Nat} {xs : List D} : xs.length ≤ L → (∀ x ∈ xs, Vl L n x) → Vl L (n + 1) (.tuple xs)
theorem Vl.mono {L L' n : Nat} (l : L ≤ L') {v : D} (h : Vl L n v) : ∀ {m : Nat}, n ≤ m → Vl L' m v := by
  induction h with
  | none => intros; exact .none
  | bool b => intros; exact .bool b
  | int i => intros; exact .int i
  | str h => intros; exact .str h
  | lst h _ ih =>
    intro m k
    obtain ⟨m, rfl⟩ : ∃ k, m = k + 1 := ⟨m - 1, by omega⟩
    exact .lst (Nat.le_trans h l) fun x hx => ih x hx (by omega)
  | tup h _ ih =>
    intro m k
    obtain ⟨m, rfl⟩ : ∃ k, m = k + 1 := ⟨m - 1, by omega⟩
    exact .tup (Nat.le_trans h l) fun x hx => ih x hx (by omega)
theorem Vl.sh {L n : Nat} {v : D} (h : Vl L n v) : Sh n v := by
  induction h with
  | none => exact .none _
  | bool b => exact .bool _ b
  | int i => exact .int _ i
  | str h => exact h.sh _
  | lst h _ ih => exact .lst ih
  | tup h _ ih => exact .tup ih
theorem Vl.len {L n : Nat} {xs : List D} (h : Vl L n (.tuple xs)) : xs.length ≤ L := by cases h; assumption
theorem Vl.mem {L n : Nat} {xs : List D} (h : Vl L (n + 1) (.tuple xs)) : ∀ x ∈ xs, Vl L n x := by cases h; assumption
theorem cp_lit {z : Str} (h : ∀ c ∈ TL.tl z, c < 0x110000) : cpOk z := h
theorem cut_mem {xs : List D} {lo hi : Option Int} {x : D} (h : x ∈ cutP xs lo hi) : x ∈ xs := List.mem_of_mem_drop (List.mem_of_mem_take h)
theorem cut_len (xs : List D) (lo hi : Option Int) : (cutP xs lo hi).length ≤ xs.length := by
  unfold cutP
  rw [(List.length_take), List.length_drop]
  omega
theorem eqv_nil_t (xs : List D) : PyData.eqv (.tuple xs) (.tuple []) = xs.isEmpty := by cases xs <;> rfl
def sp_tail : S := match b__law_spoilt with
  | .seq _ (.seq _ t) => t
  | s => s
def mores : List D := [.tuple [.str "out", .int 0, .int 3], .tuple [.str "when", .int 0, .tuple [.str "in", .int 0, .int 1]], .tuple [.int 4, .int 2], .int 5]
theorem mores_ok : ∀ x ∈ mores, Vl 3 2 x := by
  have c : ∀ z ∈ ([("out" : Str), "when", "in"] : List Str), cpOk z := by
    have : ∀ z ∈ ([("out" : Str), "when", "in"] : List Str), ∀ c ∈ TL.tl z, c < 0x110000 := by decide +kernel
    exact this
  have c1 := c "out" (by simp)
  have c2 := c "when" (by simp)
  have c3 := c "in" (by simp)
  intro x hx
  simp only [mores, List.mem_cons, List.not_mem_nil, or_false] at hx
  rcases hx with rfl | rfl | rfl | rfl
  · exact .tup (by decide) fun y hy => by
      simp only [List.mem_cons, List.not_mem_nil, or_false] at hy
      rcases hy with rfl | rfl | rfl
      · exact .str c1
      · exact .int _
      · exact .int _
  · exact .tup (by decide) fun y hy => by
      simp only [List.mem_cons, List.not_mem_nil, or_false] at hy
      rcases hy with rfl | rfl | rfl
      · exact .str c2
      · exact .int _
      · exact .tup (by decide) fun y hy => by
          simp only [List.mem_cons, List.not_mem_nil, or_false] at hy
          rcases hy with rfl | rfl | rfl
          · exact .str c3
          · exact .int _
          · exact .int _
  · exact .tup (by decide) fun y hy => by
      simp only [List.mem_cons, List.not_mem_nil, or_false] at hy
      rcases hy with rfl | rfl
      · exact .int _
      · exact .int _
  · exact .int _
/-- what is exchanged at the place itself -/
theorem tail_run (hj : 1 ≤ j) (bag : List Int) {L n : Nat} {v : D} (hv : Vl L n v) (hl : L ≤ 200) (no : ∀ xs, v ≠ .list xs) :
    ∃ v' bag' r, Vl (2 * L + 3) (n + 3) v' ∧ evS (CK j) GL fuel sp_tail [.par (.lst (iL bag)), .d v, .non, .non, .non] = .rt (.d v') (.par (.lst (iL bag')) :: r) := by
  have k1 := take_call (tl := tabL) (tels := tels) (j := j) hj bag (m := 7) (by decide)
  have t1 := tk_lt bag (m := 7) (by decide)
  obtain ⟨way, hw⟩ : ∃ a, a = tk bag 7 := ⟨_, rfl⟩
  rw [← hw] at k1 t1
  have wordV : ∀ x ∈ ([.str "out", .str "in", .str "cover", .str "touch", .str "when", .str "unless", .str "OUT"] : List D), Vl (2 * L + 3) (n + 3) x := by
    have c : ∀ z ∈ ([("out" : Str), "in", "cover", "touch", "when", "unless", "OUT"] : List Str), cpOk z := by
      have : ∀ z ∈ ([("out" : Str), "in", "cover", "touch", "when", "unless", "OUT"] : List Str), ∀ c ∈ TL.tl z, c < 0x110000 := by decide +kernel
      exact this
    intro x hx
    obtain ⟨z, hz, rfl⟩ := List.mem_map.mp (show x ∈ ([("out" : Str), "in", "cover", "touch", "when", "unless", "OUT"] : List Str).map PyData.str from hx)
    exact .str (c z hz)
  obtain ⟨wd, mw, ew⟩ := at_in (xs := ([.str "out", .str "in", .str "cover", .str "touch", .str "when", .str "unless", .str "OUT"] : List D)) (i := way) t1.1 t1.2
  have ew : dIx (.list [.str "out", .str "in", .str "cover", .str "touch", .str "when", .str "unless", .str "OUT"]) (.int way) = some wd := ew
  have numV : ∀ a b c : Int, ∀ x ∈ ([.int a, .int b, .int c, .bool true, .none, .int 0, .str "1"] : List D), Vl (2 * L + 3) (n + 3) x := by
    intro a b c x hx
    simp only [List.not_mem_nil, List.mem_cons, or_false] at hx
    rcases hx with rfl | rfl | rfl | rfl | rfl | rfl | rfl
    · exact .int _
    · exact .int _
    · exact .int _
    · exact .bool _
    · exact .none
    · exact .int _
    · exact .str (cp_lit (by decide +kernel))
  cases v with
  | list xs => exact absurd rfl (no xs)
  | tuple xs =>
    obtain ⟨n, rfl⟩ : ∃ m, n = m + 1 := by cases hv; exact ⟨_, rfl⟩
    have lx := hv.len
    have mx := hv.mem
    have k2 := take_call (tl := tabL) (tels := tels) (j := j) hj bag.tail (m := 4) (by decide)
    have t2 := tk_lt bag.tail (m := 4) (by decide)
    obtain ⟨m, mm, em⟩ := at_in (xs := mores) (i := tk bag.tail 4) t2.1 t2.2
    have vm := mores_ok m mm
    have em : dIx (.list [.tuple [.str "out", .int 0, .int 3], .tuple [.str "when", .int 0, .tuple [.str "in", .int 0, .int 1]], .tuple [.int 4, .int 2], .int 5]) (.int (tk bag.tail 4)) = some m := em
    have lc := cut_len xs (some (-1)) none
    have a1 := bin_addT (xs := xs) (ys := cutP xs (some (-1)) none) (lenLim_le _ (by omega))
    have a2 := bin_addT (xs := xs) (ys := [m]) (lenLim_le _ (by simp; omega))
    have up : ∀ x ∈ xs, Vl (2 * L + 3) (n + 3) x := fun x hx => (mx x hx).mono (by omega) (by omega)
    have rowV : ∀ x ∈ ([.list xs, .tuple (cutP xs (some 1) none), .tuple (xs ++ cutP xs (some (-1)) none), .tuple xs.reverse, .tuple [], .tuple (xs ++ [m]), .none] : List D), Vl (2 * L + 3) (n + 1 + 3) x := by
      intro x hx
      simp only [List.not_mem_nil, List.mem_cons, or_false] at hx
      rcases hx with rfl | rfl | rfl | rfl | rfl | rfl | rfl
      · exact .lst (by omega) up
      · exact .tup (Nat.le_trans (cut_len _ _ _) (by omega)) fun y hy => up y (cut_mem hy)
      · exact .tup (by rw [List.length_append]; omega) fun y hy => (List.mem_append.mp hy).elim (up y) fun h => up y (cut_mem h)
      · exact .tup (by rw [List.length_reverse]; omega) fun y hy => up y (List.mem_reverse.mp hy)
      · exact .tup (by simp) fun y hy => nomatch hy
      · exact .tup (by simp; omega) fun y hy => (List.mem_append.mp hy).elim (up y) fun h => by rw [List.mem_singleton.mp h]; exact vm.mono (by omega) (by omega)
      · exact .none
    obtain ⟨x, hx, ex⟩ := at_in (xs := ([.list xs, .tuple (cutP xs (some 1) none), .tuple (xs ++ cutP xs (some (-1)) none), .tuple xs.reverse, .tuple [], .tuple (xs ++ [m]), .none] : List D)) (i := way) t1.1 t1.2
    have ex : dIx (.list [.list xs, .tuple (cutP xs (some 1) none), .tuple (xs ++ cutP xs (some (-1)) none), .tuple xs.reverse, .tuple [], .tuple (xs ++ [m]), .none]) (.int way) = some x := ex
    have s1 : ∀ lo hi, dSl (.tuple xs) lo hi = some (.tuple (cutP xs lo hi)) := fun _ _ => rfl
    have b1 : dBi .list [.tuple xs] = some (.list xs) := rfl
    have b2 : dRevT (.tuple xs) = some (.tuple xs.reverse) := rfl
    refine ⟨x, bag.tail.tail, [.d (.tuple xs), .d (.int way), .non, .d m], rowV x hx, ?_⟩
    simp [sp_tail, b__law_spoilt, k1, k2, em, a1, a2, s1, b1, b2, ex]
  | int i =>
    obtain ⟨x, hx, ex⟩ := at_in (xs := ([.int (i + 1), .int (i - 1), .int (i + 9), .bool true, .none, .int 0, .str "1"] : List D)) (i := way) t1.1 t1.2
    have ex : dIx (.list [.int (i + 1), .int (i - 1), .int (i + 9), .bool true, .none, .int 0, .str "1"]) (.int way) = some x := ex
    refine ⟨x, bag.tail, [.d (.int i), .d (.int way), .non, .non], numV _ _ _ x hx, ?_⟩
    simp [sp_tail, b__law_spoilt, k1, ex]
  | bool i =>
    obtain ⟨x, hx, ex⟩ := at_in (xs := ([.int (b2z i + 1), .int (b2z i - 1), .int (b2z i + 9), .bool true, .none, .int 0, .str "1"] : List D)) (i := way) t1.1 t1.2
    have ex : dIx (.list [.int (b2z i + 1), .int (b2z i - 1), .int (b2z i + 9), .bool true, .none, .int 0, .str "1"]) (.int way) = some x := ex
    have a : ∀ k, dBin .Add (.bool i) (.int k) = some (.int (b2z i + k)) := fun _ => rfl
    have b : ∀ k, dBin .Sub (.bool i) (.int k) = some (.int (b2z i - k)) := fun _ => rfl
    refine ⟨x, bag.tail, [.d (.bool i), .d (.int way), .non, .non], numV _ _ _ x hx, ?_⟩
    simp [sp_tail, b__law_spoilt, k1, a, b, ex]
  | dict _ => cases hv
  | none =>
    refine ⟨wd, bag.tail, [.d .none, .d (.int way), .non, .non], wordV wd mw, ?_⟩
    simp [sp_tail, b__law_spoilt, k1, ew]
  | str z =>
    refine ⟨wd, bag.tail, [.d (.str z), .d (.int way), .non, .non], wordV wd mw, ?_⟩
    simp [sp_tail, b__law_spoilt, k1, ew]
theorem spoil_body : b__law_spoilt = .seq (.ifs (.isi (.v 1) .list) (.seq (.ret (.bi .tuple (.cons (.v 1) .nil))) .skip) .skip) (.seq (.ifs (.band (.isi (.v 1) .tuple) (.band (.cmp .NotEq (.v 1) (.tup .nil)) (.one (.cmp .Gt (.call 103 (.cons (.v 0) (.cons (.kI 5) .nil))) (.kI 0)))))
    (.seq (.set 3 (.call 103 (.cons (.v 0) (.cons (.bi .len (.cons (.v 1) .nil)) .nil)))) (.seq (.ret (.bin .Add (.bin .Add (.sl (.v 1) .nil (.v 3)) (.tup (.cons (.call 208 (.cons (.v 0) (.cons (.ix (.v 1) (.v 3)) .nil))) .nil))) (.sl (.v 1) (.bin .Add (.v 3) (.kI 1)) .nil))) .skip)) .skip) sp_tail) := rfl
theorem spoil_call {L n : Nat} {v : D} (hv : Vl L n v) (hl : L ≤ 200) (hn : n ≤ 60) : ∀ {j : Nat}, n + 3 ≤ j → ∀ bag : List Int, ∃ v' bag', Vl (2 * L + 3) (n + 3) v' ∧ CK j 208 [.ob (.lst (iL bag)), .d v] = .ok (.d v') [.lst (iL bag')] := by
  have leaf : ∀ {n : Nat} {v : D} {j : Nat} (bag : List Int), Vl L n v → (∀ xs, v ≠ .list xs) → (∀ xs, v ≠ .tuple xs) → 3 ≤ j → ∃ v' bag', Vl (2 * L + 3) (n + 3) v' ∧ CK j 208 [.ob (.lst (iL bag)), .d v] = .ok (.d v') [.lst (iL bag')] := by
    intro n v j bag hv no nt hj
    obtain ⟨v', bag', r, vv, e⟩ := tail_run (j := j - 1) (fuel := 0) (by omega) bag hv hl no
    refine ⟨v', bag', vv, ?_⟩
    rw [show CK j 208 _ = _ from own_at (d := d__law_spoilt) rfl (by decide) (by omega)]
    cases v with
    | list xs => exact absurd rfl (no xs)
    | tuple xs => exact absurd rfl (nt xs)
    | dict _ => cases hv
    | _ => simp [runF, d__law_spoilt, spoil_body, e, retC, outsOf]
  induction hv with
  | none => intro j hj bag; exact leaf bag .none (fun _ h => nomatch h) (fun _ h => nomatch h) (by omega)
  | bool b => intro j hj bag; exact leaf bag (.bool b) (fun _ h => nomatch h) (fun _ h => nomatch h) (by omega)
  | int b => intro j hj bag; exact leaf bag (.int b) (fun _ h => nomatch h) (fun _ h => nomatch h) (by omega)
  | str b => intro j hj bag; exact leaf bag (.str b) (fun _ h => nomatch h) (fun _ h => nomatch h) (by omega)
  | @lst n xs lx mx _ =>
    intro j hj bag
    refine ⟨.tuple xs, bag, .tup (by omega) fun x hx => (mx x hx).mono (by omega) (by omega), ?_⟩
    have b : dBi .tuple [.list xs] = some (.tuple xs) := rfl
    rw [show CK j 208 _ = _ from own_at (d := d__law_spoilt) rfl (by decide) (by omega)]
    simp [runF, d__law_spoilt, spoil_body, b, retC, outsOf]
  | @tup n xs lx mx ih =>
    intro j hj bag
    have hv : Vl L (n + 1) (.tuple xs) := .tup lx mx
    rw [show CK j 208 _ = _ from own_at (d := d__law_spoilt) rfl (by decide) (by omega)]
    have ce := cmp_ne (x := .tuple xs) (y := .tuple []) hv.sh (.tup (n := 0) fun x hx => nomatch hx) (by omega) (by decide)
    rw [eqv_nil_t] at ce
    cases q : xs.isEmpty with
    | true =>
      rw [q] at ce
      obtain ⟨v', bag', r, vv, e⟩ := tail_run (j := j - 1) (fuel := 0) (by omega) bag hv hl fun _ h => nomatch h
      refine ⟨v', bag', vv, ?_⟩
      simp [runF, d__law_spoilt, spoil_body, ce, e, retC, outsOf]
    | false =>
      rw [q] at ce
      have k1 := take_call (tl := tabL) (tels := tels) (j := j - 1) (by omega) bag (m := 5) (by decide)
      by_cases p : 0 < tk bag 5
      · have pos : 0 < xs.length := List.length_pos_iff.mpr fun z => by rw [z] at q; cases q
        have k2 := take_call (tl := tabL) (tels := tels) (j := j - 1) (by omega) bag.tail (m := (xs.length : Int)) (by omega)
        have t2 := tk_lt bag.tail (m := (xs.length : Int)) (by omega)
        obtain ⟨at_, ha⟩ : ∃ a, a = tk bag.tail (xs.length : Int) := ⟨_, rfl⟩
        rw [← ha] at k2 t2
        obtain ⟨x, hx, ex⟩ := at_in t2.1 t2.2
        have ex : dIx (.tuple xs) (.int at_) = some x := ex
        obtain ⟨v', bag', vv, e⟩ := ih x hx (by omega) (j := j - 1) (by omega) bag.tail.tail
        have l1 := cut_len xs none (some at_)
        have l2 := cut_len xs (some (at_ + 1)) none
        have s1 : ∀ lo hi, dSl (.tuple xs) lo hi = some (.tuple (cutP xs lo hi)) := fun _ _ => rfl
        have a1 := bin_addT (xs := cutP xs none (some at_)) (ys := [v']) (lenLim_le _ (by simp; omega))
        have a2 := bin_addT (xs := cutP xs none (some at_) ++ [v']) (ys := cutP xs (some (at_ + 1)) none) (lenLim_le _ (by simp; omega))
        refine ⟨.tuple (cutP xs none (some at_) ++ [v'] ++ cutP xs (some (at_ + 1)) none), bag', ?_, ?_⟩
        · refine .tup (by simp; omega) fun y hy => ?_
          rcases List.mem_append.mp hy with h | h
          · rcases (List.mem_append.mp h) with h | h
            · exact (mx y (cut_mem h)).mono (by omega) (by omega)
            · rw [List.mem_singleton.mp h]; exact vv
          · exact (mx y (cut_mem h)).mono (by omega) (by omega)
        · simp [runF, d__law_spoilt, spoil_body, ce, k1, p, k2, s1, ex, e, a1, a2, retC, outsOf, -List.append_assoc]
      · obtain ⟨v', bag', r, vv, e⟩ := tail_run (j := j - 1) (fuel := 0) (by omega) bag.tail hv hl fun _ h => nomatch h
        refine ⟨v', bag', vv, ?_⟩
        simp [runF, d__law_spoilt, spoil_body, ce, k1, p, e, retC, outsOf]
end K01
end
section
set_option Elab.async false
set_option maxRecDepth 100000
set_option linter.all false
set_option autoImplicit false
set_option maxHeartbeats 1000007
set_option exponentiation.threshold 20001
/-! R01: the loops of the law of streets and scripts. -/
namespace K01
open PySem Ev
variable {j : Nat} {fuel : Nat}
theorem tel_at : CK j 1000 = telG false nam := by
  show calls GL (tabM ++ tabL) tels j (1000 + 0) = _
  rw [calls_tel]
theorem tel_ok {x : D} {r : Rho} : telEv (telG false nam) (.ok x r) = .ok (.str "") r := rfl
theorem tel_ex {c z : Str} {r : Rho} (n : nam.lookup c = some z) : telEv (telG false nam) (.ex c r) = .ok (.str z) r := by
  show telOf (match nam.lookup c with
    | some z => .ok (.d (datEx false z)) []
    | none => .no) r = _
  rw [n]
  rfl
theorem nam_street : nam.lookup ("InvalidStreet" : Str) = some "street value" := by decide +kernel
theorem cp_sv : cpOk "street value" := by unfold cpOk; decide +kernel
theorem cp_e : cpOk "" := by unfold cpOk; decide +kernel
theorem Vl.rows {L n : Nat} {v : D} (h : Vl L n v) (l : L ≤ 1000) : ∀ xs, v = .tuple xs → xs.length ≤ 1000 := fun xs e => by subst e; exact Nat.le_trans h.len l
theorem turn2 (hj : 22 ≤ j) {s : Street} (hs : Drawn s) (bag : List Int) {t : Int} {sc u w x y : D} (hx : (if t % 3 = 0 then s.d else u) = x) (hy : (if t % 3 = 0 then sc else w) = y) {L n : Nat} (vx : Vl L n x) (vy : Vl L n y) (hL : L ≤ 100) (hn : n ≤ 15)
    {S s1 s3 s6 s7 s10 : Slot} (f6 : fr s6 = true) (f10 : fr s10 = true) : ∃ bag' u' w' g, Vl (2 * L + 3) (n + 3) u' ∧ Vl (2 * L + 3) (n + 3) w' ∧
      stepF (CK j) GL fuel (.nm 6) b_law_2 (.int t) [S, s1, .d s.d, s3, .own (.lst (iL bag)), .d sc, s6, s7, .d u, .d w, s10] = .nx [S, s1, .d s.d, s3, .own (.lst (iL bag')), .d sc, .d (.int t), s7, .d u', .d w', .d (.bool g)] := by
  obtain ⟨u', bag1, vu, eu⟩ := spoil_call vx (by omega) (by omega) (j := j) (by omega) bag
  obtain ⟨w', bag2, vw, ew⟩ := spoil_call vy (by omega) (by omega) (j := j) (by omega) bag1
  have md : dBin .Mod (.int t) (.int 3) = some (.int (t % 3)) := bin_mod (by decide)
  have gd := good_call (j := j) (by omega) vu.sh.1
  have st := street_is (tl := tabL) (tels := tels) (j := j) (by omega) vu.sh.1
  have tr := fun a b => truly_call (j := j) (by omega) a b
  have sc1 := script_is (tl := tabL) (tels := tels) (j := j) (by omega) hs.street vw.sh.1 (vw.rows (by omega))
  have sc2 := gscript_call (j := j) (by omega) hs vw.sh (by omega)
  have n0 := cmp_ne (x := .str "") (y := .str "") (cp_e.sh 0) (cp_e.sh 0) (by decide) (by decide)
  rw [(cp_e.sh 0).refl] at n0
  have n1 := cmp_ne (x := .str "street value") (y := .str "street value") (cp_sv.sh 0) (cp_sv.sh 0) (by decide) (by decide)
  rw [(cp_sv.sh 0).refl] at n1
  have te := fun r => tel_ex (r := r) nam_street
  refine ⟨bag2, u', w', streetB u', vu, vw, ?_⟩
  cases q : streetB u' with
  | true =>
    obtain ⟨m, cg⟩ := count_good (tl := tabL) (tels := tels) (j := j) (by omega) vu.sh.1 q
    rw [q] at gd st
    by_cases h : t % 3 = 0
    · rw [if_pos h] at hx hy
      subst hx hy
      simp [stepF, b_law_2, f6, f10, md, h, eu, ew, gd, st, tr, sc1, sc2, cg, tel_at, tel_ok, n0]
    · rw [if_neg h] at hx hy
      subst hx hy
      simp [stepF, b_law_2, f6, f10, md, h, eu, ew, gd, st, tr, sc1, sc2, cg, tel_at, tel_ok, n0]
  | false =>
    have cb := count_bad (tl := tabL) (tels := tels) (j := j) (by omega) vu.sh.1 q
    have sb := script_bad (tl := tabL) (tels := tels) (j := j) (by omega) (x := .tuple []) vu.sh.1 q
    rw [q] at gd st
    by_cases h : t % 3 = 0
    · rw [if_pos h] at hx hy
      subst hx hy
      simp [stepF, b_law_2, f6, f10, md, h, eu, ew, gd, st, tr, sc1, sc2, cb, sb, tel_at, te, n1]
    · rw [if_neg h] at hx hy
      subst hx hy
      simp [stepF, b_law_2, f6, f10, md, h, eu, ew, gd, st, tr, sc1, sc2, cb, sb, tel_at, te, n1]
theorem rngD_cons {a b : Int} (h : a < b) : rngD a b = .int a :: rngD (a + 1) b := by
  unfold rngD
  obtain ⟨n, hn⟩ : ∃ n, (b - a).toNat = n + 1 := ⟨(b - a).toNat - 1, by omega⟩
  have hm : (b - (a + 1)).toNat = n := by omega
  rw [hn, hm, List.range_succ_eq_map, List.map_cons, List.map_map]
  congr 1
  · simp
  · refine List.map_congr_left fun i _ => ?_
    show PyData.int (a + ((i + 1 : Nat) : Int)) = .int (a + 1 + i)
    congr 1
    omega
theorem rngD_nil {a b : Int} (h : b ≤ a) : rngD a b = [] := List.eq_nil_of_length_eq_zero (by rw [rngD_len]; omega)
/-- sixteen turns -/
theorem loop2 (hj : 22 ≤ j) {s : Street} (hs : Drawn s) {sc : D} (v1 : Vl 6 3 s.d) (v2 : Vl 6 3 sc) {S s1 s3 s7 : Slot} : ∀ (m : Nat) (t : Int), 0 ≤ t → t + m = 16 → ∀ (bag : List Int) (u w : D) (s6 s10 : Slot), fr s6 = true → fr s10 = true →
    (t % 3 = 1 → Vl 15 6 u ∧ Vl 15 6 w) → (t % 3 = 2 → Vl 33 9 u ∧ Vl 33 9 w) → ∃ bag' u' w' s6' s10', fr s6' = true ∧ fr s10' = true ∧
      forLoop (stepF (CK j) GL fuel (.nm 6) b_law_2) (rngD t 16) [S, s1, .d s.d, s3, .own (.lst (iL bag)), .d sc, s6, s7, .d u, .d w, s10] = .nx [S, s1, .d s.d, s3, .own (.lst (iL bag')), .d sc, s6', s7, .d u', .d w', s10']
  | 0, t, _, e, bag, u, w, s6, s10, f6, f10, _, _ => ⟨bag, u, w, s6, s10, f6, f10, by rw [rngD_nil (by omega), forLoop_nil]⟩
  | m + 1, t, t0, e, bag, u, w, s6, s10, f6, f10, h1, h2 => by
    rw [rngD_cons (by omega), forLoop_cons]
    have cs : t % 3 = 0 ∨ t % 3 = 1 ∨ t % 3 = 2 := by omega
    rcases cs with c | c | c
    · obtain ⟨bag1, u1, w1, g, vu, vw, e1⟩ := turn2 (fuel := fuel) hj hs bag (t := t) (sc := sc) (u := u) (w := w) (if_pos c) (if_pos c) v1 v2 (by decide) (by decide) (S := S) (s1 := s1) (s3 := s3) (s7 := s7) f6 f10
      rw [e1]
      exact loop2 hj hs v1 v2 m (t + 1) (by omega) (by omega) bag1 u1 w1 _ _ rfl rfl (fun _ => ⟨vu, vw⟩) (fun z => by omega)
    · obtain ⟨bag1, u1, w1, g, vu, vw, e1⟩ := turn2 (fuel := fuel) hj hs bag (t := t) (sc := sc) (u := u) (w := w) (if_neg (by omega)) (if_neg (by omega)) (h1 c).1 (h1 c).2 (by decide) (by decide) (S := S) (s1 := s1) (s3 := s3) (s7 := s7) f6 f10
      rw [e1]
      exact loop2 hj hs v1 v2 m (t + 1) (by omega) (by omega) bag1 u1 w1 _ _ rfl rfl (fun z => by omega) (fun _ => ⟨vu, vw⟩)
    · obtain ⟨bag1, u1, w1, g, vu, vw, e1⟩ := turn2 (fuel := fuel) hj hs bag (t := t) (sc := sc) (u := u) (w := w) (if_neg (by omega)) (if_neg (by omega)) (h2 c).1 (h2 c).2 (by decide) (by decide) (S := S) (s1 := s1) (s3 := s3) (s7 := s7) f6 f10
      rw [e1]
      exact loop2 hj hs v1 v2 m (t + 1) (by omega) (by omega) bag1 u1 w1 _ _ rfl rfl (fun z => by omega) (fun z => by omega)
/-- is_lean of many -/
theorem lean_loop {b : S} {bb : Bool} (hb : b = .seq (.ifs (.cmp .IsNot (.call 10 (.cons (.v 7) .nil)) (.kB bb)) (.seq (.ret (.kB false)) .skip) .skip) .skip) {s0 s1 s2 s3 s4 s5 s6 s8 s9 s10 : Slot} : ∀ {xs : List D}, (∀ v ∈ xs, CK j 10 [.d v] = .ok (.d (.bool bb)) []) → ∀ {s7 : Slot}, fr s7 = true →
    ∃ s7', fr s7' = true ∧ forLoop (stepF (CK j) GL fuel (.nm 7) b) xs [s0, s1, s2, s3, s4, s5, s6, s7, s8, s9, s10] = .nx [s0, s1, s2, s3, s4, s5, s6, s7', s8, s9, s10]
  | [], _, s7, f7 => ⟨s7, f7, rfl⟩
  | v :: xs, h, s7, f7 => by
    have c := h v List.mem_cons_self
    have i : dCmp .IsNot (.bool bb) (.bool bb) = some (.bool false) := by cases bb <;> rfl
    have e : stepF (CK j) GL fuel (.nm 7) b v [s0, s1, s2, s3, s4, s5, s6, s7, s8, s9, s10] = .nx [s0, s1, s2, s3, s4, s5, s6, .d v, s8, s9, s10] := by
      subst hb
      simp [stepF, f7, c, i]
    obtain ⟨s7', f7', e2⟩ := lean_loop hb (xs := xs) (fun y hy => h y (List.mem_cons_of_mem _ hy)) (s7 := .d v) rfl
    refine ⟨s7', f7', ?_⟩
    rw [forLoop_cons, e]
    exact e2
theorem street_vl {s : Street} (hs : Drawn s) : Vl 6 3 s.d := by
  have a := hs.w.1
  have b := hs.a.1
  have c := hs.s.1
  have q2 : ∀ p : Int × Int, Vl 6 1 (p2 p) := fun p => .tup (by simp) fun x hx => by
    simp only [List.not_mem_nil, List.mem_cons, or_false] at hx
    rcases hx with rfl | rfl
    · exact .int _
    · exact .int _
  have q3 : ∀ p : Int × Int × Int, Vl 6 1 (p3 p) := fun p => .tup (by simp) fun x hx => by
    simp only [List.not_mem_nil, List.mem_cons, or_false] at hx
    rcases hx with rfl | rfl | rfl
    · exact .int _
    · exact .int _
    · exact .int _
  refine .tup (by simp) fun x hx => ?_
  simp only [List.not_mem_nil, List.mem_cons, or_false] at hx
  rcases hx with rfl | rfl | rfl
  · exact .tup (by simp; omega) fun y hy => by obtain ⟨p, _, rfl⟩ := List.mem_map.mp hy; exact q2 p
  · exact .tup (by simp; omega) fun y hy => by obtain ⟨p, _, rfl⟩ := List.mem_map.mp hy; exact q3 p
  · exact .tup (by simp; omega) fun y hy => by obtain ⟨p, _, rfl⟩ := List.mem_map.mp hy; exact q2 p
theorem trip_vl {L n : Nat} {w : Str} (hw : cpOk w) {a : Int} {y : D} (hy : Vl L n y) (hl : 3 ≤ L) : Vl L (n + 1) (.tuple [.str w, .int a, y]) := .tup hl fun x hx => by
  simp only [List.not_mem_nil, List.mem_cons, or_false] at hx
  rcases hx with rfl | rfl | rfl
  · exact .str hw
  · exact .int _
  · exact hy
theorem sgl_vl (g : Sgl) : Vl 6 1 g.d := by
  cases g with
  | mv o a n => exact trip_vl (by cases o <;> (unfold cpOk; decide +kernel)) (.int _) (by decide)
  | cover a i => exact trip_vl cp_cover (.int _) (by decide)
  | touch a i => exact trip_vl cp_touch (.int _) (by decide)
theorem stp_vl (g : Stp) : Vl 6 2 g.d := by
  cases g with
  | now g => exact (sgl_vl g).mono (Nat.le_refl _) (by decide)
  | cond w i g => exact trip_vl (by cases w <;> (unfold cpOk; decide +kernel)) (sgl_vl g) (by decide)
end K01
end
section
set_option Elab.async false
set_option maxRecDepth 100000
set_option linter.all false
set_option autoImplicit false
set_option maxHeartbeats 1000007
set_option exponentiation.threshold 20001
/-! N01: the law of streets and scripts, evaluated: whole. -/
namespace K01
open PySem Ev
variable {j : Nat} {fuel : Nat}
def smallB : D → Bool
  | .tuple [.int _, .int b] => decide (b.natAbs < 2 ^ 200)
  | _ => true
theorem lean_const (hj : 2 ≤ j) {v : D} {b : Bool} (h : v.canLay0 = true) (k : smallB v = true) (e : leanB v = b) : CK j 10 [.d v] = .ok (.d (.bool b)) [] := by
  rw [← e]
  refine lean_is (tl := tabL) (tels := tels) hj h fun x y z => ?_
  subst z
  exact bigF_gt (Nat.lt_of_lt_of_le (of_decide_eq_true k) (Nat.pow_le_pow_right (by decide) (by decide)))
theorem lean_call (hj : 2 ≤ j) {p : Int × Int} (h : Lean p) (b : p.2 ≤ 100000) : CK j 10 [.d (p2 p)] = .ok (.d (.bool true)) [] := by
  have := h.below
  have k : p.2.natAbs < 2 ^ 200 := Nat.lt_of_le_of_lt (show p.2.natAbs ≤ 100000 by omega) (by decide)
  exact lean_const hj rfl (decide_eq_true k) h.is
theorem simp11_lean : ∀ p ∈ simp11, Lean p ∧ p.2 ≤ 100000 := by
  have : ∀ p ∈ simp11, (0 < p.1 ∧ 0 < p.2 ∧ gcdI p.1 p.2 = 1) ∧ p.2 ≤ 100000 := by decide +kernel
  exact fun p hp => ⟨⟨(this p hp).1.1, (this p hp).1.2.1, (this p hp).1.2.2⟩, (this p hp).2⟩
theorem pow30 : dBin .Pow (.int 10) (.int 30) = some (.int 1000000000000000000000000000000) := by
  show (if (0 : Int) ≤ 30 ∧ (30 : Int) ≤ 1000 ∧ (10 : Int).natAbs < 1000 then some (PyData.int (10 ^ (30 : Int).toNat)) else none) = _
  rw [if_pos (by decide)]
  rfl
theorem law_turn (hj : 22 ≤ j) (ns : List Int) {k : Int} (hk : 0 ≤ k ∧ k < 7) {s1 s2 s3 s4 s5 s6 s7 s8 s9 s10 : Slot} (f1 : fr s1 = true) (f2 : fr s2 = true) (f4 : fr s4 = true) (f5 : fr s5 = true) (f6 : fr s6 = true) (f7 : fr s7 = true) (f8 : fr s8 = true) (f9 : fr s9 = true) (f10 : fr s10 = true) :
    ∃ s1' s2' s4' s5' s6' s7' s8' s9' s10', (fr s1' = true ∧ fr s2' = true ∧ fr s4' = true ∧ fr s5' = true ∧ fr s6' = true ∧ fr s7' = true ∧ fr s8' = true ∧ fr s9' = true ∧ fr s10' = true) ∧
      stepF (CK j) GL fuel (.nm 1) b_law_3 (.int k) [.d (.list (iL ns)), s1, s2, s3, s4, s5, s6, s7, s8, s9, s10] = .nx [.d (.list (iL ns)), s1', s2', s3, s4', s5', s6', s7', s8', s9', s10'] := by
  obtain ⟨bag, eb⟩ := bag_call (tl := tabL) (tels := tels) (j := j) (by omega) ns (k := k) hk.1 (by omega)
  obtain ⟨s, bag1, hs, es⟩ := street_call (tl := tabL) (tels := tels) (j := j) (by omega) bag
  obtain ⟨sc, bag2, ls, os, ec⟩ := script_call (tl := tabL) (tels := tels) (j := j) (by omega) hs bag1 (m := 6) (by decide)
  have st := street_is (tl := tabL) (tels := tels) (j := j) (by omega) s.sh.1
  rw [hs.street] at st
  have ct := count_street (tl := tabL) (tels := tels) (j := j) (by omega) hs.street
  have v1 := street_vl hs
  have v2 : Vl 6 3 (.tuple (sc.map Stp.d)) := .tup (by simpa using ls) fun x hx => by obtain ⟨g, _, rfl⟩ := List.mem_map.mp hx; exact stp_vl g
  obtain ⟨bag3, u, w, t6, t10, g6, g10, e2⟩ := loop2 (fuel := fuel) hj hs v1 v2 (S := .d (.list (iL ns))) (s1 := .d (.int k)) (s3 := s3) (s7 := s7) 16 0 (by decide) (by decide) bag2 s.d (.tuple (sc.map Stp.d)) s6 s10 f6 f10 (fun z => absurd z (by decide)) (fun z => absurd z (by decide))
  obtain ⟨o1, h1⟩ : ∃ o : List D, o = [.tuple [.int 0, .int 1], .tuple [.int 2, .int 4], .tuple [.int (-1), .int 2], .tuple [.bool true, .int 2], .tuple [.int 1, .int 2, .int 3], .list [.int 1, .int 2], .int 1, .none, .str "1", .tuple [.int 1, .int 0]] := ⟨_, rfl⟩
  have bads : ∀ v ∈ o1, CK j 10 [.d v] = .ok (.d (.bool false)) [] := by
    rw [h1]
    simp only [List.forall_mem_cons]
    exact ⟨lean_const (by omega) rfl (by decide +kernel) (by decide +kernel), lean_const (by omega) rfl (by decide +kernel) (by decide +kernel), lean_const (by omega) rfl (by decide +kernel) (by decide +kernel), lean_const (by omega) rfl rfl rfl, lean_const (by omega) rfl rfl rfl, lean_const (by omega) rfl rfl rfl,
      lean_const (by omega) rfl rfl rfl, lean_const (by omega) rfl rfl rfl, lean_const (by omega) (by decide +kernel) rfl rfl, lean_const (by omega) rfl (by decide +kernel) (by decide +kernel), fun _ h => nomatch h⟩
  obtain ⟨t7, g7, e7⟩ := lean_loop (j := j) (fuel := fuel) (b := b_law_1) (bb := false) rfl (s0 := .d (.list (iL ns))) (s1 := .d (.int k)) (s2 := .d s.d) (s3 := s3) (s4 := .own (.lst (iL bag3))) (s5 := .d (.tuple (sc.map Stp.d))) (s6 := t6) (s8 := .d u) (s9 := .d w) (s10 := t10) bads f7
  obtain ⟨last, bag4, ⟨ll, lq⟩, es8⟩ := some_call (tl := tabL) (tels := tels) (j := j) (by omega) bag3 (pts := []) (fun _ h => nomatch h) (by decide)
  simp only [List.flatMap_nil, List.append_nil, List.map_nil] at es8
  obtain ⟨all, ha⟩ : ∃ a, a = cutP ((simp11 ++ last).map p2) (some (-8)) none := ⟨_, rfl⟩
  have al : all.length ≤ 49 := by
    rw [ha]
    refine Nat.le_trans (cut_len _ _ _) ?_
    have : simp11.length = 41 := by decide
    rw [List.length_map, List.length_append, ll, this]
    exact Nat.le_refl _
  have sl : dSl (.list ((simp11 ++ last).map p2)) (some (-8)) none = some (.list all) := by rw [ha]; rfl
  obtain ⟨o2, h2⟩ : ∃ o : List D, o = [.tuple [.int 1, .int 1], .tuple [.int 1000000000000000000000000000000, .int 1]] := ⟨_, rfl⟩
  have goods : ∀ v ∈ all ++ o2, CK j 10 [.d v] = .ok (.d (.bool true)) [] := by
    intro v hv
    rcases List.mem_append.mp hv with h | h
    · rw [ha] at h
      obtain ⟨p, hp, rfl⟩ := List.mem_map.mp (cut_mem h)
      rcases (List.mem_append.mp hp) with h | h
      · exact lean_call (by omega) (simp11_lean p h).1 (simp11_lean p h).2
      · exact lean_call (by omega) (lq p h).1 (lq p h).2.2
    · rw [h2] at h
      simp only [List.mem_cons, List.not_mem_nil, or_false] at h
      rcases h with rfl | rfl
      · exact lean_const (by omega) rfl (by decide +kernel) (by decide +kernel)
      · exact lean_const (by omega) rfl (by decide +kernel) (by decide +kernel)
  obtain ⟨t7', g7', e7'⟩ := lean_loop (j := j) (fuel := fuel) (b := b_law_0) (bb := true) rfl (s0 := .d (.list (iL ns))) (s1 := .d (.int k)) (s2 := .d s.d) (s3 := s3) (s4 := .own (.lst (iL bag4))) (s5 := .d (.tuple (sc.map Stp.d))) (s6 := t6) (s8 := .d u) (s9 := .d w) (s10 := t10) goods g7
  have l1 : o1.length ≤ lenLim := by rw [h1]; exact lenLim_le _ (by simp)
  have l2 : o2.length ≤ lenLim := by rw [h2]; exact lenLim_le _ (by simp)
  have ad : dBin .Add (.list all) (.list o2) = some (.list (all ++ o2)) := bin_addL (by rw [h2]; exact lenLim_le _ (by simp; omega))
  have i0 : dCmp .IsNot (.bool true) (.bool true) = some (.bool false) := rfl
  have g16 := rng_ok (a := 0) (b := 16) (by decide) (by decide) (by decide) (by decide) (by decide)
  refine ⟨.d (.int k), .d s.d, .own (.lst (iL bag4)), .d (.tuple (sc.map Stp.d)), t6, t7', .d u, .d w, t10, ⟨rfl, rfl, rfl, rfl, g6, g7', rfl, rfl, g10⟩, ?_⟩
  have ec : CC tabL tels j 108 [.ob (.lst (iL bag1)), .d s.d, .d (.int 6)] = _ := ec
  show (Fl.of (asgT (.nm 1) (.int k) _)).andThen (evS (CK j) GL fuel b_law_3) = _
  subst h2
  simp [b_law_3, f1, f2, f4, f5, f8, f9, eb, es, ec, st, i0, ct, s.ix0, s.ix1, g16, e2, ← h1, l1, e7, es8, sl, pow30, ad, e7', -List.map_append]
def sA : Street := ⟨[(2, 4)], [(0, 6, 9), (5, 3, 4)], [(6, 0), (9, 1)]⟩
theorem sA_is : streetB sA.d = true := by decide +kernel
theorem const_script (hj : 6 ≤ j) {v : D} {b : Bool} (h : v.canLay0 = true) (l : ∀ xs, v = .tuple xs → xs.length ≤ 1000) (e : scriptB sA v = b) : CK j 16 [.d sA.d, .d v] = .ok (.d (.bool b)) [] := by
  rw [← e]
  exact script_is (tl := tabL) (tels := tels) hj sA_is h l
theorem law_run (ns : List Int) : CK 41 209 [.d (.list (iL ns))] = .ok (.d (.bool true)) [] := by
  rw [show CK 41 209 _ = _ from own_at (d := d_law) rfl (by decide) (by decide)]
  have g7 := rng_ok (a := 0) (b := 7) (by decide) (by decide) (by decide) (by decide) (by decide)
  obtain ⟨r, e, s1, s2, s4, s5, s6, s7, s8, s9, s10, ⟨f1, f2, f4, f5, f6, f7, f8, f9, f10⟩, hr, _⟩ := forLoop_inv (step := stepF (CK 40) GL 0 (.nm 1) b_law_3) (xs := rngD 0 7)
    (r := [.d (.list (iL ns)), .non, .non, .non, .non, .non, .non, .non, .non, .non, .non])
    (fun ys r => ∃ s1 s2 s4 s5 s6 s7 s8 s9 s10, (fr s1 = true ∧ fr s2 = true ∧ fr s4 = true ∧ fr s5 = true ∧ fr s6 = true ∧ fr s7 = true ∧ fr s8 = true ∧ fr s9 = true ∧ fr s10 = true) ∧
      r = [.d (.list (iL ns)), s1, s2, .non, s4, s5, s6, s7, s8, s9, s10] ∧ ∀ y ∈ ys, y ∈ rngD 0 7)
    ⟨.non, .non, .non, .non, .non, .non, .non, .non, .non, ⟨rfl, rfl, rfl, rfl, rfl, rfl, rfl, rfl, rfl⟩, rfl, fun _ h => h⟩ fun x ys r ⟨s1, s2, s4, s5, s6, s7, s8, s9, s10, ⟨f1, f2, f4, f5, f6, f7, f8, f9, f10⟩, hr, hm⟩ => by
      subst hr
      obtain ⟨k, rfl, k0, k1⟩ := rngD_mem (hm x List.mem_cons_self)
      obtain ⟨s1', s2', s4', s5', s6', s7', s8', s9', s10', g, e⟩ := law_turn (fuel := 0) (j := 40) (by decide) ns (k := k) ⟨k0, k1⟩ (s3 := .non) f1 f2 f4 f5 f6 f7 f8 f9 f10
      exact ⟨_, .inl e, s1', s2', s4', s5', s6', s7', s8', s9', s10', g, rfl, fun y hy => hm y (List.mem_cons_of_mem _ hy)⟩
  subst hr
  have one : ∀ {x : D} (xs : List D), PyData.tuple [x] = .tuple xs → xs.length ≤ 1000 := fun xs h => by cases h; exact Nat.le_of_ble_eq_true rfl
  have c1 := const_script (j := 40) (by decide) (v := .tuple [.tuple [.str "touch", .int 1, .int 2]]) (b := false) (by decide +kernel) one (by decide +kernel)
  have c2 := const_script (j := 40) (by decide) (v := .tuple [.tuple [.str "touch", .int 1, .int 1]]) (b := true) (by decide +kernel) one (by decide +kernel)
  have c3 := const_script (j := 40) (by decide) (v := .tuple [.tuple [.str "out", .int 2, .int 1]]) (b := false) (by decide +kernel) one (by decide +kernel)
  have c4 := const_script (j := 40) (by decide) (v := .tuple [.tuple [.str "when", .int 0, .tuple [.str "when", .int 0, .tuple [.str "out", .int 0, .int 1]]]]) (b := false) (by decide +kernel) one (by decide +kernel)
  have dd : sA.d = .tuple [.tuple [.tuple [.int 2, .int 4]], .tuple [.tuple [.int 0, .int 6, .int 9], .tuple [.int 5, .int 3, .int 4]], .tuple [.tuple [.int 6, .int 0], .tuple [.int 9, .int 1]]] := rfl
  rw [dd] at c1 c2 c3 c4
  have sh : Sh 1 (.list [.bool false, .bool true, .bool false, .bool false]) := ⟨rfl, by decide⟩
  have eq := cmp_eq sh sh (by decide) (by decide)
  rw [sh.refl] at eq
  have l3 : (3 : Nat) < lenLim := by decide
  have l2 : (2 : Nat) < lenLim := by decide
  simp [runF, d_law, b_law, g7, e, f2, c1, c2, c3, c4, l2, l3, readV_own, eq, retC, outsOf]
end K01
end
section
set_option Elab.async false
set_option maxRecDepth 100000
set_option linter.all false
set_option maxHeartbeats 4000007
namespace K01
open PySem PySem.Spec PyProof.Rows L2 Ev
def top (i : Nat) : Stmt := PySem.Challenge.pw_anysun_k01_streets_scripts_and_leans_kno.main.body.getD i (.Pass ⟨0, 0, 0, 0⟩)
def lex : Lex := ⟨([some "is_plain", some "is_whole", some "are_rows", some "is_street", some "things_of", some "is_single", some "is_step", some "are_steps", some "divisor_of", none, some "is_lean", some "need_street", none, none, none, none, some "is_script", some "count_things", none, none, none, none, none, none, none, none, none, none, none, none] : List (Option Str)) ++ ([none, none, none, none, none, none, none, none, none, none, none, none, none, none, none, none, none, none, none, none, none, none, none, none, none, none, none, none, none, none] : List (Option Str)) ++ ([none, none, none, none, none, none, none, none, none, none, none, none, none, none, none, none, none, none, none, none, none, none, none, none, none, none, none, none, none, none] : List (Option Str)) ++ ([none, none, none, none, none, none, none, none, none, none, some "_law_cell", some "_law_draws", some "_law_bag", some "_law_take", some "_law_choice", some "_law_lowest", some "_law_street", some "_law_single", some "_law_script", none, none, none, none, none, none, some "_law_simple", some "_law_some", none, none, none] : List (Option Str)) ++ ([none, none, none, none, none, none, none, none, none, none, none, none, none, none, none, none, none, none, none, none, none, none, none, none, none, none, none, none, none, none] : List (Option Str)) ++ ([none, none, none, none, none, none, none, none, none, none, none, none, none, none, none, none, none, none, none, none, none, none, none, none, none, none, none, none, none, none] : List (Option Str)) ++ ([none, none, none, none, none, none, none, none, none, none, none, none, none, none, none, none, none, none, none, none, none, none, some "_law_truly", some "_law_whole", some "_law_rows", some "_law_good", some "_law_good_step", some "_law_good_script", some "_law_spoilt", some "law"] : List (Option Str)), [some "TOP_HEIGHT", some "MOST_STEPS", none, none, none, none, none], GL, ownCls, ["_law_error"]⟩
def f_is_plain : Fd := ⟨⟨("is_plain", none), "is_plain", "is_plain", defArgs (top 13), defBody (top 13), defScope (top 13), [], []⟩, ["value"], ["value"], Ev.d_is_plain, false⟩
theorem o_is_plain : FdOk lex f_is_plain := ⟨⟨rfl, rfl, rfl, by decide +kernel, rfl, by decide +kernel, by decide +kernel⟩, by decide +kernel, rfl, rfl, by decide +kernel, rfl, rfl, rfl, rfl, fun _ _ _ _ _ _ us hl => match us, hl with | [_], _ => rfl⟩
def f_is_whole : Fd := ⟨⟨("is_whole", none), "is_whole", "is_whole", defArgs (top 14), defBody (top 14), defScope (top 14), [], []⟩, ["value", "low", "high"], ["value", "low", "high"], Ev.d_is_whole, false⟩
theorem o_is_whole : FdOk lex f_is_whole := ⟨⟨rfl, rfl, rfl, by decide +kernel, rfl, by decide +kernel, by decide +kernel⟩, by decide +kernel, rfl, rfl, by decide +kernel, rfl, rfl, rfl, rfl, fun _ _ _ _ _ _ us hl => match us, hl with | [_, _, _], _ => rfl⟩
def f_are_rows : Fd := ⟨⟨("are_rows", none), "are_rows", "are_rows", defArgs (top 15), defBody (top 15), defScope (top 15), [], []⟩, ["value", "low", "high", "bounds", "row", "part", "bound"], ["value", "low", "high", "bounds"], Ev.d_are_rows, false⟩
theorem o_are_rows : FdOk lex f_are_rows := ⟨⟨rfl, rfl, rfl, by decide +kernel, rfl, by decide +kernel, by decide +kernel⟩, by decide +kernel, rfl, rfl, by decide +kernel, rfl, rfl, rfl, rfl, fun _ _ _ _ _ _ us hl => match us, hl with | [_, _, _, _], _ => rfl⟩
def f_is_street : Fd := ⟨⟨("is_street", none), "is_street", "is_street", defArgs (top 16), defBody (top 16), defScope (top 16), [], []⟩, ["value", "place", "height"], ["value"], Ev.d_is_street, false⟩
theorem o_is_street : FdOk lex f_is_street := ⟨⟨rfl, rfl, rfl, by decide +kernel, rfl, by decide +kernel, by decide +kernel⟩, by decide +kernel, rfl, rfl, by decide +kernel, rfl, rfl, rfl, rfl, fun _ _ _ _ _ _ us hl => match us, hl with | [_], _ => rfl⟩
def f_things_of : Fd := ⟨⟨("things_of", none), "things_of", "things_of", defArgs (top 17), defBody (top 17), defScope (top 17), [], []⟩, ["street"], ["street"], Ev.d_things_of, false⟩
theorem o_things_of : FdOk lex f_things_of := ⟨⟨rfl, rfl, rfl, by decide +kernel, rfl, by decide +kernel, by decide +kernel⟩, by decide +kernel, rfl, rfl, by decide +kernel, rfl, rfl, rfl, rfl, fun _ _ _ _ _ _ us hl => match us, hl with | [_], _ => rfl⟩
def f_is_single : Fd := ⟨⟨("is_single", none), "is_single", "is_single", defArgs (top 18), defBody (top 18), defScope (top 18), [], []⟩, ["street", "value", "word", "awning", "number"], ["street", "value"], Ev.d_is_single, false⟩
theorem o_is_single : FdOk lex f_is_single := ⟨⟨rfl, rfl, rfl, by decide +kernel, rfl, by decide +kernel, by decide +kernel⟩, by decide +kernel, rfl, rfl, by decide +kernel, rfl, rfl, rfl, rfl, fun _ _ _ _ _ _ us hl => match us, hl with | [_, _], _ => rfl⟩
def f_is_step : Fd := ⟨⟨("is_step", none), "is_step", "is_step", defArgs (top 19), defBody (top 19), defScope (top 19), [], []⟩, ["street", "value", "good"], ["street", "value"], Ev.d_is_step, false⟩
theorem o_is_step : FdOk lex f_is_step := ⟨⟨rfl, rfl, rfl, by decide +kernel, rfl, by decide +kernel, by decide +kernel⟩, by decide +kernel, rfl, rfl, by decide +kernel, rfl, rfl, rfl, rfl, fun _ _ _ _ _ _ us hl => match us, hl with | [_, _], _ => rfl⟩
def f_are_steps : Fd := ⟨⟨("are_steps", none), "are_steps", "are_steps", defArgs (top 20), defBody (top 20), defScope (top 20), [], []⟩, ["street", "value", "step"], ["street", "value"], Ev.d_are_steps, false⟩
theorem o_are_steps : FdOk lex f_are_steps := ⟨⟨rfl, rfl, rfl, by decide +kernel, rfl, by decide +kernel, by decide +kernel⟩, by decide +kernel, rfl, rfl, by decide +kernel, rfl, rfl, rfl, rfl, fun _ _ _ _ _ _ us hl => match us, hl with | [_, _], _ => rfl⟩
def f_divisor_of : Fd := ⟨⟨("divisor_of", none), "divisor_of", "divisor_of", defArgs (top 21), defBody (top 21), defScope (top 21), [], []⟩, ["one", "other"], ["one", "other"], Ev.d_divisor_of, false⟩
theorem o_divisor_of : FdOk lex f_divisor_of := ⟨⟨rfl, rfl, rfl, by decide +kernel, rfl, by decide +kernel, by decide +kernel⟩, by decide +kernel, rfl, rfl, by decide +kernel, rfl, rfl, rfl, rfl, fun _ _ _ _ _ _ us hl => match us, hl with | [_, _], _ => rfl⟩
def f_is_lean : Fd := ⟨⟨("is_lean", none), "is_lean", "is_lean", defArgs (top 22), defBody (top 22), defScope (top 22), [], []⟩, ["value"], ["value"], Ev.d_is_lean, false⟩
theorem o_is_lean : FdOk lex f_is_lean := ⟨⟨rfl, rfl, rfl, by decide +kernel, rfl, by decide +kernel, by decide +kernel⟩, by decide +kernel, rfl, rfl, by decide +kernel, rfl, rfl, rfl, rfl, fun _ _ _ _ _ _ us hl => match us, hl with | [_], _ => rfl⟩
def f_need_street : Fd := ⟨⟨("need_street", none), "need_street", "need_street", defArgs (top 23), defBody (top 23), defScope (top 23), [], []⟩, ["street"], ["street"], Ev.d_need_street, false⟩
theorem o_need_street : FdOk lex f_need_street := ⟨⟨rfl, rfl, rfl, by decide +kernel, rfl, by decide +kernel, by decide +kernel⟩, by decide +kernel, rfl, rfl, by decide +kernel, rfl, rfl, rfl, rfl, fun _ _ _ _ _ _ us hl => match us, hl with | [_], _ => rfl⟩
def f_is_script : Fd := ⟨⟨("is_script", none), "is_script", "is_script", defArgs (top 24), defBody (top 24), defScope (top 24), [], []⟩, ["street", "value"], ["street", "value"], Ev.d_is_script, false⟩
theorem o_is_script : FdOk lex f_is_script := ⟨⟨rfl, rfl, rfl, by decide +kernel, rfl, by decide +kernel, by decide +kernel⟩, by decide +kernel, rfl, rfl, by decide +kernel, rfl, rfl, rfl, rfl, fun _ _ _ _ _ _ us hl => match us, hl with | [_, _], _ => rfl⟩
def f_count_things : Fd := ⟨⟨("count_things", none), "count_things", "count_things", defArgs (top 25), defBody (top 25), defScope (top 25), [], []⟩, ["street"], ["street"], Ev.d_count_things, false⟩
theorem o_count_things : FdOk lex f_count_things := ⟨⟨rfl, rfl, rfl, by decide +kernel, rfl, by decide +kernel, by decide +kernel⟩, by decide +kernel, rfl, rfl, by decide +kernel, rfl, rfl, rfl, rfl, fun _ _ _ _ _ _ us hl => match us, hl with | [_], _ => rfl⟩
def f__law_cell : Fd := ⟨⟨("_law_cell", none), "_law_cell", "_law_cell", defArgs (top 27), defBody (top 27), defScope (top 27), [], []⟩, ["_law_script_here", "_law_k"], ["_law_script_here", "_law_k"], Ev.d__law_cell, false⟩
theorem o__law_cell : FdOk lex f__law_cell := ⟨⟨rfl, rfl, rfl, by decide +kernel, rfl, by decide +kernel, by decide +kernel⟩, by decide +kernel, rfl, rfl, by decide +kernel, rfl, rfl, rfl, rfl, fun _ _ _ _ _ _ us hl => match us, hl with | [_, _], _ => rfl⟩
def f__law_draws : Fd := ⟨⟨("_law_draws", none), "_law_draws", "_law_draws", defArgs (top 28), defBody (top 28), defScope (top 28), [], []⟩, ["_law_script_here", "_law_k", "_law_many", "_law_base", "_law_primes", "_law_cell_here", "_law_rest", "_law_row", "_law_j", "_law_mash"], ["_law_script_here", "_law_k", "_law_many", "_law_base"], Ev.d__law_draws, false⟩
theorem o__law_draws : FdOk lex f__law_draws := ⟨⟨rfl, rfl, rfl, by decide +kernel, rfl, by decide +kernel, by decide +kernel⟩, by decide +kernel, rfl, rfl, by decide +kernel, rfl, rfl, rfl, rfl, fun _ _ _ _ _ _ us hl => match us, hl with | [_, _, _, _], _ => rfl⟩
def f__law_bag : Fd := ⟨⟨("_law_bag", none), "_law_bag", "_law_bag", defArgs (top 29), defBody (top 29), defScope (top 29), [], []⟩, ["_law_script_here", "_law_k"], ["_law_script_here", "_law_k"], Ev.d__law_bag, false⟩
theorem o__law_bag : FdOk lex f__law_bag := ⟨⟨rfl, rfl, rfl, by decide +kernel, rfl, by decide +kernel, by decide +kernel⟩, by decide +kernel, rfl, rfl, by decide +kernel, rfl, rfl, rfl, rfl, fun _ _ _ _ _ _ us hl => match us, hl with | [_, _], _ => rfl⟩
def f__law_take : Fd := ⟨⟨("_law_take", none), "_law_take", "_law_take", defArgs (top 30), defBody (top 30), defScope (top 30), [], []⟩, ["_law_bag_here", "_law_many", "_law_draw"], ["_law_bag_here", "_law_many"], Ev.d__law_take, false⟩
theorem o__law_take : FdOk lex f__law_take := ⟨⟨rfl, rfl, rfl, by decide +kernel, rfl, by decide +kernel, by decide +kernel⟩, by decide +kernel, rfl, rfl, by decide +kernel, rfl, rfl, rfl, rfl, fun _ _ _ _ _ _ us hl => match us, hl with | [_, _], _ => rfl⟩
def f__law_choice : Fd := ⟨⟨("_law_choice", none), "_law_choice", "_law_choice", defArgs (top 31), defBody (top 31), defScope (top 31), [], []⟩, ["_law_bag_here", "_law_some_here"], ["_law_bag_here", "_law_some_here"], Ev.d__law_choice, false⟩
theorem o__law_choice : FdOk lex f__law_choice := ⟨⟨rfl, rfl, rfl, by decide +kernel, rfl, by decide +kernel, by decide +kernel⟩, by decide +kernel, rfl, rfl, by decide +kernel, rfl, rfl, rfl, rfl, fun _ _ _ _ _ _ us hl => match us, hl with | [_, _], _ => rfl⟩
def f__law_lowest : Fd := ⟨⟨("_law_lowest", none), "_law_lowest", "_law_lowest", defArgs (top 32), defBody (top 32), defScope (top 32), [], []⟩, ["_law_top", "_law_below", "_law_sign", "_law_one", "_law_other"], ["_law_top", "_law_below"], Ev.d__law_lowest, false⟩
theorem o__law_lowest : FdOk lex f__law_lowest := ⟨⟨rfl, rfl, rfl, by decide +kernel, rfl, by decide +kernel, by decide +kernel⟩, by decide +kernel, rfl, rfl, by decide +kernel, rfl, rfl, rfl, rfl, fun _ _ _ _ _ _ us hl => match us, hl with | [_, _], _ => rfl⟩
def f__law_street : Fd := ⟨⟨("_law_street", none), "_law_street", "_law_street", defArgs (top 33), defBody (top 33), defScope (top 33), [], []⟩, ["_law_bag_here", "_law_turn", "_law_shuts", "_law_awnings", "_law_seats"], ["_law_bag_here"], Ev.d__law_street, false⟩
theorem o__law_street : FdOk lex f__law_street := ⟨⟨rfl, rfl, rfl, by decide +kernel, rfl, by decide +kernel, by decide +kernel⟩, by decide +kernel, rfl, rfl, by decide +kernel, rfl, rfl, rfl, rfl, fun _ _ _ _ _ _ us hl => match us, hl with | [_], _ => rfl⟩
def f__law_single : Fd := ⟨⟨("_law_single", none), "_law_single", "_law_single", defArgs (top 34), defBody (top 34), defScope (top 34), [], []⟩, ["_law_bag_here", "_law_street_here", "_law_others", "_law_way", "_law_awning", "_law_thing"], ["_law_bag_here", "_law_street_here"], Ev.d__law_single, false⟩
theorem o__law_single : FdOk lex f__law_single := ⟨⟨rfl, rfl, rfl, by decide +kernel, rfl, by decide +kernel, by decide +kernel⟩, by decide +kernel, rfl, rfl, by decide +kernel, rfl, rfl, rfl, rfl, fun _ _ _ _ _ _ us hl => match us, hl with | [_, _], _ => rfl⟩
def f__law_script : Fd := ⟨⟨("_law_script", none), "_law_script", "_law_script", defArgs (top 35), defBody (top 35), defScope (top 35), [], []⟩, ["_law_bag_here", "_law_street_here", "_law_many", "_law_found", "_law_turn", "_law_way", "_law_step", "_law_seat"], ["_law_bag_here", "_law_street_here", "_law_many"], Ev.d__law_script, false⟩
theorem o__law_script : FdOk lex f__law_script := ⟨⟨rfl, rfl, rfl, by decide +kernel, rfl, by decide +kernel, by decide +kernel⟩, by decide +kernel, rfl, rfl, by decide +kernel, rfl, rfl, rfl, rfl, fun _ _ _ _ _ _ us hl => match us, hl with | [_, _, _], _ => rfl⟩
def f__law_simple : Fd := ⟨⟨("_law_simple", none), "_law_simple", "_law_simple", defArgs (top 36), defBody (top 36), defScope (top 36), [], []⟩, ["_law_peak", "_law_found", "_law_whole_here", "_law_top"], ["_law_peak"], Ev.d__law_simple, false⟩
theorem o__law_simple : FdOk lex f__law_simple := ⟨⟨rfl, rfl, rfl, by decide +kernel, rfl, by decide +kernel, by decide +kernel⟩, by decide +kernel, rfl, rfl, by decide +kernel, rfl, rfl, rfl, rfl, fun _ _ _ _ _ _ us hl => match us, hl with | [_], _ => rfl⟩
def f__law_some : Fd := ⟨⟨("_law_some", none), "_law_some", "_law_some", defArgs (top 37), defBody (top 37), defScope (top 37), [], []⟩, ["_law_bag_here", "_law_points", "_law_found", "_law_turn", "_law_top", "_law_below"], ["_law_bag_here", "_law_points"], Ev.d__law_some, false⟩
theorem o__law_some : FdOk lex f__law_some := ⟨⟨rfl, rfl, rfl, by decide +kernel, rfl, by decide +kernel, by decide +kernel⟩, by decide +kernel, rfl, rfl, by decide +kernel, rfl, rfl, rfl, rfl, fun _ _ _ _ _ _ us hl => match us, hl with | [_, _], _ => rfl⟩
def f__law_truly : Fd := ⟨⟨("_law_truly", none), "_law_truly", "_law_truly", defArgs (top 40), defBody (top 40), defScope (top 40), [], []⟩, ["_law_found", "_law_due"], ["_law_found", "_law_due"], d__law_truly, false⟩
theorem o__law_truly : FdOk lex f__law_truly := ⟨⟨rfl, rfl, rfl, by decide +kernel, rfl, by decide +kernel, by decide +kernel⟩, by decide +kernel, rfl, rfl, by decide +kernel, rfl, rfl, rfl, rfl, fun _ _ _ _ _ _ us hl => match us, hl with | [_, _], _ => rfl⟩
def f__law_whole : Fd := ⟨⟨("_law_whole", none), "_law_whole", "_law_whole", defArgs (top 41), defBody (top 41), defScope (top 41), [], []⟩, ["_law_value", "_law_low", "_law_high"], ["_law_value", "_law_low", "_law_high"], d__law_whole, false⟩
theorem o__law_whole : FdOk lex f__law_whole := ⟨⟨rfl, rfl, rfl, by decide +kernel, rfl, by decide +kernel, by decide +kernel⟩, by decide +kernel, rfl, rfl, by decide +kernel, rfl, rfl, rfl, rfl, fun _ _ _ _ _ _ us hl => match us, hl with | [_, _, _], _ => rfl⟩
def f__law_rows : Fd := ⟨⟨("_law_rows", none), "_law_rows", "_law_rows", defArgs (top 42), defBody (top 42), defScope (top 42), [], []⟩, ["_law_value", "_law_low", "_law_high", "_law_bounds", "_law_row", "_law_part", "_law_least", "_law_most"], ["_law_value", "_law_low", "_law_high", "_law_bounds"], d__law_rows, false⟩
theorem o__law_rows : FdOk lex f__law_rows := ⟨⟨rfl, rfl, rfl, by decide +kernel, rfl, by decide +kernel, by decide +kernel⟩, by decide +kernel, rfl, rfl, by decide +kernel, rfl, rfl, rfl, rfl, fun _ _ _ _ _ _ us hl => match us, hl with | [_, _, _, _], _ => rfl⟩
def f__law_good : Fd := ⟨⟨("_law_good", none), "_law_good", "_law_good", defArgs (top 43), defBody (top 43), defScope (top 43), [], []⟩, ["_law_value"], ["_law_value"], d__law_good, false⟩
theorem o__law_good : FdOk lex f__law_good := ⟨⟨rfl, rfl, rfl, by decide +kernel, rfl, by decide +kernel, by decide +kernel⟩, by decide +kernel, rfl, rfl, by decide +kernel, rfl, rfl, rfl, rfl, fun _ _ _ _ _ _ us hl => match us, hl with | [_], _ => rfl⟩
def f__law_good_step : Fd := ⟨⟨("_law_good_step", none), "_law_good_step", "_law_good_step", defArgs (top 44), defBody (top 44), defScope (top 44), [], []⟩, ["_law_street_here", "_law_value", "_law_deep", "_law_word", "_law_one", "_law_other"], ["_law_street_here", "_law_value", "_law_deep"], d__law_good_step, false⟩
theorem o__law_good_step : FdOk lex f__law_good_step := ⟨⟨rfl, rfl, rfl, by decide +kernel, rfl, by decide +kernel, by decide +kernel⟩, by decide +kernel, rfl, rfl, by decide +kernel, rfl, rfl, rfl, rfl, fun _ _ _ _ _ _ us hl => match us, hl with | [_, _, _], _ => rfl⟩
def f__law_good_script : Fd := ⟨⟨("_law_good_script", none), "_law_good_script", "_law_good_script", defArgs (top 45), defBody (top 45), defScope (top 45), [], []⟩, ["_law_street_here", "_law_value", "_law_step"], ["_law_street_here", "_law_value"], d__law_good_script, false⟩
theorem o__law_good_script : FdOk lex f__law_good_script := ⟨⟨rfl, rfl, rfl, by decide +kernel, rfl, by decide +kernel, by decide +kernel⟩, by decide +kernel, rfl, rfl, by decide +kernel, rfl, rfl, rfl, rfl, fun _ _ _ _ _ _ us hl => match us, hl with | [_, _], _ => rfl⟩
def f__law_spoilt : Fd := ⟨⟨("_law_spoilt", none), "_law_spoilt", "_law_spoilt", defArgs (top 46), defBody (top 46), defScope (top 46), [], []⟩, ["_law_bag_here", "_law_value", "_law_way", "_law_at", "_law_more"], ["_law_bag_here", "_law_value"], d__law_spoilt, false⟩
theorem o__law_spoilt : FdOk lex f__law_spoilt := ⟨⟨rfl, rfl, rfl, by decide +kernel, rfl, by decide +kernel, by decide +kernel⟩, by decide +kernel, rfl, rfl, by decide +kernel, rfl, rfl, rfl, rfl, fun _ _ _ _ _ _ us hl => match us, hl with | [_, _], _ => rfl⟩
def f_law : Fd := ⟨⟨("law", none), "law", "law", defArgs (top 47), defBody (top 47), defScope (top 47), [], []⟩, ["_law_script_here", "_law_k", "_law_street_here", "_law_some_here", "_law_bag_here", "_law_steps_so", "_law_turn", "_law_odd", "_law_value", "_law_other", "_law_good_here"], ["_law_script_here"], d_law, true⟩
theorem o_law : FdOk lex f_law := ⟨⟨rfl, rfl, rfl, by decide +kernel, rfl, by decide +kernel, by decide +kernel⟩, by decide +kernel, rfl, rfl, by decide +kernel, rfl, rfl, rfl, rfl, fun _ _ _ _ _ _ us hl => match us, hl with | [_], _ => rfl⟩
def fds : List (Option Fd) := ([some f_is_plain, some f_is_whole, some f_are_rows, some f_is_street, some f_things_of, some f_is_single, some f_is_step, some f_are_steps, some f_divisor_of, none, some f_is_lean, some f_need_street, none, none, none, none, some f_is_script, some f_count_things, none, none, none, none, none, none, none, none, none, none, none, none] : List (Option Fd)) ++ ([none, none, none, none, none, none, none, none, none, none, none, none, none, none, none, none, none, none, none, none, none, none, none, none, none, none, none, none, none, none] : List (Option Fd)) ++ ([none, none, none, none, none, none, none, none, none, none, none, none, none, none, none, none, none, none, none, none, none, none, none, none, none, none, none, none, none, none] : List (Option Fd)) ++ ([none, none, none, none, none, none, none, none, none, none, some f__law_cell, some f__law_draws, some f__law_bag, some f__law_take, some f__law_choice, some f__law_lowest, some f__law_street, some f__law_single, some f__law_script, none, none, none, none, none, none, some f__law_simple, some f__law_some, none, none, none] : List (Option Fd)) ++ ([none, none, none, none, none, none, none, none, none, none, none, none, none, none, none, none, none, none, none, none, none, none, none, none, none, none, none, none, none, none] : List (Option Fd)) ++ ([none, none, none, none, none, none, none, none, none, none, none, none, none, none, none, none, none, none, none, none, none, none, none, none, none, none, none, none, none, none] : List (Option Fd)) ++ ([none, none, none, none, none, none, none, none, none, none, none, none, none, none, none, none, none, none, none, none, none, none, some f__law_truly, some f__law_whole, some f__law_rows, some f__law_good, some f__law_good_step, some f__law_good_script, some f__law_spoilt, some f_law] : List (Option Fd))
def dn : He.DefD := ⟨("_law_named_error", none), "_law_named_error", "_law_named_error", defArgs (top 38), defBody (top 38), defScope (top 38), [], []⟩
def dh : He.DefD := ⟨("_law_error", none), "_law_error", "_law_error", defArgs (top 39), defBody (top 39), defScope (top 39), [], []⟩
def bsc : Scope := match defBody (top 38) with
  | [_, _, _, _, .Return (some (.Call _ [.ListComp _ _ s _] _ _)) _] => s
  | _ => defScope (top 38)
theorem nmT : NmT dn bsc "_law_e" "_law_some_here" "_law_words" "_law_word" "_law_good_here" := ⟨⟨rfl, rfl, rfl, rfl, fun _ _ _ _ _ _ us hl => match us, hl with | [_], _ => rfl⟩, ⟨by decide +kernel, by decide +kernel, by decide +kernel, by decide +kernel, by decide +kernel, by decide +kernel, by decide +kernel, by decide +kernel, by decide +kernel, by decide +kernel, by decide +kernel, blkOk_by (by decide +kernel)⟩, ⟨rfl, rfl, rfl, by decide +kernel, rfl, by decide +kernel, by decide +kernel⟩, by decide +kernel⟩
theorem hpT : HpT dh "_law_call" "_law_e" dn.name := ⟨⟨rfl, rfl, rfl, rfl, fun _ _ _ _ _ _ us hl => match us, hl with | [_], _ => rfl⟩, ⟨rfl, rfl, rfl, by decide +kernel, rfl, by decide +kernel, by decide +kernel⟩, .inl (by decide +kernel), by decide +kernel, by decide +kernel, by decide +kernel, by decide +kernel, by decide +kernel⟩
theorem tl (_ : Tbls) (_ : Fr) (Y : Cx) (k : Nat) (f g : Addr) (fd gd : FuncData) (M : NmM Y.K Y.mg) (N : HpM Y.K Y.mg) (F : FunD Y.K dn.name dn.qual dn.params dn.body dn.scope [] [] f fd) (m : Y.mg dn.name = some (.ref f))
    (F' : FunD Y.K dh.name dh.qual dh.params dh.body dh.scope [] [] g gd) (m' : Y.mg dh.name = some (.ref g)) : TelOk Y dh.name k (telG false nam) :=
  tel_told hpT F' m' k fun q cdv => served_error hpT N rfl fun s H room => by
    obtain ⟨hg, rm, h1, vis⟩ := help_frame hpT room
    exact names_tell (d := dn) nmT M rfl (by exact ⟨rfl, rfl⟩) F m hg (by decide) rm h1 vis (by decide) (by decide)
def text : Text := ⟨fds, lex, tab, dn, dh, false⟩
theorem all : AllOk lex fds tab := ⟨⟨rfl, o_is_plain⟩, ⟨⟨rfl, o_is_whole⟩, ⟨⟨rfl, o_are_rows⟩, ⟨⟨rfl, o_is_street⟩, ⟨⟨rfl, o_things_of⟩, ⟨⟨rfl, o_is_single⟩, ⟨⟨rfl, o_is_step⟩, ⟨⟨rfl, o_are_steps⟩, ⟨⟨rfl, o_divisor_of⟩, ⟨⟨rfl, o_is_lean⟩, ⟨⟨rfl, o_need_street⟩, ⟨⟨rfl, o_is_script⟩, ⟨⟨rfl, o_count_things⟩, ⟨⟨rfl, o__law_cell⟩, ⟨⟨rfl, o__law_draws⟩, ⟨⟨rfl, o__law_bag⟩, ⟨⟨rfl, o__law_take⟩, ⟨⟨rfl, o__law_choice⟩, ⟨⟨rfl, o__law_lowest⟩, ⟨⟨rfl, o__law_street⟩, ⟨⟨rfl, o__law_single⟩, ⟨⟨rfl, o__law_script⟩, ⟨⟨rfl, o__law_simple⟩, ⟨⟨rfl, o__law_some⟩, ⟨⟨rfl, o__law_truly⟩, ⟨⟨rfl, o__law_whole⟩, ⟨⟨rfl, o__law_rows⟩, ⟨⟨rfl, o__law_good⟩, ⟨⟨rfl, o__law_good_step⟩, ⟨⟨rfl, o__law_good_script⟩, ⟨⟨rfl, o__law_spoilt⟩, ⟨⟨rfl, o_law⟩, trivial⟩⟩⟩⟩⟩⟩⟩⟩⟩⟩⟩⟩⟩⟩⟩⟩⟩⟩⟩⟩⟩⟩⟩⟩⟩⟩⟩⟩⟩⟩⟩⟩
theorem ok : text.Ok := ⟨by decide +kernel, all, by decide +kernel, (fun _ h => h), rfl, ⟨rfl, rfl, rfl⟩, ⟨rfl, rfl, rfl⟩, tl⟩
end K01
end
section
set_option Elab.async false
set_option maxRecDepth 100000
set_option linter.all false
set_option maxHeartbeats 0
/-! The head's run. -/
namespace K01
open PySem PySem.Spec PyProof.Rows L2 Ev
abbrev R : PySem.W.OpenRow := PySem.W.OpenLaw.row PySem.Challenge.rw_anysun_k01_streets_scripts_and_leans_kno
def loose : List Str := (["__name__", "SunError", "InvalidStreet", "InvalidScript", "InvalidLean", "InvalidNumber", "InvalidFacts", "InvalidText", "Waits", "NothingToUndo", "TOP_HEIGHT", "MOST_STEPS", "is_plain", "is_whole", "are_rows", "is_street", "things_of", "is_single", "is_step", "are_steps", "divisor_of", "is_lean", "need_street", "is_script", "count_things", "_law_cell", "_law_draws", "_law_bag", "_law_take", "_law_choice"] : List Str) ++ (["_law_lowest", "_law_street", "_law_single", "_law_script", "_law_simple", "_law_some", "_law_named_error", "_law_error", "_law_truly", "_law_whole", "_law_rows", "_law_good", "_law_good_step", "_law_good_script", "_law_spoilt"] : List Str)
abbrev hk : PySem.W.Hook := He.hookX 5 text.fa text.fn [] text.tf text.ex
def ob (s : PySem.W.SharedT) : He.AlX := He.obsX 5 text.fa text.fn [] text.tf text.ex (HandSHeadRun.getT s)
theorem ob_eq (s : PySem.W.SharedT) : ob s = hk.obs s.abs := He.obsX_eq (HandSHeadRun.getT_eq s)
theorem run (w : World) : HandSHeadRun.RunEq R (PySem.W.view R.prog [47]) hk ob 20000 loose w := by
  intro os
  kernel_rfl
end K01
end
section
set_option Elab.async false
set_option maxRecDepth 100000
set_option linter.all false
set_option maxHeartbeats 0
/-! The theorem from the evaluator's word. -/
namespace K01
open PySem PySem.Spec PyProof.Rows L2 Ev
theorem lawCX (w : World) (H : Hp) (s : Shared) (e : Value) (s' : Shared) : L2N.CX PySem.Challenge.rw_anysun_k01_streets_scripts_and_leans_kno.prog w [] H s (fun _ _ _ => False) e s' → False := fun c => by
  obtain ⟨_, _, _, _, _, _, _, _, _, _, _, _, z⟩ := c
  exact z
end K01
open PySem PySem.W PySem.Calls PyProof.Rows
theorem K01.holds (run : ∀ ns : List Int, ns.length ≤ 63 → (∀ z ∈ ns, Builtin.Int.intBits z ≤ 1048576) → Ev.calls K01.text.L.gl K01.text.tab (fun _ => Ev.telG K01.text.told Ev.nam) (40 + 1) 209 [.d (.list (ns.map .int))] = .ok (.d (.bool true)) []) : PySem.Challenge.rw_anysun_k01_streets_scripts_and_leans_kno.Holds := by
  w_on; o_law
  refine HandSHeadRun.head_any (r := OpenLaw.row PySem.Challenge.rw_anysun_k01_streets_scripts_and_leans_kno) (q := view (OpenLaw.row PySem.Challenge.rw_anysun_k01_streets_scripts_and_leans_kno).prog [47]) (H := K01.hk) (ob := K01.ob) (M := 20000) (loose := K01.loose) (d := HandSHeadRun.topDef (OpenLaw.row PySem.Challenge.rw_anysun_k01_streets_scripts_and_leans_kno).prog 47) (kwd := []) K01.ob_eq
    (by kernel_rfl) (fun s => by kernel_rfl) K01.run (by kernel_rfl) (by kernel_rfl) (by kernel_rfl) (by rfl) (by first | assumption | decide +kernel) (by decide +kernel) ⟨rfl, rfl, rfl, rfl, rfl, by decide +kernel⟩ ?hw ?hc
  case hw => w_witness2
  case hc =>
    refine LamX.walk_ofTsE (l := PySem.Challenge.rw_anysun_k01_streets_scripts_and_leans_kno) (n := 63) (k := 3 * (40 + 1) + 3) (x := "_law_script_here") (CX := fun w => L2N.CX PySem.Challenge.rw_anysun_k01_streets_scripts_and_leans_kno.prog w) rfl (by decide) (by kernel_rfl) ⟨rfl, by decide, by decide⟩ ?F (K01.lawCX)
    intro w mg fa h Y G hmg0
    obtain ⟨K, KX, c⟩ := Y
    have hmg : mg ("law" : PySem.Str) = some (.ref fa) := by
      have e : (HandSHeadRun.topDef (OpenLaw.row PySem.Challenge.rw_anysun_k01_streets_scripts_and_leans_kno).prog 47).name = ("law" : PySem.Str) := by kernel_rfl
      rw [← e]
      exact hmg0
    exact ⟨K, KX, Ev.law_at (t := K01.text) (f := 209) (e := K01.f_law) K01.ok rfl rfl (by decide) KX G c hmg run⟩
end
open PySem
set_option Elab.async false
set_option maxRecDepth 100000 in
set_option maxHeartbeats 8000000 in
theorem PySem.Challenge.cw_anysun_k01_streets_scripts_and_leans_kno_holds : PySem.Challenge.rw_anysun_k01_streets_scripts_and_leans_kno.Holds := by
  exact K01.holds fun ns _ _ => K01.law_run ns
