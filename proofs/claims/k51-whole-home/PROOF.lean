import PyProof.Rows.All
import Wide.All
import OpenK.AllK
import Wide.FinOn
import HandS.ForMost
import HandS.Style
import HandS.Flow
import HandS.Wide
import HandS.TryOnly
import HandS.WordsExc
import HandS.Lambda
import HandS.TupAny
import HandS.IsInst
import HandS.ExcOwn
import KE.GoesNew
import HandS.Zip
import HandS.Ends
import HandS.Words
import PySem.Challenge.RW_fairstops_k51_whole_home
set_option Elab.async false
set_option linter.all false
set_option maxRecDepth 100000
set_option maxHeartbeats 4000000
/-! the evaluator: trees, expressions, statements, calls -/
namespace Fz
open PySem

/-- a value as a tree -/
inductive T where
  | non
  | bl (b : Bool)
  | int (i : Int)
  | str (x : Str)
  | tup (xs : List T)
  | lst (xs : List T)
  | dct (kvs : List (T × T))
  | fn (f : Nat)
  | exc (c : Nat)
  deriving Inhabited

mutual
/-- == -/
def T.eqv : T → T → Bool
  | .non, .non => true
  | .bl a, .bl b => a == b
  | .bl a, .int j => (if a then 1 else 0) == j
  | .int i, .bl b => i == (if b then 1 else 0)
  | .int i, .int j => i == j
  | .str x, .str y => x == y
  | .lst xs, .lst ys => T.eqvs xs ys
  | .tup xs, .tup ys => T.eqvs xs ys
  | _, _ => false
def T.eqvs : List T → List T → Bool
  | [], [] => true
  | x :: xs, y :: ys => T.eqv x y && T.eqvs xs ys
  | _, _ => false
end
mutual
/-- data of no more than so many layers -/
def T.plain : T → Nat → Bool
  | .non, _ => true
  | .bl _, _ => true
  | .int _, _ => true
  | .str x, _ => PyData.strOk x
  | .tup xs, n => (match n with | 0 => false | m + 1 => T.plains xs m)
  | .lst xs, n => (match n with | 0 => false | m + 1 => T.plains xs m)
  | _, _ => false
def T.plains : List T → Nat → Bool
  | [], _ => true
  | x :: xs, n => T.plain x n && T.plains xs n
end

inductive Res (α : Type) where
  | ok (a : α)
  | ex (c : Nat)
  | no
def Res.bind {α β : Type} : Res α → (α → Res β) → Res β
  | .ok a, k => k a
  | .ex c, _ => .ex c
  | .no, _ => .no
/-- no exception let through -/
def Res.noex {α : Type} : Res α → Res α
  | .ok a => .ok a
  | _ => .no

inductive Bop where | add | sub | mul | fdiv | mod
  deriving DecidableEq
inductive Cop where | eq | ne | lt | le | gt | ge | is | isNot | inn | notIn
  deriving DecidableEq
/-- built-ins by values -/
inductive Blt where
  | abs | max2 | min2 | max1 | min1 | sum | all | any | list | tuple | int | str
  | isInt | isBool | isTuple | isStr | isExc (c : Nat)
  | sorted | sortedSet | count | index | dict | items | get | join | split | lenSet
  deriving DecidableEq
/-- what a loop walks -/
inductive IK where | seq | rng1 | rng2 | enum | zip
  deriving DecidableEq
inductive Tg where
  | nm (i : Nat)
  | tp (l : List Tg)

inductive E where
  | var (i : Nat)
  | cst (t : T)
  | bin (op : Bop) (a b : E)
  | neg (a : E)
  | cmp (op : Cop) (a b : E)
  | chain (o1 o2 : Cop) (a b d : E)
  | band (a b : E)
  | bor (a b : E)
  | not (a : E)
  | ite (t a b : E)
  | tup (es : List E)
  | lst (es : List E)
  | len (a : E)
  | idx (a i : E)
  | slc (a : E) (lo hi : List E)
  | rev (a : E)
  | call (f : Nat) (es : List E)
  | callv (a : E) (es : List E)
  | blt (b : Blt) (es : List E)
  | comp (elt : E) (tg : Tg) (ik : IK) (its cond : List E) (own : List Nat)

inductive S where
  | asg (tg : Tg) (e : E)
  | own (i : Nat) (e : E)
  | par (is : List Nat) (es : List E)
  | share (is : List Nat)
  | app (i : Nat) (e : E)
  | ext (i : Nat) (e : E)
  | setI (i : Nat) (k e : E)
  | expr (e : E)
  | ifS (t : E) (a b : List S)
  | whl (t : E) (b : List S)
  | forS (tg : Tg) (ik : IK) (its : List E) (b : List S)
  | ret (e : E)
  | retN
  | raise (c : Nat)
  | tryAs (b : List S) (c i : Nat) (h : List S)
  | tryOnly (b : List S) (c : Nat) (h : List S)
  | pass

/-- a name's slot: nothing; a value that stands; a list (dict) of the frame's own, that may change -/
inductive Cell where
  | un
  | sh (t : T)
  | ow (t : T)
  deriving Inhabited

/-! ### operators -/
def mulOk (i j : Int) : Bool := decide (i.natAbs < 2 ^ 8000 ∧ j.natAbs < 2 ^ 8000) || decide (i.natAbs < 2 ^ 63) || decide (j.natAbs < 2 ^ 63)
def divOk (j : Int) : Bool := decide (j ≠ 0 ∧ j.natAbs < 2 ^ 8000)
/-- how long lists and texts may get here -/
abbrev SZ : Nat := 1000000
def binop : Bop → T → T → Res T
  | .add, .int i, .int j => .ok (.int (i + j))
  | .sub, .int i, .int j => .ok (.int (i - j))
  | .mul, .int i, .int j => if mulOk i j then .ok (.int (i * j)) else .no
  | .fdiv, .int i, .int j => if divOk j then .ok (.int (i.fdiv j)) else .no
  | .mod, .int i, .int j => if j = 0 then .no else .ok (.int (i.fmod j))
  | .add, .str x, .str y => if x.length + y.length ≤ SZ then .ok (.str (x ++ y)) else .no
  | .add, .tup xs, .tup ys => if xs.length + ys.length ≤ SZ then .ok (.tup (xs ++ ys)) else .no
  | .add, .lst xs, .lst ys => if xs.length + ys.length ≤ SZ then .ok (.lst (xs ++ ys)) else .no
  | _, _, _ => .no
def negT : T → Res T
  | .int i => .ok (.int (-i))
  | _ => .no
def isSame : T → T → Res Bool
  | .non, .non => .ok true
  | .bl a, .non => .ok false
  | .int _, .non => .ok false
  | .str _, .non => .ok false
  | .tup _, .non => .ok false
  | .lst _, .non => .ok false
  | .exc _, .non => .ok false
  | .bl a, .bl b => .ok (decide (a = b))
  | _, _ => .no
/-- a thing looked for in things -/
def inT (a : T) (ys : List T) : Bool := ys.any fun y => T.eqv y a
def cmpT : Cop → T → T → Res T
  | .eq, a, b => if a.plain 60 && b.plain 60 then .ok (.bl (T.eqv a b)) else .no
  | .ne, a, b => if a.plain 60 && b.plain 60 then .ok (.bl (!T.eqv a b)) else .no
  | .lt, .int i, .int j => .ok (.bl (decide (i < j)))
  | .le, .int i, .int j => .ok (.bl (decide (i ≤ j)))
  | .gt, .int i, .int j => .ok (.bl (decide (j < i)))
  | .ge, .int i, .int j => .ok (.bl (decide (j ≤ i)))
  | .is, a, b => (isSame a b).bind fun k => .ok (.bl k)
  | .isNot, a, b => (isSame a b).bind fun k => .ok (.bl (!k))
  | .inn, a, .tup ys => if a.plain 60 && T.plains ys 60 then .ok (.bl (inT a ys)) else .no
  | .inn, a, .lst ys => if a.plain 60 && T.plains ys 60 then .ok (.bl (inT a ys)) else .no
  | .notIn, a, .tup ys => if a.plain 60 && T.plains ys 60 then .ok (.bl (!inT a ys)) else .no
  | .notIn, a, .lst ys => if a.plain 60 && T.plains ys 60 then .ok (.bl (!inT a ys)) else .no
  | .inn, .str x, .str y => .ok (.bl (!(Builtin.Str.occurrences y x 0 y.length 1).isEmpty))
  | .notIn, .str x, .str y => .ok (.bl (!(!(Builtin.Str.occurrences y x 0 y.length 1).isEmpty)))
  | _, _, _ => .no
def truT : T → Res Bool
  | .non => .ok false
  | .bl b => .ok b
  | .int i => .ok (i != 0)
  | .str x => if x.length ≤ SZ then .ok (x.length != 0) else .no
  | .tup xs => .ok (!xs.isEmpty)
  | .lst xs => .ok (!xs.isEmpty)
  | _ => .no
/-- the place that an index tells -/
def atT (xs : List T) (i : Int) : Res T :=
  match (if 0 ≤ i then (if i < xs.length then some i.toNat else none) else if -(xs.length : Int) ≤ i then some (i + xs.length).toNat else none) with
  | some j => (match xs[j]? with | some t => .ok t | none => .no)
  | none => .no
def idxT : T → T → Res T
  | .tup xs, .int i => atT xs i
  | .lst xs, .int i => atT xs i
  | .str x, .int i => (match L2.atI x.cps.toList i with | some d => if x.length ≤ SZ then .ok (.str ⟨#[d]⟩) else .no | none => .no)
  | _, _ => .no
def cutL (xs : List T) (lo hi : Option Int) : List T := (xs.drop (HT.sIx xs.length 0 lo)).take (HT.sIx xs.length xs.length hi - HT.sIx xs.length 0 lo)
def partT : List T → Res (Option Int)
  | [] => .ok none
  | [.int i] => .ok (some i)
  | _ => .no
def slcT (a : T) (lo hi : Option Int) : Res T :=
  match a with
  | .tup xs => .ok (.tup (cutL xs lo hi))
  | .lst xs => .ok (.lst (cutL xs lo hi))
  | .str x => if x.length ≤ SZ then .ok (.str (L2.cutS x lo hi)) else .no
  | _ => .no
def revT : T → Res T
  | .lst xs => .ok (.lst xs.reverse)
  | _ => .no
def lenT : T → Res T
  | .lst xs => .ok (.int xs.length)
  | .tup xs => .ok (.int xs.length)
  | .str x => if x.length ≤ SZ then .ok (.int x.length) else .no
  | _ => .no
def intsT : List T → Option (List Int)
  | [] => some []
  | .int i :: r => (intsT r).map (i :: ·)
  | _ => none
def boolsT : List T → Option (List Bool)
  | [] => some []
  | .bl b :: r => (boolsT r).map (b :: ·)
  | _ => none
def maxI : List Int → Int → Int
  | [], m => m
  | x :: r, m => maxI r (if x > m then x else m)
def minI : List Int → Int → Int
  | [], m => m
  | x :: r, m => minI r (if x < m then x else m)
def bltT : Blt → List T → Res T
  | .abs, [.int i] => .ok (.int (if i < 0 then -i else i))
  | .max2, [.int i, .int j] => .ok (.int (if j > i then j else i))
  | .min2, [.int i, .int j] => .ok (.int (if j < i then j else i))
  | .max1, [.lst xs] => (match intsT xs with | some (n :: ns) => .ok (.int (maxI ns n)) | _ => .no)
  | .min1, [.lst xs] => (match intsT xs with | some (n :: ns) => .ok (.int (minI ns n)) | _ => .no)
  | .sum, [.lst xs] => (match intsT xs with | some ns => .ok (.int ns.sum) | none => .no)
  | .all, [.lst xs] => (match boolsT xs with | some bs => .ok (.bl (bs.all id)) | none => .no)
  | .any, [.lst xs] => (match boolsT xs with | some bs => .ok (.bl (bs.any id)) | none => .no)
  | .list, [.lst xs] => .ok (.lst xs)
  | .list, [.tup xs] => .ok (.lst xs)
  | .tuple, [.lst xs] => .ok (.tup xs)
  | .tuple, [.tup xs] => .ok (.tup xs)
  | .int, [.int i] => .ok (.int i)
  | .int, [.bl b] => .ok (.int (if b then 1 else 0))
  | .str, [.int i] => if i.natAbs < 2 ^ 1000 then .ok (.str (toString i)) else .no
  | .isInt, [t] => (match t with | .int _ => .ok (.bl true) | .bl _ => .ok (.bl true) | .exc _ => .no | .fn _ => .no | .dct _ => .no | _ => .ok (.bl false))
  | .isBool, [t] => (match t with | .bl _ => .ok (.bl true) | .exc _ => .no | .fn _ => .no | .dct _ => .no | _ => .ok (.bl false))
  | .isTuple, [t] => (match t with | .tup _ => .ok (.bl true) | .exc _ => .no | .fn _ => .no | .dct _ => .no | _ => .ok (.bl false))
  | .isStr, [t] => (match t with | .str _ => .ok (.bl true) | .exc _ => .no | .fn _ => .no | .dct _ => .no | _ => .ok (.bl false))
  | _, _ => .no
def enumT : Nat → List T → List T
  | _, [] => []
  | k, x :: xs => .tup [.int k, x] :: enumT (k + 1) xs
def zipT : List T → List T → List T
  | x :: xs, y :: ys => .tup [x, y] :: zipT xs ys
  | _, _ => []
def seqOf : T → Option (List T)
  | .lst xs => some xs
  | .tup xs => some xs
  | _ => none
def rngT (lo : Int) : Nat → List T
  | 0 => []
  | n + 1 => .int lo :: rngT (lo + 1) n
/-- what is walked, item by item -/
def itemsT : IK → List T → Res (List T)
  | .seq, [.lst xs] => .ok xs
  | .seq, [.tup xs] => .ok xs
  | .rng1, [.int n] => if n ≤ SZ ∧ -SZ ≤ n then .ok (rngT 0 n.toNat) else .no
  | .rng2, [.int a, .int b] => if a ≤ SZ ∧ -SZ ≤ a ∧ b ≤ SZ ∧ -SZ ≤ b then .ok (rngT a (b - a).toNat) else .no
  | .enum, [a] => (match seqOf a with | some xs => .ok (enumT 0 xs) | none => .no)
  | .zip, [a, b] => (match seqOf a, seqOf b with | some xs, some ys => .ok (zipT xs ys) | _, _ => .no)
  | _, _ => .no

/-! ### slots -/
abbrev Cells := List Cell
def rd (env : Cells) (i : Nat) : Res T := match env[i]? with | some (.sh t) => .ok t | _ => .no
def rdAny (env : Cells) (i : Nat) : Res T := match env[i]? with | some (.sh t) => .ok t | some (.ow t) => .ok t | _ => .no
/-- a name by itself may be one of the frame's own here -/
def rdB (env : Cells) (a : E) (r : Res T) : Res T := match a with | .var i => rdAny env i | _ => r
mutual
def asgT : Tg → T → Cells → Option Cells
  | .nm i, t, env => some (env.set i (.sh t))
  | .tp l, t, env => (match seqOf t with | some xs => asgTs l xs env | none => none)
def asgTs : List Tg → List T → Cells → Option Cells
  | [], [], env => some env
  | g :: gs, t :: ts, env => (match asgT g t env with | some env' => asgTs gs ts env' | none => none)
  | _, _, _ => none
end
def wipeC (env : Cells) : List Nat → Cells
  | [] => env
  | v :: vs => (wipeC env vs).set v .un
def shareC (env : Cells) : List Nat → Cells
  | [] => env
  | i :: is => (match (shareC env is)[i]? with | some (.ow t) => (shareC env is).set i (.sh t) | _ => shareC env is)
def setAll (env : Cells) : List Nat → List T → Cells
  | i :: is, t :: ts => setAll (env.set i (.sh t)) is ts
  | _, _ => env
def compL (k : T → Res (Option T)) : List T → Res (List T)
  | [] => .ok []
  | x :: xs => (k x).bind fun o => (compL k xs).bind fun r => .ok (match o with | some t => t :: r | none => r)

/-! ### expressions -/
abbrev Fns := Nat → List T → Res T
mutual
def ev (F : Fns) : E → Cells → Res T
  | .var i, env => rd env i
  | .cst t, _ => .ok t
  | .bin op a b, env => (ev F a env).bind fun x => (ev F b env).bind fun y => binop op x y
  | .neg a, env => (ev F a env).bind negT
  | .cmp op a b, env => (rdB env a (ev F a env)).bind fun x => (rdB env b (ev F b env)).bind fun y => cmpT op x y
  | .chain o1 o2 a b d, env => (ev F a env).bind fun x => (ev F b env).bind fun y => (cmpT o1 x y).bind fun z =>
      (match z with | .bl true => (ev F d env).bind fun u => cmpT o2 y u | .bl false => .ok (.bl false) | _ => .no)
  | .band a b, env => (ev F a env).bind fun x => (truT x).bind fun k => if k then ev F b env else .ok x
  | .bor a b, env => (ev F a env).bind fun x => (truT x).bind fun k => if k then .ok x else ev F b env
  | .not a, env => (rdB env a (ev F a env)).bind fun x => (truT x).bind fun k => .ok (.bl (!k))
  | .ite t a b, env => (ev F t env).bind fun x => (truT x).bind fun k => if k then ev F a env else ev F b env
  | .tup es, env => (evs F es env).bind fun ts => .ok (.tup ts)
  | .lst es, env => (evs F es env).bind fun ts => .ok (.lst ts)
  | .len a, env => (rdB env a (ev F a env)).bind lenT
  | .idx a i, env => (ev F a env).bind fun x => (ev F i env).bind fun y => idxT x y
  | .slc a lo hi, env => (ev F a env).bind fun x => (evs F lo env).bind fun l => (partT l).bind fun lo' => (evs F hi env).bind fun h => (partT h).bind fun hi' => slcT x lo' hi'
  | .rev a, env => (ev F a env).bind revT
  | .call f es, env => (evs F es env).bind fun ts => F f ts
  | .callv a es, env => (ev F a env).bind fun x => (match x with | .fn f => (evs F es env).bind fun ts => F f ts | _ => .no)
  | .blt b es, env => (evs F es env).bind fun ts => bltT b ts
  | .comp elt tg ik its cond own, env => (evs F its env).bind fun as => (itemsT ik as).bind fun xs =>
      (compL (fun x => (match asgT tg x (wipeC env own) with
        | some env' => (evs F cond env').noex.bind fun cs => (match cs with
          | [] => (ev F elt env').noex.bind fun t => .ok (some t)
          | [b] => (truT b).bind fun k => if k then (ev F elt env').noex.bind fun t => .ok (some t) else .ok none
          | _ => .no)
        | none => .no)) xs).bind fun ts => .ok (.lst ts)
def evs (F : Fns) : List E → Cells → Res (List T)
  | [], _ => .ok []
  | e :: es, env => (ev F e env).bind fun t => (evs F es env).bind fun ts => .ok (t :: ts)
end

/-! ### statements -/
inductive Fl where
  | nx (env : Cells)
  | rt (t : T)
  | ex (c : Nat) (env : Cells)
  | no
def flOf {α : Type} (r : Res α) (env : Cells) (k : α → Fl) : Fl := match r with | .ok t => k t | .ex c => .ex c env | .no => .no
def whileF (t : Cells → Res Bool) (b : Cells → Fl) : Nat → Cells → Fl
  | 0, _ => .no
  | n + 1, env => flOf (t env) env fun k => if k then (match b env with | .nx env' => whileF t b n env' | r => r) else .nx env
def forF (b : Cells → T → Fl) : List T → Cells → Fl
  | [], env => .nx env
  | x :: xs, env => (match b env x with | .nx env' => forF b xs env' | r => r)
abbrev FUEL : Nat := 100000
mutual
def exec (F : Fns) : S → Cells → Fl
  | .asg tg e, env => flOf (ev F e env) env fun t => (match asgT tg t env with | some env' => .nx env' | none => .no)
  | .own i e, env => flOf (ev F e env) env fun t => .nx (env.set i (.ow t))
  | .par is es, env => flOf (evs F es env) env fun ts => .nx (setAll env is ts)
  | .share is, env => .nx (shareC env is)
  | .app i e, env => (match env[i]? with
      | some (.ow (.lst xs)) => flOf (ev F e env) env fun t => if xs.length < SZ then .nx (env.set i (.ow (.lst (xs ++ [t])))) else .no
      | _ => .no)
  | .ext i e, env => (match env[i]? with
      | some (.ow (.lst xs)) => flOf (ev F e env) env fun t => (match t with
        | .lst ys => if xs.length + ys.length ≤ SZ then .nx (env.set i (.ow (.lst (xs ++ ys)))) else .no
        | _ => .no)
      | _ => .no)
  | .setI i k e, env => flOf (ev F e env) env fun t => (match env[i]? with
      | some (.ow (.lst xs)) => flOf (ev F k env) env fun j => (match j with
        | .int n => if 0 ≤ n ∧ n < xs.length then .nx (env.set i (.ow (.lst (xs.set n.toNat t)))) else .no
        | _ => .no)
      | _ => .no)
  | .expr e, env => flOf (ev F e env) env fun _ => .nx env
  | .ifS t a b, env => flOf ((ev F t env).bind truT) env fun k => if k then execs F a env else execs F b env
  | .whl t b, env => whileF (fun env => (ev F t env).bind truT) (execs F b) FUEL env
  | .forS tg ik its b, env => flOf ((evs F its env).bind fun as => itemsT ik as) env fun xs =>
      forF (fun env x => (match asgT tg x env with | some env' => execs F b env' | none => .no)) xs env
  | .ret e, env => flOf (ev F e env) env fun t => .rt t
  | .retN, _ => .rt .non
  | .raise c, env => .ex c env
  | .tryAs b c i h, env => .no
  | .tryOnly b c h, env => .no
  | .pass, env => .nx env
def execs (F : Fns) : List S → Cells → Fl
  | [], env => .nx env
  | s :: ss, env => (match exec F s env with | .nx env' => execs F ss env' | r => r)
end

/-! ### calls -/
structure Def where
  np : Nat
  nl : Nat
  body : List S
def startC (d : Def) (args : List T) : Cells := args.map .sh ++ List.replicate (d.nl - args.length) .un
def finF : Fl → Res T
  | .nx _ => .ok .non
  | .rt t => .ok t
  | .ex c _ => .ex c
  | .no => .no
def callF (defs : List (Nat × Def)) : Nat → Fns
  | 0, _, _ => .no
  | n + 1, f, args => (match defs.lookup f with
    | some d => if args.length = d.np then finF (execs (callF defs n) d.body (startC d args)) else .no
    | none => .no)
end Fz

/-! from the model's syntax to the evaluator's -/
namespace Fz
open PySem

structure TC where
  /-- the def's names by slot, parameters first -/
  N : List Str
  /-- own defs, constants, exception classes of the module -/
  gf : List (Str × Nat)
  gc : List (Str × T)
  gx : List (Str × Nat)
  /-- built-ins that the module does not shadow -/
  bl : List Str
  /-- slots whose lists are changed -/
  acc : List Nat

def ixOf (x : Str) : List Str → Nat → Option Nat
  | [], _ => none
  | y :: ys, k => if x = y then some k else ixOf x ys (k + 1)
def okName (x : Str) : Bool := !(x == ("__debug__" : Str)) && !(x == ("__classdict__" : Str)) && !(x == ("__name__" : Str))
def visB (sc : Scope) (x : Str) : Bool := match sc.names.lookup x with
  | some .local => true
  | some .cell => true
  | some .free => true
  | _ => false
def glB (sc : Scope) (x : Str) : Bool := match sc.names.lookup x with
  | some .globalImplicit => true
  | _ => false
/-- a name that may be stored to: so is the block's own scope -/
def locB (sc so : Scope) (x : Str) : Bool := match sc.names.lookup x, so.names.lookup x with
  | some .local, _ => true
  | some .cell, some .cell => true
  | _, _ => false
def trN (c : TC) (sc : Scope) (x : Str) : Option E :=
  if okName x then
    if visB sc x then (ixOf x c.N 0).map .var
    else if glB sc x then (match c.gc.lookup x with
      | some t => some (.cst t)
      | none => (match c.gf.lookup x with
        | some f => some (.cst (.fn f))
        | none => none))
    else none
  else none
def trC : Const → Option T
  | .none => some .non
  | .bool b => some (.bl b)
  | .int i => some (.int i)
  | .str x => some (.str x)
  | _ => none
def trOp : Operator → Option Bop
  | .Add => some .add
  | .Sub => some .sub
  | .Mult => some .mul
  | .FloorDiv => some .fdiv
  | .Mod => some .mod
  | _ => none
def trCop : CmpOp → Cop
  | .Eq => .eq
  | .NotEq => .ne
  | .Lt => .lt
  | .LtE => .le
  | .Gt => .gt
  | .GtE => .ge
  | .Is => .is
  | .IsNot => .isNot
  | .In => .inn
  | .NotIn => .notIn
/-- built-ins called by name -/
def trBlt (x : Str) (n : Nat) : Option Blt :=
  if x = "abs" ∧ n = 1 then some .abs
  else if x = "max" ∧ n = 2 then some .max2
  else if x = "min" ∧ n = 2 then some .min2
  else if x = "max" ∧ n = 1 then some .max1
  else if x = "min" ∧ n = 1 then some .min1
  else if x = "sum" ∧ n = 1 then some .sum
  else if x = "all" ∧ n = 1 then some .all
  else if x = "any" ∧ n = 1 then some .any
  else if x = "list" ∧ n = 1 then some .list
  else if x = "tuple" ∧ n = 1 then some .tuple
  else if x = "int" ∧ n = 1 then some .int
  else if x = "str" ∧ n = 1 then some .str
  else if x = "sorted" ∧ n = 1 then some .sorted
  else if x = "dict" ∧ n = 1 then some .dict
  else none
def trIsi (c : TC) (sc : Scope) (x : Str) : Option Blt :=
  if glB sc x && okName x then
    (match c.gx.lookup x with
      | some k => none
      | none => if c.bl.contains x then
          if x = "int" then some .isInt else if x = "bool" then some .isBool else if x = "tuple" then some .isTuple else if x = "str" then some .isStr else none
        else none)
  else none
/-- built-ins with a rule -/
def okBlt : Blt → Bool
  | .sorted => false
  | .dict => false
  | .max1 => false
  | .min1 => false
  | _ => true
def okCop : CmpOp → Bool
  | .In => false
  | .NotIn => false
  | _ => true
/-- a name's call: own def or built-in -/
def trCall (c : TC) (sc : Scope) (f : Str) (es : List E) : Option E :=
  if glB sc f && okName f then
    (match c.gf.lookup f with
      | some k => if es.isEmpty then none else some (.call k es)
      | none => if c.bl.contains f then
          (if f = "len" then (match es with | [a] => some (.len a) | _ => none)
           else (trBlt f es.length).bind fun b => if okBlt b then some (.blt b es) else none)
        else none)
  else none
mutual
def trG (c : TC) (sc so : Scope) : Expr → Option Tg
  | .Name x _ => if locB sc so x then (ixOf x c.N 0).map .nm else none
  | .Tuple es _ _ => (trGs c sc so es).map .tp
  | _ => none
def trGs (c : TC) (sc so : Scope) : List Expr → Option (List Tg)
  | [] => some []
  | e :: es => (match trG c sc so e, trGs c sc so es with | some g, some gs => some (g :: gs) | _, _ => none)
end
mutual
def tgNames : Expr → List Str
  | .Name x _ => [x]
  | .Tuple es _ _ => tgNamess es
  | _ => []
def tgNamess : List Expr → List Str
  | [] => []
  | e :: es => tgNames e ++ tgNamess es
end
def ownOf (N : List Str) : List Str → Option (List (Str × Nat))
  | [] => some []
  | x :: xs => (match ixOf x N 0, ownOf N xs with | some i, some r => some ((x, i) :: r) | _, _ => none)
mutual
def tgIx : Tg → List Nat
  | .nm i => [i]
  | .tp l => tgIxs l
def tgIxs : List Tg → List Nat
  | [] => []
  | g :: gs => tgIx g ++ tgIxs gs
end
def isTup : Expr → Bool
  | .Tuple _ _ _ => true
  | _ => false
mutual
def trE (c : TC) (sc : Scope) : Expr → Option E
  | .Constant k _ _ => (trC k).map .cst
  | .Name x _ => trN c sc x
  | .BinOp a op b _ => (match trOp op, trE c sc a, trE c sc b with | some o, some x, some y => some (.bin o x y) | _, _, _ => none)
  | .UnaryOp .Not a _ => (trE c sc a).map .not
  | .UnaryOp .USub a _ => (trE c sc a).map .neg
  | .BoolOp op vs _ => if 2 ≤ vs.length then trB c sc op vs else none
  | .IfExp t a b _ => (match trE c sc t, trE c sc a, trE c sc b with | some x, some y, some z => some (.ite x y z) | _, _, _ => none)
  | .Compare a [op] [b] _ => if okCop op then (match trE c sc a, trE c sc b with | some x, some y => some (.cmp (trCop op) x y) | _, _ => none) else none
  | .Compare a [o1, o2] [b, d] _ => if okCop o1 && okCop o2 then (match trE c sc a, trE c sc b, trE c sc d with | some x, some y, some z => some (.chain (trCop o1) (trCop o2) x y z) | _, _, _ => none) else none
  | .Call (.Name f _) [a, .Name t _] [] _ => if f = "isinstance" ∧ c.bl.contains f ∧ glB sc f then
      (match trIsi c sc t, trE c sc a with | some b, some x => some (.blt b [x]) | _, _ => none)
    else (match trE c sc a, trN c sc t with | some x, some y => trCall c sc f [x, y] | _, _ => none)
  | .Call (.Name f _) args [] _ => (match trEs c sc args with | some es => trCall c sc f es | none => none)
  | .Tuple es _ _ => if es.length ≤ 1000 then (trEs c sc es).map .tup else none
  | .List es _ => if es.length ≤ 1000 then (trEs c sc es).map .lst else none
  | .Subscript a (.Slice none none (some (.UnaryOp .USub (.Constant (.int 1) _ _) _)) _) _ => (trE c sc a).map .rev
  | .Subscript a (.Slice lo hi none _) _ => (match trE c sc a, trO c sc lo, trO c sc hi with | some x, some l, some h => some (.slc x l h) | _, _, _ => none)
  | .Subscript a (.Slice _ _ _ _) _ => none
  | .Subscript a i _ => (match trE c sc a, trE c sc i with | some x, some y => some (.idx x y) | _, _ => none)
  | .ListComp elt [⟨tg, iter, ifs, as⟩] scope _ =>
      if as = 0 then
        (match ownOf c.N (tgNames tg) with
        | none => none
        | some own => if L2.blkC c.N sc scope own then
            (match (match trI c sc (isTup tg) iter with | some r => some r | none => (trE c sc iter).map fun x => (IK.seq, [x])), trG c (L2.relS scope sc) scope tg, trEs c (L2.relS scope sc) ifs, trE c (L2.relS scope sc) elt with
            | some (ik, its), some g, some cs, some x => if cs.length ≤ 1 && (tgIx g).all (fun i => (own.map (·.2)).contains i) then some (.comp x g ik its cs (own.map (·.2))) else none
            | _, _, _, _ => none)
          else none)
      else none
  | _ => none
def trB (c : TC) (sc : Scope) (op : BoolOp) : List Expr → Option E
  | [] => none
  | [a] => trE c sc a
  | a :: rest => (match trE c sc a, trB c sc op rest with
    | some x, some y => some (match op with | .And => .band x y | .Or => .bor x y)
    | _, _ => none)
def trEs (c : TC) (sc : Scope) : List Expr → Option (List E)
  | [] => some []
  | e :: es => (match trE c sc e, trEs c sc es with | some x, some r => some (x :: r) | _, _ => none)
def trO (c : TC) (sc : Scope) : Option Expr → Option (List E)
  | none => some []
  | some e => (trE c sc e).map fun x => [x]
/-- what is walked by a built-in; enumerate and zip want a target of several names -/
def trI (c : TC) (sc : Scope) (tup : Bool) : Expr → Option (IK × List E)
  | .Call (.Name f _) args [] _ =>
      if c.bl.contains f && glB sc f then
        (match trEs c sc args with
        | some [a] => if f = "range" then some (.rng1, [a]) else if f = "enumerate" ∧ tup = true then some (.enum, [a]) else none
        | some [a, b] => if f = "range" then some (.rng2, [a, b]) else if f = "zip" ∧ tup = true then some (.zip, [a, b]) else none
        | _ => none)
      else none
  | _ => none
end
end Fz

/-! statements, from the model's syntax to the evaluator's -/
namespace Fz
open PySem

mutual
/-- the slots that are read as values that go on -/
def keepV : E → List Nat
  | .var i => [i]
  | .cst _ => []
  | .bin _ a b => keepV a ++ keepV b
  | .neg a => keepV a
  | .cmp _ a b => (match a with | .var _ => [] | _ => keepV a) ++ (match b with | .var _ => [] | _ => keepV b)
  | .chain _ _ a b d => keepV a ++ keepV b ++ keepV d
  | .band a b => keepV a ++ keepV b
  | .bor a b => keepV a ++ keepV b
  | .not a => (match a with | .var _ => [] | _ => keepV a)
  | .ite t a b => keepV t ++ keepV a ++ keepV b
  | .tup es => keepVs es
  | .lst es => keepVs es
  | .len a => (match a with | .var _ => [] | _ => keepV a)
  | .idx a i => keepV a ++ keepV i
  | .slc a lo hi => keepV a ++ keepVs lo ++ keepVs hi
  | .rev a => keepV a
  | .call _ es => keepVs es
  | .callv a es => keepV a ++ keepVs es
  | .blt _ es => keepVs es
  | .comp elt _ _ its cond _ => keepV elt ++ keepVs its ++ keepVs cond
def keepVs : List E → List Nat
  | [] => []
  | e :: es => keepV e ++ keepVs es
end
def dedup : List Nat → List Nat
  | [] => []
  | i :: is => if is.contains i then dedup is else i :: dedup is
def shr (c : TC) (is : List Nat) (ss : List S) : List S :=
  match dedup (is.filter fun i => c.acc.contains i) with
  | [] => ss
  | l => .share l :: ss
/-- an expression that makes a list of its own -/
def freshE : E → Bool
  | .lst _ => true
  | .comp _ _ _ _ _ _ => true
  | .blt .list _ => true
  | _ => false
def isComp : Expr → Bool
  | .ListComp _ _ _ _ => true
  | .SetComp _ _ _ _ => true
  | .DictComp _ _ _ _ _ => true
  | _ => false
/-- how a tuple of targets is stored: 0 from the left, 1 turned about, 2 not told -/
def swKind (sc : Scope) (ts vs : List Expr) : Nat :=
  if (!(ts.length == 2 || ts.length == 3) || vs.length != ts.length) = true then 0
  else if (vs.any fun | .Starred .. => true | _ => false) = true then 0
  else
    let line := (ts.head?.map (·.pos.line)).getD 0
    let names := ts.filterMap fun
      | .Name id pos => if sc.names.lookup id == some .local && pos.line == line then some id else none
      | _ => none
    if (names.length != ts.length || names.eraseDups.length != names.length) = true then 0
    else if vs.all (foldedForSure 8) = true then 0
    else if vs.all (constantsAlone 8) = true then 2
    else 1
mutual
def trS (c : TC) (sc : Scope) : Stmt → Option (List S)
  | .Pass _ => some [.pass]
  | .Expr (.Call (.Attribute (.Name x _) m ap) [a] [] cp) _ => if visB sc x && okName x && (ap.endLine == cp.line) then
      (match ixOf x c.N 0, trE c sc a with
      | some i, some e => if m = "append" then some (shr c (keepV e) [.app i e]) else if m = "extend" then some (shr c (keepV e) [.ext i e]) else none
      | _, _ => none)
      else none
  | .Expr e _ => if isComp e then none else (match trE c sc e with | some x => some (shr c (keepV x) [.expr x]) | none => none)
  | .Assign [.Name x _] e _ => if locB sc sc x then
      (match ixOf x c.N 0, trE c sc e with
      | some i, some e' => some (shr c (keepV e') [if c.acc.contains i && freshE e' then .own i e' else .asg (.nm i) e'])
      | _, _ => none)
      else none
  | .Assign [.Tuple ts _ _] (.Tuple vs _ _) _ =>
      (match trEs c sc vs, trGs c sc sc ts with
      | some es, some gs =>
        if swKind sc ts vs = 0 then (if vs.length ≤ 1000 then some (shr c (keepVs es) [.asg (.tp gs) (.tup es)]) else none)
        else (match ts, vs with
          | [.Name x px, .Name y py], [a, b] =>
            if sc.names.lookup x = some .local ∧ sc.names.lookup y = some .local ∧ (py.line == px.line) = true ∧ x ≠ y ∧ [a, b].all (foldedForSure 8) = false ∧ [a, b].all (constantsAlone 8) = false then
              (match ixOf x c.N 0, ixOf y c.N 0 with
              | some i, some j => some (shr c (keepVs es) [.par [i, j] es])
              | _, _ => none)
            else none
          | [.Name x px, .Name y py, .Name z pz], [a, b, d] =>
            if sc.names.lookup x = some .local ∧ sc.names.lookup y = some .local ∧ sc.names.lookup z = some .local ∧ (py.line == px.line) = true ∧ (pz.line == px.line) = true ∧ x ≠ y ∧ x ≠ z ∧ y ≠ z ∧ [a, b, d].all (foldedForSure 8) = false ∧ [a, b, d].all (constantsAlone 8) = false then
              (match ixOf x c.N 0, ixOf y c.N 0, ixOf z c.N 0 with
              | some i, some j, some l => some (shr c (keepVs es) [.par [i, j, l] es])
              | _, _, _ => none)
            else none
          | _, _ => none)
      | _, _ => none)
  | .Assign [.Tuple ts _ _] e _ => if isTup e then none else
      (match trE c sc e, trGs c sc sc ts with
      | some x, some gs => some (shr c (keepV x) [.asg (.tp gs) x])
      | _, _ => none)
  | .Assign [.Subscript (.Name x _) k _] e _ => if visB sc x && okName x then
      (match ixOf x c.N 0, trE c sc k, trE c sc e with
      | some i, some k', some e' => some (shr c (keepV k' ++ keepV e') [.setI i k' e'])
      | _, _, _ => none)
      else none
  | .If t a b _ => (match trE c sc t, trSs c sc a, trSs c sc b with
      | some x, some y, some z => some (shr c (keepV x) [.ifS x y z])
      | _, _, _ => none)
  | .While t b [] _ => (match trE c sc t, trSs c sc b with
      | some x, some y => some (shr c (keepV x) [.whl x y])
      | _, _ => none)
  | .For tg iter b [] _ =>
      (match (match trI c sc (isTup tg) iter with | some r => some r | none => (trE c sc iter).map fun x => (IK.seq, [x])), trG c sc sc tg, trSs c sc b with
      | some (ik, its), some g, some y => some (shr c (keepVs its) [.forS g ik its y])
      | _, _, _ => none)
  | .Return (some e) _ => (match trE c sc e with | some x => some (shr c (keepV x) [.ret x]) | none => none)
  | .Return none _ => some [.retN]
  | .Raise (some (.Call (.Name x _) [.Constant (.str _) _ _] [] _)) none _ => if glB sc x && okName x then
      (match c.gx.lookup x with | some k => some [.raise k] | none => none) else none
  | _ => none
def trSs (c : TC) (sc : Scope) : List Stmt → Option (List S)
  | [] => some []
  | s :: ss => (match trS c sc s, trSs c sc ss with | some x, some y => some (x ++ y) | _, _ => none)
end
end Fz

/-! how a tree stands in the heap; the readings -/
namespace Fz
open PySem PySem.Spec L2
open PyProof.Rows hiding St

/-- what is fixed through a law -/
structure Su where
  P : Program
  w : World
  K : PySem.W.Frag
  mg : Str → Option Value
  base : Heap
  fA : Nat → Addr
  cA : Nat → Addr
  tb : List (Addr × Str)

/-- an error of the class at C, at a, held as a value -/
def ExH (C a : Addr) : HO := .ext fun h => ∃ (oe : Obj) (vs : Array Value), h.get? a = some oe ∧ Zc (.ref C) none oe ∧ oe.data = .fields vs

/-- a list: told, or an object of the module -/
def La (K : PySem.W.Frag) (H : Hp) (a : Addr) (vs : List V) : Prop := Rd H a (.lst vs) ∨ ∃ (its : List Value) (n : Nat), K.lookup a = some { cls := .type "list", data := .seq its.toArray n } ∧ vs.length ≤ sizeLine ∧ Vals vs its
theorem La.sq {K : PySem.W.Frag} {H : Hp} {a : Addr} {vs : List V} (h : La K H a vs) : SqL K H a vs := by
  rcases h with h | ⟨its, n, h1, h2, h3⟩
  · exact .inl h
  · exact .inr ⟨_, its.toArray, n, h1, rfl, rfl, rfl, by rw [List.size_toArray, ← h3.length]; exact h2, by simpa using h3⟩
variable {S : Su}
mutual
def Rep (S : Su) (H : Hp) : T → V → Prop
  | .non, v => v = .non
  | .bl b, v => v = .bl b
  | .int i, v => v = .int i
  | .str x, v => v = .str x
  | .tup ts, v => ∃ a vs, v = .ref a ∧ SqT S.K H a vs ∧ ts.length ≤ sizeLine ∧ Reps S H ts vs
  | .lst ts, v => ∃ a vs, v = .ref a ∧ La S.K H a vs ∧ ts.length ≤ sizeLine ∧ Reps S H ts vs
  | .dct _, _ => False
  | .fn f, v => v = .ref (S.fA f)
  | .exc c, v => ∃ a, v = .ref a ∧ H a = some (ExH (S.cA c) a)
def Reps (S : Su) (H : Hp) : List T → List V → Prop
  | [], vs => vs = []
  | t :: ts, vs => ∃ v r, vs = v :: r ∧ Rep S H t v ∧ Reps S H ts r
end

def Sub (F H : Hp) : Prop := ∀ a o, F a = some o → H a = some o
/-! ### how heaps go on -/
def isTbl : HO → Prop
  | .tbl _ => True
  | _ => False
/-- all stands but the tables, which stay tables -/
def Ext (H H' : Hp) : Prop := ∀ b o, H b = some o → H' b = some o ∨ (isTbl o ∧ ∃ ps, H' b = some (.tbl ps))
theorem Ext.refl (H : Hp) : Ext H H := fun _ _ h => .inl h
theorem Ext.trans {A B C : Hp} (x : Ext A B) (y : Ext B C) : Ext A C := fun b o h => by
  rcases x b o h with h1 | ⟨h1, ps, h2⟩
  · exact y b o h1
  · rcases y b _ h2 with h3 | ⟨_, h3⟩
    · exact .inr ⟨h1, ps, h3⟩
    · exact .inr ⟨h1, h3⟩
theorem Ext.of {A B : Hp} (h : Sub A B) : Ext A B := fun b o e => .inl (h b o e)
theorem Ext.ne {A B : Hp} (x : Ext A B) {b : Addr} (h : A b ≠ none) : B b ≠ none := fun z => by
  cases e : A b with
  | none => exact h e
  | some o =>
    rcases x b o e with h1 | ⟨_, ps, h1⟩
    · rw [z] at h1; cases h1
    · rw [z] at h1; cases h1
theorem Ext.none {A B : Hp} (x : Ext A B) {b : Addr} (h : B b = none) : A b = none := by
  cases e : A b with
  | none => rfl
  | some o => exact absurd h (x.ne (by rw [e]; simp))
theorem Sub.refl (H : Hp) : Sub H H := fun _ _ h => h
theorem Sub.trans {A B C : Hp} (x : Sub A B) (y : Sub B C) : Sub A C := fun a o h => y a o (x a o h)
theorem Sub.rd {F H : Hp} {a : Addr} {u : HO} (h : Sub F H) (r : Rd F a u) : Rd H a u := by
  rcases r with r | ⟨o, r⟩
  · exact .inl (h _ _ r)
  · exact .inr ⟨o, h _ _ r⟩
theorem Sub.sqL {F H : Hp} {a : Addr} {xs : List V} (h : Sub F H) (r : SqL S.K F a xs) : SqL S.K H a xs := by
  rcases r with r | r
  · exact .inl (h.rd r)
  · exact .inr r
theorem Sub.sqT {F H : Hp} {a : Addr} {xs : List V} (h : Sub F H) (r : SqT S.K F a xs) : SqT S.K H a xs := by
  rcases r with r | r
  · exact .inl (h.rd r)
  · exact .inr r
theorem Ext.at {A B : Hp} (x : Ext A B) {b : Addr} {o : HO} (h : A b = some o) (n : ¬ isTbl o) : B b = some o := by
  rcases x b o h with e | ⟨z, _⟩
  · exact e
  · exact absurd z n
theorem Ext.rdL {F H : Hp} {a : Addr} {xs : List V} (h : Ext F H) (r : Rd F a (.lst xs)) : Rd H a (.lst xs) := by
  rcases r with r | ⟨o, r⟩
  · exact .inl (h.at r fun z => z)
  · exact .inr ⟨o, h.at r fun z => z⟩
theorem Sub.la {K : PySem.W.Frag} {F H : Hp} {a : Addr} {xs : List V} (h : Sub F H) (r : La K F a xs) : La K H a xs := by
  rcases r with r | r
  · exact .inl (h.rd r)
  · exact .inr r
theorem Ext.la {K : PySem.W.Frag} {F H : Hp} {a : Addr} {xs : List V} (h : Ext F H) (r : La K F a xs) : La K H a xs := by
  rcases r with r | r
  · exact .inl (h.rdL r)
  · exact .inr r
theorem Ext.sqT {F H : Hp} {a : Addr} {xs : List V} (h : Ext F H) (r : SqT S.K F a xs) : SqT S.K H a xs := by
  rcases r with (r | ⟨o, r⟩) | r
  · exact .inl (.inl (h.at r fun z => z))
  · exact .inl (.inr ⟨o, h.at r fun z => z⟩)
  · exact .inr r
mutual
theorem Rep.ext {F H : Hp} (h : Ext F H) : ∀ {t : T} {v : V}, Rep S F t v → Rep S H t v
  | .non, _, r => r
  | .bl _, _, r => r
  | .int _, _, r => r
  | .str _, _, r => r
  | .tup ts, _, r => by
    obtain ⟨a, vs, e, q, l, rs⟩ := r
    exact ⟨a, vs, e, h.sqT q, l, Reps.ext h rs⟩
  | .lst ts, _, r => by
    obtain ⟨a, vs, e, q, l, rs⟩ := r
    exact ⟨a, vs, e, h.la q, l, Reps.ext h rs⟩
  | .dct _, _, r => r
  | .fn _, _, r => r
  | .exc c, _, r => by
    obtain ⟨a, e, q⟩ := r
    exact ⟨a, e, h.at q fun z => z⟩
theorem Reps.ext {F H : Hp} (h : Ext F H) : ∀ {ts : List T} {vs : List V}, Reps S F ts vs → Reps S H ts vs
  | [], _, r => r
  | t :: ts, _, r => by
    obtain ⟨v, s, e, r1, r2⟩ := r
    exact ⟨v, s, e, Rep.ext h r1, Reps.ext h r2⟩
end
theorem Rep.mono {F H : Hp} (h : Sub F H) {t : T} {v : V} (r : Rep S F t v) : Rep S H t v := r.ext (.of h)
theorem Reps.mono {F H : Hp} (h : Sub F H) {ts : List T} {vs : List V} (r : Reps S F ts vs) : Reps S H ts vs := r.ext (.of h)
theorem Reps.length {H : Hp} : ∀ {ts : List T} {vs : List V}, Reps S H ts vs → ts.length = vs.length
  | [], _, r => by rw [show _ = ([] : List V) from r]; rfl
  | t :: ts, _, r => by
    obtain ⟨v, s, rfl, _, r2⟩ := r
    rw [List.length_cons, List.length_cons, Reps.length r2]
theorem Reps.get {H : Hp} : ∀ {ts : List T} {vs : List V} {i : Nat} {t : T}, Reps S H ts vs → ts[i]? = some t → ∃ v, vs[i]? = some v ∧ Rep S H t v
  | [], _, _, _, _, e => by simp at e
  | t :: ts, _, 0, u, r, e => by
    obtain ⟨v, s, rfl, r1, _⟩ := r
    have e' : t = u := by simpa using e
    exact ⟨v, rfl, e' ▸ r1⟩
  | t :: ts, _, i + 1, u, r, e => by
    obtain ⟨v, s, rfl, _, r2⟩ := r
    obtain ⟨v', h1, h2⟩ := Reps.get (i := i) r2 (by simpa using e)
    exact ⟨v', by simpa using h1, h2⟩
theorem Reps.append {H : Hp} : ∀ {ts us : List T} {vs ws : List V}, Reps S H ts vs → Reps S H us ws → Reps S H (ts ++ us) (vs ++ ws)
  | [], _, _, _, r, q => by rw [show _ = ([] : List V) from r]; exact q
  | t :: ts, _, _, _, r, q => by
    obtain ⟨v, s, rfl, r1, r2⟩ := r
    exact ⟨v, _, rfl, r1, Reps.append r2 q⟩
theorem Reps.one {H : Hp} {t : T} {v : V} (r : Rep S H t v) : Reps S H [t] [v] := ⟨v, [], rfl, r, rfl⟩
theorem Reps.drop {H : Hp} : ∀ (n : Nat) {ts : List T} {vs : List V}, Reps S H ts vs → Reps S H (ts.drop n) (vs.drop n)
  | 0, _, _, r => r
  | _ + 1, [], _, r => by rw [show _ = ([] : List V) from r]; rfl
  | n + 1, t :: ts, _, r => by
    obtain ⟨v, s, rfl, _, r2⟩ := r
    exact Reps.drop n r2
theorem Reps.take {H : Hp} : ∀ (n : Nat) {ts : List T} {vs : List V}, Reps S H ts vs → Reps S H (ts.take n) (vs.take n)
  | 0, _, _, r => rfl
  | _ + 1, [], _, r => by rw [show _ = ([] : List V) from r]; rfl
  | n + 1, t :: ts, _, r => by
    obtain ⟨v, s, rfl, r1, r2⟩ := r
    exact ⟨v, _, rfl, r1, Reps.take n r2⟩
theorem Reps.rev {H : Hp} : ∀ {ts : List T} {vs : List V}, Reps S H ts vs → Reps S H ts.reverse vs.reverse
  | [], _, r => by rw [show _ = ([] : List V) from r]; rfl
  | t :: ts, _, r => by
    obtain ⟨v, s, rfl, r1, r2⟩ := r
    rw [List.reverse_cons, List.reverse_cons]
    exact (Reps.rev r2).append (.one r1)
theorem Reps.set {H : Hp} : ∀ {ts : List T} {vs : List V} (n : Nat) {t : T} {v : V}, Reps S H ts vs → Rep S H t v → Reps S H (ts.set n t) (vs.set n v)
  | [], _, _, _, _, r, _ => by rw [show _ = ([] : List V) from r]; rfl
  | t :: ts, _, 0, _, _, r, q => by
    obtain ⟨v, s, rfl, r1, r2⟩ := r
    exact ⟨_, _, rfl, q, r2⟩
  | t :: ts, _, n + 1, _, _, r, q => by
    obtain ⟨v, s, rfl, r1, r2⟩ := r
    exact ⟨_, _, rfl, r1, Reps.set n r2 q⟩
theorem Reps.two {H : Hp} {t u : T} {v w : V} (r : Rep S H t v) (q : Rep S H u w) : Reps S H [t, u] [v, w] := ⟨v, _, rfl, r, .one q⟩
theorem Reps.flat {H : Hp} {ts : List T} {vs : List V} (r : Reps S H ts vs) : ∀ n : Nat, Reps S H (List.replicate n ts).flatten (List.replicate n vs).flatten
  | 0 => rfl
  | n + 1 => by
    rw [List.replicate_succ, List.replicate_succ, List.flatten_cons, List.flatten_cons]
    exact r.append (r.flat n)

/-- F: what stands for good; H: all that is tracked -/
structure Ok (S : Su) (F H : Hp) : Prop where
  sub : Sub F H
  nt : ∀ a o, F a = some o → ¬ isTbl o
  tab : LamX.Tabs S.tb H
structure Step (S : Su) (F H F' H' : Hp) : Prop where
  ff : Sub F F'
  hh : Ext H H'
  no : ∀ a, H a ≠ none → F a = none → F' a = none
  ok : Ok S F' H'
theorem Step.refl {F H : Hp} (o : Ok S F H) : Step S F H F H := ⟨.refl _, .refl _, fun _ _ h => h, o⟩
theorem Step.trans {F H F1 H1 F2 H2 : Hp} (x : Step S F H F1 H1) (y : Step S F1 H1 F2 H2) : Step S F H F2 H2 :=
  ⟨x.ff.trans y.ff, x.hh.trans y.hh, fun a h1 h2 => y.no a (x.hh.ne h1) (x.no a h1 h2), y.ok⟩
theorem sub_upd {H : Hp} {p : Addr} {o : HO} (h : H p = none) : Sub H (upd H p o) := fun a u e => by
  rw [upd_ne (ne_of_none e h)]
  exact e
theorem Sub.none {F H : Hp} (h : Sub F H) {p : Addr} (e : H p = none) : F p = none := by
  cases q : F p with
  | none => rfl
  | some o => rw [h p o q] at e; cases e
theorem sub_upd2 {F H : Hp} {p : Addr} {o : HO} (h : Sub F H) (e : F p = none) : Sub (upd F p o) (upd H p o) := fun a u q => by
  by_cases ha : a = p
  · subst ha
    rw [upd_same] at q ⊢
    exact q
  · rw [upd_ne ha] at q ⊢
    exact h a u q
theorem sub_updR {F H : Hp} {p : Addr} {o : HO} (h : Sub F H) (e : F p = none) : Sub F (upd H p o) := fun a u q => by
  rw [upd_ne (ne_of_none q e)]
  exact h a u q
/-- a new object, for good -/
theorem Step.new {F H : Hp} {p : Addr} {o : HO} (k : Ok S F H) (h : H p = none) (ho : ¬ isTbl o) : Step S F H (upd F p o) (upd H p o) where
  ff := sub_upd (k.sub.none h)
  hh := .of (sub_upd h)
  no := fun a h1 h2 => by rw [upd_ne (fun z => h1 (by rw [z]; exact h))]; exact h2
  ok := ⟨sub_upd2 k.sub (k.sub.none h), fun a u e => by
    by_cases ha : a = p
    · subst ha; rw [upd_same] at e; cases e; exact ho
    · rw [upd_ne ha] at e; exact k.nt a u e, k.tab.ext fun b u e => sub_upd h b u e⟩
/-- a new object, of the frame's own -/
theorem Step.newR {F H : Hp} {p : Addr} {o : HO} (k : Ok S F H) (h : H p = none) : Step S F H F (upd H p o) where
  ff := .refl _
  hh := .of (sub_upd h)
  no := fun _ _ h => h
  ok := ⟨sub_updR k.sub (k.sub.none h), k.nt, k.tab.ext fun b u e => sub_upd h b u e⟩

/-! ### slots -/
/-- a thing of the frame's own at a -/
def Own (S : Su) (F H : Hp) (a : Addr) : T → Prop
  | .lst ts => ∃ vs, H a = some (.lst vs) ∧ ts.length ≤ sizeLine ∧ Reps S F ts vs
  | _ => False
theorem Own.mono {F H F' H' : Hp} {a : Addr} (hf : Sub F F') (hh : H a = H' a) : ∀ {t : T}, Own S F H a t → Own S F' H' a t
  | .lst ts, ⟨vs, h1, h2, h3⟩ => ⟨vs, by rw [← hh]; exact h1, h2, h3.mono hf⟩
  | .non, h => h
  | .bl _, h => h
  | .int _, h => h
  | .str _, h => h
  | .tup _, h => h
  | .dct _, h => h
  | .fn _, h => h
  | .exc _, h => h
theorem Own.there {F H : Hp} {a : Addr} : ∀ {t : T}, Own S F H a t → ∃ o, H a = some o ∧ ¬ isTbl o
  | .lst ts, ⟨vs, h1, _⟩ => ⟨_, h1, fun z => z⟩
  | .non, h => h.elim
  | .bl _, h => h.elim
  | .int _, h => h.elim
  | .str _, h => h.elim
  | .tup _, h => h.elim
  | .dct _, h => h.elim
  | .fn _, h => h.elim
  | .exc _, h => h.elim
def CellOk (S : Su) (F H : Hp) (σ : St) (i : Nat) : Cell → Prop
  | .un => True
  | .sh t => ∃ v, σ[i]? = some (some v) ∧ Rep S F t v
  | .ow t => ∃ a, σ[i]? = some (some (.ref a)) ∧ F a = none ∧ Own S F H a t
structure EnvOk (S : Su) (F H : Hp) (σ : St) (env : Cells) : Prop where
  len : σ.length = env.length
  slot : ∀ i c, env[i]? = some c → CellOk S F H σ i c
theorem CellOk.step {F H F' H' : Hp} {σ : St} {i : Nat} (s : Step S F H F' H') : ∀ {c : Cell}, CellOk S F H σ i c → CellOk S F' H' σ i c
  | .un, _ => trivial
  | .sh t, ⟨v, h1, h2⟩ => ⟨v, h1, h2.mono s.ff⟩
  | .ow t, ⟨a, h1, h2, h3⟩ => by
    obtain ⟨o, e, ho⟩ := h3.there
    have e' : H' a = some o := by
      rcases s.hh a o e with q | ⟨q, _⟩
      · exact q
      · exact absurd q ho
    exact ⟨a, h1, s.no a (by rw [e]; simp) h2, h3.mono s.ff (e.trans e'.symm)⟩
theorem EnvOk.step {F H F' H' : Hp} {σ : St} {env : Cells} (e : EnvOk S F H σ env) (s : Step S F H F' H') : EnvOk S F' H' σ env := ⟨e.len, fun i c h => (e.slot i c h).step s⟩

/-! ### readings of expressions -/
/-- what is wanted behind an evaluation -/
def Post (S : Su) (W : WX) (F H : Hp) (σ : St) (r : Res T) (Q : VK) : Prop :=
  match r with
  | .ok t => ∀ v F' H', Step S F H F' H' → Rep S F' t v → Q v H'
  | .ex c => ∀ F' H', Step S F H F' H' → W (.ref (S.cA c)) none σ H'
  | .no => False
def PostA (S : Su) (W : WX) (F H : Hp) (σ : St) (r : Res (List T)) (Q : List V → Hp → Prop) : Prop :=
  match r with
  | .ok ts => ∀ vs F' H', Step S F H F' H' → Reps S F' ts vs → Q vs H'
  | .ex c => ∀ F' H', Step S F H F' H' → W (.ref (S.cA c)) none σ H'
  | .no => False
def PostT (S : Su) (W : WX) (F H : Hp) (σ : St) (r : Res Bool) (Q : Bool → Hp → Prop) : Prop :=
  match r with
  | .ok b => ∀ F' H', Step S F H F' H' → Q b H'
  | .ex c => ∀ F' H', Step S F H F' H' → W (.ref (S.cA c)) none σ H'
  | .no => False
/-- behind an evaluation in general: P is told of the value and the heaps -/
def PostG {α : Type} (S : Su) (W : WX) (F H : Hp) (σ : St) (r : Res α) (k : α → Hp → Hp → Prop) : Prop :=
  match r with
  | .ok a => ∀ F' H', Step S F H F' H' → k a F' H'
  | .ex c => ∀ F' H', Step S F H F' H' → W (.ref (S.cA c)) none σ H'
  | .no => False
/-- at a state: heaps and slots as told -/
def At (S : Su) (σ : St) (H : Hp) (k : Hp → Cells → Prop) : Prop := ∃ F env, Ok S F H ∧ EnvOk S F H σ env ∧ k F env
def dE (S : Su) (W : WX) (f : Cells → Res T) : TE := fun σ H Q => At S σ H fun F env => PostG S W F H σ (f env) fun t F' H' => ∀ v, Rep S F' t v → Q v H'
def dA (S : Su) (W : WX) (f : Cells → Res (List T)) : TA := fun σ H Q => At S σ H fun F env => PostG S W F H σ (f env) fun ts F' H' => ∀ vs, Reps S F' ts vs → Q vs H'
def dT (S : Su) (W : WX) (f : Cells → Res Bool) : TT := fun σ H Q => At S σ H fun F env => PostG S W F H σ (f env) fun b F' H' => Q b H'
/-- the value may be one of the frame's own: told as it stands in H' -/
def dB (S : Su) (W : WX) (f : Cells → Res T) : TE := fun σ H Q => At S σ H fun F env => PostG S W F H σ (f env) fun t F' H' => ∀ v, Rep S H' t v → Q v H'
/-- a new thing of the frame's own -/
def dN (S : Su) (W : WX) (f : Cells → Res T) : TE := fun σ H Q => At S σ H fun F env => PostG S W F H σ (f env) fun t F' H' => ∀ a, H a = none → F' a = none → Own S F' H' a t → Q (.ref a) H'

section
variable {W : WX} {F H F1 H1 : Hp} {σ : St} {env : Cells}
theorem PostG.step {α : Type} {r : Res α} {k : α → Hp → Hp → Prop} (s : Step S F H F1 H1) (p : PostG S W F H σ r k) : PostG S W F1 H1 σ r k := by
  cases r with
  | ok a => exact fun F' H' s' => p F' H' (s.trans s')
  | ex c => exact fun F' H' s' => p F' H' (s.trans s')
  | no => exact p
theorem PostG.imp {α : Type} {r : Res α} {k k' : α → Hp → Hp → Prop} (p : PostG S W F H σ r k) (h : ∀ a F' H', Step S F H F' H' → k a F' H' → k' a F' H') : PostG S W F H σ r k' := by
  cases r with
  | ok a => exact fun F' H' s' => h a F' H' s' (p F' H' s')
  | ex c => exact p
  | no => exact p
/-- one evaluation, then another -/
theorem PostG.split {α β : Type} {r : Res α} {g : α → Res β} {k : β → Hp → Hp → Prop} (p : PostG S W F H σ (r.bind g) k) :
    PostG S W F H σ r fun a F' H' => PostG S W F' H' σ (g a) k := by
  cases r with
  | ok a => exact fun F' H' s => PostG.step s p
  | ex c => exact p
  | no => exact p
theorem PostG.no_ex {α : Type} {r : Res α} {k : α → Hp → Hp → Prop} (p : PostG S W F H σ r.noex k) {W' : WX} {σ' : St} : PostG S W' F H σ' r.noex k := by
  cases r with
  | ok a => exact p
  | ex c => exact p
  | no => exact p
theorem PostG.of_noex {α : Type} {r : Res α} {k : α → Hp → Hp → Prop} (p : PostG S W F H σ r.noex k) : PostG S W F H σ r k := by
  cases r with
  | ok a => exact p
  | ex c => exact (show False from p).elim
  | no => exact p
/-- a value that is told at once -/
theorem PostG.ok' {α : Type} {a : α} {k : α → Hp → Hp → Prop} (o : Ok S F H) (p : PostG S W F H σ (.ok a) k) : k a F H := p F H (.refl o)
end

/-! ### rules for weaker readings -/
theorem _root_.L2.PE.imp {X : Cx} {e : Expr} {t t' : TE} (h : PE X e t) (i : ∀ σ H Q, t' σ H Q → t σ H Q) : PE X e t' := ⟨fun pins s σ H Q I q => h.run pins s σ H Q I (i σ H Q q)⟩
theorem _root_.L2.PT.imp {X : Cx} {e : Expr} {t t' : TT} (h : PT X e t) (i : ∀ σ H Q, t' σ H Q → t σ H Q) : PT X e t' := ⟨fun pins s σ H Q I q => h.run pins s σ H Q I (i σ H Q q)⟩
theorem _root_.L2.PW.imp {X : Cx} {e : Expr} {t t' : TT} (h : PW X e t) (i : ∀ σ H Q, t' σ H Q → t σ H Q) : PW X e t' := ⟨fun wh pins s σ H Q I q => h.run wh pins s σ H Q I (i σ H Q q)⟩
theorem _root_.L2.PA.imp {X : Cx} {es : List Expr} {t t' : TA} (h : PA X es t) (i : ∀ σ H Q, t' σ H Q → t σ H Q) : PA X es t' := ⟨fun pos pins s σ H Q I q => h.run pos pins s σ H Q I (i σ H Q q)⟩
theorem _root_.L2.PS.imp {X : Cx} {st : Stmt} {t t' : TS} (h : PS X st t) (i : ∀ D σ H, t' D σ H → t D σ H) : PS X st t' := ⟨fun pins s σ H D I q => h.run pins s σ H D I (i D σ H q)⟩
theorem _root_.L2.PSs.imp {X : Cx} {st : List Stmt} {t t' : TS} (h : PSs X st t) (i : ∀ D σ H, t' D σ H → t D σ H) : PSs X st t' := ⟨fun pins s σ H D I q => h.run pins s σ H D I (i D σ H q)⟩
end Fz

/-! the operators, by values -/
namespace Fz
open PySem PySem.Spec L2
open PyProof.Rows hiding St

variable {S : Su}
/-- a two-place operation as the evaluator has it: what stands for good is told by F -/
def rOf (S : Su) (g : T → T → Res T) : R2 := fun x y H Q => ∃ F a b t, Ok S F H ∧ Rep S F a x ∧ Rep S F b y ∧ g a b = .ok t ∧ ∀ v F' H', Step S F H F' H' → Rep S F' t v → Q v H'
def r1Of (S : Su) (g : T → Res T) : V → Hp → VK → Prop := fun x H Q => ∃ F a t, Ok S F H ∧ Rep S F a x ∧ g a = .ok t ∧ ∀ v F' H', Step S F H F' H' → Rep S F' t v → Q v H'
/-- a comparison -/
def rCo (S : Su) (g : T → T → Res T) : R2 := fun x y H Q => ∃ a b k, Rep S H a x ∧ Rep S H b y ∧ g a b = .ok (.bl k) ∧ Q (.bl k) H

section
variable {X : Cx} {pins : List (Addr × Obj)} {σ : St} {H : Hp} {s : Shared}
theorem _root_.L2.Inv.lstR {a : Addr} {xs : List V} (I : Inv X pins σ H s) (r : La X.K H a xs) :
    xs.length ≤ sizeLine ∧ ∃ (its : List Value) (n : Nat), Vals xs its ∧ xs.length = its.length ∧ s.heap.get? a = some { cls := .type "list", data := .seq its.toArray n } := by
  rcases r with r | ⟨its, n, h1, h2, h3⟩
  · obtain ⟨z, its, n, q, e⟩ := r.ok I.hok
    exact ⟨z, its, n, q, q.length, e⟩
  · exact ⟨h2, its, n, h3, h3.length, I.kIn a _ h1⟩
end

theorem sizeM {n : Nat} (h : n ≤ SZ) : n ≤ sizeLine := Nat.le_trans h (by decide)
/-- a value that was there -/
theorem Post.there {F H : Hp} {t : T} {v : V} {Q : VK} (o : Ok S F H) (r : Rep S F t v) (h : ∀ v F' H', Step S F H F' H' → Rep S F' t v → Q v H') : Q v H := h v F H (.refl o) r
/-- a new tuple, a new list, for good -/
theorem Post.tup {F H : Hp} {ts : List T} {vs : List V} {Q : VK} (o : Ok S F H) (r : Reps S F ts vs) (l : ts.length ≤ sizeLine) (h : ∀ v F' H', Step S F H F' H' → Rep S F' (.tup ts) v → Q v H') : ∀ p, H p = none → Q (.ref p) (upd H p (.tup vs)) := fun p hp =>
  h (.ref p) (upd F p (.tup vs)) _ (.new o hp fun z => z) ⟨p, vs, rfl, .inl (.inl upd_same), l, r.mono (sub_upd (o.sub.none hp))⟩
theorem Post.lst {F H : Hp} {ts : List T} {vs : List V} {Q : VK} (o : Ok S F H) (r : Reps S F ts vs) (l : ts.length ≤ sizeLine) (h : ∀ v F' H', Step S F H F' H' → Rep S F' (.lst ts) v → Q v H') : ∀ p, H p = none → Q (.ref p) (upd H p (.lst vs)) := fun p hp =>
  h (.ref p) (upd F p (.lst vs)) _ (.new o hp fun z => z) ⟨p, vs, rfl, .inl (.inl upd_same), l, r.mono (sub_upd (o.sub.none hp))⟩

theorem mulOk_W {i j : Int} (h : mulOk i j = true) : CMulW i j ∨ CMul i j := by
  unfold mulOk at h
  simp only [Bool.or_eq_true, decide_eq_true_eq] at h
  rcases h with (⟨h1, h2⟩ | h) | h
  · exact .inl (wide_mul h1 h2 (by decide) (by decide) (by decide))
  · refine .inr (.inl ?_)
    have : (2 : Nat) ^ 63 < 2 ^ 64 := by decide
    have e : ((2 : Int) ^ 64) = ((2 ^ 64 : Nat) : Int) := by decide
    omega
  · refine .inr (.inr ?_)
    have : (2 : Nat) ^ 63 < 2 ^ 64 := by decide
    have e : ((2 : Int) ^ 64) = ((2 ^ 64 : Nat) : Int) := by decide
    omega

section
variable {X : Cx}
theorem o_add (hK : X.K = S.K) : OpR X (binaryOp .Add) (rOf S (binop .add)) := by
  intro pins s σ H x y v u Q I rx ry h
  obtain ⟨F, a, b, t, o, ra, rb, e, q⟩ := h
  cases a with
  | int i =>
    cases b with
    | int j =>
      cases e
      exact op_add pins s σ H x y v u Q I rx ry ⟨i, j, ra, rb, q _ F H (.refl o) rfl⟩
    | _ => cases e
  | str i =>
    cases b with
    | str j =>
      simp only [binop] at e
      split at e
      · rename_i hz
        cases e
        exact op_add_str pins s σ H x y v u Q I rx ry ⟨i, j, ra, rb, sizeM hz, q _ F H (.refl o) rfl⟩
      · cases e
    | _ => cases e
  | tup xs =>
    cases b with
    | tup ys =>
      simp only [binop] at e
      split at e
      · rename_i hz
        cases e
        obtain ⟨p1, vs, e1, q1, l1, r1⟩ := ra
        obtain ⟨p2, ws, e2, q2, l2, r2⟩ := rb
        have n1 := r1.length
        have n2 := r2.length
        refine op_catA pins s σ H x y v u Q I rx ry ⟨p1, p2, vs, ws, e1, e2, hK ▸ o.sub.sqT q1, hK ▸ o.sub.sqT q2, by rw [← n1, ← n2]; exact sizeM hz, fun z => ?_, fun _ z => ?_, fun _ _ => ?_⟩
        · have z' : xs = [] := List.length_eq_zero_iff.mp (by rw [n1, z]; rfl)
          subst z'
          exact q _ F H (.refl o) ⟨p2, ws, rfl, q2, l2, r2⟩
        · have z' : ys = [] := List.length_eq_zero_iff.mp (by rw [n2, z]; rfl)
          subst z'
          rw [List.append_nil] at q
          exact q _ F H (.refl o) ⟨p1, vs, rfl, q1, l1, r1⟩
        · exact Post.tup o (r1.append r2) (by rw [List.length_append]; exact sizeM hz) q
      · cases e
    | _ => cases e
  | lst xs =>
    cases b with
    | lst ys =>
      simp only [binop] at e
      split at e
      · rename_i hz
        cases e
        obtain ⟨p1, vs, rfl, q1, l1, r1⟩ := ra
        obtain ⟨p2, ws, rfl, q2, l2, r2⟩ := rb
        cases rx
        cases ry
        obtain ⟨z1, its, n, k1, hl, e1⟩ := I.lstR (hK ▸ o.sub.la q1)
        obtain ⟨z2, its2, n2, k2, hl2, e2⟩ := I.lstR (hK ▸ o.sub.la q2)
        have m1 := r1.length
        have m2 := r2.length
        have hz' := sizeM hz
        refine PySem.P.add_list e1 e2 ?_ (by simp only [List.size_toArray]; omega)
        rw [List.append_toArray]
        exact ⟨.ref _, _, I.lnew (t' := s.toks) (k1.append k2) (by rw [List.length_append]; omega), rfl, Post.lst o (r1.append r2) (by rw [List.length_append]; exact hz') q _ I.fresh⟩
      · cases e
    | _ => cases e
  | _ => cases e
theorem o_sub : OpR X (binaryOp .Sub) (rOf S (binop .sub)) := by
  intro pins s σ H x y v u Q I rx ry h
  obtain ⟨F, a, b, t, o, ra, rb, e, q⟩ := h
  cases a <;> cases b <;> first | cases e; done | skip
  cases e
  exact op_sub pins s σ H x y v u Q I rx ry ⟨_, _, ra, rb, q _ F H (.refl o) rfl⟩
/-- any divisor of a size -/
def CDivA (_ j : Int) : Prop := j ≠ 0 ∧ j.natAbs.log2 < 9000
theorem op_fdivA : OpR X (binaryOp .FloorDiv) (rI CDivA fun i j => .int (i.fdiv j)) := opI fun _ _ _ _ _ _ _ hc q => floordiv_int hc.1 q (.inl (PyProof.noPylong_of_log2 hc.2))
theorem o_fdiv : OpR X (binaryOp .FloorDiv) (rOf S (binop .fdiv)) := by
  intro pins s σ H x y v u Q I rx ry h
  obtain ⟨F, a, b, t, o, ra, rb, e, q⟩ := h
  cases a <;> cases b <;> first | cases e; done | skip
  rename_i i j
  simp only [binop] at e
  split at e
  · rename_i hz
    cases e
    unfold divOk at hz
    simp only [decide_eq_true_eq] at hz
    exact op_fdivA pins s σ H x y v u Q I rx ry ⟨_, _, ra, rb, ⟨hz.1, Nat.lt_of_lt_of_le (PySem.Flt.log2_lt_of (by decide) hz.2) (by decide)⟩, q _ F H (.refl o) rfl⟩
  · cases e
theorem o_mod : OpR X (binaryOp .Mod) (rOf S (binop .mod)) := by
  intro pins s σ H x y v u Q I rx ry h
  obtain ⟨F, a, b, t, o, ra, rb, e, q⟩ := h
  cases a <;> cases b <;> first | cases e; done | skip
  simp only [binop] at e
  split at e
  · cases e
  · rename_i hz
    cases e
    exact op_modN pins s σ H x y v u Q I rx ry ⟨_, _, ra, rb, hz, q _ F H (.refl o) rfl⟩
/-- a tuple so many times -/
theorem o_mul (hK : X.K = S.K) : OpR X (binaryOp .Mult) (rOf S (binop .mul)) := by
  intro pins s σ H x y v u Q I rx ry h
  obtain ⟨F, a, b, t, o, ra, rb, e, q⟩ := h
  cases a with
  | int i =>
    cases b with
    | int j =>
      simp only [binop] at e
      split at e
      · rename_i hz
        cases e
        rcases mulOk_W hz with hz | hz
        · exact op_mulW pins s σ H x y v u Q I rx ry ⟨_, _, ra, rb, hz, q _ F H (.refl o) rfl⟩
        · exact op_mul pins s σ H x y v u Q I rx ry ⟨_, _, ra, rb, hz, q _ F H (.refl o) rfl⟩
      · cases e
    | _ => cases e
  | _ => cases b <;> cases e
/-! ### comparisons -/
mutual
def datT : T → PyData
  | .non => .none
  | .bl b => .bool b
  | .int i => .int i
  | .str x => .str x
  | .tup xs => .tuple (datTs xs)
  | .lst xs => .list (datTs xs)
  | _ => .none
def datTs : List T → List PyData
  | [] => []
  | x :: xs => datT x :: datTs xs
end
mutual
theorem Rep.dp {H : Hp} : ∀ (t : T) (n : Nat) {v : V}, t.plain n = true → Rep S H t v → Dp S.K H v (datT t)
  | .non, _, _, _, r => by rw [show _ = V.non from r]; exact .non
  | .bl b, _, _, _, r => by rw [show _ = V.bl b from r]; exact .bl b
  | .int i, _, _, _, r => by rw [show _ = V.int i from r]; exact .int i
  | .str x, _, _, _, r => by rw [show _ = V.str x from r]; exact .str x
  | .tup xs, 0, _, h, _ => by simp [T.plain] at h
  | .tup xs, n + 1, _, h, r => by
    obtain ⟨a, vs, rfl, q, _, rs⟩ := r
    exact .tup q (Reps.dp xs n (by simpa [T.plain] using h) rs)
  | .lst xs, 0, _, h, _ => by simp [T.plain] at h
  | .lst xs, n + 1, _, h, r => by
    obtain ⟨a, vs, rfl, q, _, rs⟩ := r
    exact .lst q.sq (Reps.dp xs n (by simpa [T.plain] using h) rs)
  | .dct _, _, _, h, _ => by simp [T.plain] at h
  | .fn _, _, _, h, _ => by simp [T.plain] at h
  | .exc _, _, _, h, _ => by simp [T.plain] at h
theorem Reps.dp {H : Hp} : ∀ (ts : List T) (n : Nat) {vs : List V}, T.plains ts n = true → Reps S H ts vs → DpAll S.K H vs (datTs ts)
  | [], _, _, _, r => by rw [show _ = ([] : List V) from r]; exact .nil
  | t :: ts, n, _, h, r => by
    obtain ⟨v, w, rfl, r1, r2⟩ := r
    have h' : t.plain n = true ∧ T.plains ts n = true := by simpa [T.plains] using h
    exact .cons (Rep.dp t n h'.1 r1) (Reps.dp ts n h'.2 r2)
end
mutual
theorem lay_of : ∀ (t : T) (n : Nat), t.plain n = true → (datT t).canLay0 = true ∧ (datT t).depth ≤ n + 1
  | .non, _, _ => ⟨rfl, by simp [datT, PyData.depth]⟩
  | .bl b, _, _ => ⟨rfl, by simp [datT, PyData.depth]⟩
  | .int i, _, _ => ⟨rfl, by simp [datT, PyData.depth]⟩
  | .str x, _, h => ⟨h, by simp [datT, PyData.depth]⟩
  | .tup xs, 0, h => by simp [T.plain] at h
  | .tup xs, n + 1, h => by
    have := lay_ofs xs n (by simpa [T.plain] using h)
    exact ⟨this.1, by simp only [datT, PyData.depth]; omega⟩
  | .lst xs, 0, h => by simp [T.plain] at h
  | .lst xs, n + 1, h => by
    have := lay_ofs xs n (by simpa [T.plain] using h)
    exact ⟨this.1, by simp only [datT, PyData.depth]; omega⟩
  | .dct _, _, h => by simp [T.plain] at h
  | .fn _, _, h => by simp [T.plain] at h
  | .exc _, _, h => by simp [T.plain] at h
theorem lay_ofs : ∀ (ts : List T) (n : Nat), T.plains ts n = true → PyData.canLayAll0 (datTs ts) = true ∧ PyData.depthAll (datTs ts) ≤ n + 1
  | [], _, _ => ⟨rfl, by simp [datTs, PyData.depthAll]⟩
  | t :: ts, n, h => by
    have h' : t.plain n = true ∧ T.plains ts n = true := by simpa [T.plains] using h
    have h1 := lay_of t n h'.1
    have h2 := lay_ofs ts n h'.2
    exact ⟨by simp [datTs, PyData.canLayAll0, h1.1, h2.1], by simp only [datTs, PyData.depthAll]; omega⟩
end
mutual
theorem eqv_of : ∀ (a b : T) (n m : Nat), a.plain n = true → b.plain m = true → PyData.eqv (datT a) (datT b) = T.eqv a b
  | .non, b, _, _, _, hb => by cases b <;> first | rfl | simp [T.plain] at hb
  | .bl _, b, _, _, _, hb => by cases b <;> first | rfl | simp [T.plain] at hb
  | .int _, b, _, _, _, hb => by cases b <;> first | rfl | simp [T.plain] at hb
  | .str _, b, _, _, _, hb => by cases b <;> first | rfl | simp [T.plain] at hb
  | .tup xs, .tup ys, 0, _, h, _ => by simp [T.plain] at h
  | .tup xs, .tup ys, _, 0, _, h => by simp [T.plain] at h
  | .tup xs, .tup ys, n + 1, m + 1, ha, hb => by
    simp only [datT, PyData.eqv, T.eqv]
    exact eqvs_of xs ys n m (by simpa [T.plain] using ha) (by simpa [T.plain] using hb)
  | .lst xs, .lst ys, 0, _, h, _ => by simp [T.plain] at h
  | .lst xs, .lst ys, _, 0, _, h => by simp [T.plain] at h
  | .lst xs, .lst ys, n + 1, m + 1, ha, hb => by
    simp only [datT, PyData.eqv, T.eqv]
    exact eqvs_of xs ys n m (by simpa [T.plain] using ha) (by simpa [T.plain] using hb)
  | .tup xs, .non, _, _, _, _ => rfl
  | .tup xs, .bl _, _, _, _, _ => rfl
  | .tup xs, .int _, _, _, _, _ => rfl
  | .tup xs, .str _, _, _, _, _ => rfl
  | .tup xs, .lst _, _, _, _, _ => rfl
  | .tup xs, .dct _, _, _, _, h => by simp [T.plain] at h
  | .tup xs, .fn _, _, _, _, h => by simp [T.plain] at h
  | .tup xs, .exc _, _, _, _, h => by simp [T.plain] at h
  | .lst xs, .non, _, _, _, _ => rfl
  | .lst xs, .bl _, _, _, _, _ => rfl
  | .lst xs, .int _, _, _, _, _ => rfl
  | .lst xs, .str _, _, _, _, _ => rfl
  | .lst xs, .tup _, _, _, _, _ => rfl
  | .lst xs, .dct _, _, _, _, h => by simp [T.plain] at h
  | .lst xs, .fn _, _, _, _, h => by simp [T.plain] at h
  | .lst xs, .exc _, _, _, _, h => by simp [T.plain] at h
  | .dct _, _, _, _, h, _ => by simp [T.plain] at h
  | .fn _, _, _, _, h, _ => by simp [T.plain] at h
  | .exc _, _, _, _, h, _ => by simp [T.plain] at h
theorem eqvs_of : ∀ (xs ys : List T) (n m : Nat), T.plains xs n = true → T.plains ys m = true → PyData.eqvAll (datTs xs) (datTs ys) = T.eqvs xs ys
  | [], [], _, _, _, _ => rfl
  | [], _ :: _, _, _, _, _ => rfl
  | _ :: _, [], _, _, _, _ => rfl
  | x :: xs, y :: ys, n, m, ha, hb => by
    have ha' : x.plain n = true ∧ T.plains xs n = true := by simpa [T.plains] using ha
    have hb' : y.plain m = true ∧ T.plains ys m = true := by simpa [T.plains] using hb
    simp only [datTs, PyData.eqvAll, T.eqvs, eqv_of x y n m ha'.1 hb'.1, eqvs_of xs ys n m ha'.2 hb'.2]
end
theorem shaped_of {t : T} (h : t.plain 60 = true) : SeqAt.shaped (datT t) = true := by
  obtain ⟨h1, h2⟩ := lay_of t 60 h
  unfold SeqAt.shaped
  rw [h1, Bool.true_and, decide_eq_true_eq]
  omega
theorem c_eq {k : Nat} (hK : X.K = S.K) (hr : Room k X.A) : OpR X (compareOp .Eq) (rCo S (cmpT .eq)) := by
  intro pins s σ H x y v u Q I rx ry h
  obtain ⟨a, b, t, ra, rb, e, q⟩ := h
  simp only [cmpT] at e
  split at e
  · rename_i hp
    rw [Bool.and_eq_true] at hp
    cases e
    exact op_eqD hr.units pins s σ H x y v u Q I rx ry ⟨datT a, datT b, hK ▸ ra.dp a 60 hp.1, hK ▸ rb.dp b 60 hp.2, shaped_of hp.1, shaped_of hp.2, by rw [eqv_of a b 60 60 hp.1 hp.2]; exact q⟩
  · cases e
theorem c_ne {k : Nat} (hK : X.K = S.K) (hr : Room k X.A) : OpR X (compareOp .NotEq) (rCo S (cmpT .ne)) := by
  intro pins s σ H x y v u Q I rx ry h
  obtain ⟨a, b, t, ra, rb, e, q⟩ := h
  simp only [cmpT] at e
  split at e
  · rename_i hp
    rw [Bool.and_eq_true] at hp
    cases e
    exact op_neD hr.units pins s σ H x y v u Q I rx ry ⟨datT a, datT b, hK ▸ ra.dp a 60 hp.1, hK ▸ rb.dp b 60 hp.2, shaped_of hp.1, shaped_of hp.2, by rw [eqv_of a b 60 60 hp.1 hp.2]; exact q⟩
  · cases e
theorem c_lt : OpR X (compareOp .Lt) (rCo S (cmpT .lt)) := by
  intro pins s σ H x y v u Q I rx ry h
  obtain ⟨a, b, t, ra, rb, e, q⟩ := h
  cases a <;> cases b <;> first | cases e; done | skip
  cases e
  exact op_lt pins s σ H x y v u Q I rx ry ⟨_, _, ra, rb, q⟩
theorem c_le : OpR X (compareOp .LtE) (rCo S (cmpT .le)) := by
  intro pins s σ H x y v u Q I rx ry h
  obtain ⟨a, b, t, ra, rb, e, q⟩ := h
  cases a <;> cases b <;> first | cases e; done | skip
  cases e
  exact op_le pins s σ H x y v u Q I rx ry ⟨_, _, ra, rb, q⟩
theorem c_gt : OpR X (compareOp .Gt) (rCo S (cmpT .gt)) := by
  intro pins s σ H x y v u Q I rx ry h
  obtain ⟨a, b, t, ra, rb, e, q⟩ := h
  cases a <;> cases b <;> first | cases e; done | skip
  cases e
  exact op_gt pins s σ H x y v u Q I rx ry ⟨_, _, ra, rb, q⟩
theorem c_ge : OpR X (compareOp .GtE) (rCo S (cmpT .ge)) := by
  intro pins s σ H x y v u Q I rx ry h
  obtain ⟨a, b, t, ra, rb, e, q⟩ := h
  cases a <;> cases b <;> first | cases e; done | skip
  cases e
  exact op_ge pins s σ H x y v u Q I rx ry ⟨_, _, ra, rb, q⟩
theorem Rep.isN {H : Hp} {a : T} {x : V} {k : Bool} (r : Rep S H a x) (e : isSame a .non = .ok k) : decide (x = .non) = k := by
  cases a with
  | non => cases e; rw [show x = _ from r]; rfl
  | bl _ => cases e; rw [show x = _ from r]; rfl
  | int _ => cases e; rw [show x = _ from r]; rfl
  | str _ => cases e; rw [show x = _ from r]; rfl
  | tup _ => cases e; obtain ⟨_, _, rfl, _⟩ := r; rfl
  | lst _ => cases e; obtain ⟨_, _, rfl, _⟩ := r; rfl
  | exc _ => cases e; obtain ⟨_, rfl, _⟩ := r; rfl
  | _ => cases e
theorem c_is : OpR X (compareOp .Is) (rCo S (cmpT .is)) := by
  intro pins s σ H x y v u Q I rx ry h
  obtain ⟨a, b, t, ra, rb, e, q⟩ := h
  cases b with
  | non =>
    cases e1 : isSame a .non with
    | ok k =>
      simp only [cmpT, e1, Res.bind] at e
      cases e
      exact op_isN pins s σ H x y v u Q I rx ry ⟨rb, by rw [ra.isN e1]; exact q⟩
    | ex c => simp only [cmpT, e1, Res.bind] at e; cases e
    | no => simp only [cmpT, e1, Res.bind] at e; cases e
  | bl j =>
    cases a <;> first | cases e; done | skip
    cases e
    exact op_isBl pins s σ H x y v u Q I rx ry ⟨_, _, ra, rb, q⟩
  | _ => cases a <;> cases e
theorem c_isNot : OpR X (compareOp .IsNot) (rCo S (cmpT .isNot)) := by
  intro pins s σ H x y v u Q I rx ry h
  obtain ⟨a, b, t, ra, rb, e, q⟩ := h
  cases b with
  | non =>
    cases e1 : isSame a .non with
    | ok k =>
      simp only [cmpT, e1, Res.bind] at e
      cases e
      exact op_notN pins s σ H x y v u Q I rx ry ⟨rb, by rw [ra.isN e1]; exact q⟩
    | ex c => simp only [cmpT, e1, Res.bind] at e; cases e
    | no => simp only [cmpT, e1, Res.bind] at e; cases e
  | bl j =>
    cases a <;> first | cases e; done | skip
    cases e
    exact op_notBl pins s σ H x y v u Q I rx ry ⟨_, _, ra, rb, q⟩
  | _ => cases a <;> cases e
end
end Fz

/-! expressions, construct by construct -/
namespace Fz
open PySem PySem.Spec L2
open PyProof.Rows hiding St

variable {S : Su}
/-- a context of the evaluator's -/
structure Good (S : Su) (c : TC) (k : Nat) (X : Cx) (sc so : Scope) : Prop where
  hP : X.prog = S.P
  hw : X.w = S.w
  hK : X.K = S.K
  hmg : X.mg = S.mg
  hb : X.base = S.base
  hN : X.N = c.N
  nd : X.N.Nodup
  sc : X.env.scope = sc
  calm : X.calm = true
  room : Room k X.A
  fn : ∀ x, so.names.lookup x = some .cell → X.fn x = true

theorem ixOf_get : ∀ {x : Str} {N : List Str} {k i : Nat}, ixOf x N k = some i → k ≤ i ∧ N[i - k]? = some x
  | _, [], _, _, h => by cases h
  | x, y :: ys, k, i, h => by
    unfold ixOf at h
    split at h
    · rename_i e
      cases h
      exact ⟨Nat.le_refl _, by rw [Nat.sub_self, e]; rfl⟩
    · obtain ⟨h1, h2⟩ := ixOf_get h
      refine ⟨by omega, ?_⟩
      rw [show i - k = (i - (k + 1)) + 1 by omega]
      exact h2
theorem ixOf_at {x : Str} {N : List Str} {i : Nat} (h : ixOf x N 0 = some i) : N[i]? = some x := (ixOf_get h).2
theorem visB_of {X : Cx} {x : Str} (h : visB X.env.scope x = true) : Vis X.env.scope x := by
  unfold visB at h
  split at h
  · exact .inl (by assumption)
  · exact .inr (.inl (by assumption))
  · exact .inr (.inr (by assumption))
  · cases h
theorem glB_of {X : Cx} {x : Str} (h : glB X.env.scope x = true) : Gl X x := by
  unfold glB at h
  split at h
  · assumption
  · cases h
theorem okName_of {x : Str} (h : okName x = true) : (x == ("__debug__" : Str)) = false ∧ (x == ("__classdict__" : Str)) = false ∧ x ≠ "__name__" := by
  unfold okName at h
  simp only [Bool.and_eq_true, Bool.not_eq_true'] at h
  exact ⟨h.1.1, h.1.2, fun e => by rw [e] at h; simp at h⟩

section
variable {X : Cx} {W : WX} {F : Fns} {c : TC} {sc so : Scope} {k : Nat}
theorem EnvOk.rd {F H : Hp} {σ : St} {env : Cells} {i : Nat} {t : T} (e : EnvOk S F H σ env) (h : rd env i = .ok t) : ∃ v, σ[i]? = some (some v) ∧ Rep S F t v := by
  unfold Fz.rd at h
  split at h
  · rename_i u q
    cases h
    exact e.slot i _ q
  · cases h
theorem EnvOk.rdAny {F H : Hp} {σ : St} {env : Cells} {i : Nat} {t : T} (o : Ok S F H) (e : EnvOk S F H σ env) (h : rdAny env i = .ok t) : ∃ v, σ[i]? = some (some v) ∧ Rep S H t v := by
  unfold Fz.rdAny at h
  split at h
  · rename_i u q
    cases h
    obtain ⟨v, h1, h2⟩ := e.slot i _ q
    exact ⟨v, h1, h2.mono o.sub⟩
  · rename_i u q
    cases h
    obtain ⟨a, h1, h2, h3⟩ := e.slot i _ q
    cases t with
    | lst ts =>
      obtain ⟨vs, g1, g2, g3⟩ := h3
      exact ⟨_, h1, a, vs, rfl, .inl (.inl g1), g2, g3.mono o.sub⟩
    | _ => exact h3.elim
  · cases h
theorem rd_no {env : Cells} {i c : Nat} (h : rd env i = .ex c) : False := by
  unfold rd at h; split at h <;> cases h
theorem rdAny_no {env : Cells} {i c : Nat} (h : rdAny env i = .ex c) : False := by
  unfold rdAny at h; split at h <;> cases h

theorem e_var {i : Nat} {x : Str} {pos : Pos} (g : Good S c k X sc so) (hv : visB sc x = true) (hn : okName x = true) (hi : ixOf x c.N 0 = some i) : PE X (.Name x pos) (dE S W (ev F (.var i))) := by
  obtain ⟨n1, n2, _⟩ := okName_of hn
  refine L2.PE.imp (pe_var (i := i) (by rw [g.hN]; exact ixOf_at hi) (visB_of (by rw [g.sc]; exact hv)) n1 n2) fun σ H Q h => ?_
  obtain ⟨E, env, o, eo, p⟩ := h
  simp only [ev] at p
  cases e : rd env i with
  | ok t =>
    rw [e] at p
    obtain ⟨v, h1, h2⟩ := eo.rd e
    exact ⟨v, h1, p.ok' o v h2⟩
  | ex d => exact (rd_no e).elim
  | no => rw [e] at p; exact p.elim
theorem b_var {i : Nat} {x : Str} {pos : Pos} (g : Good S c k X sc so) (hv : visB sc x = true) (hn : okName x = true) (hi : ixOf x c.N 0 = some i) : PE X (.Name x pos) (dB S W (fun env => rdAny env i)) := by
  obtain ⟨n1, n2, _⟩ := okName_of hn
  refine L2.PE.imp (pe_var (i := i) (by rw [g.hN]; exact ixOf_at hi) (visB_of (by rw [g.sc]; exact hv)) n1 n2) fun σ H Q h => ?_
  obtain ⟨E, env, o, eo, p⟩ := h
  cases e : rdAny env i with
  | ok t =>
    simp only [e] at p
    obtain ⟨v, h1, h2⟩ := eo.rdAny o e
    exact ⟨v, h1, p.ok' o v h2⟩
  | ex d => exact (rdAny_no e).elim
  | no => simp only [e] at p; exact p.elim
/-- a value that goes on may be told as it stands -/
theorem dB_of {e : Expr} {f : Cells → Res T} (h : PE X e (dE S W f)) : PE X e (dB S W f) := by
  refine h.imp fun σ H Q q => ?_
  obtain ⟨E, env, o, eo, p⟩ := q
  exact ⟨E, env, o, eo, p.imp fun t F' H' s q v r => q v (r.mono s.ok.sub)⟩
/-- a constant, told in every heap -/
theorem e_cst {e : Expr} {t : T} {v : V} (h : PE X e (tC v)) (r : ∀ H, Rep S H t v) : PE X e (dE S W (ev F (.cst t))) := by
  refine h.imp fun σ H Q q => ?_
  obtain ⟨E, env, o, eo, p⟩ := q
  simp only [ev] at p
  exact p.ok' o v (r _)
theorem trC_ok {x : Const} {t : T} {j : Nat} {pos : Pos} (h : trC x = some t) : PE X (.Constant x j pos) (dE S W (ev F (.cst t))) := by
  cases x <;> first | cases h; done | skip
  · cases h; exact e_cst pe_non fun _ => rfl
  · cases h; exact e_cst pe_bl fun _ => rfl
  · cases h; exact e_cst pe_int fun _ => rfl
  · cases h; exact e_cst pe_str fun _ => rfl

/-! ### two and one places -/
theorem imp2 {f g : Cells → Res T} {h : T → T → Res T} (nx : ∀ x y c, h x y ≠ .ex c) {σ : St} {H : Hp} {Q : VK} (q : dE S W (fun env => (f env).bind fun x => (g env).bind fun y => h x y) σ H Q) :
    tOp (rOf S h) (dE S W f) (dE S W g) σ H Q := by
  obtain ⟨E, env, o, eo, p⟩ := q
  refine ⟨E, env, o, eo, (PostG.split p).imp fun x F1 H1 s1 p1 v rv => ⟨F1, env, s1.ok, eo.step s1, (PostG.split p1).imp fun y F2 H2 s2 p2 w rw => ?_⟩⟩
  cases e : h x y with
  | ok t =>
    rw [e] at p2
    exact ⟨F2, x, y, t, s2.ok, rv.mono s2.ff, rw, e, fun v F' H' s' r => p2 F' H' s' v r⟩
  | ex d => exact (nx _ _ _ e).elim
  | no => rw [e] at p2; exact p2.elim
theorem binop_nx (op : Bop) (x y : T) (d : Nat) : binop op x y ≠ .ex d := by
  unfold binop
  split <;> first | (intro h; cases h; done) | (split <;> intro h <;> cases h)
theorem e_bin {o' : Operator} {op : Bop} {a b : Expr} {x y : E} {pos : Pos} (g : Good S c k X sc so) (ho : trOp o' = some op) (ha : PE X a (dE S W (ev F x))) (hb : PE X b (dE S W (ev F y))) :
    PE X (.BinOp a o' b pos) (dE S W (ev F (.bin op x y))) := by
  have r : OpR X (binaryOp o') (rOf S (binop op)) := by
    cases o' <;> first | cases ho; done | skip
    · cases ho; exact o_add g.hK
    · cases ho; exact o_sub
    · cases ho; exact o_mul g.hK
    · cases ho; exact o_mod
    · cases ho; exact o_fdiv
  exact (pe_op r ha hb).imp fun σ H Q q => imp2 (binop_nx op) (by simpa only [dE, ev] using q)
theorem e_neg {a : Expr} {x : E} {pos : Pos} (ha : PE X a (dE S W (ev F x))) : PE X (.UnaryOp .USub a pos) (dE S W (ev F (.neg x))) := by
  refine (pe_un un_neg ha).imp fun σ H Q q => ?_
  obtain ⟨E, env, o, eo, p⟩ := q
  simp only [ev] at p
  refine ⟨E, env, o, eo, (PostG.split p).imp fun t F1 H1 s1 p1 v rv => ?_⟩
  cases t <;> first | exact p1.elim | skip
  exact ⟨_, rv, p1 F1 H1 (.refl s1.ok) _ rfl⟩

/-! ### comparisons, of names of the frame's own too -/
theorem impC {f g : Cells → Res T} {h : T → T → Res T} (nx : ∀ x y c, h x y ≠ .ex c) (hb : ∀ x y t, h x y = .ok t → ∃ b, t = .bl b) {σ : St} {H : Hp} {Q : VK} (q : dE S W (fun env => (f env).bind fun x => (g env).bind fun y => h x y) σ H Q) :
    tOp (rCo S h) (dB S W f) (dB S W g) σ H Q := by
  obtain ⟨E, env, o, eo, p⟩ := q
  refine ⟨E, env, o, eo, (PostG.split p).imp fun x F1 H1 s1 p1 v rv => ⟨F1, env, s1.ok, eo.step s1, (PostG.split p1).imp fun y F2 H2 s2 p2 w rw => ?_⟩⟩
  cases e : h x y with
  | ok t =>
    obtain ⟨b, rfl⟩ := hb _ _ _ e
    rw [e] at p2
    exact ⟨x, y, b, rv.ext s2.hh, rw, e, p2 F2 H2 (.refl s2.ok) _ rfl⟩
  | ex d => exact (nx _ _ _ e).elim
  | no => rw [e] at p2; exact p2.elim
end
end Fz

/-! expressions, construct by construct: tests, displays, places, calls -/
namespace Fz
open PySem PySem.Spec L2
open PyProof.Rows hiding St

variable {S : Su}
section
variable {X : Cx} {W : WX} {F : Fns} {c : TC} {sc so : Scope} {k : Nat}
/-- an expression as the evaluator has it: as a value that goes on, as a value looked at, as a test -/
structure Tri (S : Su) (W : WX) (F : Fns) (X : Cx) (ex : Expr) (x : E) : Prop where
  e : PE X ex (dE S W (ev F x))
  b : PE X ex (dB S W fun env => rdB env x (ev F x env))
  t : PT X ex (dT S W fun env => (rdB env x (ev F x env)).bind truT)
theorem rdB_rd {env : Cells} {x : E} (h : ∀ i, x ≠ .var i) (r : Res T) : rdB env x r = r := by
  cases x <;> first | rfl | exact (h _ rfl).elim
theorem PostG.le {α : Type} {F H : Hp} {σ : St} {r r' : Res α} {q : α → Hp → Hp → Prop} (h : ∀ a, r = .ok a → r' = .ok a) (h2 : ∀ d, r = .ex d → r' = .ex d) (p : PostG S W F H σ r q) : PostG S W F H σ r' q := by
  cases r with
  | ok a => rw [h a rfl]; exact p
  | ex d => rw [h2 d rfl]; exact p
  | no => exact p.elim
theorem rdB_ge {env : Cells} {x : E} : (∀ a, ev F x env = .ok a → rdB env x (ev F x env) = .ok a) ∧ (∀ d, ev F x env = .ex d → rdB env x (ev F x env) = .ex d) := by
  cases x with
  | var i =>
    refine ⟨fun a h => ?_, fun d h => ?_⟩
    · simp only [ev] at h
      show rdAny env i = _
      unfold rd at h
      unfold rdAny
      split at h
      · rename_i e; rw [e]; exact h
      · cases h
    · simp only [ev] at h
      exact (rd_no h).elim
  | _ => exact ⟨fun a h => h, fun d h => h⟩
theorem bind_le {α β : Type} {r r' : Res α} (g : α → Res β) (h : ∀ a, r = .ok a → r' = .ok a) (h2 : ∀ d, r = .ex d → r' = .ex d) : (∀ b, r.bind g = .ok b → r'.bind g = .ok b) ∧ (∀ d, r.bind g = .ex d → r'.bind g = .ex d) := by
  cases r with
  | ok a => rw [h a rfl]; exact ⟨fun _ q => q, fun _ q => q⟩
  | ex d => rw [h2 d rfl]; exact ⟨fun _ q => q, fun _ q => q⟩
  | no => exact ⟨fun _ q => (nomatch q), fun _ q => (nomatch q)⟩
theorem Tri.tt {e : Expr} {x : E} (h : Tri S W F X e x) : PT X e (dT S W fun env => (ev F x env).bind truT) := h.t.imp fun σ H Q q => by
  obtain ⟨E, env, o, eo, p⟩ := q
  have z := bind_le truT (rdB_ge (F := F) (env := env) (x := x)).1 rdB_ge.2
  exact ⟨E, env, o, eo, p.le z.1 z.2⟩
theorem Rep.tru {H : Hp} {t : T} {x : V} {b : Bool} (r : Rep S H t x) (e : truT t = .ok b) : TruV S.K x H b := by
  cases t with
  | non => cases e; rw [show x = _ from r]; rfl
  | bl _ => cases e; rw [show x = _ from r]; rfl
  | int _ => cases e; rw [show x = _ from r]; rfl
  | str y =>
    simp only [truT] at e
    split at e
    · rename_i hz
      cases e
      rw [show x = _ from r]
      exact ⟨sizeM hz, by rw [Bool.eq_iff_iff]; simp only [bne_iff_ne, ne_eq]; omega⟩
    · cases e
  | tup ts =>
    cases e
    obtain ⟨a, vs, rfl, q, l, rs⟩ := r
    refine .inr (.inl ⟨vs, q, ?_⟩)
    have := rs.length
    cases ts <;> cases vs <;> first | rfl | (simp at this)
  | lst ts =>
    cases e
    obtain ⟨a, vs, rfl, q, l, rs⟩ := r
    refine .inl ⟨vs, q.sq, ?_⟩
    have := rs.length
    cases ts <;> cases vs <;> first | rfl | (simp at this)
  | _ => cases e
theorem truT_nx (t : T) (d : Nat) : truT t ≠ .ex d := by
  cases t <;> first | (intro h; cases h; done) | (intro h; simp only [truT] at h; split at h <;> cases h)
/-- the test of an expression that has no form of its own as a test -/
theorem t_plain {e : Expr} {f : Cells → Res T} (hK : X.K = S.K) (h : PE X e (dB S W f)) (he : ∀ whole, isTrue e X.env whole = (do let v ← whole; standAt e.pos; holding [v] (PySem.truthy v))) : PT X e (dT S W fun env => (f env).bind truT) := by
  refine (pt_truth h he).imp fun σ H Q q => ?_
  obtain ⟨E, env, o, eo, p⟩ := q
  refine ⟨E, env, o, eo, (PostG.split p).imp fun t F1 H1 s1 p1 v rv => ?_⟩
  cases e1 : truT t with
  | ok b =>
    rw [e1] at p1
    exact ⟨b, hK ▸ rv.tru e1, p1 F1 H1 (.refl s1.ok)⟩
  | ex d => exact (truT_nx _ _ e1).elim
  | no => rw [e1] at p1; exact p1.elim
/-- an expression whose evaluator's form is no name -/
theorem Tri.of {e : Expr} {x : E} (hK : X.K = S.K) (h : PE X e (dE S W (ev F x))) (hv : ∀ i, x ≠ .var i) (he : ∀ whole, isTrue e X.env whole = (do let v ← whole; standAt e.pos; holding [v] (PySem.truthy v))) : Tri S W F X e x := by
  have hb : PE X e (dB S W fun env => rdB env x (ev F x env)) := by
    simp only [rdB_rd hv]
    exact dB_of h
  exact ⟨h, hb, t_plain hK hb he⟩
theorem Tri.of' {e : Expr} {x : E} (h : PE X e (dE S W (ev F x))) (hv : ∀ i, x ≠ .var i) (ht : PT X e (dT S W fun env => (ev F x env).bind truT)) : Tri S W F X e x := by
  refine ⟨h, ?_, ?_⟩
  · simp only [rdB_rd hv]
    exact dB_of h
  · simp only [rdB_rd hv]
    exact ht
theorem t_name {i : Nat} {x : Str} {pos : Pos} (g : Good S c k X sc so) (hv : visB sc x = true) (hn : okName x = true) (hi : ixOf x c.N 0 = some i) : Tri S W F X (.Name x pos) (.var i) :=
  ⟨e_var g hv hn hi, b_var g hv hn hi, t_plain g.hK (b_var g hv hn hi) fun _ => rfl⟩

/-! ### comparisons -/
theorem cmpT_nx (op : Cop) (x y : T) (d : Nat) : cmpT op x y ≠ .ex d := by
  have hs : ∀ a b d, isSame a b ≠ .ex d := fun a b d => by unfold isSame; split <;> (intro h; cases h)
  unfold cmpT
  split <;> first
    | (intro h; cases h; done)
    | (split <;> intro h <;> cases h; done)
    | (intro h; cases e : isSame x y with
        | ok a => rw [e] at h; cases h
        | ex d' => exact hs _ _ _ e
        | no => rw [e] at h; cases h)
theorem cmpT_bl (op : Cop) (x y t : T) (h : cmpT op x y = .ok t) : ∃ b, t = .bl b := by
  unfold cmpT at h
  split at h <;> first
    | (cases h; done)
    | (cases h; exact ⟨_, rfl⟩)
    | (split at h <;> first | (cases h; done) | (cases h; exact ⟨_, rfl⟩))
    | (cases e : isSame x y with
        | ok a => rw [e] at h; cases h; exact ⟨_, rfl⟩
        | ex d' => rw [e] at h; cases h
        | no => rw [e] at h; cases h)
theorem o_cmp {o : CmpOp} (g : Good S c k X sc so) (h : o ≠ .In ∧ o ≠ .NotIn) : OpR X (compareOp o) (rCo S (cmpT (trCop o))) := by
  cases o with
  | Eq => exact c_eq g.hK g.room
  | NotEq => exact c_ne g.hK g.room
  | Lt => exact c_lt
  | LtE => exact c_le
  | Gt => exact c_gt
  | GtE => exact c_ge
  | Is => exact c_is
  | IsNot => exact c_isNot
  | In => exact absurd rfl h.1
  | NotIn => exact absurd rfl h.2
theorem bool_test {E H : Hp} {σ : St} {r : Res T} {Q : Bool → Hp → Prop} (hb : ∀ t, r = .ok t → ∃ b, t = .bl b) (p : PostG S W E H σ (r.bind truT) fun b F' H' => Q b H') :
    PostG S W E H σ r fun t F' H' => ∀ v, Rep S F' t v → ∃ b, v = .bl b ∧ Q b H' := by
  cases r with
  | ok t =>
    obtain ⟨b, rfl⟩ := hb t rfl
    exact fun F' H' s v r => ⟨b, r, p F' H' s⟩
  | ex d => exact p
  | no => exact p
theorem bind_bl {r r' : Res T} {h : T → T → Res T} (hb : ∀ x y t, h x y = .ok t → ∃ b, t = .bl b) (t : T) (e : (r.bind fun x => r'.bind fun y => h x y) = .ok t) : ∃ b, t = .bl b := by
  cases r with
  | ok x => cases r' with
    | ok y => exact hb _ _ _ e
    | ex d => cases e
    | no => cases e
  | ex d => cases e
  | no => cases e
theorem t_cmp {o : CmpOp} {a b : Expr} {x y : E} {pos : Pos} (g : Good S c k X sc so) (ho : o ≠ .In ∧ o ≠ .NotIn) (ha : Tri S W F X a x) (hb : Tri S W F X b y) : Tri S W F X (.Compare a [o] [b] pos) (.cmp (trCop o) x y) := by
  have hm : behindInMarks o b = false := nobehind b ho.1 ho.2
  refine .of' ((pe_cmpR (o_cmp g ho) ha.b hb.b hm).imp fun σ H Q q => impC (cmpT_nx _) (cmpT_bl _) (by simpa only [dE, ev] using q)) (fun _ => by intro h; cases h) ((pt_cmpR (o_cmp g ho) ha.b hb.b hm).imp fun σ H Q q => ?_)
  refine impC (f := fun env => rdB env x (ev F x env)) (g := fun env => rdB env y (ev F y env)) (W := W) (cmpT_nx _) (cmpT_bl _) ?_
  obtain ⟨E, env, o, eo, p⟩ := q
  refine ⟨E, env, o, eo, ?_⟩
  simp only [ev] at p
  exact bool_test (bind_bl (cmpT_bl _)) p

/-! ### displays -/
theorem evs_len {env : Cells} : ∀ {es : List E} {ts : List T}, evs F es env = .ok ts → ts.length = es.length
  | [], _, h => by simp only [evs] at h; cases h; rfl
  | e :: es, ts, h => by
    simp only [evs] at h
    cases e1 : ev F e env with
    | ok t =>
      rw [e1] at h
      cases e2 : evs F es env with
      | ok us =>
        simp only [e2, Res.bind] at h
        cases h
        rw [List.length_cons, List.length_cons, evs_len e2]
      | ex d => simp only [e2, Res.bind] at h; cases h
      | no => simp only [e2, Res.bind] at h; cases h
    | ex d => rw [e1] at h; cases h
    | no => rw [e1] at h; cases h
theorem a_nil : PA X [] (dA S W (evs F [])) := by
  refine pa_nil.imp fun σ H Q q => ?_
  obtain ⟨E, env, o, eo, p⟩ := q
  simp only [evs] at p
  exact p.ok' o [] rfl
theorem star_cons {e : Expr} {es : List Expr} {env : Env} (h : ∀ a p, e ≠ .Starred a p) : starEach (e :: es) env = (false, eval e env) :: starEach es env := by
  cases e <;> first | rfl | exact absurd rfl (h _ _)
theorem a_cons {e : Expr} {es : List Expr} {x : E} {xs : List E} (hn : ∀ a p, e ≠ .Starred a p) (h : PE X e (dE S W (ev F x))) (hs : PA X es (dA S W (evs F xs))) : PA X (e :: es) (dA S W (evs F (x :: xs))) := by
  refine (pa_cons h hs (star_cons hn)).imp fun σ H Q q => ?_
  obtain ⟨E, env, o, eo, p⟩ := q
  simp only [evs] at p
  refine ⟨E, env, o, eo, (PostG.split p).imp fun t F1 H1 s1 p1 v rv => ⟨F1, env, s1.ok, eo.step s1, (PostG.split p1).imp fun ts F2 H2 s2 p2 vs rs => ?_⟩⟩
  exact p2 F2 H2 (.refl s2.ok) (v :: vs) ⟨v, vs, rfl, rv.mono s2.ff, rs⟩
theorem PostG.eq {α : Type} {E H : Hp} {σ : St} {r : Res α} {k : α → Hp → Hp → Prop} (p : PostG S W E H σ r k) : PostG S W E H σ r fun a F' H' => r = .ok a ∧ k a F' H' := by
  cases r with
  | ok a => exact fun F' H' s => ⟨rfl, p F' H' s⟩
  | ex d => exact p
  | no => exact p
theorem e_tup {es : List Expr} {xs : List E} {j : Nat} {pos : Pos} (hl : xs.length ≤ 1000) (h : PA X es (dA S W (evs F xs))) : PE X (.Tuple es j pos) (dE S W (ev F (.tup xs))) := by
  refine (pe_tup h).imp fun σ H Q q => ?_
  obtain ⟨E, env, o, eo, p⟩ := q
  simp only [ev] at p
  refine ⟨E, env, o, eo, (PostG.split p).eq.imp fun ts F1 H1 s1 p1 vs rs => ?_⟩
  obtain ⟨e1, p1⟩ := p1
  have l1 := evs_len e1
  have l2 := rs.length
  have l3 : 1000 ≤ sizeLine := by decide
  exact ⟨by omega, Post.tup s1.ok rs (by omega) fun v F' H' s r => p1 F' H' s v r⟩
/-- a list that is the frame's own goes on as well -/
theorem dN_of_dE {f : Cells → Res T} (hf : ∀ env t, f env = .ok t → ∃ ts, t = .lst ts) {σ : St} {H : Hp} {Q : VK} (q : dE S W f σ H Q) : dN S W f σ H Q := by
  obtain ⟨E, env, o, eo, p⟩ := q
  refine ⟨E, env, o, eo, ?_⟩
  cases e1 : f env with
  | ok t =>
    rw [e1] at p ⊢
    obtain ⟨ts, rfl⟩ := hf _ _ e1
    intro F' H' s a ha hF ow
    obtain ⟨vs, h1, h2, h3⟩ := ow
    refine p (upd F' a (.lst vs)) H' ⟨s.ff.trans (sub_upd hF), s.hh, fun b hb hb' => ?_, ⟨fun b u e => ?_, fun b u e => ?_, s.ok.tab⟩⟩ _ ⟨a, vs, rfl, .inl (.inl upd_same), h2, h3.mono (sub_upd hF)⟩
    · rw [upd_ne (fun z => hb (by rw [z]; exact ha))]
      exact s.no b hb hb'
    · by_cases z : b = a
      · subst z; rw [upd_same] at e; cases e; exact h1
      · rw [upd_ne z] at e; exact s.ok.sub b u e
    · by_cases z : b = a
      · subst z; rw [upd_same] at e; cases e; exact fun z => z
      · rw [upd_ne z] at e; exact s.ok.nt b u e
  | ex d => rw [e1] at p ⊢; exact p
  | no => rw [e1] at p ⊢; exact p
theorem dE_of_dN {e : Expr} {f : Cells → Res T} (hf : ∀ env t, f env = .ok t → ∃ ts, t = .lst ts) (h : PE X e (dN S W f)) : PE X e (dE S W f) := h.imp fun σ H Q q => dN_of_dE hf q
/-- a new list, the frame's own -/
theorem Post.own {F H : Hp} {ts : List T} {vs : List V} {Q : VK} (o : Ok S F H) (r : Reps S F ts vs) (l : ts.length ≤ sizeLine) {H0 : Hp} (hx : Ext H0 H) (h : ∀ F' H', Step S F H F' H' → ∀ a, H0 a = none → F' a = none → Own S F' H' a (.lst ts) → Q (.ref a) H') : ∀ p, H p = none → Q (.ref p) (upd H p (.lst vs)) := fun p hp =>
  h F _ (.newR o hp) p (hx.none hp) (o.sub.none hp) ⟨vs, upd_same, l, r⟩
theorem n_lst {es : List Expr} {xs : List E} {pos : Pos} (hl : xs.length ≤ 1000) (h : PA X es (dA S W (evs F xs))) : PE X (.List es pos) (dN S W (ev F (.lst xs))) := by
  refine (pe_lst h).imp fun σ H Q q => ?_
  obtain ⟨E, env, o, eo, p⟩ := q
  simp only [ev] at p
  refine ⟨E, env, o, eo, (PostG.split p).eq.imp fun ts F1 H1 s1 p1 vs rs => ?_⟩
  obtain ⟨e1, p1⟩ := p1
  have l1 := evs_len e1
  have l2 := rs.length
  have l3 : 1000 ≤ sizeLine := by decide
  exact ⟨by omega, Post.own s1.ok rs (by omega) s1.hh fun F' H' s a ha hF ow => p1 F' H' s a ha hF ow⟩
theorem lst_ok {xs : List E} (env : Cells) (t : T) (h : ev F (.lst xs) env = .ok t) : ∃ ts, t = .lst ts := by
  simp only [ev] at h
  cases e : evs F xs env with
  | ok ts => rw [e] at h; cases h; exact ⟨_, rfl⟩
  | ex d => rw [e] at h; cases h
  | no => rw [e] at h; cases h

/-! ### and, or, not, a if t else b -/
theorem t_not {a : Expr} {x : E} {pos : Pos} (g : Good S c k X sc so) (ha : Tri S W F X a x) : Tri S W F X (.UnaryOp .Not a pos) (.not x) := by
  refine .of' ((pe_notT ha.b).imp fun σ H Q q => ?_) (fun _ => by intro h; cases h) ((pt_not ha.t).imp fun σ H Q q => ?_)
  · obtain ⟨E, env, o, eo, p⟩ := q
    simp only [ev] at p
    refine ⟨E, env, o, eo, (PostG.split p).imp fun t F1 H1 s1 p1 v rv => ?_⟩
    cases e1 : truT t with
    | ok b =>
      rw [e1] at p1
      exact ⟨b, g.hK ▸ rv.tru e1, p1 F1 H1 (.refl s1.ok) _ rfl⟩
    | ex d => exact (truT_nx _ _ e1).elim
    | no => rw [e1] at p1; exact p1.elim
  · obtain ⟨E, env, o, eo, p⟩ := q
    refine ⟨E, env, o, eo, ?_⟩
    simp only [ev] at p
    cases e1 : rdB env x (ev F x env) with
    | ok t =>
      simp only [e1, Res.bind] at p ⊢
      cases e2 : truT t with
      | ok b => simp only [e2, Res.bind] at p ⊢; exact p
      | ex d => exact (truT_nx _ _ e2).elim
      | no => simp only [e2, Res.bind] at p; exact p.elim
    | ex d => simp only [e1, Res.bind] at p ⊢; exact p
    | no => simp only [e1, Res.bind] at p; exact p.elim
/-- several in a row: as a value, as a test whatever stands for the whole -/
structure Tw (S : Su) (W : WX) (F : Fns) (X : Cx) (ex : Expr) (x : E) : Prop where
  e : PE X ex (dE S W (ev F x))
  w : PW X ex (dT S W fun env => (ev F x env).bind truT)
theorem w_one {op : BoolOp} {a : Expr} {x : E} {pos : Pos} (ha : Tri S W F X a x) : Tw S W F X (.BoolOp op [a] pos) x := by
  refine ⟨pe_one ha.e, ?_⟩
  cases op with
  | And => exact pw_and1 ha.tt
  | Or => exact pw_or1 ha.tt
theorem w_cons {op : BoolOp} {a b : Expr} {rest : List Expr} {x y : E} {pos : Pos} (g : Good S c k X sc so) (ha : Tri S W F X a x) (hb : Tw S W F X (.BoolOp op (b :: rest) pos) y) :
    Tw S W F X (.BoolOp op (a :: b :: rest) pos) (match op with | .And => .band x y | .Or => .bor x y) := by
  cases op with
  | And =>
    refine ⟨(pe_andT ha.e hb.e).imp fun σ H Q q => ?_, (pw_and ha.tt hb.w).imp fun σ H Q q => ?_⟩
    · obtain ⟨E, env, o, eo, p⟩ := q
      simp only [ev] at p
      refine ⟨E, env, o, eo, (PostG.split p).imp fun t F1 H1 s1 p1 v rv => ?_⟩
      cases e1 : truT t with
      | ok b =>
        simp only [e1, Res.bind] at p1
        refine ⟨b, g.hK ▸ (rv.mono s1.ok.sub).tru e1, ?_⟩
        cases b with
        | true => exact ⟨F1, env, s1.ok, eo.step s1, p1⟩
        | false => exact p1 F1 H1 (.refl s1.ok) v rv
      | ex d => exact (truT_nx _ _ e1).elim
      | no => simp only [e1, Res.bind] at p1; exact p1.elim
    · obtain ⟨E, env, o, eo, p⟩ := q
      refine ⟨E, env, o, eo, ?_⟩
      simp only [ev] at p
      cases e1 : ev F x env with
      | ok t =>
        simp only [e1, Res.bind] at p ⊢
        cases e2 : truT t with
        | ok b =>
          simp only [e2, Res.bind] at p ⊢
          intro F1 H1 s1
          cases b with
          | true => exact ⟨F1, env, s1.ok, eo.step s1, PostG.step s1 p⟩
          | false =>
            simp only [Bool.false_eq_true, if_false, e2] at p
            exact p F1 H1 s1
        | ex d => exact (truT_nx _ _ e2).elim
        | no => simp only [e2, Res.bind] at p; exact p.elim
      | ex d => simp only [e1, Res.bind] at p ⊢; exact p
      | no => simp only [e1, Res.bind] at p; exact p.elim
  | Or =>
    refine ⟨(pe_orT ha.e hb.e).imp fun σ H Q q => ?_, (pw_or ha.tt hb.w).imp fun σ H Q q => ?_⟩
    · obtain ⟨E, env, o, eo, p⟩ := q
      simp only [ev] at p
      refine ⟨E, env, o, eo, (PostG.split p).imp fun t F1 H1 s1 p1 v rv => ?_⟩
      cases e1 : truT t with
      | ok b =>
        simp only [e1, Res.bind] at p1
        refine ⟨b, g.hK ▸ (rv.mono s1.ok.sub).tru e1, ?_⟩
        cases b with
        | true => exact p1 F1 H1 (.refl s1.ok) v rv
        | false => exact ⟨F1, env, s1.ok, eo.step s1, p1⟩
      | ex d => exact (truT_nx _ _ e1).elim
      | no => simp only [e1, Res.bind] at p1; exact p1.elim
    · obtain ⟨E, env, o, eo, p⟩ := q
      refine ⟨E, env, o, eo, ?_⟩
      simp only [ev] at p
      cases e1 : ev F x env with
      | ok t =>
        simp only [e1, Res.bind] at p ⊢
        cases e2 : truT t with
        | ok b =>
          simp only [e2, Res.bind] at p ⊢
          intro F1 H1 s1
          cases b with
          | true =>
            simp only [if_true, e2] at p
            exact p F1 H1 s1
          | false => exact ⟨F1, env, s1.ok, eo.step s1, PostG.step s1 p⟩
        | ex d => exact (truT_nx _ _ e2).elim
        | no => simp only [e2, Res.bind] at p; exact p.elim
      | ex d => simp only [e1, Res.bind] at p ⊢; exact p
      | no => simp only [e1, Res.bind] at p; exact p.elim
theorem Tw.tri {e : Expr} {x : E} (h : Tw S W F X e x) (hv : ∀ i, x ≠ .var i) : Tri S W F X e x := .of' h.e hv h.w.pt
end
end Fz

/-! expressions, construct by construct: places, slices, calls -/
namespace Fz
open PySem PySem.Spec L2
open PyProof.Rows hiding St

variable {S : Su}
section
variable {X : Cx} {W : WX} {F : Fns} {c : TC} {sc so : Scope} {k : Nat}
/-! ### places -/
theorem atT_get {H : Hp} {ts : List T} {vs : List V} {i : Int} {t : T} (r : Reps S H ts vs) (h : atT ts i = .ok t) : ∃ v, atI vs i = some v ∧ Rep S H t v := by
  have l := r.length
  unfold atT at h
  split at h
  · rename_i j e
    split at h
    · rename_i u e2
      cases h
      obtain ⟨v, h1, h2⟩ := r.get e2
      refine ⟨v, ?_, h2⟩
      unfold atI ixN
      rw [← l, e]
      exact h1
    · cases h
  · cases h
theorem idxT_nx (x y : T) (d : Nat) : idxT x y ≠ .ex d := by
  have ha : ∀ (xs : List T) i d, atT xs i ≠ .ex d := fun xs i d => by
    unfold atT
    split
    · split <;> (intro h; cases h)
    · intro h; cases h
  unfold idxT
  split <;> first
    | exact ha _ _ _
    | (intro h; cases h; done)
    | (split <;> first | (intro h; cases h; done) | (split <;> intro h <;> cases h))
theorem x_idx (hK : X.K = S.K) : IxR X (rOf S idxT) := by
  intro va sl pins s σ H x y v u Q I rx ry h hs
  obtain ⟨E, a, b, t, o, ra, rb, e, q⟩ := h
  cases a with
  | tup ts =>
    cases b with
    | int i =>
      obtain ⟨p, vs, rfl, h1, _, rs⟩ := ra
      obtain ⟨z, h2, h3⟩ := atT_get rs e
      exact ix_tup va sl pins s σ H _ y v u Q I rx ry ⟨p, vs, i, z, rfl, rb, hK ▸ o.sub.sqT h1, h2, q z E H (.refl o) h3⟩ hs
    | _ => cases e
  | lst ts =>
    cases b with
    | int i =>
      obtain ⟨p, vs, rfl, h1, _, rs⟩ := ra
      obtain ⟨z, h2, h3⟩ := atT_get rs e
      exact ix_list va sl pins s σ H _ y v u Q I rx ry ⟨p, vs, i, z, rfl, rb, hK ▸ (o.sub.la h1).sq, h2, q z E H (.refl o) h3⟩ hs
    | _ => cases e
  | str z =>
    cases b with
    | int i =>
      simp only [idxT] at e
      split at e
      · rename_i d h2
        split at e
        · rename_i hz
          cases e
          exact ix_str va sl pins s σ H _ y v u Q I rx ry ⟨z, i, d, ra, rb, sizeM hz, h2, q _ E H (.refl o) rfl⟩ hs
        · cases e
      · cases e
    | _ => cases e
  | _ => cases e
def isSl : Expr → Bool
  | .Slice _ _ _ _ => true
  | _ => false
theorem plainIx {b : Expr} (h : isSl b = false) : PlainIx b := by
  cases b <;> first | (intro o i; rfl) | cases h
theorem e_idx {a b : Expr} {x y : E} {pos : Pos} (hK : X.K = S.K) (hb' : isSl b = false) (ha : PE X a (dE S W (ev F x))) (hb : PE X b (dE S W (ev F y))) : PE X (.Subscript a b pos) (dE S W (ev F (.idx x y))) :=
  (pe_ix (x_idx hK) ha hb (plainIx hb')).imp fun σ H Q q => imp2 idxT_nx (by simpa only [dE, ev] using q)

/-! ### slices -/
def rSlc (S : Su) : V → Option Int → Option Int → Hp → VK → Prop := fun x lo hi H Q => ∃ E a t, Ok S E H ∧ Rep S E a x ∧ slcT a lo hi = .ok t ∧ ∀ v F' H', Step S E H F' H' → Rep S F' t v → Q v H'
theorem Reps.cut {H : Hp} {ts : List T} {vs : List V} (lo hi : Option Int) (r : Reps S H ts vs) : Reps S H (cutL ts lo hi) (cutV vs lo hi) := by
  unfold cutL cutV
  rw [r.length]
  exact (r.drop _).take _
theorem cutL_len (ts : List T) (lo hi : Option Int) : (cutL ts lo hi).length ≤ ts.length := by
  unfold cutL
  rw [List.length_take, List.length_drop]
  omega
theorem s_slc (hK : X.K = S.K) : SlR X (rSlc S) := by
  intro pins s σ H x v vl vu lo hi sl Q I rx hs pl pu h
  obtain ⟨E, a, t, o, ra, e, q⟩ := h
  cases a with
  | tup ts =>
    cases e
    obtain ⟨p, vs, rfl, h1, l1, rs⟩ := ra
    have lv := rs.length
    refine sl_tupA pins s σ H _ v vl vu lo hi sl Q I rx hs pl pu ⟨p, vs, rfl, hK ▸ o.sub.sqT h1, fun z => ?_, fun z => ?_⟩
    · refine q _ E H (.refl o) ⟨p, vs, rfl, h1, Nat.le_trans (cutL_len ..) l1, ?_⟩
      have e1 : cutV vs lo hi = vs := by
        unfold cutV
        rw [z.1, z.2, List.drop_zero, Nat.sub_zero, List.take_length]
      have r1 := rs.cut lo hi
      rw [e1] at r1
      exact r1
    · exact Post.tup o (rs.cut lo hi) (Nat.le_trans (cutL_len ..) l1) q
  | lst ts =>
    cases e
    obtain ⟨p, vs, rfl, h1, l1, rs⟩ := ra
    exact sl_list pins s σ H _ v vl vu lo hi sl Q I rx hs pl pu ⟨p, vs, rfl, hK ▸ (o.sub.la h1).sq, Post.lst o (rs.cut lo hi) (Nat.le_trans (cutL_len ..) l1) q⟩
  | str z =>
    simp only [slcT] at e
    split at e
    · rename_i hz
      cases e
      exact sl_str pins s σ H _ v vl vu lo hi sl Q I rx hs pl pu ⟨z, ra, sizeM hz, q _ E H (.refl o) rfl⟩
    · cases e
  | _ => cases e
/-- a part of a slice -/
def dO (S : Su) (W : WX) (f : Cells → Res (List T)) : TO := fun σ H Q => At S σ H fun E env => PostG S W E H σ ((f env).bind partT) fun i F' H' => Q i H'
theorem o_none : PO X none (dO S W (evs F [])) := by
  refine ⟨fun pins s σ H Q I q => po_none.run pins s σ H Q I ?_⟩
  obtain ⟨E, env, o, eo, p⟩ := q
  simp only [evs] at p
  exact p.ok' o
theorem o_some {e : Expr} {x : E} (h : PE X e (dE S W (ev F x))) : PO X (some e) (dO S W (evs F [x])) := by
  refine ⟨fun pins s σ H Q I q => (po_some h).run pins s σ H Q I ?_⟩
  obtain ⟨E, env, o, eo, p⟩ := q
  simp only [evs] at p
  refine ⟨E, env, o, eo, ?_⟩
  cases e1 : ev F x env with
  | ok t =>
    simp only [e1, Res.bind] at p ⊢
    cases t <;> first | exact p.elim | skip
    exact fun F1 H1 s1 v rv => ⟨_, rv, p F1 H1 s1⟩
  | ex d => simp only [e1, Res.bind] at p ⊢; exact p
  | no => simp only [e1, Res.bind] at p; exact p.elim
theorem bind_assoc {α β γ : Type} (r : Res α) (g : α → Res β) (h : β → Res γ) : (r.bind g).bind h = r.bind fun a => (g a).bind h := by
  cases r <;> rfl
theorem e_slc {a : Expr} {lo hi : Option Expr} {x : E} {l h : List E} {p2 pos : Pos} (hK : X.K = S.K) (ha : PE X a (dE S W (ev F x))) (hl : PO X lo (dO S W (evs F l))) (hh : PO X hi (dO S W (evs F h))) :
    PE X (.Subscript a (.Slice lo hi none p2) pos) (dE S W (ev F (.slc x l h))) := by
  refine (pe_slice (s_slc hK) ha hl hh).imp fun σ H Q q => ?_
  obtain ⟨E, env, o, eo, p⟩ := q
  simp only [ev] at p
  refine ⟨E, env, o, eo, (PostG.split p).imp fun t F1 H1 s1 p1 v rv => ⟨F1, env, s1.ok, eo.step s1, ?_⟩⟩
  rw [← bind_assoc] at p1
  refine (PostG.split p1).imp fun i F2 H2 s2 p2 => ⟨F2, env, s2.ok, (eo.step s1).step s2, ?_⟩
  rw [← bind_assoc] at p2
  refine (PostG.split p2).imp fun j F3 H3 s3 p3 => ?_
  cases e1 : slcT t i j with
  | ok u =>
    rw [e1] at p3
    exact ⟨F3, t, u, s3.ok, rv.mono (s2.ff.trans s3.ff), e1, fun v F' H' s r => p3 F' H' s v r⟩
  | ex d =>
    unfold slcT at e1
    split at e1 <;> first | cases e1 | (split at e1 <;> cases e1)
  | no => rw [e1] at p3; exact p3.elim
theorem e_rev {a : Expr} {x : E} {j : Nat} {p1 p2 p3 pos : Pos} (hK : X.K = S.K) (ha : PE X a (dE S W (ev F x))) : PE X (.Subscript a (.Slice none none (some (.UnaryOp .USub (.Constant (.int 1) j p1) p2)) p3) pos) (dE S W (ev F (.rev x))) := by
  refine (pe_revL ha).imp fun σ H Q q => ?_
  obtain ⟨E, env, o, eo, p⟩ := q
  simp only [ev] at p
  refine ⟨E, env, o, eo, (PostG.split p).imp fun t F1 H1 s1 p1 v rv => ?_⟩
  cases t <;> first | exact p1.elim | skip
  obtain ⟨a, vs, rfl, h1, l1, rs⟩ := rv
  exact ⟨a, vs, rfl, hK ▸ (s1.ok.sub.la h1).sq, Post.lst s1.ok rs.rev (by rw [List.length_reverse]; exact l1) fun v F' H' s r => p1 F' H' s v r⟩

/-! ### len -/
theorem Rep.len {H : Hp} {t : T} {x : V} {n : Int} (r : Rep S H t x) (e : lenT t = .ok (.int n)) : ∃ m : Nat, n = m ∧ LenV S.K x H m := by
  cases t with
  | lst ts =>
    cases e
    obtain ⟨a, vs, rfl, q, l, rs⟩ := r
    exact ⟨_, rfl, .inl ⟨vs, q.sq, rs.length⟩⟩
  | tup ts =>
    cases e
    obtain ⟨a, vs, rfl, q, l, rs⟩ := r
    exact ⟨_, rfl, .inr ⟨vs, q, rs.length⟩⟩
  | str y =>
    simp only [lenT] at e
    split at e
    · rename_i hz
      cases e
      rw [show x = _ from r]
      exact ⟨_, rfl, sizeM hz, rfl⟩
    · cases e
  | _ => cases e
theorem lenT_int {t u : T} (e : lenT t = .ok u) : ∃ n, u = .int n := by
  cases t <;> first | (cases e; done) | (cases e; exact ⟨_, rfl⟩) | skip
  simp only [lenT] at e
  split at e <;> first | (cases e; done) | (cases e; exact ⟨_, rfl⟩)
theorem lenT_nx (t : T) (d : Nat) : lenT t ≠ .ex d := by
  cases t <;> first | (intro h; cases h; done) | (intro h; simp only [lenT] at h; split at h <;> cases h)
theorem e_len {a : Expr} {x : E} {p pos : Pos} (g : Good S c k X sc so) (hs : ∀ b q, a ≠ .Starred b q) (hg : glB sc "len" = true) (hm : S.mg "len" = none) (ha : PE X a (dB S W fun env => rdB env x (ev F x env))) :
    PE X (.Call (.Name "len" p) [a] [] pos) (dE S W (ev F (.len x))) := by
  refine (pe_callB call_len (glB_of (by rw [g.sc]; exact hg)) (by rw [g.hmg]; exact hm) PySem.boot_len (pa_cons ha pa_nil (star_cons hs)) (by decide) (by decide) (star_cons hs) rfl).imp fun σ H Q q => ?_
  obtain ⟨E, env, o, eo, p⟩ := q
  simp only [ev] at p
  refine ⟨E, env, o, eo, (PostG.split p).imp fun t F1 H1 s1 p1 v rv => ?_⟩
  cases e1 : lenT t with
  | ok u =>
    obtain ⟨n, rfl⟩ := lenT_int e1
    rw [e1] at p1
    obtain ⟨m, rfl, h2⟩ := rv.len e1
    exact ⟨v, m, rfl, g.hK ▸ h2, p1 F1 H1 (.refl s1.ok) _ rfl⟩
  | ex d => exact (lenT_nx _ _ e1).elim
  | no => rw [e1] at p1; exact p1.elim

/-! ### calls of own defs -/
/-- a def's promise: what the evaluator's def answers -/
def spF (S : Su) (F : Fns) (f : Nat) (n : Nat) : Sp := fun vs H Q E => vs.length = n ∧ ∃ F0 ts, Ok S F0 H ∧ Reps S F0 ts vs ∧
  match F f ts with
  | .ok t => ∀ v F' H', Step S F0 H F' H' → Rep S F' t v → Q v H'
  | .ex d => ∀ F' H', Step S F0 H F' H' → E (.ref (S.cA d)) none H'
  | .no => False
structure FnAt (S : Su) (F : Fns) (k : Nat) (x : Str) (f : Nat) : Prop where
  ex : ∃ (fd : FuncData) (ps : List Str), S.mg x = some (.ref (S.fA f)) ∧ PySem.W.keepIn S.K (.ref (S.fA f)) = true ∧ Binds S.K fd ps [] ∧ (∀ ts, F f ts ≠ .no → ts.length = ps.length) ∧
    FnOk S.P S.w S.K S.mg S.base (L2.CX S.P S.w) k (S.fA f) fd ps (spF S F f ps.length)
/-- an own exception class -/
structure ExAt (S : Su) (x : Str) (k : Nat) : Prop where
  mg : S.mg x = some (.ref (S.cA k))
  kp : PySem.W.keepIn S.K (.ref (S.cA k)) = true
  fx : ∃ (B newId initId : String) (bmB : List Value), ExcBaseFacts B newId initId bmB ∧ PySem.W.excIn S.K (S.cA k) bmB newId = true
  sb : PySem.W.subIn S.K (.ref (S.cA k)) (.type "BaseException") = some true
  ty : PySem.W.typeIn S.K (.ref (S.cA k)) = some (.type "type")
/-- what the module has -/
structure Glob (S : Su) (c : TC) (F : Fns) (k : Nat) : Prop where
  own : ∀ x f, c.gf.lookup x = some f → FnAt S F k x f
  cst : ∀ x t, c.gc.lookup x = some t → ∃ v u, S.mg x = some u ∧ RelV v u ∧ ∀ H, Rep S H t v
  blt : ∀ x, c.bl.contains x = true → S.mg x = none
  exc : ∀ x k, c.gx.lookup x = some k → ExAt S x k
theorem backTo_plain {env : Env} {pos : Pos} : ∀ {es : List Expr}, (∀ e ∈ es, ∀ a p, e ≠ .Starred a p) → (backTo pos (starEach es env)).any (·.1) = false
  | [], _ => rfl
  | e :: es, h => by
    rw [star_cons (h e (List.mem_cons_self ..))]
    have := backTo_plain (pos := pos) (env := env) (es := es) fun e he => h e (List.mem_cons_of_mem _ he)
    simpa [backTo] using this
theorem e_call {f : Nat} {x : Str} {e : Expr} {es : List Expr} {xs : List E} {p pos : Pos} (g : Good S c k X sc so) (tk : Takes X W) (hF : FnAt S F k x f) (hg : glB sc x = true) (hn : okName x = true)
    (hs : ∀ e' ∈ e :: es, ∀ a p, e' ≠ .Starred a p) (ha : PA X (e :: es) (dA S W (evs F xs))) : PE X (.Call (.Name x p) (e :: es) [] pos) (dE S W (ev F (.call f xs))) := by
  obtain ⟨fd, ps, h1, h2, h3, h5, h4⟩ := hF.ex
  have h4' : FnOk X.prog X.w X.K X.mg X.base (L2.CX X.prog X.w) k (S.fA f) fd ps (spF S F f ps.length) := by
    rw [g.hP, g.hw, g.hK, g.hmg, g.hb]; exact h4
  refine (pe_callS (E := WE W) h4' g.room (glB_of (by rw [g.sc]; exact hg)) (by rw [g.hmg]; exact h1) (by rw [g.hK]; exact h2) (by rw [g.hK]; exact h3) (fun σ => passAt tk σ) ha (okName_of hn).1
    (star_cons (hs e (List.mem_cons_self ..))) (backTo_plain fun e' he => hs e' (List.mem_cons_of_mem _ he))).imp fun σ H Q q => ?_
  obtain ⟨E, env, o, eo, p⟩ := q
  simp only [ev] at p
  refine ⟨E, env, o, eo, (PostG.split p).imp fun ts F1 H1 s1 p1 vs rs => ⟨?_, F1, ts, s1.ok, rs, ?_⟩⟩
  · rw [← rs.length]
    exact h5 ts fun z => by rw [z] at p1; exact p1.elim
  · cases e1 : F f ts with
    | ok t => rw [e1] at p1; exact fun v F' H' s r => p1 F' H' s v r
    | ex d => rw [e1] at p1; exact p1
    | no => rw [e1] at p1; exact p1
end
end Fz

/-! built-ins, targets -/
namespace Fz
open PySem PySem.Spec L2
open PyProof.Rows hiding St

variable {S : Su}
def rBl (S : Su) (g : List T → Res T) : List V → Hp → VK → Prop := fun vs H Q => ∃ E ts t, Ok S E H ∧ Reps S E ts vs ∧ g ts = .ok t ∧ ∀ v F' H', Step S E H F' H' → Rep S F' t v → Q v H'
theorem intsT_vals {H : Hp} : ∀ {ts : List T} {vs : List V} {ns : List Int}, Reps S H ts vs → intsT ts = some ns → vs = ns.map V.int
  | [], _, _, r, e => by cases e; exact r
  | t :: ts, _, _, r, e => by
    obtain ⟨v, w, rfl, r1, r2⟩ := r
    cases t <;> first | cases e; done | skip
    simp only [intsT] at e
    cases e1 : intsT ts with
    | none => rw [e1] at e; cases e
    | some ms =>
      rw [e1] at e
      cases e
      rw [intsT_vals r2 e1, show v = _ from r1]
      rfl
theorem boolsT_vals {H : Hp} : ∀ {ts : List T} {vs : List V} {ns : List Bool}, Reps S H ts vs → boolsT ts = some ns → vs = ns.map V.bl
  | [], _, _, r, e => by cases e; exact r
  | t :: ts, _, _, r, e => by
    obtain ⟨v, w, rfl, r1, r2⟩ := r
    cases t <;> first | cases e; done | skip
    simp only [boolsT] at e
    cases e1 : boolsT ts with
    | none => rw [e1] at e; cases e
    | some ms =>
      rw [e1] at e
      cases e
      rw [boolsT_vals r2 e1, show v = _ from r1]
      rfl
section
variable {X : Cx} {W : WX} {F : Fns} {c : TC} {sc so : Scope} {k : Nat}
theorem k_abs : CallR X (.builtin "abs") (rBl S (bltT .abs)) := by
  intro pins s σ H vs us Q I r h
  obtain ⟨E, ts, t, o, rs, e, q⟩ := h
  rcases ts with _ | ⟨a, _ | ⟨b, ts⟩⟩ <;> first | cases e; done | skip
  · cases a <;> first | cases e; done | skip
    cases e
    obtain ⟨v, w, rfl, r1, rfl⟩ := rs
    exact call_abs pins s σ H _ us Q I r ⟨_, by rw [show v = _ from r1], q _ E H (.refl o) rfl⟩
  · cases a <;> cases e
theorem k_max2 (hc : X.calm = true) : CallR X (.builtin "max") (rBl S (bltT .max2)) := by
  intro pins s σ H vs us Q I r h
  obtain ⟨E, ts, t, o, rs, e, q⟩ := h
  rcases ts with _ | ⟨a, _ | ⟨b, _ | ⟨d, ts⟩⟩⟩ <;> first | cases e; done | skip
  · cases a <;> cases e
  · cases a <;> cases b <;> first | cases e; done | skip
    cases e
    obtain ⟨v, w, rfl, r1, v2, w2, rfl, r2, rfl⟩ := rs
    exact call_max2 hc pins s σ H _ us Q I r ⟨_, _, by rw [show v = _ from r1, show v2 = _ from r2], q _ E H (.refl o) rfl⟩
  · cases a <;> cases b <;> cases e
theorem k_min2 (hc : X.calm = true) : CallR X (.builtin "min") (rBl S (bltT .min2)) := by
  intro pins s σ H vs us Q I r h
  obtain ⟨E, ts, t, o, rs, e, q⟩ := h
  rcases ts with _ | ⟨a, _ | ⟨b, _ | ⟨d, ts⟩⟩⟩ <;> first | cases e; done | skip
  · cases a <;> cases e
  · cases a <;> cases b <;> first | cases e; done | skip
    cases e
    obtain ⟨v, w, rfl, r1, v2, w2, rfl, r2, rfl⟩ := rs
    exact call_min2 hc pins s σ H _ us Q I r ⟨_, _, by rw [show v = _ from r1, show v2 = _ from r2], q _ E H (.refl o) rfl⟩
  · cases a <;> cases b <;> cases e
theorem k_sum (hK : X.K = S.K) (hc : X.calm = true) : CallR X (.builtin "sum") (rBl S (bltT .sum)) := by
  intro pins s σ H vs us Q I r h
  obtain ⟨E, ts, t, o, rs, e, q⟩ := h
  rcases ts with _ | ⟨a, _ | ⟨b, ts⟩⟩ <;> first | cases e; done | skip
  · cases a <;> first | cases e; done | skip
    rename_i xs
    simp only [bltT] at e
    cases e1 : intsT xs with
    | none => rw [e1] at e; cases e
    | some ns =>
      rw [e1] at e
      cases e
      obtain ⟨v, w, rfl, ⟨p, ws, rfl, h1, _, r2⟩, rfl⟩ := rs
      exact cr_sum hc pins s σ H _ us Q I r ⟨p, ns, rfl, (by rw [← intsT_vals r2 e1]; exact hK ▸ (o.sub.la h1).sq), q _ E H (.refl o) rfl⟩
  · cases a <;> cases e
theorem k_all (hK : X.K = S.K) (hc : X.calm = true) : CallR X (.builtin "all") (rBl S (bltT .all)) := by
  intro pins s σ H vs us Q I r h
  obtain ⟨E, ts, t, o, rs, e, q⟩ := h
  rcases ts with _ | ⟨a, _ | ⟨b, ts⟩⟩ <;> first | cases e; done | skip
  · cases a <;> first | cases e; done | skip
    rename_i xs
    simp only [bltT] at e
    cases e1 : boolsT xs with
    | none => rw [e1] at e; cases e
    | some ns =>
      rw [e1] at e
      cases e
      obtain ⟨v, w, rfl, ⟨p, ws, rfl, h1, _, r2⟩, rfl⟩ := rs
      exact cr_all hc pins s σ H _ us Q I r ⟨p, ns, rfl, (by rw [← boolsT_vals r2 e1]; exact hK ▸ (o.sub.la h1).sq), q _ E H (.refl o) rfl⟩
  · cases a <;> cases e
theorem k_any (hK : X.K = S.K) (hc : X.calm = true) : CallR X (.builtin "any") (rBl S (bltT .any)) := by
  intro pins s σ H vs us Q I r h
  obtain ⟨E, ts, t, o, rs, e, q⟩ := h
  rcases ts with _ | ⟨a, _ | ⟨b, ts⟩⟩ <;> first | cases e; done | skip
  · cases a <;> first | cases e; done | skip
    rename_i xs
    simp only [bltT] at e
    cases e1 : boolsT xs with
    | none => rw [e1] at e; cases e
    | some ns =>
      rw [e1] at e
      cases e
      obtain ⟨v, w, rfl, ⟨p, ws, rfl, h1, _, r2⟩, rfl⟩ := rs
      exact cr_any hc pins s σ H _ us Q I r ⟨p, ns, rfl, (by rw [← boolsT_vals r2 e1]; exact hK ▸ (o.sub.la h1).sq), q _ E H (.refl o) rfl⟩
  · cases a <;> cases e
theorem k_int : CallR X (.type "int") (rBl S (bltT .int)) := by
  intro pins s σ H vs us Q I r h
  obtain ⟨E, ts, t, o, rs, e, q⟩ := h
  rcases ts with _ | ⟨a, _ | ⟨b, ts⟩⟩ <;> first | cases e; done | skip
  · cases a <;> first | cases e; done | skip
    · cases e
      obtain ⟨v, w, rfl, r1, rfl⟩ := rs
      exact call_int1 pins s σ H _ us Q I r (.inr ⟨_, by rw [show v = _ from r1], q _ E H (.refl o) rfl⟩)
    · cases e
      obtain ⟨v, w, rfl, r1, rfl⟩ := rs
      exact call_int1 pins s σ H _ us Q I r (.inl ⟨_, by rw [show v = _ from r1], q _ E H (.refl o) rfl⟩)
  · cases a <;> cases e
theorem k_str : CallR X (.type "str") (rBl S (bltT .str)) := by
  intro pins s σ H vs us Q I r h
  obtain ⟨E, ts, t, o, rs, e, q⟩ := h
  rcases ts with _ | ⟨a, _ | ⟨b, ts⟩⟩ <;> first | cases e; done | skip
  · cases a <;> first | cases e; done | skip
    simp only [bltT] at e
    split at e
    · rename_i hz
      cases e
      obtain ⟨v, w, rfl, r1, rfl⟩ := rs
      exact call_str_int pins s σ H _ us Q I r ⟨_, by rw [show v = _ from r1], Nat.lt_trans (PySem.Flt.log2_lt_of (by decide) hz) (by decide), q _ E H (.refl o) rfl⟩
    · cases e
  · cases a <;> cases e
theorem k_tuple (hK : X.K = S.K) : CallR X (.type "tuple") (rBl S (bltT .tuple)) := by
  intro pins s σ H vs us Q I r h
  obtain ⟨E, ts, t, o, rs, e, q⟩ := h
  rcases ts with _ | ⟨a, _ | ⟨b, ts⟩⟩ <;> first | cases e; done | skip
  · cases a <;> first | cases e; done | skip
    · cases e
      obtain ⟨v, w, rfl, ⟨p, ws, rfl, h1, l1, r2⟩, rfl⟩ := rs
      exact call_tuple_of pins s σ H _ us Q I r ⟨p, ws, rfl, .inr ⟨hK ▸ o.sub.sqT h1, q _ E H (.refl o) ⟨p, ws, rfl, h1, l1, r2⟩⟩⟩
    · cases e
      obtain ⟨v, w, rfl, ⟨p, ws, rfl, h1, l1, r2⟩, rfl⟩ := rs
      exact call_tuple_of pins s σ H _ us Q I r ⟨p, ws, rfl, .inl ⟨hK ▸ (o.sub.la h1).sq, Post.tup o r2 l1 q⟩⟩
  · cases a <;> cases e
/-- list(..): the frame's own, or going on -/
def rBn (S : Su) (g : List T → Res T) : List V → Hp → VK → Prop := fun vs H Q => ∃ E ts t, Ok S E H ∧ Reps S E ts vs ∧ g ts = .ok t ∧ ∀ F' H', Step S E H F' H' → ∀ a, H a = none → F' a = none → Own S F' H' a t → Q (.ref a) H'
theorem k_list (hK : X.K = S.K) : CallR X (.type "list") (rBn S (bltT .list)) := by
  intro pins s σ H vs us Q I r h
  obtain ⟨E, ts, t, o, rs, e, q⟩ := h
  rcases ts with _ | ⟨a, _ | ⟨b, ts⟩⟩ <;> first | cases e; done | skip
  · cases a <;> first | cases e; done | skip
    · cases e
      obtain ⟨v, w, rfl, ⟨p, ws, rfl, h1, l1, r2⟩, rfl⟩ := rs
      exact call_list_of pins s σ H _ us Q I r ⟨p, ws, rfl, .inr (hK ▸ o.sub.sqT h1), Post.own o r2 l1 (.refl _) q⟩
    · cases e
      obtain ⟨v, w, rfl, ⟨p, ws, rfl, h1, l1, r2⟩, rfl⟩ := rs
      exact call_list_of pins s σ H _ us Q I r ⟨p, ws, rfl, .inl (hK ▸ (o.sub.la h1).sq), Post.own o r2 l1 (.refl _) q⟩
  · cases a <;> cases e
theorem bltT_nx (b : Blt) (ts : List T) (d : Nat) : bltT b ts ≠ .ex d := by
  unfold bltT
  split <;> first
    | (intro h; cases h; done)
    | (split <;> first | (intro h; cases h; done) | (split <;> intro h <;> cases h))
theorem impB {xs : List E} {b : Blt} {σ : St} {H : Hp} {Q : VK} (q : dE S W (ev F (.blt b xs)) σ H Q) : tCB (rBl S (bltT b)) (dA S W (evs F xs)) σ H Q := by
  obtain ⟨E, env, o, eo, p⟩ := q
  simp only [ev] at p
  refine ⟨E, env, o, eo, (PostG.split p).imp fun ts F1 H1 s1 p1 vs rs => ?_⟩
  cases e1 : bltT b ts with
  | ok u => rw [e1] at p1; exact ⟨F1, ts, u, s1.ok, rs, e1, fun v F' H' s r => p1 F' H' s v r⟩
  | ex d => exact (bltT_nx _ _ _ e1).elim
  | no => rw [e1] at p1; exact p1.elim
theorem impN {xs : List E} {b : Blt} {σ : St} {H : Hp} {Q : VK} (q : dN S W (ev F (.blt b xs)) σ H Q) : tCB (rBn S (bltT b)) (dA S W (evs F xs)) σ H Q := by
  obtain ⟨E, env, o, eo, p⟩ := q
  simp only [ev] at p
  refine ⟨E, env, o, eo, (PostG.split p).imp fun ts F1 H1 s1 p1 vs rs => ?_⟩
  cases e1 : bltT b ts with
  | ok u => rw [e1] at p1; exact ⟨F1, ts, u, s1.ok, rs, e1, fun F' H' s a ha hF ow => p1 F' H' s a (s1.hh.none ha) hF ow⟩
  | ex d => exact (bltT_nx _ _ _ e1).elim
  | no => rw [e1] at p1; exact p1.elim
theorem list_ok {xs : List E} (env : Cells) (t : T) (h : ev F (.blt .list xs) env = .ok t) : ∃ ts, t = .lst ts := by
  simp only [ev] at h
  cases e : evs F xs env with
  | ok ts =>
    simp only [e, Res.bind] at h
    rcases ts with _ | ⟨a, _ | ⟨b, ts⟩⟩ <;> first | cases h; done | skip
    · cases a <;> first | (cases h; done) | (cases h; exact ⟨_, rfl⟩)
    · cases a <;> cases h
  | ex d => rw [e] at h; cases h
  | no => rw [e] at h; cases h
theorem n_list {x : Str} {e : Expr} {es : List Expr} {xs : List E} {p pos : Pos} (g : Good S c k X sc so) (hx : x = "list") (hg : glB sc x = true) (hm : S.mg x = none) (hs : ∀ e' ∈ e :: es, ∀ a p, e' ≠ .Starred a p) (ha : PA X (e :: es) (dA S W (evs F xs))) :
    PE X (.Call (.Name x p) (e :: es) [] pos) (dN S W (ev F (.blt .list xs))) := by
  subst hx
  exact (pe_callTy (k_list g.hK) (glB_of (by rw [g.sc]; exact hg)) (by rw [g.hmg]; exact hm) PyProof.Rows.boot_list ha (by decide) (by decide) (star_cons (hs e (List.mem_cons_self ..))) (backTo_plain fun e' he => hs e' (List.mem_cons_of_mem _ he))).imp fun σ H Q q => impN q
theorem e_blt {x : Str} {b : Blt} {n : Nat} {e : Expr} {es : List Expr} {xs : List E} {p pos : Pos} (g : Good S c k X sc so) (hb : trBlt x n = some b) (hb' : b ≠ .sorted ∧ b ≠ .dict ∧ b ≠ .max1 ∧ b ≠ .min1) (hg : glB sc x = true) (hm : S.mg x = none) (hs : ∀ e' ∈ e :: es, ∀ a p, e' ≠ .Starred a p) (ha : PA X (e :: es) (dA S W (evs F xs))) :
    PE X (.Call (.Name x p) (e :: es) [] pos) (dE S W (ev F (.blt b xs))) := by
  have gl : Gl X x := glB_of (by rw [g.sc]; exact hg)
  have mg : X.mg x = none := by rw [g.hmg]; exact hm
  have s1 := star_cons (env := X.env) (es := es) (hs e (List.mem_cons_self ..))
  have s2 := backTo_plain (pos := pos) (env := X.env) fun e' he => hs e' (List.mem_cons_of_mem _ he)
  unfold trBlt at hb
  by_cases h : x = "abs" ∧ n = 1
  · rw [if_pos h] at hb
    cases hb
    obtain ⟨rfl, _⟩ := h
    exact (pe_callB k_abs gl mg PyProof.Rows.boot_abs ha (by decide) (by decide) s1 s2).imp fun σ H Q q => impB q
  rw [if_neg h] at hb
  clear h
  by_cases h : x = "max" ∧ n = 2
  · rw [if_pos h] at hb
    cases hb
    obtain ⟨rfl, _⟩ := h
    exact (pe_callB (k_max2 g.calm) gl mg PyProof.Rows.boot_max ha (by decide) (by decide) s1 s2).imp fun σ H Q q => impB q
  rw [if_neg h] at hb
  clear h
  by_cases h : x = "min" ∧ n = 2
  · rw [if_pos h] at hb
    cases hb
    obtain ⟨rfl, _⟩ := h
    exact (pe_callB (k_min2 g.calm) gl mg PyProof.Rows.boot_min ha (by decide) (by decide) s1 s2).imp fun σ H Q q => impB q
  rw [if_neg h] at hb
  clear h
  by_cases h : x = "max" ∧ n = 1
  · rw [if_pos h] at hb
    cases hb
    obtain ⟨rfl, _⟩ := h
    exact absurd rfl hb'.2.2.1
  rw [if_neg h] at hb
  clear h
  by_cases h : x = "min" ∧ n = 1
  · rw [if_pos h] at hb
    cases hb
    obtain ⟨rfl, _⟩ := h
    exact absurd rfl hb'.2.2.2
  rw [if_neg h] at hb
  clear h
  by_cases h : x = "sum" ∧ n = 1
  · rw [if_pos h] at hb
    cases hb
    obtain ⟨rfl, _⟩ := h
    exact (pe_callB (k_sum g.hK g.calm) gl mg PyProof.Rows.boot_sum ha (by decide) (by decide) s1 s2).imp fun σ H Q q => impB q
  rw [if_neg h] at hb
  clear h
  by_cases h : x = "all" ∧ n = 1
  · rw [if_pos h] at hb
    cases hb
    obtain ⟨rfl, _⟩ := h
    exact (pe_callB (k_all g.hK g.calm) gl mg PyProof.Rows.boot_all ha (by decide) (by decide) s1 s2).imp fun σ H Q q => impB q
  rw [if_neg h] at hb
  clear h
  by_cases h : x = "any" ∧ n = 1
  · rw [if_pos h] at hb
    cases hb
    obtain ⟨rfl, _⟩ := h
    exact (pe_callB (k_any g.hK g.calm) gl mg PyProof.Rows.boot_any ha (by decide) (by decide) s1 s2).imp fun σ H Q q => impB q
  rw [if_neg h] at hb
  clear h
  by_cases h : x = "list" ∧ n = 1
  · rw [if_pos h] at hb
    cases hb
    obtain ⟨rfl, _⟩ := h
    exact dE_of_dN list_ok (n_list g rfl hg hm hs ha)
  rw [if_neg h] at hb
  clear h
  by_cases h : x = "tuple" ∧ n = 1
  · rw [if_pos h] at hb
    cases hb
    obtain ⟨rfl, _⟩ := h
    exact (pe_callTy (k_tuple g.hK) gl mg PyProof.Rows.boot_tuple ha (by decide) (by decide) s1 s2).imp fun σ H Q q => impB q
  rw [if_neg h] at hb
  clear h
  by_cases h : x = "int" ∧ n = 1
  · rw [if_pos h] at hb
    cases hb
    obtain ⟨rfl, _⟩ := h
    exact (pe_callTy k_int gl mg PyProof.Rows.boot_int ha (by decide) (by decide) s1 s2).imp fun σ H Q q => impB q
  rw [if_neg h] at hb
  clear h
  by_cases h : x = "str" ∧ n = 1
  · rw [if_pos h] at hb
    cases hb
    obtain ⟨rfl, _⟩ := h
    exact (pe_callTy k_str gl mg PyProof.Rows.boot_str ha (by decide) (by decide) s1 s2).imp fun σ H Q q => impB q
  rw [if_neg h] at hb
  clear h
  by_cases h : x = "sorted" ∧ n = 1
  · rw [if_pos h] at hb
    cases hb
    obtain ⟨rfl, _⟩ := h
    exact absurd rfl hb'.1
  rw [if_neg h] at hb
  clear h
  by_cases h : x = "dict" ∧ n = 1
  · rw [if_pos h] at hb
    cases hb
    obtain ⟨rfl, _⟩ := h
    exact absurd rfl hb'.2.1
  rw [if_neg h] at hb
  clear h
  cases hb
end
end Fz

/-! isinstance, targets, what is walked -/
namespace Fz
open PySem PySem.Spec L2
open PyProof.Rows hiding St

variable {S : Su}
section
variable {X : Cx} {W : WX} {F : Fns} {c : TC} {sc so : Scope} {k : Nat}
/-! ### isinstance against a built-in class -/
def tyT : T → Option String
  | .non => some "NoneType"
  | .bl _ => some "bool"
  | .int _ => some "int"
  | .str _ => some "str"
  | .tup _ => some "tuple"
  | .lst _ => some "list"
  | _ => none
theorem Rep.ty {H : Hp} {t : T} {v : V} {n : String} (r : Rep S H t v) (e : tyT t = some n) : TyX S.K H v (.type n) := by
  cases t with
  | non => cases e; rw [show v = _ from r]; exact .base .non
  | bl b => cases e; rw [show v = _ from r]; exact .base (.bl b)
  | int i => cases e; rw [show v = _ from r]; exact .base (.int i)
  | str x => cases e; rw [show v = _ from r]; exact .base (.str x)
  | tup ts =>
    cases e
    obtain ⟨a, vs, rfl, q, _⟩ := r
    rcases q with (q | ⟨o, q⟩) | ⟨o, its, m, q, h1, _⟩
    · exact .base (.tup q)
    · exact .fTuple q
    · exact .kTuple q h1
  | lst ts =>
    cases e
    obtain ⟨a, vs, rfl, q, _⟩ := r
    rcases q with (q | ⟨o, q⟩) | ⟨its, n, q, _⟩
    · exact .base (.lst q)
    · exact .base (.frz q)
    · exact .kList q rfl
  | _ => cases e
/-- the class that a built-in isinstance asks for -/
def isiCls : Blt → Option String
  | .isInt => some "int"
  | .isBool => some "bool"
  | .isTuple => some "tuple"
  | .isStr => some "str"
  | _ => none
theorem isi_kit {b : Blt} {n : String} {t u : T} (hb : isiCls b = some n) (e : bltT b [t] = .ok u) : ∃ m r, tyT t = some m ∧ u = .bl r ∧ kitB m n = some r := by
  cases b <;> first | cases hb; done | skip
  all_goals
    cases hb
    cases t <;> first
      | (cases e; done)
      | (cases e; exact ⟨_, _, rfl, rfl, by decide +kernel⟩)
theorem e_isi {b : Blt} {n : String} {x : Str} {a : Expr} {y : E} {p p2 pos : Pos} (g : Good S c k X sc so) (hb : isiCls b = some n) (hx : bootBuiltins x = some (.type n)) (hn : okName x = true) (hgx : glB sc x = true) (hmx : S.mg x = none)
    (hg : glB sc "isinstance" = true) (hm : S.mg "isinstance" = none) (hs : ∀ b q, a ≠ .Starred b q) (ha : PE X a (dE S W (ev F y))) : PE X (.Call (.Name "isinstance" p) [a, .Name x p2] [] pos) (dE S W (ev F (.blt b [y]))) := by
  have hv : PE X (.Name x p2) (tC (.ty n)) := pe_bltn (glB_of (by rw [g.sc]; exact hgx)) (by rw [g.hmg]; exact hmx) hx rfl (okName_of hn).2.2 (okName_of hn).1
  refine (pe_callB call_isi (glB_of (by rw [g.sc]; exact hg)) (by rw [g.hmg]; exact hm) PyProof.Rows.boot_isinstance (pa_cons ha (pa_cons hv pa_nil (star_cons fun _ _ h => by cases h)) (star_cons hs)) (by decide) (by decide) (star_cons hs) rfl).imp fun σ H Q q => ?_
  obtain ⟨E, env, o, eo, p⟩ := q
  simp only [ev, evs, bind_assoc] at p
  refine ⟨E, env, o, eo, (PostG.split p).imp fun t F1 H1 s1 p1 v rv => ?_⟩
  simp only [Res.bind] at p1
  cases e1 : bltT b [t] with
  | ok u =>
    obtain ⟨m, r, h1, rfl, h2⟩ := isi_kit hb e1
    rw [e1] at p1
    exact ⟨v, .ty n, _, _, r, rfl, .ty n, g.hK ▸ (rv.mono s1.ok.sub).ty h1, kit_ty h2, p1 F1 H1 (.refl s1.ok) _ rfl⟩
  | ex d => exact (bltT_nx _ _ _ e1).elim
  | no => rw [e1] at p1; exact p1.elim

/-! ### targets -/
/-- what is of the frame's own behind was so ahead, at the same place -/
def Less (σ : St) (env : Cells) (σ' : St) (env' : Cells) : Prop := ∀ (j : Nat) (t : T), env'[j]? = some (Cell.ow t) → env[j]? = some (Cell.ow t) ∧ σ'[j]? = σ[j]?
theorem Less.refl (σ : St) (env : Cells) : Less σ env σ env := fun _ _ h => ⟨h, rfl⟩
theorem Less.trans {σ σ1 σ2 : St} {env env1 env2 : Cells} (a : Less σ env σ1 env1) (b : Less σ1 env1 σ2 env2) : Less σ env σ2 env2 := fun j t h => by
  obtain ⟨h1, h2⟩ := b j t h
  obtain ⟨h3, h4⟩ := a j t h1
  exact ⟨h3, h2.trans h4⟩
/-- nothing changes but the slots ix -/
def Keep (ix : List Nat) (σ σ' : St) : Prop := σ'.length = σ.length ∧ ∀ j, j ∉ ix → σ'[j]? = σ[j]?
theorem Keep.refl (ix : List Nat) (σ : St) : Keep ix σ σ := ⟨rfl, fun _ _ => rfl⟩
theorem Keep.trans {ix jx : List Nat} {σ σ1 σ2 : St} (a : Keep ix σ σ1) (b : Keep jx σ1 σ2) : Keep (ix ++ jx) σ σ2 := ⟨b.1.trans a.1, fun j h => (b.2 j fun z => h (List.mem_append_right _ z)).trans (a.2 j fun z => h (List.mem_append_left _ z))⟩
def dG (S : Su) (g : Tg) : TG := fun v σ H Q => ∃ E env t env', Ok S E H ∧ EnvOk S E H σ env ∧ Rep S E t v ∧ asgT g t env = some env' ∧ ∀ σ', EnvOk S E H σ' env' → Less σ env σ' env' → Keep (tgIx g) σ σ' → Q σ' H
def dGs (S : Su) (gs : List Tg) : TGs := fun vs σ H Q => ∃ E env ts env', Ok S E H ∧ EnvOk S E H σ env ∧ Reps S E ts vs ∧ asgTs gs ts env = some env' ∧ ∀ σ', EnvOk S E H σ' env' → Less σ env σ' env' → Keep (tgIxs gs) σ σ' → Q σ' H
theorem EnvOk.set {E H : Hp} {σ : St} {env : Cells} {i : Nat} {t : T} {v : V} (e : EnvOk S E H σ env) (r : Rep S E t v) : EnvOk S E H (σ.set i (some v)) (env.set i (.sh t)) := by
  refine ⟨by rw [List.length_set, List.length_set]; exact e.len, fun j d h => ?_⟩
  by_cases hj : i = j
  · subst hj
    by_cases hl : i < env.length
    · rw [List.getElem?_set_self hl] at h
      cases h
      exact ⟨v, by rw [List.getElem?_set_self (by rw [e.len]; exact hl)], r⟩
    · rw [List.getElem?_eq_none (by simpa using hl)] at h
      cases h
  · rw [List.getElem?_set_ne hj] at h
    have q := e.slot j d h
    cases d with
    | un => trivial
    | sh u => obtain ⟨w, h1, h2⟩ := q; exact ⟨w, by rw [List.getElem?_set_ne hj]; exact h1, h2⟩
    | ow u => obtain ⟨a, h1, h2⟩ := q; exact ⟨a, by rw [List.getElem?_set_ne hj]; exact h1, h2⟩
theorem Less.set {σ : St} {env : Cells} {i : Nat} {t : T} {v : V} : Less σ env (σ.set i (some v)) (env.set i (.sh t)) := fun j u h => by
  by_cases hj : i = j
  · subst hj
    by_cases hl : i < env.length
    · rw [List.getElem?_set_self hl] at h; cases h
    · rw [List.getElem?_eq_none (by simpa using hl)] at h; cases h
  · rw [List.getElem?_set_ne hj] at h
    exact ⟨h, by rw [List.getElem?_set_ne hj]⟩
theorem locB_of {x : Str} (g : Good S c k X sc so) (h : locB sc so x = true) : Loc X.env.scope x ∧ (X.fn x = true ∨ X.env.scope.names.lookup x = some .local) := by
  rw [g.sc]
  unfold locB at h
  split at h
  · rename_i e
    exact ⟨.inl e, .inr e⟩
  · rename_i e1 e2
    exact ⟨.inr e1, .inl (g.fn x e2)⟩
  · cases h
theorem _root_.L2.PG.imp {X : Cx} {e : Expr} {t t' : TG} (h : PG X e t) (i : ∀ v σ H Q, t' v σ H Q → t v σ H Q) : PG X e t' := ⟨fun pins s σ H v u Q I r q => h.run pins s σ H v u Q I r (i v σ H Q q)⟩
theorem _root_.L2.PG.or {X : Cx} {e : Expr} {t t' : TG} (h : PG X e t) (h' : PG X e t') : PG X e (fun v σ H Q => t v σ H Q ∨ t' v σ H Q) := ⟨fun pins s σ H v u Q I r q => by
  rcases q with q | q
  · exact h.run pins s σ H v u Q I r q
  · exact h'.run pins s σ H v u Q I r q⟩
theorem _root_.L2.PGs.imp {X : Cx} {e : List Expr} {t t' : TGs} (h : PGs X e t) (i : ∀ v σ H Q, t' v σ H Q → t v σ H Q) : PGs X e t' := ⟨fun pins s σ H v u Q I r q => h.run pins s σ H v u Q I r (i v σ H Q q)⟩
theorem g_name {x : Str} {i : Nat} {pos : Pos} (g : Good S c k X sc so) (h : locB sc so x = true) (hi : ixOf x c.N 0 = some i) : PG X (.Name x pos) (dG S (.nm i)) := by
  obtain ⟨h1, h2⟩ := locB_of g h
  refine (pg_name g.nd (by rw [g.hN]; exact ixOf_at hi) h1 h2).imp fun v σ H Q q => ?_
  obtain ⟨E, env, t, env', o, eo, r, e, p⟩ := q
  cases e
  exact p _ (eo.set r) .set ⟨List.length_set .., fun j hj => List.getElem?_set_ne (fun z => hj (by rw [z]; exact List.mem_singleton.mpr rfl))⟩
theorem g_nil : PGs X [] (dGs S []) := by
  refine pgs_nil.imp fun vs σ H Q q => ?_
  obtain ⟨E, env, ts, env', o, eo, r, e, p⟩ := q
  cases ts with
  | nil => cases e; exact ⟨r, p σ eo (.refl _ _) (.refl _ _)⟩
  | cons t ts => cases e
theorem assignEach_cons {e : Expr} {es : List Expr} {env : Env} (h : ∀ a p, e ≠ .Starred a p) : assignEach (e :: es) env = (false, assign e env) :: assignEach es env := by
  cases e <;> first | rfl | exact absurd rfl (h _ _)
theorem g_cons {e : Expr} {es : List Expr} {x : Tg} {xs : List Tg} (hn : ∀ a p, e ≠ .Starred a p) (h : PG X e (dG S x)) (hs : PGs X es (dGs S xs)) : PGs X (e :: es) (dGs S (x :: xs)) := by
  refine (pgs_cons h hs (by rw [assignEach_cons hn]; rfl)).imp fun vs σ H Q q => ?_
  obtain ⟨E, env, ts, env', o, eo, r, e, p⟩ := q
  cases ts with
  | nil => cases e
  | cons t ts =>
    obtain ⟨v, w, rfl, r1, r2⟩ := r
    simp only [asgTs] at e
    cases e1 : asgT x t env with
    | none => rw [e1] at e; cases e
    | some env1 =>
      rw [e1] at e
      exact ⟨v, w, rfl, E, env, t, env1, o, eo, r1, e1, fun σ1 eo1 l1 k1 => ⟨E, env1, ts, env', o, eo1, r2, e, fun σ2 eo2 l2 k2 => p σ2 eo2 (l1.trans l2) (k1.trans k2)⟩⟩
theorem assignEach_plain {env : Env} : ∀ {es : List Expr}, (∀ e ∈ es, ∀ a p, e ≠ .Starred a p) → (assignEach es env).length = es.length ∧ (assignEach es env).findIdx? (·.1) = none
  | [], _ => ⟨rfl, rfl⟩
  | e :: es, h => by
    rw [assignEach_cons (h e (List.mem_cons_self ..))]
    obtain ⟨h1, h2⟩ := assignEach_plain (env := env) (es := es) fun e he => h e (List.mem_cons_of_mem _ he)
    exact ⟨by rw [List.length_cons, List.length_cons, h1], by rw [List.findIdx?_cons, h2]; rfl⟩
theorem asgTs_len : ∀ {gs : List Tg} {ts : List T} {env env' : Cells}, asgTs gs ts env = some env' → ts.length = gs.length
  | [], [], _, _, _ => rfl
  | [], _ :: _, _, _, h => by cases h
  | _ :: _, [], _, _, h => by cases h
  | g :: gs, t :: ts, env, env', h => by
    simp only [asgTs] at h
    split at h
    · rw [List.length_cons, List.length_cons, asgTs_len h]
    · cases h
theorem g_tup {es : List Expr} {xs : List Tg} {j : Nat} {pos : Pos} (g : Good S c k X sc so) (hn : ∀ e ∈ es, ∀ a p, e ≠ .Starred a p) (hl : es.length = xs.length) (h : PGs X es (dGs S xs)) : PG X (.Tuple es j pos) (dG S (.tp xs)) := by
  obtain ⟨h1, h2⟩ := assignEach_plain (env := X.env) hn
  refine ((pg_tup (n := xs.length) g.calm h (by rw [h1, hl]) h2).or (pg_lst (n := xs.length) g.calm h (by rw [h1, hl]) h2)).imp fun v σ H Q q => ?_
  obtain ⟨E, env, t, env', o, eo, r, e, p⟩ := q
  simp only [asgT] at e
  cases t with
  | tup ts =>
    obtain ⟨a, vs, rfl, q1, _, rs⟩ := r
    exact .inl ⟨a, vs, rfl, g.hK ▸ o.sub.sqT q1, by rw [← rs.length]; exact asgTs_len e, E, env, ts, env', o, eo, rs, e, p⟩
  | lst ts =>
    obtain ⟨a, vs, rfl, q1, _, rs⟩ := r
    exact .inr ⟨a, vs, rfl, g.hK ▸ (o.sub.la q1).sq, by rw [← rs.length]; exact asgTs_len e, E, env, ts, env', o, eo, rs, e, p⟩
  | _ => cases e
mutual
theorem trG_ok (g : Good S c k X sc so) : ∀ (e : Expr) (x : Tg), trG c sc so e = some x → PG X e (dG S x) ∧ ∀ a p, e ≠ .Starred a p
  | .Name y pos, x, h => by
    simp only [trG] at h
    split at h
    · rename_i h1
      cases e1 : ixOf y c.N 0 with
      | none => rw [e1] at h; cases h
      | some i => rw [e1] at h; cases h; exact ⟨g_name g h1 e1, fun a p h => by cases h⟩
    · cases h
  | .Tuple es j pos, x, h => by
    simp only [trG] at h
    cases e1 : trGs c sc so es with
    | none => rw [e1] at h; cases h
    | some xs =>
      rw [e1] at h; cases h
      obtain ⟨h1, h2, h3⟩ := trGs_ok g es xs e1
      exact ⟨g_tup g h2 h3 h1, fun a p h => by cases h⟩
  | .BoolOp .., _, h => by simp [trG] at h
  | .NamedExpr .., _, h => by simp [trG] at h
  | .BinOp .., _, h => by simp [trG] at h
  | .UnaryOp .., _, h => by simp [trG] at h
  | .Lambda .., _, h => by simp [trG] at h
  | .IfExp .., _, h => by simp [trG] at h
  | .Dict .., _, h => by simp [trG] at h
  | .Set .., _, h => by simp [trG] at h
  | .ListComp .., _, h => by simp [trG] at h
  | .SetComp .., _, h => by simp [trG] at h
  | .DictComp .., _, h => by simp [trG] at h
  | .GeneratorExp .., _, h => by simp [trG] at h
  | .Await .., _, h => by simp [trG] at h
  | .Yield .., _, h => by simp [trG] at h
  | .YieldFrom .., _, h => by simp [trG] at h
  | .Compare .., _, h => by simp [trG] at h
  | .Call .., _, h => by simp [trG] at h
  | .FormattedValue .., _, h => by simp [trG] at h
  | .JoinedStr .., _, h => by simp [trG] at h
  | .Constant .., _, h => by simp [trG] at h
  | .Attribute .., _, h => by simp [trG] at h
  | .Subscript .., _, h => by simp [trG] at h
  | .Starred .., _, h => by simp [trG] at h
  | .List .., _, h => by simp [trG] at h
  | .Slice .., _, h => by simp [trG] at h
theorem trGs_ok (g : Good S c k X sc so) : ∀ (es : List Expr) (xs : List Tg), trGs c sc so es = some xs → PGs X es (dGs S xs) ∧ (∀ e ∈ es, ∀ a p, e ≠ .Starred a p) ∧ es.length = xs.length
  | [], xs, h => by
    simp only [trGs] at h; cases h
    exact ⟨g_nil, fun e he => (nomatch he), rfl⟩
  | e :: es, xs, h => by
    simp only [trGs] at h
    cases e1 : trG c sc so e with
    | none => simp only [e1] at h; cases h
    | some x =>
      cases e2 : trGs c sc so es with
      | none => simp only [e1, e2] at h; cases h
      | some ys =>
        simp only [e1, e2] at h
        cases h
        obtain ⟨h1, h2⟩ := trG_ok g e x e1
        obtain ⟨h3, h4, h5⟩ := trGs_ok g es ys e2
        refine ⟨g_cons h2 h1 h3, fun e' he => ?_, by rw [List.length_cons, List.length_cons, h5]⟩
        rcases List.mem_cons.mp he with rfl | he
        · exact h2
        · exact h4 e' he
end
end
end Fz

/-! enumerate and zip over lists and tuples in any mix -/
namespace PySem
open Sem (wp)
/-- enumerate(v): its two cells, whatever v begins -/
theorem fz_meets_enum {v : Value} {o : Obj} {G : Heap → Prop} (B : Begins v o G) :
    Meets (Builtin.«enumerate.__new__» ⟨[.type "enumerate", v], []⟩) (fun _ R s => G s.heap ∧
      R (.ok (.ret (.ref (s.heap.push o).objs.size))) { s with heap := (s.heap.push o).push { cls := .type "enumerate", data := .fields #[.none, .bool false, .ref s.heap.objs.size, rawInt 0, .none, .none] } }) := by
  refine .of_wp fun prog w A R s h => ?_
  obtain ⟨hp, g, d, tk, os⟩ := s
  obtain ⟨h1, h⟩ := h
  have sub := sub_enumerate
  have begin_ : ∀ {A' : Around} {E : Value → Shared → Prop} {Q : Value → Shared → Prop}, Q (.ref hp.objs.size) ⟨hp.push o, g, d, tk, os⟩ → wpAny (model prog w) A' (pyIter v) Q E ⟨hp, g, d, tk, os⟩ :=
    fun {A' E Q} q => B.iter prog w A' E ⟨hp, g, d, tk, os⟩ Q h1 q
  wp_walk using begin_
  refine wpAny_stack_any fun st => wpAny_pure ?_
  split
  · rename_i cl _ _ _ _ _
    cases (cl == Value.type "enumerate") <;> (wp_walk using begin_; exact ⟨_, rfl, h⟩)
  · wp_walk using begin_
    exact ⟨_, rfl, h⟩
section
variable {prog : Program} {w : World} {A : Around} {E : Value → Shared → Prop} {s : Shared}
theorem fz_enum_begins {v : Value} {o : Obj} {G : Heap → Prop} {Q : Value → Shared → Prop} (B : Begins v o G) (h1 : G s.heap)
    (h : ∀ h', IsEnum h' (s.heap.objs.size + 1) s.heap.objs.size 0 .none → h'.get? s.heap.objs.size = some o → (∀ b o, s.heap.get? b = some o → h'.get? b = some o) → Q (.ref (s.heap.objs.size + 1)) { s with heap := h' }) :
    wpAny (model prog w) A (call (.type "enumerate") [v]) Q E s := by
  refine callType_new F.called_enumerate (by decide) (F.typeCall_enumerate_1 _) (F.newCall_enumerate_1 _) (fun obj => F.args_object_init_2 obj _) F.entry_enumerate_new (fz_meets_enum B) ⟨h1, ?_⟩
  have hz : (s.heap.push o).objs.size = s.heap.objs.size + 1 := Heap.size_push ..
  show _ ∧ _
  rw [hz]
  have he : IsEnum ((s.heap.push o).push { cls := .type "enumerate", data := .fields #[.none, .bool false, .ref s.heap.objs.size, rawInt 0, .none, .none] }) (s.heap.objs.size + 1) s.heap.objs.size 0 .none := by
    have q := Heap.get?_push_size (s.heap.push o) (o := { cls := .type "enumerate", data := .fields #[.none, .bool false, .ref s.heap.objs.size, rawInt 0, .none, .none] }) rfl
    rw [hz] at q
    exact q
  exact ⟨⟨_, he, rfl⟩, h _ he (Heap.get?_push_of_some _ (Heap.get?_push_size _ B.free)) fun b u x => Heap.get?_push_of_some _ (Heap.get?_push_of_some _ x)⟩
end
end PySem

namespace Fz
open PySem PySem.Spec L2
open PyProof.Rows hiding St

/-! ### a list or a tuple that is walked: true a list, false a tuple -/
def SqK (K : PySem.W.Frag) (kd : Bool) (H : Hp) (a : Addr) (xs : List V) : Prop := if kd then SqL K H a xs else SqT K H a xs
def IsK (kd : Bool) (h : Heap) (a : Addr) (its : Array Value) : Prop := if kd then h.IsList a its else h.IsTuple a its
def ItrK (kd : Bool) (h : Heap) (it a : Addr) (i : Nat) : Prop := if kd then h.IsListIter it a i else h.IsTupleIter it a i
def objK (kd : Bool) (a : Addr) : Obj := if kd then { cls := .type "list_iterator", data := .fields #[.ref a, .int 0 0] } else { cls := .type "tuple_iterator", data := .fields #[.ref a, .int 0 0] }
theorem beginsK (kd : Bool) (a : Addr) (its : Array Value) : Begins (.ref a) (objK kd a) fun h => IsK kd h a its := by
  cases kd
  · exact begins_tuple a its
  · exact begins_list a its
theorem drawsK {prog : Program} {w : World} {A : Around} (hh : A.handled = none) (kd : Bool) (it a : Addr) (hne : a ≠ it) (its : Array Value) :
    Draws prog w A it [it, a] its.size (fun i v => its[i]? = some v) (fun i h => ItrK kd h it a i ∧ IsK kd h a its) := by
  cases kd
  · exact Draws.tuple hh it a hne its
  · exact Draws.list hh it a hne its
theorem ItrK.obj {kd : Bool} {h : Heap} {it a : Addr} {i : Nat} (x : ItrK kd h it a i) : ∃ o, h.get? it = some o ∧ ∀ v, o.data ≠ .cell v := by
  cases kd
  · obtain ⟨o, h1, h2, h3⟩ := x
    exact ⟨o, h1, fun v z => by rw [h3] at z; cases z⟩
  · obtain ⟨o, h1, h2, h3⟩ := x
    exact ⟨o, h1, fun v z => by rw [h3] at z; cases z⟩
theorem ItrK.at {kd : Bool} {h h' : Heap} {it a : Addr} {i : Nat} (x : ItrK kd h it a i) (k : ∀ o, h.get? it = some o → h'.get? it = some o) : ItrK kd h' it a i := by
  cases kd
  · obtain ⟨o, h1, h2⟩ := x
    exact ⟨o, k o h1, h2⟩
  · obtain ⟨o, h1, h2⟩ := x
    exact ⟨o, k o h1, h2⟩
theorem ItrK.begin {kd : Bool} {h : Heap} {it a : Addr} (x : h.get? it = some (objK kd a)) : ItrK kd h it a 0 := by
  cases kd
  · exact ⟨_, x, rfl, rfl⟩
  · exact ⟨_, x, rfl, rfl⟩
section
variable {X : Cx} {pins : List (Addr × Obj)} {σ : St} {H : Hp} {s : Shared} {kd : Bool} {a : Addr} {xs ys : List V}
theorem _root_.L2.Inv.seqK (I : Inv X pins σ H s) (h : SqK X.K kd H a xs) : ∃ its : List Value, Vals xs its ∧ IsK kd s.heap a its.toArray ∧ a < s.heap.objs.size := by
  cases kd
  · obtain ⟨its, r, p, _⟩ := I.tuple h
    exact ⟨its, r, p, p.lt⟩
  · obtain ⟨its, r, p, _⟩ := I.list h
    exact ⟨its, r, p.isList, p.lt⟩
theorem _root_.L2.Inv.seqK_inj (I : Inv X pins σ H s) (h : SqK X.K kd H a xs) (h' : SqK X.K kd H a ys) : xs = ys := by
  cases kd
  · exact I.tuple_inj h h'
  · exact I.list_inj h h'
end
theorem fp_ne {X : Cx} {pins : List (Addr × Obj)} {σ : St} {H : Hp} {s : Shared} {b : Addr} (I : Inv X pins σ H s) (n : H b = none) {kd : Bool} {a : Addr} {xs : List V} (q : SqK X.K kd H a xs) (hK : X.K.lookup b = none) : a ≠ b := by
  rintro rfl
  cases kd
  · rcases q with (q | ⟨o, q⟩) | ⟨o, _, _, q, _⟩
    · rw [n] at q; cases q
    · rw [n] at q; cases q
    · rw [hK] at q; cases q
  · rcases q with (q | ⟨o, q⟩) | ⟨o, _, _, q, _⟩
    · rw [n] at q; cases q
    · rw [n] at q; cases q
    · rw [hK] at q; cases q

/-! ### enumerate -/
def IteK (K : PySem.W.Frag) (kd : Bool) (a : Addr) : It :=
  ⟨fun i H => ∃ (xs : List V) (x : V), SqK K kd H a xs ∧ xs[i]? = some x,
   fun i H v H' => ∃ T x, v = .ref T ∧ H T = none ∧ H' = upd H T (.tup [.int (i : Nat), x]) ∧ ∀ xs, SqK K kd H a xs → xs[i]? = some x,
   fun i H => ∃ xs : List V, SqK K kd H a xs ∧ xs.length = i⟩
theorem turn_enumK {P : Program} {w : World} {K : PySem.W.Frag} {elts : List Expr} {kk : Nat} {tpos : Pos} (kd : Bool) (a e it : Addr) :
    Turn P w K (.Tuple elts kk tpos) (IteK K kd a) [e, it] e (fun i h => (∃ old, IsEnum h e it ((0 : Int) + (i : Int)) old) ∧ ItrK kd h it a i ∧ e ≠ it ∧ e ≠ a ∧ a ≠ it) where
  mem := by simp
  obj := fun i h st b hb => by
    obtain ⟨⟨old, he⟩, hit, _⟩ := st
    have e' : b = e ∨ b = it := by simpa using hb
    rcases e' with z | z
    · rw [z]; exact ⟨_, he, fun v q => nomatch q⟩
    · rw [z]; exact hit.obj
  keep := fun i h h' st k => by
    obtain ⟨⟨old, he⟩, hit, r⟩ := st
    exact ⟨⟨old, k e (by simp) _ he⟩, hit.at fun o q => k it (by simp) o q, r⟩
  item := by
    intro X hP hw hK hc i pins s σ H E I hf st hg
    subst hP hw hK
    obtain ⟨henum, hit, n1, n2, n3⟩ := st
    obtain ⟨xs, x, hq, hx⟩ := hg
    obtain ⟨its, rv, p, _⟩ := I.seqK hq
    obtain ⟨u, hu, ru⟩ := rv.get hx
    have hi : i < its.toArray.size := by
      rw [List.size_toArray]
      exact (List.getElem?_eq_some_iff.mp hu).1
    have D := drawsK (prog := X.prog) (w := X.w) (A := X.A.in1) (I.ok.hd hc) kd it a n3 its.toArray
    have G := GoesN.enumFrom (A := X.A) (elts := elts) (x1 := kk) (pos := tpos) 0 D e n1 (by simp [n1, n2]) (by simp)
    refine G.goes i s (fun v s2 => ∃ x H', Inv X pins σ H' s2 ∧ RelV x v ∧ (IteK X.K kd a).yld i H x H' ∧ ((∃ old, IsEnum s2.heap e it ((0 : Int) + ((i + 1 : Nat) : Int)) old) ∧ ItrK kd s2.heap it a (i + 1) ∧ e ≠ it ∧ e ≠ a ∧ a ≠ it) ∧ ∀ b ∈ [e, it], H' b = none) E hi ⟨henum, hit, p⟩ fun v h' tk hY hS hk _ => ?_
    obtain ⟨T, t, y, rfl, hnew, hy, hT⟩ := hY
    have ey : y = u := by
      rw [List.getElem?_toArray] at hy
      rw [hu] at hy
      exact (Option.some.inj hy).symm
    subst ey
    have new : ObjOk X.prog X.w (upd H T (.tup [.int (i : Nat), x])) h' T (.tup [.int (i : Nat), x]) :=
      ⟨by show 2 ≤ sizeLine; decide, [.int ((0 : Int) + (i : Int)) t, y], .cons ⟨t, by rw [Int.zero_add]⟩ (.cons ru .nil), hT⟩
    have I1 : Inv X pins σ (upd H T (.tup [.int (i : Nat), x])) { s with heap := h', toks := tk } := I.turnedNew (ch := [e, it]) hk hf hnew new
    refine ⟨.ref T, _, I1, rfl, ⟨T, x, rfl, I.hok.fresh hnew, rfl, fun ys hys => by rw [I.seqK_inj hys hq]; exact hx⟩, ⟨hS.1, hS.2.1, n1, n2, n3⟩, fun b hb => ?_⟩
    have hlt : b < s.heap.objs.size := by
      have e' : b = e ∨ b = it := by simpa using hb
      rcases e' with z | z
      · rw [z]; obtain ⟨_, q⟩ := henum; exact Heap.lt_size q
      · rw [z]; obtain ⟨_, q, _⟩ := hit.obj; exact Heap.lt_size q
    rw [upd_ne (Nat.ne_of_lt (Nat.lt_of_lt_of_le hlt hnew))]
    exact (hf b hb).1
  done := by
    intro X hP hw hK hc i pins s σ H E I hf st hg
    subst hP hw hK
    obtain ⟨henum, hit, n1, n2, n3⟩ := st
    obtain ⟨xs, hq, hx⟩ := hg
    obtain ⟨its, rv, p, _⟩ := I.seqK hq
    have hi : its.toArray.size = i := by rw [List.size_toArray, ← rv.length]; exact hx
    have D := drawsK (prog := X.prog) (w := X.w) (A := X.A.in1) (I.ok.hd hc) kd it a n3 its.toArray
    have G := GoesN.enumFrom (A := X.A) (elts := elts) (x1 := kk) (pos := tpos) 0 D e n1 (by simp [n1, n2]) (by simp)
    rw [hi] at G
    exact G.stops s (fun s1 => Inv X pins σ H s1) E ⟨henum, hit, p⟩ fun h' tk hk _ => I.turnedL (ch := [e, it]) hk hf
  self := fun A i s Q E st h => by
    obtain ⟨⟨_, he⟩, _⟩ := st
    exact wpAny_pyIter_enum he h
/-- what an enumerate over a list or a tuple asks -/
def iEnK (K : PySem.W.Frag) (kd : Bool) (ta : TA) : TI := fun σ H R => ta σ H fun vs H1 => ∃ a xs, vs = [.ref a] ∧ SqK K kd H1 a xs ∧ R (IteK K kd a) H1
theorem pi_enumK {X : Cx} {e : Expr} {ta : TA} {p pos tpos : Pos} {elts : List Expr} {kk : Nat} (kd : Bool) (hg : Gl X "enumerate") (hm : X.mg "enumerate" = none) (ha : PA X [e] ta) (hs : starEach [e] X.env = [(false, eval e X.env)]) :
    PI X (.Tuple elts kk tpos) (.Call (.Name "enumerate" p) [e] [] pos) (iEnK X.K kd ta) := by
  refine ⟨fun pins s σ H R I h => ?_⟩
  refine Call_ (ld_blt I hg hm boot_enumerate (PyProof.Rows.callWith_type1 (thn (ha.run pos pins s σ H _ I h) fun us s1 ⟨vs, H1, I1, r1, a, xs, ex, hq, q⟩ => ?_) hs rfl))
  subst ex
  cases r1 with
  | cons r rr =>
    cases rr
    cases r
    obtain ⟨its, rv, p', hlt⟩ := I1.seqK hq
    refine fz_enum_begins (beginsK kd a its.toArray) p' fun h' he hit hk => wpAny_pyIter_enum he ?_
    have I2 : Inv X pins σ H1 { s1 with heap := h' } := I1.kept (t' := s1.toks) hk
    refine ⟨s1.heap.objs.size + 1, [s1.heap.objs.size + 1, s1.heap.objs.size], _, _, H1, rfl, I2, turn_enumK kd a (s1.heap.objs.size + 1) s1.heap.objs.size, ⟨⟨.none, he⟩, .begin hit, Nat.succ_ne_self _, Nat.ne_of_gt (Nat.lt_succ_of_lt hlt), Nat.ne_of_lt hlt⟩, fun b hb => ?_, q⟩
    have hle : s1.heap.objs.size ≤ b := by
      have e' : b = s1.heap.objs.size + 1 ∨ b = s1.heap.objs.size := by simpa using hb
      rcases e' with z | z
      · rw [z]; exact Nat.le_succ _
      · rw [z]; exact Nat.le_refl _
    exact I1.fpOk hle (I1.hok.fresh hle)

/-! ### zip -/
def ItzK (K : PySem.W.Frag) (k1 k2 : Bool) (a b : Addr) : It :=
  ⟨fun i H => ∃ (xs ys : List V) (x y : V), SqK K k1 H a xs ∧ SqK K k2 H b ys ∧ xs[i]? = some x ∧ ys[i]? = some y,
   fun i H v H' => ∃ T x y, v = .ref T ∧ H T = none ∧ H' = upd H T (.tup [x, y]) ∧ (∀ xs, SqK K k1 H a xs → xs[i]? = some x) ∧ ∀ ys, SqK K k2 H b ys → ys[i]? = some y,
   fun i H => ∃ xs ys : List V, SqK K k1 H a xs ∧ SqK K k2 H b ys ∧ min xs.length ys.length = i⟩
theorem turn_zipK {P : Program} {w : World} {K : PySem.W.Frag} {elts : List Expr} {kk : Nat} {tpos : Pos} (k1 k2 : Bool) {a b z TI TO i1 i2 : Addr} (Z : ZipSep2 z TI TO i1 i2 [i1, a] [i2, b]) :
    Turn P w K (.Tuple elts kk tpos) (ItzK K k1 k2 a b) [z, TI, TO, i1, i2] z (fun i h => IsZip h z TI TO .none ∧ IsTupOf2 h TI (.ref i1) (.ref i2) ∧ (∃ x y, IsTupOf2 h TO x y) ∧ ItrK k1 h i1 a i ∧ ItrK k2 h i2 b i ∧ a ≠ i1 ∧ b ≠ i2) where
  mem := by simp
  obj := fun i h st c hc => by
    obtain ⟨hz, hTI, ⟨x, y, hTO⟩, h1, h2, _⟩ := st
    have e' : c = z ∨ c = TI ∨ c = TO ∨ c = i1 ∨ c = i2 := by simpa using hc
    rcases e' with q | q | q | q | q
    · rw [q]; exact ⟨_, hz, fun v q => nomatch q⟩
    · rw [q]; exact ⟨_, hTI, fun v q => nomatch q⟩
    · rw [q]; exact ⟨_, hTO, fun v q => nomatch q⟩
    · rw [q]; exact h1.obj
    · rw [q]; exact h2.obj
  keep := fun i h h' st k => by
    obtain ⟨hz, hTI, ⟨x, y, hTO⟩, h1, h2, r⟩ := st
    exact ⟨k z (by simp) _ hz, k TI (by simp) _ hTI, ⟨x, y, k TO (by simp) _ hTO⟩, h1.at fun o q => k i1 (by simp) o q, h2.at fun o q => k i2 (by simp) o q, r⟩
  item := by
    intro X hP hw hK hc i pins s σ H E I hf st hg
    subst hP hw hK
    obtain ⟨hz, hTI, hTO, h1, h2, n1, n2⟩ := st
    obtain ⟨xs, ys, x, y, hqx, hqy, hx, hy⟩ := hg
    obtain ⟨its, rv, p1, _⟩ := I.seqK hqx
    obtain ⟨its2, rv2, p2, _⟩ := I.seqK hqy
    obtain ⟨u, hu, ru⟩ := rv.get hx
    obtain ⟨u2, hu2, ru2⟩ := rv2.get hy
    have hi : i < min its.toArray.size its2.toArray.size := by
      have q1 := (List.getElem?_eq_some_iff.mp hu).1
      have q2 := (List.getElem?_eq_some_iff.mp hu2).1
      simp only [List.size_toArray]
      omega
    have D1 := drawsK (prog := X.prog) (w := X.w) (A := X.A.in1) (I.ok.hd hc) k1 i1 a n1 its.toArray
    have D2 := drawsK (prog := X.prog) (w := X.w) (A := X.A.in1) (I.ok.hd hc) k2 i2 b n2 its2.toArray
    have G := GoesN.zip2 (A := X.A) (elts := elts) (x1 := kk) (pos := tpos) Z D1 D2
    refine G.goes i s (fun v s2 => ∃ x H', Inv X pins σ H' s2 ∧ RelV x v ∧ (ItzK X.K k1 k2 a b).yld i H x H' ∧ (IsZip s2.heap z TI TO .none ∧ IsTupOf2 s2.heap TI (.ref i1) (.ref i2) ∧ (∃ x y, IsTupOf2 s2.heap TO x y) ∧ ItrK k1 s2.heap i1 a (i + 1) ∧ ItrK k2 s2.heap i2 b (i + 1) ∧ a ≠ i1 ∧ b ≠ i2) ∧ ∀ c ∈ [z, TI, TO, i1, i2], H' c = none) E hi ⟨hz, hTI, hTO, ⟨h1, p1⟩, ⟨h2, p2⟩⟩ fun v h' tk hY hS hk _ => ?_
    obtain ⟨T, y1, y2, rfl, hnew, hy1, hy2, hT⟩ := hY
    rw [List.getElem?_toArray, hu] at hy1
    rw [List.getElem?_toArray, hu2] at hy2
    have e1 := Option.some.inj hy1
    have e2 := Option.some.inj hy2
    subst e1 e2
    have new : ObjOk X.prog X.w (upd H T (.tup [x, y])) h' T (.tup [x, y]) := ⟨by show 2 ≤ sizeLine; decide, [u, u2], .cons ru (.cons ru2 .nil), hT⟩
    have I1 : Inv X pins σ (upd H T (.tup [x, y])) { s with heap := h', toks := tk } := I.turnedNew (ch := [z, TI, TO, i1, i2]) (fun c o hc' e => hk c o (fun m => hc' (by
      have m' : c = z ∨ c = TO ∨ c = i1 ∨ c = i2 := by simpa using m
      rcases m' with q | q | q | q <;> simp [q])) e) hf hnew new
    refine ⟨.ref T, _, I1, rfl, ⟨T, x, y, rfl, I.hok.fresh hnew, rfl, fun l hl => by rw [I.seqK_inj hl hqx]; exact hx, fun l hl => by rw [I.seqK_inj hl hqy]; exact hy⟩, ⟨hS.1, hS.2.1, hS.2.2.1, hS.2.2.2.1.1, hS.2.2.2.2.1, n1, n2⟩, fun c hcm => ?_⟩
    have hlt : c < s.heap.objs.size := by
      have e' : c = z ∨ c = TI ∨ c = TO ∨ c = i1 ∨ c = i2 := by simpa using hcm
      rcases e' with q | q | q | q | q
      · rw [q]; exact Heap.lt_size hz
      · rw [q]; exact Heap.lt_size hTI
      · rw [q]; obtain ⟨_, _, w⟩ := hTO; exact Heap.lt_size w
      · rw [q]; obtain ⟨_, w, _⟩ := h1.obj; exact Heap.lt_size w
      · rw [q]; obtain ⟨_, w, _⟩ := h2.obj; exact Heap.lt_size w
    rw [upd_ne (Nat.ne_of_lt (Nat.lt_of_lt_of_le hlt hnew))]
    exact (hf c hcm).1
  done := by
    intro X hP hw hK hc i pins s σ H E I hf st hg
    subst hP hw hK
    obtain ⟨hz, hTI, hTO, h1, h2, n1, n2⟩ := st
    obtain ⟨xs, ys, hqx, hqy, hend⟩ := hg
    obtain ⟨its, rv, p1, _⟩ := I.seqK hqx
    obtain ⟨its2, rv2, p2, _⟩ := I.seqK hqy
    have hi : min its.toArray.size its2.toArray.size = i := by simp only [List.size_toArray, ← rv.length, ← rv2.length]; exact hend
    have D1 := drawsK (prog := X.prog) (w := X.w) (A := X.A.in1) (I.ok.hd hc) k1 i1 a n1 its.toArray
    have D2 := drawsK (prog := X.prog) (w := X.w) (A := X.A.in1) (I.ok.hd hc) k2 i2 b n2 its2.toArray
    have G := GoesN.zip2 (A := X.A) (elts := elts) (x1 := kk) (pos := tpos) Z D1 D2
    rw [hi] at G
    exact G.stops s (fun s1 => Inv X pins σ H s1) E ⟨hz, hTI, hTO, ⟨h1, p1⟩, ⟨h2, p2⟩⟩ fun h' tk hk _ => I.turnedL (ch := [z, TI, TO, i1, i2]) (fun c o hc' e => hk c o (fun m => hc' (by
      have m' : c = z ∨ c = TO ∨ c = i1 ∨ c = i2 := by simpa using m
      rcases m' with q | q | q | q <;> simp [q])) e) hf
  self := fun A i s Q E st h => wpAny_pyIter_zip st.1 h
def iZiK (K : PySem.W.Frag) (k1 k2 : Bool) (ta : TA) : TI := fun σ H R => ta σ H fun vs H1 => ∃ a b xs ys, vs = [.ref a, .ref b] ∧ SqK K k1 H1 a xs ∧ SqK K k2 H1 b ys ∧ R (ItzK K k1 k2 a b) H1
theorem pi_zipK {X : Cx} {e e2 : Expr} {ta : TA} {p pos tpos : Pos} {elts : List Expr} {kk : Nat} (k1 k2 : Bool) (hg : Gl X "zip") (hm : X.mg "zip" = none) (ha : PA X [e, e2] ta)
    (hs : starEach [e, e2] X.env = (false, eval e X.env) :: starEach [e2] X.env) (hpl : (backTo pos (starEach [e2] X.env)).any (·.1) = false) :
    PI X (.Tuple elts kk tpos) (.Call (.Name "zip" p) [e, e2] [] pos) (iZiK X.K k1 k2 ta) := by
  refine ⟨fun pins s σ H R I h => ?_⟩
  refine Call_ (ld_blt I hg hm PyProof.Rows.boot_zip (PyProof.Rows.callWith_type1 (thn (ha.run pos pins s σ H _ I h) fun us s1 ⟨vs, H1, I1, r1, a, b, xs, ys, ex, hqx, hqy, q⟩ => ?_) hs hpl))
  subst ex
  cases r1 with
  | cons r rr =>
    cases rr with
    | cons r' rr =>
      cases rr
      cases r
      cases r'
      obtain ⟨its, rv, p1, la⟩ := I1.seqK hqx
      obtain ⟨its2, rv2, p2, lb⟩ := I1.seqK hqy
      refine zip_begins2 (beginsK k1 a its.toArray) (beginsK k2 b its2.toArray) p1 p2 fun h' hz hTI hTO h1 h2 hsz hk => wpAny_pyIter_zip hz ?_
      have I2 : Inv X pins σ H1 { s1 with heap := h' } := I1.kept (t' := s1.toks) hk
      have Z := zip_sep2 (N := s1.heap.objs.size) (fp1 := [a]) (fp2 := [b]) (fun c hc => by rw [List.mem_singleton.mp hc]; exact la) (fun c hc => by rw [List.mem_singleton.mp hc]; exact lb)
      refine ⟨s1.heap.objs.size + 4, [s1.heap.objs.size + 4, s1.heap.objs.size + 2, s1.heap.objs.size + 3, s1.heap.objs.size, s1.heap.objs.size + 1], _, _, H1, rfl, I2, turn_zipK k1 k2 Z, ⟨hz, hTI, ⟨_, _, hTO⟩, .begin h1, .begin h2, Nat.ne_of_lt la, Nat.ne_of_lt (Nat.lt_succ_of_lt lb)⟩, fun c hcm => ?_, q⟩
      have hle : s1.heap.objs.size ≤ c := by
        have e' : c = s1.heap.objs.size + 4 ∨ c = s1.heap.objs.size + 2 ∨ c = s1.heap.objs.size + 3 ∨ c = s1.heap.objs.size ∨ c = s1.heap.objs.size + 1 := by simpa using hcm
        rcases e' with z | z | z | z | z
        · rw [z]; exact Nat.le_add_right _ _
        · rw [z]; exact Nat.le_add_right _ _
        · rw [z]; exact Nat.le_add_right _ _
        · rw [z]; exact Nat.le_refl _
        · rw [z]; exact Nat.le_add_right _ _
      exact I1.fpOk hle (I1.hok.fresh hle)
end Fz

/-! what is walked, comprehensions; every expression -/
namespace Fz
open PySem PySem.Spec L2
open PyProof.Rows hiding St

variable {S : Su}
/-- a walk that tells just the items xs, which stand for good in E1 -/
structure WalkT (S : Su) (J : It) (E1 : Hp) (xs : List T) : Prop where
  len : xs.length ≤ sizeLine
  go : ∀ i H, i < xs.length → Sub E1 H → J.go i H
  stop : ∀ H, Sub E1 H → J.stop xs.length H
  yld : ∀ i H v H' E, i < xs.length → Ok S E H → Sub E1 E → J.yld i H v H' → ∃ E' t, xs[i]? = some t ∧ Step S E H E' H' ∧ Rep S E' t v
def dI (S : Su) (W : WX) (ik : IK) (f : Cells → Res (List T)) : TI := fun σ H R => At S σ H fun E env => PostG S W E H σ ((f env).bind (itemsT ik)) fun xs E' H' => ∀ J, WalkT S J E' xs → R J H'
theorem _root_.L2.PI.imp {X : Cx} {tg e : Expr} {t t' : TI} (h : PI X tg e t) (i : ∀ σ H Q, t' σ H Q → t σ H Q) : PI X tg e t' := ⟨fun pins s σ H Q I q => h.run pins s σ H Q I (i σ H Q q)⟩
theorem _root_.L2.PI.or {X : Cx} {tg e : Expr} {t t' : TI} (h : PI X tg e t) (h' : PI X tg e t') : PI X tg e (fun σ H Q => t σ H Q ∨ t' σ H Q) := ⟨fun pins s σ H Q I q => by
  rcases q with q | q
  · exact h.run pins s σ H Q I q
  · exact h'.run pins s σ H Q I q⟩
section
variable {X : Cx} {W : WX} {F : Fns} {c : TC} {sc so : Scope} {k : Nat}
theorem walkT_list {a : Addr} {vs : List V} {ts : List T} {E1 : Hp} (K : PySem.W.Frag) (l : ts.length ≤ sizeLine) (h : La K E1 a vs) (r : Reps S E1 ts vs) : WalkT S (Itl K a) E1 ts where
  len := l
  go := fun i H hi s => by
    obtain ⟨t, e⟩ : ∃ t, ts[i]? = some t := ⟨ts[i], by simp [hi]⟩
    obtain ⟨v, h1, _⟩ := r.get e
    exact ⟨vs, v, (s.la h).sq, h1⟩
  stop := fun H s => ⟨vs, (s.la h).sq, by rw [r.length]; exact Nat.le_refl _⟩
  yld := fun i H v H' E hi o s y => by
    obtain ⟨t, e⟩ : ∃ t, ts[i]? = some t := ⟨ts[i], by simp [hi]⟩
    obtain ⟨w, h1, h2⟩ := r.get e
    obtain ⟨e1, e2⟩ := y
    have e3 := e2 vs (o.sub.la (s.la h)).sq
    rw [h1] at e3
    cases e3
    rw [e1]
    exact ⟨E, t, e, .refl o, h2.mono s⟩
theorem walkT_tup {a : Addr} {vs : List V} {ts : List T} {E1 : Hp} (l : ts.length ≤ sizeLine) (h : SqT S.K E1 a vs) (r : Reps S E1 ts vs) : WalkT S (Itt S.K a) E1 ts where
  len := l
  go := fun i H hi s => by
    obtain ⟨t, e⟩ : ∃ t, ts[i]? = some t := ⟨ts[i], by simp [hi]⟩
    obtain ⟨v, h1, _⟩ := r.get e
    exact ⟨vs, v, s.sqT h, h1⟩
  stop := fun H s => ⟨vs, s.sqT h, by rw [r.length]; exact Nat.le_refl _⟩
  yld := fun i H v H' E hi o s y => by
    obtain ⟨t, e⟩ : ∃ t, ts[i]? = some t := ⟨ts[i], by simp [hi]⟩
    obtain ⟨w, h1, h2⟩ := r.get e
    obtain ⟨e1, e2⟩ := y
    have e3 := e2 vs (o.sub.sqT (s.sqT h))
    rw [h1] at e3
    cases e3
    rw [e1]
    exact ⟨E, t, e, .refl o, h2.mono s⟩
theorem rngT_len : ∀ (n : Nat) (lo : Int), (rngT lo n).length = n
  | 0, _ => rfl
  | n + 1, lo => by show (rngT (lo + 1) n).length + 1 = n + 1; rw [rngT_len n]
theorem rngT_get : ∀ (n : Nat) (lo : Int) (i : Nat), i < n → (rngT lo n)[i]? = some (.int (lo + i))
  | 0, _, _, h => absurd h (Nat.not_lt_zero _)
  | n + 1, lo, 0, _ => by show some (T.int lo) = _; simp
  | n + 1, lo, i + 1, h => by
    show (rngT (lo + 1) n)[i]? = _
    rw [rngT_get n (lo + 1) i (by omega)]
    have : lo + 1 + (i : Int) = lo + ((i + 1 : Nat) : Int) := by omega
    rw [this]
theorem walkT_rng {lo : Int} {n : Nat} {E1 : Hp} (l : n ≤ sizeLine) : WalkT S (Itr lo n) E1 (rngT lo n) where
  len := by rw [rngT_len]; exact l
  go := fun i H hi s => by rw [rngT_len] at hi; exact hi
  stop := fun H s => by rw [rngT_len]; exact Nat.le_refl n
  yld := fun i H v H' E hi o s y => by
    rw [rngT_len] at hi
    obtain ⟨e1, e2⟩ := y
    rw [e1]
    exact ⟨E, _, rngT_get n lo i hi, .refl o, e2⟩
/-! ### sources of two kinds -/
theorem Rep.seqK {E : Hp} {t : T} {v : V} {ts : List T} (r : Rep S E t v) (e : seqOf t = some ts) : ∃ kd a vs, v = .ref a ∧ SqK S.K kd E a vs ∧ Reps S E ts vs := by
  cases t with
  | tup us => cases e; obtain ⟨a, vs, rfl, q, _, rs⟩ := r; exact ⟨false, a, vs, rfl, q, rs⟩
  | lst us => cases e; obtain ⟨a, vs, rfl, q, _, rs⟩ := r; exact ⟨true, a, vs, rfl, q.sq, rs⟩
  | _ => cases e
def kdOf : T → Bool
  | .lst _ => true
  | _ => false
theorem Rep.seqK' {E : Hp} {t : T} {v : V} {ts : List T} (r : Rep S E t v) (e : seqOf t = some ts) : ∃ a vs, v = .ref a ∧ SqK S.K (kdOf t) E a vs ∧ ts.length ≤ sizeLine ∧ Reps S E ts vs := by
  cases t with
  | tup us => cases e; obtain ⟨a, vs, rfl, q, l, rs⟩ := r; exact ⟨a, vs, rfl, q, l, rs⟩
  | lst us => cases e; obtain ⟨a, vs, rfl, q, l, rs⟩ := r; exact ⟨a, vs, rfl, q.sq, l, rs⟩
  | _ => cases e
theorem Sub.sqK {F H : Hp} {kd : Bool} {a : Addr} {xs : List V} (h : Sub F H) (r : SqK S.K kd F a xs) : SqK S.K kd H a xs := by
  cases kd
  · exact h.sqT r
  · exact h.sqL r
theorem enumT_len : ∀ (ts : List T) (k : Nat), (enumT k ts).length = ts.length
  | [], _ => rfl
  | t :: ts, k => by show (enumT (k + 1) ts).length + 1 = _; rw [enumT_len ts]; rfl
theorem enumT_get : ∀ (ts : List T) (k i : Nat) (t : T), ts[i]? = some t → (enumT k ts)[i]? = some (.tup [.int (k + i : Nat), t])
  | [], _, _, _, h => by simp at h
  | u :: ts, k, 0, t, h => by
    have e : u = t := by simpa using h
    subst e
    rfl
  | u :: ts, k, i + 1, t, h => by
    show (enumT (k + 1) ts)[i]? = _
    rw [enumT_get ts (k + 1) i t (by simpa using h), show k + 1 + i = k + (i + 1) by omega]
theorem walkT_enum {kd : Bool} {a : Addr} {vs : List V} {ts : List T} {E1 : Hp} (l : ts.length ≤ sizeLine) (h : SqK S.K kd E1 a vs) (r : Reps S E1 ts vs) : WalkT S (IteK S.K kd a) E1 (enumT 0 ts) where
  len := by rw [enumT_len]; exact l
  go := fun i H hi s => by
    rw [enumT_len] at hi
    obtain ⟨t, e⟩ : ∃ t, ts[i]? = some t := ⟨ts[i], by simp [hi]⟩
    obtain ⟨v, h1, _⟩ := r.get e
    exact ⟨vs, v, s.sqK h, h1⟩
  stop := fun H s => ⟨vs, s.sqK h, by rw [enumT_len, r.length]⟩
  yld := fun i H v H' E hi o s y => by
    rw [enumT_len] at hi
    obtain ⟨t, e⟩ : ∃ t, ts[i]? = some t := ⟨ts[i], by simp [hi]⟩
    obtain ⟨w, h1, h2⟩ := r.get e
    obtain ⟨T0, x, rfl, hn, rfl, e2⟩ := y
    have e3 := e2 vs (o.sub.sqK (s.sqK h))
    rw [h1] at e3
    cases e3
    refine ⟨upd E T0 (.tup [.int (i : Nat), w]), .tup [.int ((0 + i : Nat) : Int), t], enumT_get ts 0 i t e, .new o hn fun z => z, ⟨T0, _, rfl, .inl (.inl upd_same), by show 2 ≤ sizeLine; decide, .two ?_ ?_⟩⟩
    · rw [Nat.zero_add]; exact rfl
    · exact (h2.mono s).mono (sub_upd (o.sub.none hn))
theorem zipT_len : ∀ (ts us : List T), (zipT ts us).length = min ts.length us.length
  | [], us => by cases us <;> simp [zipT]
  | t :: ts, [] => by simp [zipT]
  | t :: ts, u :: us => by show (zipT ts us).length + 1 = _; rw [zipT_len ts us]; simp only [List.length_cons]; omega
theorem zipT_get : ∀ (ts us : List T) (i : Nat) (t u : T), ts[i]? = some t → us[i]? = some u → (zipT ts us)[i]? = some (.tup [t, u])
  | [], _, _, _, _, h, _ => by simp at h
  | _ :: _, [], _, _, _, _, h => by simp at h
  | a :: ts, b :: us, 0, t, u, h, h' => by
    have e : a = t := by simpa using h
    have e' : b = u := by simpa using h'
    subst e e'
    rfl
  | a :: ts, b :: us, i + 1, t, u, h, h' => zipT_get ts us i t u (by simpa using h) (by simpa using h')
theorem walkT_zip {k1 k2 : Bool} {a b : Addr} {vs ws : List V} {ts us : List T} {E1 : Hp} (l : ts.length ≤ sizeLine) (h : SqK S.K k1 E1 a vs) (r : Reps S E1 ts vs) (h' : SqK S.K k2 E1 b ws) (r' : Reps S E1 us ws) : WalkT S (ItzK S.K k1 k2 a b) E1 (zipT ts us) where
  len := by rw [zipT_len]; omega
  go := fun i H hi s => by
    rw [zipT_len] at hi
    obtain ⟨t, e⟩ : ∃ t, ts[i]? = some t := ⟨ts[i], by simp [show i < ts.length by omega]⟩
    obtain ⟨u, e'⟩ : ∃ t, us[i]? = some t := ⟨us[i], by simp [show i < us.length by omega]⟩
    obtain ⟨v, h1, _⟩ := r.get e
    obtain ⟨w, h2, _⟩ := r'.get e'
    exact ⟨vs, ws, v, w, s.sqK h, s.sqK h', h1, h2⟩
  stop := fun H s => ⟨vs, ws, s.sqK h, s.sqK h', by rw [zipT_len, r.length, r'.length]⟩
  yld := fun i H v H' E hi o s y => by
    rw [zipT_len] at hi
    obtain ⟨t, e⟩ : ∃ t, ts[i]? = some t := ⟨ts[i], by simp [show i < ts.length by omega]⟩
    obtain ⟨u, e'⟩ : ∃ t, us[i]? = some t := ⟨us[i], by simp [show i < us.length by omega]⟩
    obtain ⟨w, h1, h2⟩ := r.get e
    obtain ⟨w', h1', h2'⟩ := r'.get e'
    obtain ⟨T0, x, x', rfl, hn, rfl, e2, e3⟩ := y
    have q1 := e2 vs (o.sub.sqK (s.sqK h))
    rw [h1] at q1
    cases q1
    have q2 := e3 ws (o.sub.sqK (s.sqK h'))
    rw [h1'] at q2
    cases q2
    have m := sub_upd (o := .tup [w, w']) (o.sub.none hn)
    exact ⟨_, _, zipT_get ts us i t u e e', .new o hn fun z => z, ⟨T0, _, rfl, .inl (.inl upd_same), by show 2 ≤ sizeLine; decide, .two ((h2.mono s).mono m) ((h2'.mono s).mono m)⟩⟩

theorem i_seq {tg e : Expr} {x : E} (hK : X.K = S.K) (h : PE X e (dE S W (ev F x))) : PI X tg e (dI S W .seq (evs F [x])) := by
  refine ((pi_list (tg := tg) h).or (pi_tup (tg := tg) h)).imp fun σ H R q => ?_
  obtain ⟨E, env, o, eo, p⟩ := q
  simp only [evs, bind_assoc] at p
  cases e1 : ev F x env with
  | ok t =>
    simp only [e1, Res.bind] at p
    cases t with
    | lst ts =>
      refine .inl ⟨E, env, o, eo, ?_⟩
      simp only [e1]
      intro F1 H1 s1 v ⟨a, vs, ea, q1, l1, rs⟩
      subst ea
      exact ⟨a, rfl, ⟨vs, hK ▸ (s1.ok.sub.la q1).sq⟩, p F1 H1 s1 _ (walkT_list _ l1 (hK ▸ q1) rs)⟩
    | tup ts =>
      refine .inr ⟨E, env, o, eo, ?_⟩
      simp only [e1]
      intro F1 H1 s1 v ⟨a, vs, ea, q1, l1, rs⟩
      subst ea
      exact ⟨a, rfl, ⟨vs, hK ▸ s1.ok.sub.sqT q1⟩, p F1 H1 s1 _ (hK ▸ walkT_tup l1 q1 rs)⟩
    | _ => exact p.elim
  | ex d => exact .inl ⟨E, env, o, eo, by simp only [e1, Res.bind] at p ⊢; exact p⟩
  | no => simp only [e1, Res.bind] at p; exact p.elim
theorem i_rng1 {tg a : Expr} {x : E} {p pos : Pos} (g : Good S c k X sc so) (hg : glB sc "range" = true) (hm : S.mg "range" = none) (hs : ∀ b q, a ≠ .Starred b q) (h : PA X [a] (dA S W (evs F [x]))) : PI X tg (.Call (.Name "range" p) [a] [] pos) (dI S W .rng1 (evs F [x])) := by
  refine (pi_range1 (glB_of (by rw [g.sc]; exact hg)) (by rw [g.hmg]; exact hm) h (star_cons hs)).imp fun σ H R q => ?_
  obtain ⟨E, env, o, eo, p⟩ := q
  refine ⟨E, env, o, eo, (PostG.split p).imp fun ts F1 H1 s1 p1 vs rs => ?_⟩
  rcases ts with _ | ⟨t, _ | ⟨t2, ts⟩⟩ <;> first | exact p1.elim | skip
  · cases t <;> first | exact p1.elim | skip
    rename_i n
    simp only [itemsT] at p1
    split at p1
    · rename_i hz
      obtain ⟨v, w, rfl, e1, rfl⟩ := rs
      have hq : ((SZ : Nat) : Int) = 1000000 := rfl
      exact ⟨n, by rw [show v = _ from e1], by omega, by omega, p1 F1 H1 (.refl s1.ok) _ (walkT_rng (Nat.le_trans (m := 2000000) (by omega) (by decide)))⟩
    · exact p1.elim
  · cases t <;> exact p1.elim
theorem i_rng2 {tg a b : Expr} {x y : E} {p pos : Pos} (g : Good S c k X sc so) (hg : glB sc "range" = true) (hm : S.mg "range" = none) (hs : ∀ b q, a ≠ .Starred b q) (hs2 : ∀ b' q, b ≠ .Starred b' q) (h : PA X [a, b] (dA S W (evs F [x, y]))) : PI X tg (.Call (.Name "range" p) [a, b] [] pos) (dI S W .rng2 (evs F [x, y])) := by
  refine (pi_range2 (glB_of (by rw [g.sc]; exact hg)) (by rw [g.hmg]; exact hm) h (by rw [star_cons hs, star_cons hs2]; rfl) (star_cons hs2)).imp fun σ H R q => ?_
  obtain ⟨E, env, o, eo, p⟩ := q
  refine ⟨E, env, o, eo, (PostG.split p).imp fun ts F1 H1 s1 p1 vs rs => ?_⟩
  rcases ts with _ | ⟨t, _ | ⟨t2, _ | ⟨t3, ts⟩⟩⟩ <;> first | exact p1.elim | skip
  · cases t <;> exact p1.elim
  · cases t <;> cases t2 <;> first | exact p1.elim | skip
    rename_i m n
    simp only [itemsT] at p1
    split at p1
    · rename_i hz
      obtain ⟨v, w, rfl, e1, v2, w2, rfl, e2, rfl⟩ := rs
      have hq : ((SZ : Nat) : Int) = 1000000 := rfl
      exact ⟨m, n, by rw [show v = _ from e1, show v2 = _ from e2], by omega, p1 F1 H1 (.refl s1.ok) _ (walkT_rng (Nat.le_trans (m := 2000000) (by omega) (by decide)))⟩
    · exact p1.elim
  · cases t <;> cases t2 <;> exact p1.elim
theorem i_enum {elts : List Expr} {kk : Nat} {tpos : Pos} {a : Expr} {x : E} {p pos : Pos} (g : Good S c k X sc so) (hg : glB sc "enumerate" = true) (hm : S.mg "enumerate" = none) (hs : ∀ b q, a ≠ .Starred b q) (h : PA X [a] (dA S W (evs F [x]))) : PI X (.Tuple elts kk tpos) (.Call (.Name "enumerate" p) [a] [] pos) (dI S W .enum (evs F [x])) := by
  have gl : Gl X "enumerate" := glB_of (by rw [g.sc]; exact hg)
  have mg : X.mg "enumerate" = none := by rw [g.hmg]; exact hm
  have r := fun kd => pi_enumK (p := p) (pos := pos) (tpos := tpos) (elts := elts) (kk := kk) kd gl mg h (star_cons hs)
  refine ((r true).or (r false)).imp fun σ H R q => ?_
  obtain ⟨E, env, o, eo, p⟩ := q
  simp only [evs, bind_assoc] at p
  cases e1 : ev F x env with
  | ok t =>
    simp only [e1, Res.bind, itemsT] at p
    cases e2 : seqOf t with
    | none => rw [e2] at p; exact p.elim
    | some us =>
      rw [e2] at p
      have fin : iEnK X.K (kdOf t) (dA S W (evs F [x])) σ H R := by
        refine ⟨E, env, o, eo, ?_⟩
        simp only [evs, e1, Res.bind]
        intro F1 H1 s1 vs rs
        obtain ⟨v, w, rfl, r1, rfl⟩ := rs
        obtain ⟨a, vs, rfl, q1, l1, r2⟩ := r1.seqK' e2
        exact ⟨a, vs, rfl, g.hK ▸ s1.ok.sub.sqK q1, g.hK ▸ p F1 H1 s1 _ (walkT_enum l1 q1 r2)⟩
      cases e3 : kdOf t with
      | true => rw [e3] at fin; exact .inl fin
      | false => rw [e3] at fin; exact .inr fin
  | ex d => exact .inl ⟨E, env, o, eo, by simp only [evs, e1, Res.bind] at p ⊢; exact p⟩
  | no => simp only [e1, Res.bind] at p; exact p.elim
theorem i_zip {elts : List Expr} {kk : Nat} {tpos : Pos} {a b : Expr} {x y : E} {p pos : Pos} (g : Good S c k X sc so) (hg : glB sc "zip" = true) (hm : S.mg "zip" = none) (hs : ∀ b q, a ≠ .Starred b q) (hs2 : ∀ b' q, b ≠ .Starred b' q) (h : PA X [a, b] (dA S W (evs F [x, y]))) : PI X (.Tuple elts kk tpos) (.Call (.Name "zip" p) [a, b] [] pos) (dI S W .zip (evs F [x, y])) := by
  have gl : Gl X "zip" := glB_of (by rw [g.sc]; exact hg)
  have mg : X.mg "zip" = none := by rw [g.hmg]; exact hm
  have r := fun k1 k2 => pi_zipK (p := p) (pos := pos) (tpos := tpos) (elts := elts) (kk := kk) k1 k2 gl mg h (star_cons hs) (backTo_plain fun e he => by rw [List.mem_singleton.mp he]; exact hs2)
  refine (((r true true).or (r true false)).or ((r false true).or (r false false))).imp fun σ H R q => ?_
  obtain ⟨E, env, o, eo, p⟩ := q
  cases e0 : evs F [x, y] env with
  | ok ts =>
    simp only [e0, Res.bind] at p
    rcases ts with _ | ⟨t, _ | ⟨t2, _ | ⟨t3, ts⟩⟩⟩ <;> first | exact p.elim | skip
    simp only [itemsT] at p
    cases e2 : seqOf t with
    | none => simp only [e2] at p; exact p.elim
    | some us =>
      cases e3 : seqOf t2 with
      | none => simp only [e2, e3] at p; exact p.elim
      | some us2 =>
        simp only [e2, e3] at p
        have fin : iZiK X.K (kdOf t) (kdOf t2) (dA S W (evs F [x, y])) σ H R := by
          refine ⟨E, env, o, eo, ?_⟩
          simp only [e0]
          intro F1 H1 s1 vs rs
          obtain ⟨v, w, rfl, r1, v2, w2, rfl, r2, rfl⟩ := rs
          obtain ⟨a, vs, rfl, q1, l1, m1⟩ := r1.seqK' e2
          obtain ⟨b, ws, rfl, q2, _, m2⟩ := r2.seqK' e3
          exact ⟨a, b, vs, ws, rfl, g.hK ▸ s1.ok.sub.sqK q1, g.hK ▸ s1.ok.sub.sqK q2, g.hK ▸ p F1 H1 s1 _ (walkT_zip l1 q1 m1 q2 m2)⟩
        cases e4 : kdOf t with
        | true => cases e5 : kdOf t2 with
          | true => rw [e4, e5] at fin; exact .inl (.inl fin)
          | false => rw [e4, e5] at fin; exact .inl (.inr fin)
        | false => cases e5 : kdOf t2 with
          | true => rw [e4, e5] at fin; exact .inr (.inl fin)
          | false => rw [e4, e5] at fin; exact .inr (.inr fin)
  | ex d => exact .inl (.inl ⟨E, env, o, eo, by simp only [e0, Res.bind] at p ⊢; exact p⟩)
  | no => simp only [e0, Res.bind] at p; exact p.elim
end
end Fz

/-! comprehensions -/
namespace Fz
open PySem PySem.Spec L2
open PyProof.Rows hiding St

variable {S : Su}
section
variable {X : Cx} {W : WX} {F : Fns} {c : TC} {sc so : Scope} {k : Nat}
theorem tabs_mut {T : List (Addr × Str)} {H : Hp} {D : Addr} {vs : List V} {o : HO} (t : LamX.Tabs T H) (h : H D = some (.lst vs)) : LamX.Tabs T (upd H D o) := fun p hp => by
  obtain ⟨ps, h1, h2, h3⟩ := t p hp
  have ne : ∀ b u, H b = some u → (∀ ws, u ≠ .lst ws) → b ≠ D := fun b u e n z => by
    rw [z, h] at e
    exact n vs (Option.some.inj e).symm
  refine ⟨ps, by rw [upd_ne (ne _ _ h1 fun _ z => by cases z)]; exact h1, h2, fun pos cv hc => ?_⟩
  obtain ⟨d, e1, e2⟩ := h3 pos cv hc
  exact ⟨d, e1, by rw [upd_ne (ne _ _ e2 fun _ z => by unfold LamX.CodeO at z; cases z)]; exact e2⟩
/-- a list of the frame's own, new since then, changes -/
theorem Step.mut {E1 H1 E H : Hp} {D : Addr} {vs : List V} {o : HO} (s : Step S E1 H1 E H) (h1 : H1 D = none) (h2 : E D = none) (h3 : H D = some (.lst vs)) : Step S E1 H1 E (upd H D o) where
  ff := s.ff
  hh := fun b u e => by
    have z : b ≠ D := fun z => by rw [z, h1] at e; cases e
    rw [upd_ne z]
    exact s.hh b u e
  no := s.no
  ok := ⟨sub_updR s.ok.sub h2, s.ok.nt, tabs_mut s.ok.tab h3⟩
theorem wipe_get (σ : St) : ∀ (vs : List Nat) (j : Nat), (wipe σ vs)[j]? = if j ∈ vs then (if j < σ.length then some none else none) else σ[j]?
  | [], j => by simp [wipe]
  | v :: vs, j => by
    have ih := wipe_get σ vs j
    have hl := wipe_length σ vs
    unfold wipe
    by_cases h : v = j
    · subst h
      rw [if_pos (List.mem_cons_self ..)]
      by_cases h2 : v < σ.length
      · rw [if_pos h2, List.getElem?_set_self (by rw [hl]; exact h2)]
      · rw [if_neg h2, List.getElem?_eq_none (by rw [List.length_set, hl]; omega)]
    · rw [List.getElem?_set_ne h, ih]
      by_cases h2 : j ∈ vs
      · rw [if_pos h2, if_pos (List.mem_cons_of_mem _ h2)]
      · rw [if_neg h2, if_neg (fun z => (List.mem_cons.mp z).elim (fun z => h z.symm) h2)]
theorem wipeC_len (env : Cells) : ∀ vs : List Nat, (wipeC env vs).length = env.length
  | [] => rfl
  | v :: vs => by unfold wipeC; rw [List.length_set, wipeC_len env vs]
theorem wipeC_get (env : Cells) : ∀ (vs : List Nat) (j : Nat) (d : Cell), (wipeC env vs)[j]? = some d → d = .un ∨ (j ∉ vs ∧ env[j]? = some d)
  | [], j, d, h => .inr ⟨by simp, h⟩
  | v :: vs, j, d, h => by
    unfold wipeC at h
    by_cases e : v = j
    · subst e
      by_cases h2 : v < (wipeC env vs).length
      · rw [List.getElem?_set_self h2] at h; exact .inl (Option.some.inj h).symm
      · rw [List.getElem?_eq_none (by rw [List.length_set]; omega)] at h; cases h
    · rw [List.getElem?_set_ne e] at h
      rcases wipeC_get env vs j d h with q | ⟨q1, q2⟩
      · exact .inl q
      · exact .inr ⟨fun z => (List.mem_cons.mp z).elim (fun z => e z.symm) q1, q2⟩
theorem EnvOk.wipe {E H : Hp} {σ : St} {env : Cells} (e : EnvOk S E H σ env) (vs : List Nat) : EnvOk S E H (wipe σ vs) (wipeC env vs) := by
  refine ⟨by rw [wipe_length, wipeC_len]; exact e.len, fun j d h => ?_⟩
  rcases wipeC_get env vs j d h with rfl | ⟨q1, q2⟩
  · trivial
  · have q := e.slot j d q2
    have r : (L2.wipe σ vs)[j]? = σ[j]? := by rw [wipe_get, if_neg q1]
    cases d with
    | un => trivial
    | sh u => obtain ⟨w, h1, h2⟩ := q; exact ⟨w, by rw [r]; exact h1, h2⟩
    | ow u => obtain ⟨a, h1, h2⟩ := q; exact ⟨a, by rw [r]; exact h1, h2⟩
theorem wipe_keep {σ σ' : St} {vs ix : List Nat} (h : Keep ix (wipe σ vs) σ') (hx : ∀ i ∈ ix, i ∈ vs) : wipe σ' vs = wipe σ vs := by
  refine List.ext_getElem? fun j => ?_
  have hl : σ'.length = σ.length := by rw [h.1, wipe_length]
  rw [wipe_get, wipe_get, hl]
  by_cases hj : j ∈ vs
  · rw [if_pos hj, if_pos hj]
  · rw [if_neg hj, if_neg hj, h.2 j fun z => hj (hx j z), wipe_get, if_neg hj]
theorem compL_nx {f : T → Res (Option T)} (h : ∀ x d, f x ≠ .ex d) : ∀ (xs : List T) (d : Nat), compL f xs ≠ .ex d
  | [], d, e => by cases e
  | x :: xs, d, e => by
    simp only [compL] at e
    cases e1 : f x with
    | ok o =>
      rw [e1] at e
      cases e2 : compL f xs with
      | ok r => simp only [e2, Res.bind] at e; cases e
      | ex d' => exact compL_nx h xs d' e2
      | no => simp only [e2, Res.bind] at e; cases e
    | ex d' => exact h _ _ e1
    | no => rw [e1] at e; cases e
theorem noex_nx {α : Type} (r : Res α) (d : Nat) : r.noex ≠ .ex d := by
  cases r <;> (intro h; cases h)
theorem bind_nx {α β : Type} {r : Res α} {g : α → Res β} (h1 : ∀ d, r ≠ .ex d) (h2 : ∀ a d, r = .ok a → g a ≠ .ex d) (d : Nat) : r.bind g ≠ .ex d := by
  cases r with
  | ok a => exact h2 a d rfl
  | ex d' => exact absurd rfl (h1 d')
  | no => intro h; cases h
/-- one turn of a comprehension, by the evaluator -/
def turnC (F : Fns) (elt : E) (tg : Tg) (cond : List E) (own : List Nat) (env : Cells) (x : T) : Res (Option T) :=
  match asgT tg x (wipeC env own) with
  | some env' => (evs F cond env').noex.bind fun cs => (match cs with
    | [] => (ev F elt env').noex.bind fun t => .ok (some t)
    | [b] => (truT b).bind fun k => if k then (ev F elt env').noex.bind fun t => .ok (some t) else .ok none
    | _ => .no)
  | none => .no
theorem turnC_nx {elt : E} {tg : Tg} {cond : List E} {own : List Nat} {env : Cells} (x : T) (d : Nat) : turnC F elt tg cond own env x ≠ .ex d := by
  unfold turnC
  split
  · refine bind_nx (noex_nx _) (fun cs d _ => ?_) d
    split
    · exact bind_nx (noex_nx _) (fun _ _ _ h => by cases h) d
    · refine bind_nx (truT_nx _) (fun k d _ => ?_) d
      split
      · exact bind_nx (noex_nx _) (fun _ _ _ h => by cases h) d
      · intro h; cases h
    · intro h; cases h
  · intro h; cases h
/-- no exception leaves a comprehension's block -/
abbrev W0 : WX := fun _ _ _ _ => False
/-- a clause's tests as read: none, or one -/
def dC (S : Su) (F : Fns) : List E → TT
  | [] => tYes
  | x :: _ => dT S W0 fun env => (ev F x env).bind truT
theorem imp_comp {elt : E} {tg : Tg} {ik : IK} {its cond : List E} {own : List Nat} (hcl : cond.length ≤ 1) (hx : ∀ i ∈ tgIx tg, i ∈ own) {σ : St} {H : Hp} {Q : VK} (q : dN S W (ev F (.comp elt tg ik its cond own)) σ H Q) :
    tLc (dI S W ik (evs F its)) (dG S tg) (dC S F cond) (dE S W0 (ev F elt)) own σ H Q := by
  obtain ⟨E, env, o, eo, p⟩ := q
  simp only [ev] at p
  rw [← bind_assoc] at p
  refine ⟨E, env, o, eo, (PostG.split p).imp fun xs E1 H1 s1 p1 J wk => ?_⟩
  replace p1 : PostG S W E1 H1 σ ((compL (turnC F elt tg cond own env) xs).bind fun ts => .ok (.lst ts)) fun t F' H' => ∀ a, H a = none → F' a = none → Own S F' H' a t → Q (.ref a) H' := p1
  have eo1 := eo.step s1
  cases e0 : compL (turnC F elt tg cond own env) xs with
  | ex d => exact (compL_nx turnC_nx _ _ e0).elim
  | no => rw [e0] at p1; exact p1.elim
  | ok ts =>
    rw [e0] at p1
    intro D hD
    have hE1D := s1.ok.sub.none hD
    refine ⟨fun i m H' => m = xs.length - i ∧ i ≤ xs.length ∧ ∃ E2 us vs rs, Step S E1 H1 E2 H' ∧ E2 D = none ∧ H' D = some (.lst vs) ∧ Reps S E2 us vs ∧ us.length ≤ i ∧ compL (turnC F elt tg cond own env) (xs.drop i) = .ok rs ∧ us ++ rs = ts,
      ⟨xs.length, by simp, Nat.zero_le _, E1, [], [], ts, .newR s1.ok hD, hE1D, upd_same, rfl, Nat.le_refl _, by rw [List.drop_zero]; exact e0, rfl⟩, ?_⟩
    rintro i m H' ⟨rfl, hi, E2, us, vs, rs, s2, hE2D, hHD, ru, hu, er, eu⟩
    by_cases hlt : i < xs.length
    · right
      have ed : xs.drop i = xs[i] :: xs.drop (i + 1) := List.drop_eq_getElem_cons hlt
      rw [ed] at er
      simp only [compL] at er
      cases et : turnC F elt tg cond own env xs[i] with
      | ex d => exact (turnC_nx _ _ et).elim
      | no => rw [et] at er; cases er
      | ok ot =>
        rw [et] at er
        cases e2 : compL (turnC F elt tg cond own env) (xs.drop (i + 1)) with
        | ex d => simp only [e2, Res.bind] at er; cases er
        | no => simp only [e2, Res.bind] at er; cases er
        | ok rs2 =>
          simp only [e2, Res.bind] at er
          refine ⟨wk.go i H' hlt fun a u e => s2.ok.sub a u (s2.ff a u e), fun H'' => i + 1 ≤ xs.length ∧ ∃ E2 us vs rs, Step S E1 H1 E2 H'' ∧ E2 D = none ∧ H'' D = some (.lst vs) ∧ Reps S E2 us vs ∧ us.length ≤ i + 1 ∧ compL (turnC F elt tg cond own env) (xs.drop (i + 1)) = .ok rs ∧ us ++ rs = ts,
            fun H'' n => ⟨xs.length - (i + 1), by omega, rfl, n⟩, fun x H2 y => ?_⟩
          obtain ⟨E3, t, ht, s3, rt⟩ := wk.yld i H' x H2 E2 hlt s2.ok s2.ff y
          have ht' : t = xs[i] := by
            rw [List.getElem?_eq_getElem hlt] at ht
            exact (Option.some.inj ht).symm
          subst ht'
          have s13 := s2.trans s3
          have hE3D : E3 D = none := s3.no D (by rw [hHD]; simp) hE2D
          have hH2D : H2 D = some (.lst vs) := s3.hh.at hHD fun z => z
          -- the turn's own evaluation
          unfold turnC at et
          cases ea : asgT tg xs[i] (wipeC env own) with
          | none => rw [ea] at et; cases et
          | some env' =>
            rw [ea] at et
            refine ⟨E3, wipeC env own, xs[i], env', s3.ok, (eo1.step s13).wipe own, rt, ea, fun σ' eo' _ kp => ⟨wipe_keep kp hx, ?_⟩⟩
            -- what an item that is kept asks
            have keepIt : ∀ {E4 H4 : Hp} {v : V} {u : T}, Step S E3 H2 E4 H4 → Rep S E4 u v → ot = some u → ∃ acc, H4 D = some (.lst acc) ∧ acc.length < sizeLine ∧
                (i + 1 ≤ xs.length ∧ ∃ E2 us vs rs, Step S E1 H1 E2 (upd H4 D (.lst (acc ++ [v]))) ∧ E2 D = none ∧ (upd H4 D (.lst (acc ++ [v]))) D = some (.lst vs) ∧ Reps S E2 us vs ∧ us.length ≤ i + 1 ∧ compL (turnC F elt tg cond own env) (xs.drop (i + 1)) = .ok rs ∧ us ++ rs = ts) := by
              intro E4 H4 v u s4 rv eo4
              subst eo4
              cases er
              have hH4D : H4 D = some (.lst vs) := s4.hh.at hH2D fun z => z
              have hE4D : E4 D = none := s4.no D (by rw [hH2D]; simp) hE3D
              have l1 := ru.length
              have l2 := wk.len
              refine ⟨vs, hH4D, by omega, hlt, E4, us ++ [u], _, rs2, (s13.trans s4).mut hD hE4D hH4D, hE4D, upd_same, ((ru.mono s3.ff).mono s4.ff).append (.one rv), by rw [List.length_append]; exact Nat.succ_le_succ hu, e2, by rw [List.append_assoc]; exact eu⟩
            have dropIt : ∀ {E4 H4 : Hp}, Step S E3 H2 E4 H4 → ot = none → i + 1 ≤ xs.length ∧ ∃ E2 us vs rs, Step S E1 H1 E2 H4 ∧ E2 D = none ∧ H4 D = some (.lst vs) ∧ Reps S E2 us vs ∧ us.length ≤ i + 1 ∧ compL (turnC F elt tg cond own env) (xs.drop (i + 1)) = .ok rs ∧ us ++ rs = ts := by
              intro E4 H4 s4 eo4
              subst eo4
              cases er
              exact ⟨hlt, E4, us, vs, rs2, s13.trans s4, s4.no D (by rw [hH2D]; simp) hE3D, s4.hh.at hH2D fun z => z, (ru.mono s3.ff).mono s4.ff, Nat.le_succ_of_le hu, e2, eu⟩
            rcases cond with _ | ⟨cx, _ | ⟨cy, cond⟩⟩
            · -- no test
              simp only [evs, Res.noex, Res.bind] at et
              cases ev1 : ev F elt env' with
              | ok u =>
                rw [ev1] at et
                cases et
                refine ⟨E3, env', s3.ok, eo', ?_⟩
                simp only [ev1]
                exact fun E4 H4 s4 v rv => keepIt s4 rv rfl
              | ex d => rw [ev1] at et; cases et
              | no => rw [ev1] at et; cases et
            · -- one test
              simp only [evs] at et
              cases ec : ev F cx env' with
              | ok b =>
                simp only [ec, Res.bind, Res.noex] at et
                cases eb : truT b with
                | ok kb =>
                  rw [eb] at et
                  refine ⟨E3, env', s3.ok, eo', ?_⟩
                  simp only [ec, Res.bind, eb]
                  intro E4 H4 s4
                  cases kb with
                  | true =>
                    simp only [if_true] at et ⊢
                    cases ev1 : ev F elt env' with
                    | ok u =>
                      rw [ev1] at et
                      cases et
                      refine ⟨E4, env', s4.ok, eo'.step s4, ?_⟩
                      simp only [ev1]
                      exact fun E5 H5 s5 v rv => keepIt (s4.trans s5) rv rfl
                    | ex d => rw [ev1] at et; cases et
                    | no => rw [ev1] at et; cases et
                  | false =>
                    cases et
                    exact dropIt s4 rfl
                | ex d => exact (truT_nx _ _ eb).elim
                | no => rw [eb] at et; cases et
              | ex d => simp only [ec, Res.bind, Res.noex] at et; cases et
              | no => simp only [ec, Res.bind, Res.noex] at et; cases et
            · simp at hcl
    · left
      have e : i = xs.length := by omega
      subst e
      rw [List.drop_length] at er
      cases er
      rw [List.append_nil] at eu
      subst eu
      exact ⟨wk.stop H' fun a u e => s2.ok.sub a u (s2.ff a u e), p1 E2 H' s2 D (s1.hh.none hD) hE2D ⟨vs, hHD, Nat.le_trans hu wk.len, ru⟩⟩
end
end Fz

/-! chains, a if t else b, comprehensions; every expression -/
namespace Fz
open PySem PySem.Spec L2
open PyProof.Rows hiding St

variable {S : Su}
section
variable {X : Cx} {W : WX} {F : Fns} {c : TC} {sc so : Scope} {k : Nat}
theorem bind_ok {α β : Type} {r : Res α} {g : α → Res β} {b : β} (h : r.bind g = .ok b) : ∃ a, r = .ok a ∧ g a = .ok b := by
  cases r with
  | ok a => exact ⟨a, rfl, h⟩
  | ex d => cases h
  | no => cases h
theorem nomark2 {o1 o2 : CmpOp} (b d : Expr) (h2 : o2 ≠ .In ∧ o2 ≠ .NotIn) : lastMarks [o1, o2] [b, d] = false := by
  show behindInMarks o2 d = false
  exact nobehind d h2.1 h2.2
theorem imp_chain {o1 o2 : Cop} {x y z : E} {σ : St} {H : Hp} {Q : VK} (q : dE S W (ev F (.chain o1 o2 x y z)) σ H Q) :
    tChain (rCo S (cmpT o1)) (rCo S (cmpT o2)) (dE S W (ev F x)) (dE S W (ev F y)) (dE S W (ev F z)) σ H Q := by
  obtain ⟨E, env, o, eo, p⟩ := q
  simp only [ev] at p
  refine ⟨E, env, o, eo, (PostG.split p).imp fun t1 F1 H1 s1 p1 v rv => ⟨F1, env, s1.ok, eo.step s1, (PostG.split p1).imp fun t2 F2 H2 s2 p2 w rw => ?_⟩⟩
  cases e : cmpT o1 t1 t2 with
  | ok t =>
    obtain ⟨b, rfl⟩ := cmpT_bl _ _ _ _ e
    rw [e] at p2
    refine ⟨t1, t2, b, (rv.mono s2.ff).mono s2.ok.sub, rw.mono s2.ok.sub, e, b, rfl, ?_⟩
    cases b with
    | false => exact p2 F2 H2 (.refl s2.ok) _ rfl
    | true =>
      rw [if_pos rfl]
      replace p2 : PostG S W F2 H2 σ ((ev F z env).bind fun u => cmpT o2 t2 u) fun t F' H' => ∀ (v : V), Rep S F' t v → Q v H' := p2
      refine ⟨F2, env, s2.ok, (eo.step s1).step s2, (PostG.split p2).imp fun t3 F3 H3 s3 p3 w' rw' => ?_⟩
      cases e3 : cmpT o2 t2 t3 with
      | ok t =>
        obtain ⟨b, rfl⟩ := cmpT_bl _ _ _ _ e3
        rw [e3] at p3
        exact ⟨t2, t3, b, (rw.mono s3.ff).mono s3.ok.sub, rw'.mono s3.ok.sub, e3, p3 F3 H3 (.refl s3.ok) _ rfl⟩
      | ex d => exact (cmpT_nx _ _ _ _ e3).elim
      | no => rw [e3] at p3; exact p3.elim
  | ex d => exact (cmpT_nx _ _ _ _ e).elim
  | no => rw [e] at p2; exact p2.elim
theorem chain_bl {o1 o2 : Cop} {x y z : E} {env : Cells} (t : T) (h : ev F (.chain o1 o2 x y z) env = .ok t) : ∃ b, t = .bl b := by
  simp only [ev] at h
  cases e1 : ev F x env with
  | ok t1 =>
    cases e2 : ev F y env with
    | ok t2 =>
      simp only [e1, e2, Res.bind] at h
      cases e3 : cmpT o1 t1 t2 with
      | ok u =>
        obtain ⟨b, rfl⟩ := cmpT_bl _ _ _ _ e3
        cases b with
        | true =>
          simp only [e3] at h
          cases e4 : ev F z env with
          | ok t3 => simp only [e4] at h; exact cmpT_bl _ _ _ _ h
          | ex d => simp only [e4] at h; cases h
          | no => simp only [e4] at h; cases h
        | false => simp only [e3] at h; cases h; exact ⟨_, rfl⟩
      | ex d => simp only [e3] at h; cases h
      | no => simp only [e3] at h; cases h
    | ex d => simp only [e1, e2, Res.bind] at h; cases h
    | no => simp only [e1, e2, Res.bind] at h; cases h
  | ex d => simp only [e1, Res.bind] at h; cases h
  | no => simp only [e1, Res.bind] at h; cases h
theorem okCop_of {o : CmpOp} (h : okCop o = true) : o ≠ .In ∧ o ≠ .NotIn := by
  constructor <;> (rintro rfl; cases h)
theorem t_chain {o1 o2 : CmpOp} {a b d : Expr} {x y z : E} {pos : Pos} (g : Good S c k X sc so) (h1 : okCop o1 = true) (h2 : okCop o2 = true) (ha : Tri S W F X a x) (hb : Tri S W F X b y) (hd : Tri S W F X d z) :
    Tri S W F X (.Compare a [o1, o2] [b, d] pos) (.chain (trCop o1) (trCop o2) x y z) := by
  refine .of' ((pe_chain (o_cmp g (okCop_of h1)) (o_cmp g (okCop_of h2)) ha.e hb.e hd.e (nomark2 _ _ (okCop_of h2))).imp fun σ H Q q => imp_chain q) (fun _ => by intro h; cases h)
    ((pt_chain (o_cmp g (okCop_of h1)) (o_cmp g (okCop_of h2)) ha.e hb.e hd.e (nomark2 _ _ (okCop_of h2))).imp fun σ H Q q => ?_)
  refine imp_chain ?_
  obtain ⟨E, env, o, eo, p⟩ := q
  exact ⟨E, env, o, eo, bool_test chain_bl p⟩

theorem pt_ifE {t a b : Expr} {tA ta tb : TT} {pos : Pos} (hc : PT X t tA) (ha : PT X a ta) (hb : PT X b tb) : PT X (.IfExp t a b pos) (fun σ H Q => tA σ H fun k H1 => if k = true then ta σ H1 Q else tb σ H1 Q) := by
  refine ⟨fun pins s σ H Q I h => ?_⟩
  refine isTrue_IfExp (thn (hc.run pins s σ H _ I h) fun d s1 ⟨H1, I1, q1⟩ => ?_)
  cases d with
  | true => exact ha.run pins s1 σ H1 Q I1 q1
  | false => exact hb.run pins s1 σ H1 Q I1 q1
theorem t_ite {t a b : Expr} {x y z : E} {pos : Pos} (ht : Tri S W F X t x) (ha : Tri S W F X a y) (hb : Tri S W F X b z) : Tri S W F X (.IfExp t a b pos) (.ite x y z) := by
  refine .of' ((pe_ifExp ht.tt ha.e hb.e).imp fun σ H Q q => ?_) (fun _ => by intro h; cases h) ((pt_ifE ht.tt ha.tt hb.tt).imp fun σ H Q q => ?_)
  · obtain ⟨E, env, o, eo, p⟩ := q
    simp only [ev] at p
    rw [← bind_assoc] at p
    refine ⟨E, env, o, eo, (PostG.split p).imp fun b F1 H1 s1 p1 => ?_⟩
    cases b with
    | true => exact ⟨F1, env, s1.ok, eo.step s1, p1⟩
    | false => exact ⟨F1, env, s1.ok, eo.step s1, p1⟩
  · obtain ⟨E, env, o, eo, p⟩ := q
    simp only [ev] at p
    rw [← bind_assoc, bind_assoc] at p
    refine ⟨E, env, o, eo, (PostG.split p).imp fun b F1 H1 s1 p1 => ?_⟩
    cases b with
    | true => exact ⟨F1, env, s1.ok, eo.step s1, p1⟩
    | false => exact ⟨F1, env, s1.ok, eo.step s1, p1⟩

/-! ### comprehensions -/
theorem Good.blk {s : Shared} {H : Hp} {scope : Scope} {cl : List (Str × Addr)} {C : Addr} {fp : List Addr} (g : Good S c k X sc so) : Good S c k (X.blk s H scope (compEnvC scope cl C X.env) fp) (L2.relS scope sc) scope where
  hP := g.hP
  hw := g.hw
  hK := g.hK
  hmg := g.hmg
  hb := g.hb
  hN := g.hN
  nd := g.nd
  sc := by rw [← g.sc]; rfl
  calm := g.calm
  room := g.room
  fn := fun x h => by
    show (scope.names.lookup x == some .cell) = true
    rw [h]; rfl
theorem takes0 : Takes X W0 := fun u s' ⟨_, _, _, _, _, _, _, _, _, _, _, _, _, _, _, _, w⟩ => w.elim
/-- what a comprehension's parts keep -/
structure LcOk (S : Su) (W : WX) (F : Fns) (X : Cx) (tg iter elt : Expr) (ifs : List Expr) (scope : Scope) (own : List (Str × Nat)) (wi : TI) (gt : TG) (tt : TT) (te : TE) : Prop where
  hi : PI X tg iter wi
  ok : BlkOk X.N X.env.scope scope own
  hg : ∀ (s : Shared) (H : Hp) (C : Addr) (cl : List (Str × Addr)) (fp : List Addr), PG (X.blk s H scope (compEnvC scope cl C X.env) fp) tg gt
  ht : ∀ (s : Shared) (H : Hp) (C : Addr) (cl : List (Str × Addr)) (fp : List Addr), PTs (X.blk s H scope (compEnvC scope cl C X.env) fp) ifs tt
  he : ∀ (s : Shared) (H : Hp) (C : Addr) (cl : List (Str × Addr)) (fp : List Addr), PE (X.blk s H scope (compEnvC scope cl C X.env) fp) elt te
  hs : ∀ x, foldedSetIterable iter X.env x = pure x
/-- a comprehension that is translated: its parts -/
def LcAt (S : Su) (W : WX) (F : Fns) (X : Cx) (elt : Expr) (gs : List Comprehension) (scope : Scope) (x : E) : Prop :=
  ∃ tg iter ifs own wi gt tt te, gs = [⟨tg, iter, ifs, 0⟩] ∧ LcOk S W F X tg iter elt ifs scope own wi gt tt te ∧ freshE x = true ∧ (∀ σ H Q, dN S W (ev F x) σ H Q → tLc wi gt tt te (own.map (·.2)) σ H Q)
theorem comp_ok {elt : E} {tg : Tg} {ik : IK} {its cond : List E} {own : List Nat} (env : Cells) (t : T) (h : ev F (.comp elt tg ik its cond own) env = .ok t) : ∃ ts, t = .lst ts := by
  simp only [ev] at h
  obtain ⟨_, _, h⟩ := bind_ok h
  obtain ⟨_, _, h⟩ := bind_ok h
  obtain ⟨_, _, h⟩ := bind_ok h
  cases h
  exact ⟨_, rfl⟩
theorem LcAt.n {elt : Expr} {gs : List Comprehension} {scope : Scope} {pos : Pos} {x : E} (g : Good S c k X sc so) (h : LcAt S W F X elt gs scope x) : PE X (.ListComp elt gs scope pos) (dN S W (ev F x)) := by
  obtain ⟨tg, iter, ifs, own, wi, gt, tt, te, rfl, l, _, i⟩ := h
  exact (pe_lc g.calm g.nd l.hi l.ok l.hg l.ht l.he l.hs).imp i
end
end Fz

/-! every expression that is translated -/
namespace Fz
open PySem PySem.Spec L2
open PyProof.Rows hiding St

variable {S : Su}
structure TrO (S : Su) (W : WX) (F : Fns) (X : Cx) (e : Expr) (x : E) : Prop where
  tri : Tri S W F X e x
  ns : ∀ a p, e ≠ .Starred a p
  n : freshE x = true → PE X e (dN S W (ev F x)) ∧ ∀ env t, ev F x env = .ok t → ∃ ts, t = .lst ts
  lc : ∀ elt gs scope pos, e = .ListComp elt gs scope pos → LcAt S W F X elt gs scope x
def PEx (S : Su) (F : Fns) (c : TC) (k : Nat) (e : Expr) : Prop := ∀ {X : Cx} {W : WX} {sc so : Scope}, Good S c k X sc so → Takes X W → ∀ x, trE c sc e = some x → TrO S W F X e x
section
variable {X : Cx} {W : WX} {F : Fns} {c : TC} {sc so : Scope} {k : Nat}
theorem trEs_of (g : Good S c k X sc so) (tk : Takes X W) : ∀ {es : List Expr}, (∀ e ∈ es, PEx S F c k e) → ∀ {xs : List E}, trEs c sc es = some xs → PA X es (dA S W (evs F xs)) ∧ (∀ e ∈ es, ∀ a p, e ≠ .Starred a p) ∧ xs.length = es.length
  | [], h, xs, e => by
    simp only [trEs] at e
    cases e
    exact ⟨a_nil, fun e he => (nomatch he), rfl⟩
  | e :: es, h, xs, e0 => by
    simp only [trEs] at e0
    cases e1 : trE c sc e with
    | none => simp only [e1] at e0; cases e0
    | some x =>
      cases e2 : trEs c sc es with
      | none => simp only [e1, e2] at e0; cases e0
      | some ys =>
        simp only [e1, e2] at e0
        cases e0
        have q := h e (List.mem_cons_self ..) g tk x e1
        obtain ⟨h3, h4, h5⟩ := trEs_of g tk (fun e he => h e (List.mem_cons_of_mem _ he)) e2
        refine ⟨a_cons q.ns q.tri.e h3, fun e' he => ?_, by rw [List.length_cons, List.length_cons, h5]⟩
        rcases List.mem_cons.mp he with rfl | he
        · exact q.ns
        · exact h4 e' he
theorem trB_of (g : Good S c k X sc so) (tk : Takes X W) {op : BoolOp} {pos : Pos} : ∀ {es : List Expr}, (∀ e ∈ es, PEx S F c k e) → ∀ {x : E}, trB c sc op es = some x → Tw S W F X (.BoolOp op es pos) x ∧ (2 ≤ es.length → ∀ i, x ≠ .var i)
  | [], h, x, e => by simp only [trB] at e; cases e
  | [a], h, x, e => by
    simp only [trB] at e
    exact ⟨w_one (h a (List.mem_singleton.mpr rfl) g tk x e).tri, fun z => by simp at z⟩
  | a :: b :: rest, h, x, e => by
    unfold trB at e
    cases e1 : trE c sc a with
    | none => simp only [e1] at e; cases e
    | some y =>
      cases e2 : trB c sc op (b :: rest) with
      | none => simp only [e1, e2] at e; cases e
      | some z =>
        simp only [e1, e2] at e
        cases e
        have q := w_cons (pos := pos) (op := op) g (h a (List.mem_cons_self ..) g tk y e1).tri (trB_of g tk (fun e he => h e (List.mem_cons_of_mem _ he)) e2).1
        refine ⟨?_, fun _ i => ?_⟩
        · cases op <;> exact q
        · cases op <;> (intro h; cases h)
theorem trO_of (g : Good S c k X sc so) (tk : Takes X W) {e : Option Expr} (h : ∀ a, e = some a → PEx S F c k a) {l : List E} (e0 : trO c sc e = some l) : PO X e (dO S W (evs F l)) := by
  cases e with
  | none => simp only [trO] at e0; cases e0; exact o_none
  | some a =>
    simp only [trO] at e0
    cases e1 : trE c sc a with
    | none => rw [e1] at e0; cases e0
    | some x => rw [e1] at e0; cases e0; exact o_some (h a rfl g tk x e1).tri.e
theorem trN_of (g : Good S c k X sc so) (G : Glob S c F k) {x : Str} {pos : Pos} {y : E} (h : trN c sc x = some y) : Tri S W F X (.Name x pos) y := by
  unfold trN at h
  split at h
  · rename_i hn
    split at h
    · rename_i hv
      cases e : ixOf x c.N 0 with
      | none => rw [e] at h; cases h
      | some i => rw [e] at h; cases h; exact t_name g hv hn e
    · split at h
      · rename_i hg
        have gl : Gl X x := glB_of (by rw [g.sc]; exact hg)
        split at h
        · rename_i t et
          cases h
          obtain ⟨v, u, h1, h2, h3⟩ := G.cst x t et
          exact .of g.hK (e_cst (pe_glob gl (by rw [g.hmg]; exact h1) h2 (okName_of hn).1) h3) (fun i h => by cases h) fun _ => rfl
        · split at h
          · rename_i f ef
            cases h
            obtain ⟨fd, ps, h1, _⟩ := (G.own x f ef).ex
            exact .of g.hK (e_cst (v := .ref (S.fA f)) (pe_glob gl (by rw [g.hmg]; exact h1) rfl (okName_of hn).1) fun _ => rfl) (fun i h => by cases h) fun _ => rfl
          · cases h
      · cases h
  · cases h
theorem trI_of (g : Good S c k X sc so) (tk : Takes X W) (G : Glob S c F k) {tg iter : Expr} (h : ∀ e, sizeOf e < sizeOf iter → PEx S F c k e) {ik : IK} {its : List E} (e : trI c sc (isTup tg) iter = some (ik, its)) : PI X tg iter (dI S W ik (evs F its)) := by
  unfold trI at e
  split at e
  · rename_i f p args pos
    split at e
    · rename_i hc
      simp only [Bool.and_eq_true] at hc
      have hm := G.blt f hc.1
      have ha : ∀ e' ∈ args, PEx S F c k e' := fun e' he => h e' (by
        have := List.sizeOf_lt_of_mem he
        simp only [Expr.Call.sizeOf_spec]
        omega)
      cases e1 : trEs c sc args with
      | none => rw [e1] at e; cases e
      | some xs =>
        rw [e1] at e
        obtain ⟨a1, a2, a3⟩ := trEs_of g tk ha e1
        rcases xs with _ | ⟨x, _ | ⟨y, _ | ⟨z, xs⟩⟩⟩
        · cases e
        · obtain ⟨a, rfl⟩ : ∃ a, args = [a] := by
            rcases args with _ | ⟨a, _ | ⟨b, args⟩⟩
            · simp at a3
            · exact ⟨a, rfl⟩
            · simp at a3
          have n1 := a2 a (List.mem_singleton.mpr rfl)
          simp only at e
          split at e
          · rename_i hf
            subst hf
            cases e
            exact i_rng1 g hc.2 hm n1 a1
          · split at e
            · rename_i hf
              obtain ⟨rfl, ht⟩ := hf
              cases e
              cases tg <;> first | (cases ht; done) | exact i_enum g hc.2 hm n1 a1
            · cases e
        · obtain ⟨a, b, rfl⟩ : ∃ a b, args = [a, b] := by
            rcases args with _ | ⟨a, _ | ⟨b, _ | ⟨d, args⟩⟩⟩
            · simp at a3
            · simp at a3
            · exact ⟨a, b, rfl⟩
            · simp at a3
          have n1 := a2 a (by simp)
          have n2 := a2 b (by simp)
          simp only at e
          split at e
          · rename_i hf
            subst hf
            cases e
            exact i_rng2 g hc.2 hm n1 n2 a1
          · split at e
            · rename_i hf
              obtain ⟨rfl, ht⟩ := hf
              cases e
              cases tg <;> first | (cases ht; done) | exact i_zip g hc.2 hm n1 n2 a1
            · cases e
        · cases e
    · cases e
  · cases e
/-- what is walked: by a built-in, or a value -/
theorem trW_of (g : Good S c k X sc so) (tk : Takes X W) (G : Glob S c F k) {tg iter : Expr} (h : ∀ e, sizeOf e ≤ sizeOf iter → PEx S F c k e) {ik : IK} {its : List E}
    (e : (match trI c sc (isTup tg) iter with | some r => some r | none => (trE c sc iter).map fun x => (IK.seq, [x])) = some (ik, its)) : PI X tg iter (dI S W ik (evs F its)) ∧ ∀ x, foldedSetIterable iter X.env x = pure x := by
  cases e1 : trI c sc (isTup tg) iter with
  | some r =>
    rw [e1] at e
    cases e
    refine ⟨trI_of g tk G (fun e h' => h e (Nat.le_of_lt h')) e1, ?_⟩
    cases iter <;> first | (intro x; rfl) | (simp [trI] at e1; done)
  | none =>
    rw [e1] at e
    cases e2 : trE c sc iter with
    | none => rw [e2] at e; cases e
    | some x =>
      rw [e2] at e
      cases e
      refine ⟨i_seq g.hK (h iter (Nat.le_refl _) g tk x e2).tri.e, ?_⟩
      cases iter <;> first | (intro x; rfl) | (simp [trE] at e2; done)
theorem trBlt_list {x : Str} {n : Nat} (h : trBlt x n = some .list) : x = "list" := by
  unfold trBlt at h
  by_cases z : x = "abs" ∧ n = 1
  · rw [if_pos z] at h; cases h
  rw [if_neg z] at h
  clear z
  by_cases z : x = "max" ∧ n = 2
  · rw [if_pos z] at h; cases h
  rw [if_neg z] at h
  clear z
  by_cases z : x = "min" ∧ n = 2
  · rw [if_pos z] at h; cases h
  rw [if_neg z] at h
  clear z
  by_cases z : x = "max" ∧ n = 1
  · rw [if_pos z] at h; cases h
  rw [if_neg z] at h
  clear z
  by_cases z : x = "min" ∧ n = 1
  · rw [if_pos z] at h; cases h
  rw [if_neg z] at h
  clear z
  by_cases z : x = "sum" ∧ n = 1
  · rw [if_pos z] at h; cases h
  rw [if_neg z] at h
  clear z
  by_cases z : x = "all" ∧ n = 1
  · rw [if_pos z] at h; cases h
  rw [if_neg z] at h
  clear z
  by_cases z : x = "any" ∧ n = 1
  · rw [if_pos z] at h; cases h
  rw [if_neg z] at h
  clear z
  by_cases z : x = "list" ∧ n = 1
  · exact z.1
  rw [if_neg z] at h
  clear z
  by_cases z : x = "tuple" ∧ n = 1
  · rw [if_pos z] at h; cases h
  rw [if_neg z] at h
  clear z
  by_cases z : x = "int" ∧ n = 1
  · rw [if_pos z] at h; cases h
  rw [if_neg z] at h
  clear z
  by_cases z : x = "str" ∧ n = 1
  · rw [if_pos z] at h; cases h
  rw [if_neg z] at h
  clear z
  by_cases z : x = "sorted" ∧ n = 1
  · rw [if_pos z] at h; cases h
  rw [if_neg z] at h
  clear z
  by_cases z : x = "dict" ∧ n = 1
  · rw [if_pos z] at h; cases h
  rw [if_neg z] at h
  clear z
  cases h
theorem trBlt_pos {x : Str} {n : Nat} {b : Blt} (h : trBlt x n = some b) : n ≠ 0 := by
  unfold trBlt at h
  by_cases z : x = "abs" ∧ n = 1
  · intro h0; rw [h0] at z; exact absurd z.2 (by decide)
  rw [if_neg z] at h
  clear z
  by_cases z : x = "max" ∧ n = 2
  · intro h0; rw [h0] at z; exact absurd z.2 (by decide)
  rw [if_neg z] at h
  clear z
  by_cases z : x = "min" ∧ n = 2
  · intro h0; rw [h0] at z; exact absurd z.2 (by decide)
  rw [if_neg z] at h
  clear z
  by_cases z : x = "max" ∧ n = 1
  · intro h0; rw [h0] at z; exact absurd z.2 (by decide)
  rw [if_neg z] at h
  clear z
  by_cases z : x = "min" ∧ n = 1
  · intro h0; rw [h0] at z; exact absurd z.2 (by decide)
  rw [if_neg z] at h
  clear z
  by_cases z : x = "sum" ∧ n = 1
  · intro h0; rw [h0] at z; exact absurd z.2 (by decide)
  rw [if_neg z] at h
  clear z
  by_cases z : x = "all" ∧ n = 1
  · intro h0; rw [h0] at z; exact absurd z.2 (by decide)
  rw [if_neg z] at h
  clear z
  by_cases z : x = "any" ∧ n = 1
  · intro h0; rw [h0] at z; exact absurd z.2 (by decide)
  rw [if_neg z] at h
  clear z
  by_cases z : x = "list" ∧ n = 1
  · intro h0; rw [h0] at z; exact absurd z.2 (by decide)
  rw [if_neg z] at h
  clear z
  by_cases z : x = "tuple" ∧ n = 1
  · intro h0; rw [h0] at z; exact absurd z.2 (by decide)
  rw [if_neg z] at h
  clear z
  by_cases z : x = "int" ∧ n = 1
  · intro h0; rw [h0] at z; exact absurd z.2 (by decide)
  rw [if_neg z] at h
  clear z
  by_cases z : x = "str" ∧ n = 1
  · intro h0; rw [h0] at z; exact absurd z.2 (by decide)
  rw [if_neg z] at h
  clear z
  by_cases z : x = "sorted" ∧ n = 1
  · intro h0; rw [h0] at z; exact absurd z.2 (by decide)
  rw [if_neg z] at h
  clear z
  by_cases z : x = "dict" ∧ n = 1
  · intro h0; rw [h0] at z; exact absurd z.2 (by decide)
  rw [if_neg z] at h
  clear z
  cases h
theorem okBlt_of {b : Blt} (h : okBlt b = true) : b ≠ .sorted ∧ b ≠ .dict ∧ b ≠ .max1 ∧ b ≠ .min1 := by
  refine ⟨?_, ?_, ?_, ?_⟩ <;> (rintro rfl; cases h)
theorem trCall_of (g : Good S c k X sc so) (tk : Takes X W) (G : Glob S c F k) {f : Str} {p pos : Pos} {es : List Expr} {xs : List E} {y : E}
    (ha : PA X es (dA S W (evs F xs))) (hs : ∀ e ∈ es, ∀ a p, e ≠ .Starred a p) (hl : xs.length = es.length) (hb : ∀ e x, es = [e] → xs = [x] → PE X e (dB S W fun env => rdB env x (ev F x env)))
    (e : trCall c sc f xs = some y) : TrO S W F X (.Call (.Name f p) es [] pos) y := by
  have mk : ∀ y, PE X (.Call (.Name f p) es [] pos) (dE S W (ev F y)) → (∀ i, y ≠ .var i) → (freshE y = true → PE X (.Call (.Name f p) es [] pos) (dN S W (ev F y)) ∧ ∀ env t, ev F y env = .ok t → ∃ ts, t = .lst ts) → TrO S W F X (.Call (.Name f p) es [] pos) y := fun y h1 h2 h3 =>
    ⟨.of g.hK h1 h2 fun _ => rfl, (fun a p => by intro h; cases h), h3, (fun elt gs scope pos => by intro h; cases h)⟩
  unfold trCall at e
  split at e
  · rename_i hc
    simp only [Bool.and_eq_true] at hc
    split at e
    · rename_i j ej
      split at e
      · cases e
      · rename_i hne
        cases e
        cases es with
        | nil => cases xs with
          | nil => exact absurd rfl hne
          | cons x xs => simp at hl
        | cons a es => exact mk _ (e_call g tk (G.own f j ej) hc.1 hc.2 hs ha) (fun i => by intro h; cases h) fun h => by cases h
    · split at e
      · rename_i hbl
        have hm := G.blt f hbl
        split at e
        · rename_i hf
          subst hf
          rcases xs with _ | ⟨x, _ | ⟨x2, xs⟩⟩
          · cases e
          · cases e
            obtain ⟨a, rfl⟩ : ∃ a, es = [a] := by
              rcases es with _ | ⟨a, _ | ⟨b, es⟩⟩
              · simp at hl
              · exact ⟨a, rfl⟩
              · simp at hl
            exact mk _ (e_len g (hs a (List.mem_singleton.mpr rfl)) hc.1 hm (hb a x rfl rfl)) (fun i => by intro h; cases h) fun h => by cases h
          · cases e
        · cases e1 : trBlt f xs.length with
          | none => rw [e1] at e; cases e
          | some b =>
            rw [e1] at e
            simp only [Option.bind] at e
            split at e
            · rename_i hok
              cases e
              cases es with
              | nil =>
                cases xs with
                | nil =>
                  exact absurd rfl (trBlt_pos e1)
                | cons x xs => simp at hl
              | cons a es =>
                refine mk _ (e_blt g e1 (okBlt_of hok) hc.1 hm hs ha) (fun i => by intro h; cases h) fun h => ?_
                cases b <;> first | (cases h; done) | skip
                have hf : f = "list" := trBlt_list e1
                exact ⟨n_list g hf hc.1 hm hs ha, list_ok⟩
            · cases e
      · cases e
  · cases e
end
end Fz

/-! every expression that is translated -/
namespace Fz
open PySem PySem.Spec L2
open PyProof.Rows hiding St

variable {S : Su}
section
variable {X : Cx} {W : WX} {F : Fns} {c : TC} {sc so : Scope} {k : Nat}
theorem TrO.mk' {e : Expr} {x : E} (h : Tri S W F X e x) (hs : ∀ a p, e ≠ .Starred a p) (hf : freshE x = false) (hl : ∀ elt gs scope pos, e ≠ .ListComp elt gs scope pos) : TrO S W F X e x :=
  ⟨h, hs, fun z => (by rw [hf] at z; cases z), fun elt gs scope pos z => absurd z (hl _ _ _ _)⟩
theorem freshBand {op : BoolOp} {es : List Expr} {x : E} (h : trB c sc op es = some x) (hl : 2 ≤ es.length) : freshE x = false := by
  rcases es with _ | ⟨a, _ | ⟨b, rest⟩⟩
  · simp at hl
  · simp at hl
  · unfold trB at h
    cases e1 : trE c sc a with
    | none => simp only [e1] at h; cases h
    | some y =>
      cases e2 : trB c sc op (b :: rest) with
      | none => simp only [e1, e2] at h; cases h
      | some z =>
        simp only [e1, e2] at h
        cases h
        cases op <;> rfl
theorem freshN {x : Str} {y : E} (h : trN c sc x = some y) : freshE y = false := by
  unfold trN at h
  split at h
  · split at h
    · cases e : ixOf x c.N 0 with
      | none => rw [e] at h; cases h
      | some i => rw [e] at h; cases h; rfl
    · split at h
      · split at h
        · cases h; rfl
        · split at h <;> cases h
          rfl
      · cases h
  · cases h
theorem trIsi_of (G : Glob S c F k) {t : Str} {b : Blt} (h : trIsi c sc t = some b) : ∃ n, isiCls b = some n ∧ bootBuiltins t = some (.type n) ∧ okName t = true ∧ glB sc t = true ∧ S.mg t = none := by
  unfold trIsi at h
  split at h
  · rename_i hc
    simp only [Bool.and_eq_true] at hc
    split at h
    · cases h
    · split at h
      · rename_i hb
        have hm := G.blt t hb
        split at h
        · rename_i e; subst e; cases h; exact ⟨"int", rfl, PyProof.Rows.boot_int, hc.2, hc.1, hm⟩
        · split at h
          · rename_i e; subst e; cases h; exact ⟨"bool", rfl, by decide +kernel, hc.2, hc.1, hm⟩
          · split at h
            · rename_i e; subst e; cases h; exact ⟨"tuple", rfl, PyProof.Rows.boot_tuple, hc.2, hc.1, hm⟩
            · split at h
              · rename_i e; subst e; cases h; exact ⟨"str", rfl, PyProof.Rows.boot_str, hc.2, hc.1, hm⟩
              · cases h
      · cases h
  · cases h
theorem trE_all (G : Glob S c F k) : ∀ (n : Nat) (e : Expr), sizeOf e ≤ n → PEx S F c k e := by
  intro n
  induction n with
  | zero => intro e he; cases e <;> simp at he
  | succ n ih =>
    intro e he X W sc so g tk x hx
    have one : ∀ {e' : Expr} {y : E}, sizeOf e' ≤ n → trE c sc e' = some y → TrO S W F X e' y := fun {e' y} h1 h2 => ih e' h1 g tk y h2
    unfold trE at hx
    split at hx
    · -- a constant
      rename_i q j pos
      cases e1 : trC q with
      | none => rw [e1] at hx; cases hx
      | some t => rw [e1] at hx; cases hx; exact .mk' (.of g.hK (trC_ok e1) (fun i h => by cases h) fun _ => rfl) (fun _ _ h => by cases h) rfl (fun _ _ _ _ h => by cases h)
    · rename_i q pos
      exact .mk' (trN_of g G hx) (fun _ _ h => by cases h) (freshN hx) (fun _ _ _ _ h => by cases h)
    · rename_i a op b pos
      simp only [Expr.BinOp.sizeOf_spec] at he
      split at hx
      · rename_i o' y z h1 h2 h3
        cases hx
        exact .mk' (.of g.hK (e_bin g h1 (one (by omega) h2).tri.e (one (by omega) h3).tri.e) (fun i h => by cases h) fun _ => rfl) (fun _ _ h => by cases h) rfl (fun _ _ _ _ h => by cases h)
      · cases hx
    · rename_i a pos
      simp only [Expr.UnaryOp.sizeOf_spec] at he
      cases e1 : trE c sc a with
      | none => rw [e1] at hx; cases hx
      | some y => rw [e1] at hx; cases hx; exact .mk' (t_not g (one (by omega) e1).tri) (fun _ _ h => by cases h) rfl (fun _ _ _ _ h => by cases h)
    · rename_i a pos
      simp only [Expr.UnaryOp.sizeOf_spec] at he
      cases e1 : trE c sc a with
      | none => rw [e1] at hx; cases hx
      | some y => rw [e1] at hx; cases hx; exact .mk' (.of g.hK (e_neg (one (by omega) e1).tri.e) (fun i h => by cases h) fun _ => rfl) (fun _ _ h => by cases h) rfl (fun _ _ _ _ h => by cases h)
    · rename_i op vs pos
      simp only [Expr.BoolOp.sizeOf_spec] at he
      have hv : ∀ e' ∈ vs, PEx S F c k e' := fun e' h' => ih e' (by have := List.sizeOf_lt_of_mem h'; omega)
      split at hx
      · rename_i hl
        obtain ⟨w, q⟩ := trB_of (pos := pos) g tk hv hx
        exact .mk' (w.tri (q hl)) (fun _ _ h => by cases h) (freshBand hx hl) (fun _ _ _ _ h => by cases h)
      · cases hx
    · rename_i t a b pos
      simp only [Expr.IfExp.sizeOf_spec] at he
      split at hx
      · rename_i y1 y2 y3 h1 h2 h3
        cases hx
        exact .mk' (t_ite (one (by omega) h1).tri (one (by omega) h2).tri (one (by omega) h3).tri) (fun _ _ h => by cases h) rfl (fun _ _ _ _ h => by cases h)
      · cases hx
    · rename_i a op b pos
      simp only [Expr.Compare.sizeOf_spec, List.cons.sizeOf_spec] at he
      split at hx
      · rename_i ho
        split at hx
        · rename_i y1 y2 h1 h2
          cases hx
          exact .mk' (t_cmp g (okCop_of ho) (one (by omega) h1).tri (one (by omega) h2).tri) (fun _ _ h => by cases h) rfl (fun _ _ _ _ h => by cases h)
        · cases hx
      · cases hx
    · rename_i a o1 o2 b d pos
      simp only [Expr.Compare.sizeOf_spec, List.cons.sizeOf_spec] at he
      split at hx
      · rename_i ho
        simp only [Bool.and_eq_true] at ho
        split at hx
        · rename_i y1 y2 y3 h1 h2 h3
          cases hx
          exact .mk' (t_chain g ho.1 ho.2 (one (by omega) h1).tri (one (by omega) h2).tri (one (by omega) h3).tri) (fun _ _ h => by cases h) rfl (fun _ _ _ _ h => by cases h)
        · cases hx
      · cases hx
    · -- isinstance, or a call whose second argument is a name
      rename_i f p a t p2 pos
      simp only [Expr.Call.sizeOf_spec, List.cons.sizeOf_spec] at he
      split at hx
      · rename_i hf
        obtain ⟨rfl, hb, hg⟩ := hf
        split at hx
        · rename_i b y h1 h2
          cases hx
          obtain ⟨m, q1, q2, q3, q4, q5⟩ := trIsi_of G h1
          have o := one (by omega) h2
          refine .mk' (.of g.hK (e_isi g q1 q2 q3 q4 q5 hg (G.blt _ hb) o.ns o.tri.e) (fun i h => by cases h) fun _ => rfl) (fun _ _ h => by cases h) ?_ (fun _ _ _ _ h => by cases h)
          cases b <;> first | rfl | (cases q1; done)
        · cases hx
      · split at hx
        · rename_i y z h1 h2
          have o := one (by omega) h1
          have o2 : Tri S W F X (.Name t p2) z := trN_of g G h2
          have hs : ∀ e ∈ [a, Expr.Name t p2], ∀ b q, e ≠ .Starred b q := fun e h' b q => by
            rcases List.mem_cons.mp h' with rfl | h'
            · exact o.ns b q
            · rcases List.mem_singleton.mp h' with rfl
              intro h; cases h
          exact trCall_of g tk G (a_cons o.ns o.tri.e (a_cons (fun _ _ h => by cases h) o2.e a_nil)) hs rfl (fun e x h => by cases h) hx
        · cases hx
    · rename_i f p args pos _
      simp only [Expr.Call.sizeOf_spec] at he
      have hv : ∀ e' ∈ args, PEx S F c k e' := fun e' h' => ih e' (by have := List.sizeOf_lt_of_mem h'; omega)
      cases e1 : trEs c sc args with
      | none => rw [e1] at hx; cases hx
      | some xs =>
        rw [e1] at hx
        obtain ⟨a1, a2, a3⟩ := trEs_of g tk hv e1
        refine trCall_of g tk G a1 a2 a3 (fun e x h1 h2 => ?_) hx
        subst h1 h2
        simp only [trEs] at e1
        cases e2 : trE c sc e with
        | none => simp only [e2] at e1; cases e1
        | some y =>
          simp only [e2] at e1
          cases e1
          exact (hv e (List.mem_singleton.mpr rfl) g tk _ e2).tri.b
    · rename_i es j pos
      simp only [Expr.Tuple.sizeOf_spec] at he
      have hv : ∀ e' ∈ es, PEx S F c k e' := fun e' h' => ih e' (by have := List.sizeOf_lt_of_mem h'; omega)
      split at hx
      · rename_i hl
        cases e1 : trEs c sc es with
        | none => rw [e1] at hx; cases hx
        | some xs =>
          rw [e1] at hx
          cases hx
          obtain ⟨a1, a2, a3⟩ := trEs_of g tk hv e1
          exact .mk' (.of g.hK (e_tup (by omega) a1) (fun i h => by cases h) fun _ => rfl) (fun _ _ h => by cases h) rfl (fun _ _ _ _ h => by cases h)
      · cases hx
    · rename_i es pos
      simp only [Expr.List.sizeOf_spec] at he
      have hv : ∀ e' ∈ es, PEx S F c k e' := fun e' h' => ih e' (by have := List.sizeOf_lt_of_mem h'; omega)
      split at hx
      · rename_i hl
        cases e1 : trEs c sc es with
        | none => rw [e1] at hx; cases hx
        | some xs =>
          rw [e1] at hx
          cases hx
          obtain ⟨a1, a2, a3⟩ := trEs_of g tk hv e1
          have nn : PE X (.List es pos) (dN S W (ev F (.lst xs))) := n_lst (by omega) a1
          exact ⟨.of g.hK (dE_of_dN lst_ok nn) (fun i h => by cases h) fun _ => rfl, (fun _ _ h => by cases h), fun _ => ⟨nn, lst_ok⟩, (fun _ _ _ _ h => by cases h)⟩
      · cases hx
    · rename_i a j p1 p2 p3 pos
      simp only [Expr.Subscript.sizeOf_spec] at he
      cases e1 : trE c sc a with
      | none => rw [e1] at hx; cases hx
      | some y => rw [e1] at hx; cases hx; exact .mk' (.of g.hK (e_rev g.hK (one (by omega) e1).tri.e) (fun i h => by cases h) fun _ => rfl) (fun _ _ h => by cases h) rfl (fun _ _ _ _ h => by cases h)
    · rename_i a lo hi p2 pos
      simp only [Expr.Subscript.sizeOf_spec, Expr.Slice.sizeOf_spec] at he
      split at hx
      · rename_i y l h h1 h2 h3
        cases hx
        have q1 := trO_of g tk (fun a' e' => ih a' (by subst e'; simp only [Option.some.sizeOf_spec] at he; omega)) h2
        have q2 := trO_of g tk (fun a' e' => ih a' (by subst e'; simp only [Option.some.sizeOf_spec] at he; omega)) h3
        exact .mk' (.of g.hK (e_slc g.hK (one (by omega) h1).tri.e q1 q2) (fun i h => by cases h) fun _ => rfl) (fun _ _ h => by cases h) rfl (fun _ _ _ _ h => by cases h)
      · cases hx
    · cases hx
    · rename_i a i pos _ _ hns
      simp only [Expr.Subscript.sizeOf_spec] at he
      split at hx
      · rename_i y z h1 h2
        cases hx
        have hsl : isSl i = false := by
          cases i <;> first | rfl | exact absurd rfl (hns _ _ _ _)
        exact .mk' (.of g.hK (e_idx g.hK hsl (one (by omega) h1).tri.e (one (by omega) h2).tri.e) (fun i h => by cases h) fun _ => rfl) (fun _ _ h => by cases h) rfl (fun _ _ _ _ h => by cases h)
      · cases hx
    · rename_i elt tg iter ifs as scope pos
      simp only [Expr.ListComp.sizeOf_spec, List.cons.sizeOf_spec, Comprehension.mk.sizeOf_spec] at he
      split at hx
      · rename_i has
        subst has
        cases e0 : ownOf c.N (tgNames tg) with
        | none => rw [e0] at hx; cases hx
        | some own =>
          simp only [e0] at hx
          split at hx
          · rename_i hblk
            split at hx
            · rename_i r ik its gt cs y h1 h2 h3 h4
              split at hx
              · rename_i hcs
                cases hx
                simp only [Bool.and_eq_true, decide_eq_true_eq, List.all_eq_true, List.contains_iff_mem] at hcs
                obtain ⟨w1, w2⟩ := trW_of (tg := tg) (iter := iter) g tk G (fun e' h' => ih e' (by omega)) h1
                have at' : LcAt S W F X elt [⟨tg, iter, ifs, 0⟩] scope (.comp y gt ik its cs (own.map (·.2))) := by
                  refine ⟨tg, iter, ifs, own, _, _, _, _, rfl, ⟨w1, blkOk_by (by rw [g.hN, g.sc]; exact hblk), fun s H C cl fp => (trG_ok (g.blk) tg gt h2).1, fun s H C cl fp => ?_, fun s H C cl fp => (ih elt (by omega) g.blk takes0 y h4).tri.e, w2⟩, rfl, fun σ H Q q => imp_comp hcs.1 (fun i hi => hcs.2 i hi) q⟩
                  have hv : ∀ e' ∈ ifs, PEx S F c k e' := fun e' h' => ih e' (by have := List.sizeOf_lt_of_mem h'; omega)
                  obtain ⟨_, _, a3⟩ := trEs_of (g.blk (s := s) (H := H) (scope := scope) (cl := cl) (C := C) (fp := fp)) takes0 hv h3
                  rcases ifs with _ | ⟨t, _ | ⟨t2, ifs⟩⟩
                  · cases cs with
                    | nil => exact pts_nil
                    | cons z cs => simp at a3
                  · rcases cs with _ | ⟨z, _ | ⟨z2, cs⟩⟩
                    · simp at a3
                    · simp only [trEs] at h3
                      cases e5 : trE c (relS scope sc) t with
                      | none => simp only [e5] at h3; cases h3
                      | some z' =>
                        simp only [e5] at h3
                        cases h3
                        exact pts_one (hv t (List.mem_singleton.mpr rfl) g.blk takes0 _ e5).tri.tt
                    · simp at a3
                  · have := hcs.1
                    rw [a3] at this
                    simp at this
                have nn := at'.n g (pos := pos)
                exact ⟨.of g.hK (dE_of_dN comp_ok nn) (fun i h => by cases h) fun _ => rfl, (fun _ _ h => by cases h), fun _ => ⟨nn, comp_ok⟩, fun elt' gs' scope' pos' h => by cases h; exact at'⟩
              · cases hx
            · cases hx
          · cases hx
      · cases hx
    · cases hx
theorem trE_ok (G : Glob S c F k) (e : Expr) : PEx S F c k e := trE_all G _ e (Nat.le_refl _)
end
end Fz

/-! statements: the state, the reading -/
namespace Fz
open PySem PySem.Spec L2
open PyProof.Rows hiding St

variable {S : Su}
/-- no two slots have the same thing of the frame's own -/
def Dis (σ : St) (env : Cells) : Prop := ∀ (i j : Nat) (t u : T), i ≠ j → env[i]? = some (.ow t) → env[j]? = some (.ow u) → σ[i]? ≠ σ[j]?
/-- a state behind F0, H0: what is of the frame's own is new since H0 -/
structure RSF (S : Su) (F0 H0 F : Hp) (env : Cells) (σ : St) (H : Hp) : Prop where
  st : Step S F0 H0 F H
  eo : EnvOk S F H σ env
  dis : Dis σ env
  new : ∀ (i : Nat) (t : T) (a : Addr), env[i]? = some (.ow t) → σ[i]? = some (some (.ref a)) → H0 a = none
def RS (S : Su) (F0 H0 : Hp) (env : Cells) (σ : St) (H : Hp) : Prop := ∃ F, RSF S F0 H0 F env σ H
def PostF (S : Su) (W : WX) (F0 H0 : Hp) (D : Ends) : Fl → Prop
  | .nx env => ∀ σ H, RS S F0 H0 env σ H → D.nx σ H
  | .rt t => ∀ v F H, Step S F0 H0 F H → Rep S F t v → D.rt v H
  | .ex c env => ∀ σ H, RS S F0 H0 env σ H → W (.ref (S.cA c)) none σ H
  | .no => False
def dS (S : Su) (W : WX) (f : Cells → Fl) : TS := fun D σ H => ∃ F0 H0 env, RS S F0 H0 env σ H ∧ PostF S W F0 H0 D (f env)

section
variable {X : Cx} {W : WX} {F : Fns} {c : TC} {sc so : Scope} {k : Nat}
theorem RSF.step {F0 H0 E E' H H' : Hp} {env : Cells} {σ : St} (r : RSF S F0 H0 E env σ H) (s : Step S E H E' H') : RSF S F0 H0 E' env σ H' :=
  ⟨r.st.trans s, r.eo.step s, r.dis, r.new⟩
/-- a base within -/
theorem Step.base {F0 H0 E1 H1 : Hp} (s : Step S F0 H0 E1 H1) : Step S E1 H0 E1 H1 := ⟨.refl _, s.hh, fun _ _ h => h, s.ok⟩
theorem Step.out {F0 H0 E1 H1 F H : Hp} (s : Step S F0 H0 E1 H1) (s' : Step S E1 H0 F H) : Step S F0 H0 F H := ⟨s.ff.trans s'.ff, s'.hh, fun a h1 h2 => s'.no a h1 (s.no a h1 h2), s'.ok⟩
theorem RSF.base {F0 H0 E H : Hp} {env : Cells} {σ : St} (r : RSF S F0 H0 E env σ H) : RS S E H0 env σ H := ⟨E, r.st.base, r.eo, r.dis, r.new⟩
theorem RS.out {F0 H0 E1 H1 H : Hp} {env : Cells} {σ : St} (s : Step S F0 H0 E1 H1) (r : RS S E1 H0 env σ H) : RS S F0 H0 env σ H := by
  obtain ⟨F, r⟩ := r
  exact ⟨F, s.out r.st, r.eo, r.dis, r.new⟩
/-- from a state to an evaluation -/
theorem RSF.ev {α : Type} {F0 H0 E H : Hp} {env : Cells} {σ : St} {D : Ends} {r : Res α} {g : α → Fl} {q : α → Hp → Hp → Prop} (rs : RSF S F0 H0 E env σ H) (p : PostF S W F0 H0 D (flOf r env g))
    (h : ∀ a E' H', RSF S F0 H0 E' env σ H' → Step S E H E' H' → PostF S W F0 H0 D (g a) → q a E' H') : PostG S W E H σ r q := by
  cases r with
  | ok a => exact fun E' H' s => h a E' H' (rs.step s) s p
  | ex d => exact fun E' H' s => p σ H' ⟨E', rs.step s⟩
  | no => exact p.elim
theorem Dis.less {σ σ' : St} {env env' : Cells} (d : Dis σ env) (l : Less σ env σ' env') : Dis σ' env' := fun i j t u n h1 h2 => by
  obtain ⟨a1, a2⟩ := l i t h1
  obtain ⟨b1, b2⟩ := l j u h2
  rw [a2, b2]
  exact d i j t u n a1 b1
theorem RSF.less {F0 H0 E H : Hp} {env env' : Cells} {σ σ' : St} (r : RSF S F0 H0 E env σ H) (e : EnvOk S E H σ' env') (l : Less σ env σ' env') : RSF S F0 H0 E env' σ' H :=
  ⟨r.st, e, r.dis.less l, fun i t a h1 h2 => by
    obtain ⟨a1, a2⟩ := l i t h1
    exact r.new i t a a1 (by rw [← a2]; exact h2)⟩

/-! ### lists of statements -/
theorem execs_append (ss ts : List Fz.S) (env : Cells) : execs F (ss ++ ts) env = (match execs F ss env with | .nx env' => execs F ts env' | r => r) := by
  induction ss generalizing env with
  | nil => simp only [List.nil_append, execs]
  | cons s ss ih =>
    simp only [List.cons_append, execs]
    cases e : exec F s env with
    | nx env' => simp only [e]; exact ih env'
    | rt t => simp only [e]
    | ex d env' => simp only [e]
    | no => simp only [e]
theorem execs_one (s : Fz.S) (env : Cells) : execs F [s] env = exec F s env := by
  simp only [execs]
  cases exec F s env <;> rfl
theorem s_nil : PSs X [] (dS S W (execs F [])) := by
  refine pss_nil.imp fun D σ H q => ?_
  obtain ⟨F0, H0, env, r, p⟩ := q
  simp only [execs] at p
  exact p σ H r
theorem s_cons {st : Stmt} {rest : List Stmt} {xs ys : List Fz.S} (h : PS X st (dS S W (execs F xs))) (h2 : PSs X rest (dS S W (execs F ys))) : PSs X (st :: rest) (dS S W (execs F (xs ++ ys))) := by
  refine (pss_cons h h2).imp fun D σ H q => ?_
  obtain ⟨F0, H0, env, r, p⟩ := q
  refine ⟨F0, H0, env, r, ?_⟩
  rw [execs_append] at p
  cases e : execs F xs env with
  | nx env' => rw [e] at p; exact fun σ' H' r' => ⟨F0, H0, env', r', p⟩
  | rt t => rw [e] at p; exact p
  | ex d env' => rw [e] at p; exact p
  | no => rw [e] at p; exact p

/-! ### a thing of the frame's own goes on -/
theorem RSF.share1 {F0 H0 E H : Hp} {env : Cells} {σ : St} {i : Nat} {t : T} (r : RSF S F0 H0 E env σ H) (h : env[i]? = some (.ow t)) : ∃ E', RSF S F0 H0 E' (env.set i (.sh t)) σ H := by
  obtain ⟨a, h1, h2, h3⟩ := r.eo.slot i _ h
  cases t with
  | lst ts =>
    obtain ⟨vs, g1, g2, g3⟩ := h3
    have hx : ∀ b u, E b = some u → b ≠ a := fun b u e z => by rw [z, h2] at e; cases e
    have m : Sub E (upd E a (.lst vs)) := sub_upd h2
    have ha0 := r.new i _ a h h1
    have hil : i < env.length := (List.getElem?_eq_some_iff.mp h).1
    refine ⟨upd E a (.lst vs), ⟨⟨r.st.ff.trans m, r.st.hh, fun b hb hb' => ?_, ⟨fun b u e => ?_, fun b u e => ?_, r.st.ok.tab⟩⟩, ⟨by rw [List.length_set]; exact r.eo.len, fun j d hj => ?_⟩, fun j l t u n hj hl => ?_, fun j t b hj hb => ?_⟩⟩
    · rw [upd_ne (fun z => hb (by rw [z]; exact ha0))]
      exact r.st.no b hb hb'
    · by_cases z : b = a
      · subst z; rw [upd_same] at e; cases e; exact g1
      · rw [upd_ne z] at e; exact r.st.ok.sub b u e
    · by_cases z : b = a
      · subst z; rw [upd_same] at e; cases e; exact fun z => z
      · rw [upd_ne z] at e; exact r.st.ok.nt b u e
    · by_cases hji : i = j
      · subst hji
        rw [List.getElem?_set_self hil] at hj
        cases hj
        exact ⟨_, h1, a, vs, rfl, .inl (.inl upd_same), g2, g3.mono m⟩
      · rw [List.getElem?_set_ne hji] at hj
        have q := r.eo.slot j d hj
        cases d with
        | un => trivial
        | sh u => obtain ⟨v, q1, q2⟩ := q; exact ⟨v, q1, q2.mono m⟩
        | ow u =>
          obtain ⟨b, q1, q2, q3⟩ := q
          have nb : b ≠ a := fun z => r.dis i j _ _ hji h hj (by rw [h1, q1, z])
          exact ⟨b, q1, by rw [upd_ne nb]; exact q2, q3.mono m rfl⟩
    · have e1 : env[j]? = some (.ow t) := by
        by_cases z : i = j
        · subst z; rw [List.getElem?_set_self hil] at hj; cases hj
        · rw [List.getElem?_set_ne z] at hj; exact hj
      have e2 : env[l]? = some (.ow u) := by
        by_cases z : i = l
        · subst z; rw [List.getElem?_set_self hil] at hl; cases hl
        · rw [List.getElem?_set_ne z] at hl; exact hl
      exact r.dis j l t u n e1 e2
    · have e1 : env[j]? = some (.ow t) := by
        by_cases z : i = j
        · subst z; rw [List.getElem?_set_self hil] at hj; cases hj
        · rw [List.getElem?_set_ne z] at hj; exact hj
      exact r.new j t b e1 hb
  | _ => exact h3.elim
theorem RSF.share {F0 H0 E H : Hp} {env : Cells} {σ : St} (r : RSF S F0 H0 E env σ H) : ∀ is : List Nat, ∃ E', RSF S F0 H0 E' (shareC env is) σ H
  | [] => ⟨E, r⟩
  | i :: is => by
    obtain ⟨E', r'⟩ := r.share is
    unfold shareC
    split
    · rename_i t e
      exact r'.share1 e
    · exact ⟨E', r'⟩
theorem imp_shr {ix : List Nat} {ss : List Fz.S} {D : Ends} {σ : St} {H : Hp} (q : dS S W (execs F (shr c ix ss)) D σ H) : dS S W (execs F ss) D σ H := by
  unfold shr at q
  split at q
  · exact q
  · obtain ⟨F0, H0, env, ⟨E, r⟩, p⟩ := q
    simp only [execs, exec] at p
    obtain ⟨E', r'⟩ := r.share (dedup (List.filter (fun i => c.acc.contains i) ix))
    exact ⟨F0, H0, _, ⟨E', r'⟩, p⟩
theorem s_shr {st : Stmt} {ix : List Nat} {s : Fz.S} (h : PS X st (dS S W (exec F s))) : PS X st (dS S W (execs F (shr c ix [s]))) :=
  h.imp fun D σ H q => by
    obtain ⟨F0, H0, env, r, p⟩ := imp_shr q
    exact ⟨F0, H0, env, r, by rw [execs_one] at p; exact p⟩
theorem s_one {st : Stmt} {s : Fz.S} (h : PS X st (dS S W (exec F s))) : PS X st (dS S W (execs F [s])) :=
  h.imp fun D σ H q => by
    obtain ⟨F0, H0, env, r, p⟩ := q
    exact ⟨F0, H0, env, r, by rw [execs_one] at p; exact p⟩
end
end Fz

/-! statements, one by one -/
namespace Fz
open PySem PySem.Spec L2
open PyProof.Rows hiding St

variable {S : Su}
section
variable {X : Cx} {W : WX} {F : Fns} {c : TC} {sc so : Scope} {k : Nat}
theorem s_pass {pos : Pos} : PS X (.Pass pos) (dS S W (exec F .pass)) := ps_pass.imp fun D σ H q => by
  obtain ⟨F0, H0, env, r, p⟩ := q
  simp only [exec] at p
  exact p σ H r
theorem s_ret {e : Expr} {x : E} {pos : Pos} (h : PE X e (dE S W (ev F x))) : PS X (.Return (some e) pos) (dS S W (exec F (.ret x))) := (ps_ret h).imp fun D σ H q => by
  obtain ⟨F0, H0, env, ⟨E, r⟩, p⟩ := q
  simp only [exec] at p
  exact ⟨E, env, r.st.ok, r.eo, r.ev p fun t E' H' r' s' p' v rv => p' v E' H' r'.st rv⟩
theorem s_retN {pos : Pos} : PS X (.Return none pos) (dS S W (exec F .retN)) := ps_retN.imp fun D σ H q => by
  obtain ⟨F0, H0, env, ⟨E, r⟩, p⟩ := q
  simp only [exec] at p
  exact p _ E H r.st rfl
theorem s_expr {e : Expr} {x : E} {pos : Pos} (hs : swapsWith e none pos.line X.env = pure false) (h : PE X e (dE S W (ev F x))) : PS X (.Expr e pos) (dS S W (exec F (.expr x))) := (ps_expr h hs).imp fun D σ H q => by
  obtain ⟨F0, H0, env, ⟨E, r⟩, p⟩ := q
  simp only [exec] at p
  exact ⟨E, env, r.st.ok, r.eo, r.ev p fun t E' H' r' s' p' v rv => p' σ H' ⟨E', r'⟩⟩
theorem s_raise {x m : Str} {i j : Nat} {p p2 pos pos' : Pos} (g : Good S c k X sc so) (tk : Takes X W) (ea : ExAt S x i) (hg : glB sc x = true) (hn : okName x = true) :
    PS X (.Raise (some (.Call (.Name x p) [.Constant (.str m) j p2] [] pos)) none pos') (dS S W (exec F (.raise i))) := by
  obtain ⟨B, newId, initId, bmB, f1, f2⟩ := ea.fx
  refine (ps_raise g.calm tk (pmk_own f1 (by rw [g.hK]; exact f2) (by rw [g.hmg]; exact ea.mg) (by rw [g.hK]; exact ea.kp) (raises_own (by rw [g.hK]; exact ea.sb) (by rw [g.hK]; exact ea.ty)) (glB_of (by rw [g.sc]; exact hg)) (okName_of hn).1)).imp fun D σ H q => ?_
  obtain ⟨F0, H0, env, r, p⟩ := q
  simp only [exec] at p
  exact p σ H r
/-! ### stores -/
theorem s_asg {tg e : Expr} {gt : Tg} {x : E} {pos : Pos} (hs : swapsWithSole [tg] e pos.line X.env = pure false) (hw : swappedStores [tg] e X.env = pure none) (hn : ∀ a p, tg ≠ .Starred a p)
    (he : PE X e (dE S W (ev F x))) (hg : PG X tg (dG S gt)) : PS X (.Assign [tg] e pos) (dS S W (exec F (.asg gt x))) := by
  refine (ps_asg he hg hs hw (by rw [assignEach_cons hn]; rfl)).imp fun D σ H q => ?_
  obtain ⟨F0, H0, env, ⟨E, r⟩, p⟩ := q
  simp only [exec] at p
  refine ⟨E, env, r.st.ok, r.eo, r.ev p fun t E' H' r' s' p' v rv => ?_⟩
  cases e1 : asgT gt t env with
  | none => rw [e1] at p'; exact p'.elim
  | some env' =>
    rw [e1] at p'
    exact ⟨E', env, t, env', r'.st.ok, r'.eo, rv, e1, fun σ' eo' l _ => p' σ' H' ⟨E', r'.less eo' l⟩⟩
/-- behind name = value that goes on -/
theorem fin_sh {i : Nat} {x : E} {D : Ends} {σ : St} {H : Hp} (q : dS S W (exec F (.asg (.nm i) x)) D σ H) : tAsg (dE S W (ev F x)) (gName i) D σ H := by
  obtain ⟨F0, H0, env, ⟨E, r⟩, p⟩ := q
  simp only [exec] at p
  refine ⟨E, env, r.st.ok, r.eo, r.ev p fun t E' H' r' s' p' v rv => ?_⟩
  exact p' _ H' ⟨E', r'.less (r'.eo.set rv) .set⟩
/-- behind name = a new thing of the frame's own -/
theorem RSF.own {F0 H0 E H E' H' : Hp} {env : Cells} {σ : St} {i : Nat} {a : Addr} {t : T} (r : RSF S F0 H0 E env σ H) (s : Step S E H E' H') (ha : H a = none) (hF : E' a = none) (ow : Own S E' H' a t) : RSF S F0 H0 E' (env.set i (.ow t)) (σ.set i (some (.ref a))) H' := by
  have r' := r.step s
  have old : ∀ (j : Nat) (u : T) (b : Addr), env[j]? = some (Cell.ow u) → σ[j]? = some (some (V.ref b)) → b ≠ a := fun j u b h1 h2 z => by
    obtain ⟨b', q1, q2, q3⟩ := r.eo.slot j _ h1
    rw [h2] at q1
    cases q1
    obtain ⟨o, q4, _⟩ := q3.there
    rw [z, ha] at q4
    cases q4
  have hl := r.eo.len
  have at' : ∀ (j : Nat) (u : T), (env.set i (.ow t))[j]? = some (Cell.ow u) → (i = j ∧ (σ.set i (some (V.ref a)))[j]? = some (some (.ref a)) ∧ u = t) ∨ (i ≠ j ∧ env[j]? = some (.ow u) ∧ (σ.set i (some (V.ref a)))[j]? = σ[j]?) := fun j u h => by
    by_cases hj : i = j
    · subst hj
      by_cases hi : i < env.length
      · rw [List.getElem?_set_self hi] at h
        cases h
        exact .inl ⟨rfl, by rw [List.getElem?_set_self (by omega)], rfl⟩
      · rw [List.getElem?_eq_none (by simpa using hi)] at h
        cases h
    · rw [List.getElem?_set_ne hj] at h
      exact .inr ⟨hj, h, by rw [List.getElem?_set_ne hj]⟩
  refine ⟨r'.st, ⟨by rw [List.length_set, List.length_set]; exact hl, fun j d h => ?_⟩, fun j l u v n h1 h2 => ?_, fun j u b h1 h2 => ?_⟩
  · by_cases hj : i = j
    · subst hj
      by_cases hi : i < env.length
      · rw [List.getElem?_set_self hi] at h
        cases h
        exact ⟨a, by rw [List.getElem?_set_self (by omega)], hF, ow⟩
      · rw [List.getElem?_eq_none (by simpa using hi)] at h
        cases h
    · rw [List.getElem?_set_ne hj] at h
      have q := r'.eo.slot j d h
      cases d with
      | un => trivial
      | sh u => obtain ⟨w, h1, h2⟩ := q; exact ⟨w, by rw [List.getElem?_set_ne hj]; exact h1, h2⟩
      | ow u => obtain ⟨b, h1, h2⟩ := q; exact ⟨b, by rw [List.getElem?_set_ne hj]; exact h1, h2⟩
  · rcases at' j u h1 with ⟨a1, a2, _⟩ | ⟨a1, a2, a3⟩ <;> rcases at' l v h2 with ⟨b1, b2, _⟩ | ⟨b1, b2, b3⟩
    · exact absurd (a1.symm.trans b1) n
    · obtain ⟨b', q1, _⟩ := r.eo.slot l _ b2
      rw [a2, b3, q1]
      intro z
      exact old l v b' b2 q1 (by injection (Option.some.inj (Option.some.inj z)).symm)
    · obtain ⟨b', q1, _⟩ := r.eo.slot j _ a2
      rw [a3, b2, q1]
      intro z
      exact old j u b' a2 q1 (by injection (Option.some.inj (Option.some.inj z)))
    · rw [a3, b3]
      exact r.dis j l u v n a2 b2
  · rcases at' j u h1 with ⟨a1, a2, _⟩ | ⟨a1, a2, a3⟩
    · rw [a2] at h2
      injection (Option.some.inj (Option.some.inj h2)) with z
      rw [← z]
      exact r.st.hh.none ha
    · rw [a3] at h2
      exact r.new j u b a2 h2
theorem fin_ow {i : Nat} {x : E} {D : Ends} {σ : St} {H : Hp} (q : dS S W (exec F (.own i x)) D σ H) : tAsg (dN S W (ev F x)) (gName i) D σ H := by
  obtain ⟨F0, H0, env, ⟨E, r⟩, p⟩ := q
  simp only [exec] at p
  exact ⟨E, env, r.st.ok, r.eo, r.ev p fun t E' H' r' s' p' a ha hF ow => p' _ H' ⟨E', r.own s' ha hF ow⟩⟩
theorem sw_plain {e : Expr} {tgt : Option Expr} {l : Nat} {env : Env} (h : isComp e = false) : swapsWith e tgt l env = pure false := by
  cases e <;> first | rfl | (cases h; done)
theorem sw_comp {elt : Expr} {gs : List Comprehension} {scope : Scope} {pos py : Pos} {y : Str} {l : Nat} {env : Env} :
    ∃ b, swapsWith (.ListComp elt gs scope pos) (some (.Name y py)) l env = pure b ∧ (b = true → env.scope.names.lookup y = some .local) := by
  refine ⟨env.blockKind == .function && env.kindOf y == some .local && py.line == pos.line && !(scope.names.any fun (n, k) => n == y && (k == .local || k == .cell)), rfl, fun h => ?_⟩
  simp only [Bool.and_eq_true] at h
  have := h.1.1.2
  unfold Env.kindOf at this
  cases hk : env.scope.names.lookup y with
  | none => rw [hk] at this; exact absurd this (by decide)
  | some kd => rw [hk] at this; cases kd <;> first | rfl | exact absurd this (by decide)
/-- name = value, whatever the value -/
theorem s_set {i : Nat} {y : Str} {py pos : Pos} {e : Expr} {x : E} (g : Good S c k X sc so) (hl : locB sc so y = true) (hi : ixOf y c.N 0 = some i) (t : TrO S W F X e x) (hc : isComp e = true → ∃ elt gs scope pos, e = .ListComp elt gs scope pos) :
    PS X (.Assign [.Name y py] e pos) (dS S W (exec F (.asg (.nm i) x))) ∧ (freshE x = true → PS X (.Assign [.Name y py] e pos) (dS S W (exec F (.own i x)))) := by
  obtain ⟨h1, h2⟩ := locB_of g hl
  have hN := ixOf_at hi
  have plain : swapsWith e (some (.Name y py)) pos.line X.env = pure false → PS X (.Assign [.Name y py] e pos) (dS S W (exec F (.asg (.nm i) x))) ∧ (freshE x = true → PS X (.Assign [.Name y py] e pos) (dS S W (exec F (.own i x)))) := fun hs =>
    ⟨(ps_set g.nd (by rw [g.hN]; exact hN) h1 t.tri.e hs h2).imp fun D σ H q => fin_sh q, fun hf => (ps_set g.nd (by rw [g.hN]; exact hN) h1 (t.n hf).1 hs h2).imp fun D σ H q => fin_ow q⟩
  cases hcc : isComp e with
  | false => exact plain (sw_plain hcc)
  | true =>
    obtain ⟨elt, gs, scope, pos2, rfl⟩ := hc hcc
    obtain ⟨b, hb, hloc⟩ := sw_comp (elt := elt) (gs := gs) (scope := scope) (pos := pos2) (py := py) (y := y) (l := pos.line) (env := X.env)
    cases b with
    | false => exact plain hb
    | true =>
      obtain ⟨tg, iter, ifs, own, wi, gt, tt, te, rfl, l, lcf, im⟩ := t.lc _ _ _ _ rfl
      have q := ps_setLc (i := i) (y := y) (py := py) (elt := elt) (tg := tg) (iter := iter) (ifs := ifs) (scope := scope) (own := own) (pos := pos2) (spos := pos) (wi := wi) (g := gt) (tt := tt) (te := te) g.calm g.nd (by rw [g.hN]; exact hN) (hloc rfl) hb l.hi l.ok l.hg l.ht l.he l.hs
      have q2 : PS X (.Assign [.Name y py] (.ListComp elt [⟨tg, iter, ifs, 0⟩] scope pos2) pos) (tAsg (dN S W (ev F x)) (gName i)) := q.imp fun D σ H z => im _ _ _ z
      refine ⟨?_, fun hf => q2.imp fun D σ H z => fin_ow z⟩
      refine q2.imp fun D σ H z => ?_
      exact dN_of_dE (t.n lcf).2 (fin_sh z)
end
end Fz

/-! statements that change a list; if, while, for -/
namespace Fz
open PySem PySem.Spec L2
open PyProof.Rows hiding St

variable {S : Su}
section
variable {X : Cx} {W : WX} {F : Fns} {c : TC} {sc so : Scope} {k : Nat}
/-- a list of the frame's own changes -/
theorem RSF.mut {F0 H0 E H : Hp} {env : Cells} {σ : St} {i : Nat} {a : Addr} {ts ts' : List T} {vs' : List V} (r : RSF S F0 H0 E env σ H) (h : env[i]? = some (.ow (.lst ts))) (hσ : σ[i]? = some (some (.ref a))) (rs : Reps S E ts' vs') (hl : ts'.length ≤ sizeLine) :
    RSF S F0 H0 E (env.set i (.ow (.lst ts'))) σ (upd H a (.lst vs')) := by
  obtain ⟨a', q1, q2, vs, q3, q4, q5⟩ := r.eo.slot i _ h
  rw [hσ] at q1
  cases q1
  have ha0 := r.new i _ a h hσ
  have hil : i < env.length := (List.getElem?_eq_some_iff.mp h).1
  have at' : ∀ (j : Nat) (u : T), (env.set i (Cell.ow (.lst ts')))[j]? = some (Cell.ow u) → ∃ u', env[j]? = some (Cell.ow u') := fun j u h' => by
    by_cases hj : i = j
    · subst hj; exact ⟨_, h⟩
    · rw [List.getElem?_set_ne hj] at h'; exact ⟨_, h'⟩
  refine ⟨⟨r.st.ff, fun b o e => ?_, r.st.no, ⟨sub_updR r.st.ok.sub q2, r.st.ok.nt, tabs_mut r.st.ok.tab q3⟩⟩, ⟨by rw [List.length_set]; exact r.eo.len, fun j d hj => ?_⟩, fun j l t u n h1 h2 => ?_, fun j t b h1 h2 => ?_⟩
  · rw [upd_ne (fun z => by rw [z, ha0] at e; cases e)]
    exact r.st.hh b o e
  · by_cases hji : i = j
    · subst hji
      rw [List.getElem?_set_self hil] at hj
      cases hj
      exact ⟨a, hσ, q2, vs', upd_same, hl, rs⟩
    · rw [List.getElem?_set_ne hji] at hj
      have q := r.eo.slot j d hj
      cases d with
      | un => trivial
      | sh u => exact q
      | ow u =>
        obtain ⟨b, p1, p2, p3⟩ := q
        have nb : b ≠ a := fun z => r.dis i j _ _ hji h hj (by rw [hσ, p1, z])
        exact ⟨b, p1, p2, p3.mono (.refl _) (by rw [upd_ne nb])⟩
  · obtain ⟨t', e1⟩ := at' j t h1
    obtain ⟨u', e2⟩ := at' l u h2
    exact r.dis j l t' u' n e1 e2
  · obtain ⟨t', e1⟩ := at' j t h1
    exact r.new j t' b e1 h2
theorem RSF.own_at {F0 H0 E H : Hp} {env : Cells} {σ : St} {i : Nat} {ts : List T} (r : RSF S F0 H0 E env σ H) (h : env[i]? = some (.ow (.lst ts))) : ∃ a vs, σ[i]? = some (some (.ref a)) ∧ H a = some (.lst vs) ∧ ts.length ≤ sizeLine ∧ Reps S E ts vs := by
  obtain ⟨a, q1, q2, vs, q3, q4, q5⟩ := r.eo.slot i _ h
  exact ⟨a, vs, q1, q3, q4, q5⟩
def rExtR (K : PySem.W.Frag) (l : Addr) : V → List V → Hp → VK → Prop := fun x vs H Q => ∃ b xs zs, x = .ref l ∧ vs = [.ref b] ∧ H l = some (.lst xs) ∧ La K H b zs ∧ xs.length + zs.length ≤ sizeLine ∧ Q .non (upd H l (.lst (xs ++ zs)))
theorem mt_extR : MtM X "list.extend" (fun x vs H Q => ∃ l, rExtR X.K l x vs H Q) := by
  intro pins s σ H x vs v us Q I rx rv h
  obtain ⟨l, b, xs, zs, rfl, rfl, hH, hB, hz, q⟩ := h
  cases rx
  obtain ⟨u, rfl, ru⟩ := rv.one
  cases ru
  obtain ⟨z, its, n, r, hl, e⟩ := I.lstM hH
  obtain ⟨z2, its2, n2, r2, hl2, e2⟩ := I.lstR hB
  have hsz : its.toArray.size + its2.toArray.size ≤ sizeLine := by rw [List.size_toArray, List.size_toArray]; omega
  have hlong : ¬ (!its.toArray.isEmpty && Builtin.List.listTooLong (its.toArray.size + its2.toArray.size)) = true := by
    rw [notLongL hsz, Bool.and_false]
    exact Bool.false_ne_true
  refine call_meets F.slot_list_extend ⟨_, e, rfl⟩ F.entry_list_extend (F.args_list_extend_2 _ _)
    (AutoSeq1.list_extend_list_list_0 l its.toArray n b its2.toArray n2 hlong (by rw [List.size_toArray]; omega) (by omega)) ⟨e, e2, ?_⟩
  refine ⟨.non, _, I.lset (its' := its ++ its2) hH e (by simp) (r.append r2) ?_, rfl, q⟩
  rw [List.length_append]
  omega
theorem vis_var {i : Nat} {x : Str} {pos : Pos} (g : Good S c k X sc so) (hv : visB sc x = true) (hn : okName x = true) (hi : ixOf x c.N 0 = some i) : PE X (.Name x pos) (tVar i) := by
  obtain ⟨n1, n2, _⟩ := okName_of hn
  exact pe_var (i := i) (by rw [g.hN]; exact ixOf_at hi) (visB_of (by rw [g.sc]; exact hv)) n1 n2
theorem few_one {e : Expr} {env : Env} {pos : Pos} (h : ∀ a p, e ≠ .Starred a p) : ((backTo pos (starEach [e] env)).all (fun x => !x.1) && (backToKw pos (keywordEach [] env)).all (fun x => x.1.isSome)
      && decide ([e].length + ([] : List Keyword).length + (if ([] : List Keyword).isEmpty then 0 else 1) < 30)) = true := by
  rw [star_cons h]
  rfl
theorem s_app {i : Nat} {y : Str} {e : Expr} {x : E} {p1 ap cp pos : Pos} (g : Good S c k X sc so) (hv : visB sc y = true) (hn : okName y = true) (hi : ixOf y c.N 0 = some i) (hl : (ap.endLine == cp.line) = true) (t : TrO S W F X e x) :
    PS X (.Expr (.Call (.Attribute (.Name y p1) "append" ap) [e] [] cp) pos) (dS S W (exec F (.app i x))) := by
  refine (ps_expr (pe_bm PySem.F.plainAttrs_list PySem.F.slot_list_append PySem.F.type_list_append mt_append (vis_var g hv hn hi) (pa_cons t.tri.e pa_nil (star_cons t.ns)) rfl (few_one t.ns) hl (star_cons t.ns) rfl) rfl).imp fun D σ H q => ?_
  obtain ⟨F0, H0, env, ⟨E, r⟩, p⟩ := q
  simp only [exec] at p
  split at p
  · rename_i xs ho
    obtain ⟨a, vs, q1, q2, q3, q4⟩ := r.own_at ho
    refine ⟨.ref a, q1, .inl ⟨rfl, vs, .inl (.inl q2)⟩, E, env, r.st.ok, r.eo, r.ev p fun u E' H' r' s' p' v rv => ?_⟩
    split at p'
    · rename_i hz
      have l1 := q4.length
      have l2 : SZ ≤ sizeLine := by decide
      refine ⟨a, vs, v, rfl, rfl, s'.hh.at q2 fun z => z, by omega, p' σ _ ⟨E', r'.mut ho q1 ((q4.mono s'.ff).append (.one rv)) ?_⟩⟩
      rw [List.length_append, List.length_singleton]
      omega
    · exact p'.elim
  · exact p.elim
theorem s_ext {i : Nat} {y : Str} {e : Expr} {x : E} {p1 ap cp pos : Pos} (g : Good S c k X sc so) (hv : visB sc y = true) (hn : okName y = true) (hi : ixOf y c.N 0 = some i) (hl : (ap.endLine == cp.line) = true) (t : TrO S W F X e x) :
    PS X (.Expr (.Call (.Attribute (.Name y p1) "extend" ap) [e] [] cp) pos) (dS S W (exec F (.ext i x))) := by
  refine (ps_expr (pe_bm PySem.F.plainAttrs_list PySem.F.slot_list_extend PySem.F.type_list_extend mt_extR (vis_var g hv hn hi) (pa_cons t.tri.e pa_nil (star_cons t.ns)) rfl (few_one t.ns) hl (star_cons t.ns) rfl) rfl).imp fun D σ H q => ?_
  obtain ⟨F0, H0, env, ⟨E, r⟩, p⟩ := q
  simp only [exec] at p
  split at p
  · rename_i xs ho
    obtain ⟨a, vs, q1, q2, q3, q4⟩ := r.own_at ho
    refine ⟨.ref a, q1, .inl ⟨rfl, vs, .inl (.inl q2)⟩, E, env, r.st.ok, r.eo, r.ev p fun u E' H' r' s' p' v rv => ?_⟩
    split at p'
    · rename_i ys
      split at p'
      · rename_i hz
        obtain ⟨b, ws, rfl, w1, w2, w3⟩ := rv
        have l1 := q4.length
        have l3 := w3.length
        have l2 : SZ ≤ sizeLine := by decide
        refine ⟨a, b, vs, ws, rfl, rfl, s'.hh.at q2 fun z => z, g.hK ▸ r'.st.ok.sub.la w1, by omega, p' σ _ ⟨E', r'.mut ho q1 ((q4.mono s'.ff).append w3) ?_⟩⟩
        rw [List.length_append]
        omega
      · exact p'.elim
    · exact p'.elim
  · exact p.elim
theorem ixN_of {n : Nat} {i : Int} (h : 0 ≤ i ∧ i < n) : ixN n i = some i.toNat := by
  unfold ixN
  rw [if_pos h.1, if_pos h.2]
theorem s_setI {i : Nat} {y : Str} {kx e : Expr} {kk x : E} {p1 p2 pos : Pos} (g : Good S c k X sc so) (hv : visB sc y = true) (hn : okName y = true) (hi : ixOf y c.N 0 = some i) (hsl : isSl kx = false) (tk : TrO S W F X kx kk) (t : TrO S W F X e x) :
    PS X (.Assign [.Subscript (.Name y p1) kx p2] e pos) (dS S W (exec F (.setI i kk x))) := by
  have hg : PG X (.Subscript (.Name y p1) kx p2) (gSub (tVar i) (dE S W (ev F kk)) rSetL) := by
    refine pg_sub (vis_var g hv hn hi) tk.tri.e set_list fun v => ?_
    cases kx <;> first | rfl | (cases hsl; done)
  refine (ps_asg t.tri.e hg (by cases e <;> rfl) (by cases e <;> rfl) rfl).imp fun D σ H q => ?_
  obtain ⟨F0, H0, env, ⟨E, r⟩, p⟩ := q
  simp only [exec] at p
  refine ⟨E, env, r.st.ok, r.eo, r.ev p fun u E' H' r' s' p' v rv => ?_⟩
  split at p'
  · rename_i xs ho
    obtain ⟨a, vs, q1, q2, q3, q4⟩ := r'.own_at ho
    refine ⟨.ref a, q1, E', env, r'.st.ok, r'.eo, r'.ev p' fun j E2 H2 r2 s2 p2 w rw => ?_⟩
    split at p2
    · rename_i n
      split at p2
      · rename_i hz
        have l1 := q4.length
        refine ⟨a, vs, n, n.toNat, rfl, rw, s2.hh.at q2 fun z => z, ixN_of (by rw [← l1]; exact hz), p2 σ _ ⟨E2, r2.mut ho q1 ((q4.mono s2.ff).set _ (rv.mono s2.ff)) ?_⟩⟩
        rw [List.length_set]
        exact q3
      · exact p2.elim
    · exact p2.elim
  · exact p'.elim

/-! ### if, while, for -/
theorem s_if {t : Expr} {x : E} {a b : List Stmt} {as bs : List Fz.S} {pos : Pos} (ht : PT X t (dT S W fun env => (ev F x env).bind truT)) (ha : PSs X a (dS S W (execs F as))) (hb : PSs X b (dS S W (execs F bs))) : PS X (.If t a b pos) (dS S W (exec F (.ifS x as bs))) := by
  refine (ps_if ht ha hb).imp fun D σ H q => ?_
  obtain ⟨F0, H0, env, ⟨E, r⟩, p⟩ := q
  simp only [exec] at p
  refine ⟨E, env, r.st.ok, r.eo, r.ev p fun b E' H' r' s' p' => ?_⟩
  cases b with
  | true => exact ⟨F0, H0, env, ⟨E', r'⟩, p'⟩
  | false => exact ⟨F0, H0, env, ⟨E', r'⟩, p'⟩
theorem s_while {t : Expr} {x : E} {b : List Stmt} {bs : List Fz.S} {pos : Pos} (hp : PassesOwn (model X.prog X.w) X.A X.env X.xe) (ht : PT X t (dT S W fun env => (ev F x env).bind truT)) (hb : PSs X b (dS S W (execs F bs))) : PS X (.While t b [] pos) (dS S W (exec F (.whl x bs))) := by
  refine (ps_while hp ht hb).imp fun D σ H q => ?_
  obtain ⟨F0, H0, env, r, p⟩ := q
  simp only [exec] at p
  refine ⟨fun m σ H => ∃ env, RS S F0 H0 env σ H ∧ PostF S W F0 H0 D (whileF (fun env => (ev F x env).bind truT) (execs F bs) m env), ⟨FUEL, env, r, p⟩, ?_⟩
  rintro m σ1 H1 ⟨env1, ⟨E, r1⟩, p1⟩
  cases m with
  | zero => exact p1.elim
  | succ m =>
    unfold whileF at p1
    refine ⟨E, env1, r1.st.ok, r1.eo, r1.ev p1 fun b E' H' r' s' p' => ?_⟩
    cases b with
    | false => exact p' σ1 H' ⟨E', r'⟩
    | true =>
      rw [if_pos rfl] at p' ⊢
      refine ⟨fun σ H => ∃ env, RS S F0 H0 env σ H ∧ PostF S W F0 H0 D (whileF (fun env => (ev F x env).bind truT) (execs F bs) m env), fun σ' H' n => ⟨m, Nat.lt_succ_self m, n⟩, F0, H0, env1, ⟨E', r'⟩, ?_⟩
      cases e : execs F bs env1 with
      | nx env2 => rw [e] at p'; exact fun σ2 H2 r2 => ⟨env2, r2, p'⟩
      | rt u => rw [e] at p'; exact p'
      | ex d env2 => rw [e] at p'; exact p'
      | no => rw [e] at p'; exact p'
theorem PostF.base {F0 H0 E1 H1 : Hp} {D : Ends} {f : Fl} (s : Step S F0 H0 E1 H1) (p : PostF S W F0 H0 D f) : PostF S W E1 H0 D f := by
  cases f with
  | nx env => exact fun σ H r => p σ H (r.out s)
  | rt t => exact fun v F H s' r => p v F H (s.out s') r
  | ex d env => exact fun σ H r => p σ H (r.out s)
  | no => exact p
theorem s_for {tg iter : Expr} {gt : Tg} {ik : IK} {its : List E} {b : List Stmt} {bs : List Fz.S} {pos : Pos} (hp : PassesOwn (model X.prog X.w) X.A X.env X.xe) (hc : X.calm = true) (hi : PI X tg iter (dI S W ik (evs F its))) (hg : PG X tg (dG S gt)) (hb : PSs X b (dS S W (execs F bs)))
    (hs : ∀ x, foldedSetIterable iter X.env x = pure x) : PS X (.For tg iter b [] pos) (dS S W (exec F (.forS gt ik its bs))) := by
  refine (ps_for hp hc hi hg hb hs).imp fun D σ H q => ?_
  obtain ⟨F0, H0, env, ⟨E, r⟩, p⟩ := q
  simp only [exec] at p
  refine ⟨E, env, r.st.ok, r.eo, r.ev p fun xs E1 H1 r1 s1 p1 J wk => ?_⟩
  replace p1 := PostF.base r1.st p1
  generalize hbf : (fun env x => (match asgT gt x env with | some env' => execs F bs env' | none => Fl.no)) = bf at p1
  refine ⟨fun i m σ H => m = xs.length - i ∧ i ≤ xs.length ∧ ∃ env, RS S E1 H0 env σ H ∧ PostF S W E1 H0 D (forF bf (xs.drop i) env), ⟨xs.length, by simp, Nat.zero_le _, env, r1.base, by rw [List.drop_zero]; exact p1⟩, ?_⟩
  rintro i m σ2 H2 ⟨rfl, hi2, env2, ⟨E2, r2⟩, p2⟩
  by_cases hlt : i < xs.length
  · right
    have ed : xs.drop i = xs[i] :: xs.drop (i + 1) := List.drop_eq_getElem_cons hlt
    rw [ed] at p2
    unfold forF at p2
    refine ⟨wk.go i H2 hlt (r2.st.ff.trans r2.st.ok.sub), fun σ H => i + 1 ≤ xs.length ∧ ∃ env, RS S E1 H0 env σ H ∧ PostF S W E1 H0 D (forF bf (xs.drop (i + 1)) env), fun σ' H' n => ⟨xs.length - (i + 1), by omega, rfl, n⟩, fun x H3 y => ?_⟩
    obtain ⟨E3, t, ht, s3, rt⟩ := wk.yld i H2 x H3 E2 hlt r2.st.ok r2.st.ff y
    have ht' : t = xs[i] := by
      rw [List.getElem?_eq_getElem hlt] at ht
      exact (Option.some.inj ht).symm
    subst ht'
    have r3 := r2.step s3
    cases e1 : asgT gt xs[i] env2 with
    | none =>
      have : bf env2 xs[i] = Fl.no := by rw [← hbf]; simp only [e1]
      rw [this] at p2
      exact p2.elim
    | some env3 =>
      have eb : bf env2 xs[i] = execs F bs env3 := by rw [← hbf]; simp only [e1]
      rw [eb] at p2
      refine ⟨E3, env2, xs[i], env3, r3.st.ok, r3.eo, rt, e1, fun σ4 eo4 l4 _ => ⟨E1, H0, env3, ⟨E3, r3.less eo4 l4⟩, ?_⟩⟩
      cases e : execs F bs env3 with
      | nx env4 => rw [e] at p2; exact fun σ5 H5 r5 => ⟨hlt, env4, r5, p2⟩
      | rt u => rw [e] at p2; exact p2
      | ex d env4 => rw [e] at p2; exact p2
      | no => rw [e] at p2; exact p2
  · left
    have e : i = xs.length := by omega
    subst e
    rw [List.drop_length] at p2
    exact ⟨wk.stop H2 (r2.st.ff.trans r2.st.ok.sub), p2 σ2 H2 ⟨E2, r2⟩⟩

/-! ### a, b = x, y -/
theorem RSF.ev' {α : Type} {F0 H0 E H : Hp} {env : Cells} {σ : St} {D : Ends} {r : Res α} {g : α → Fl} {q : α → Hp → Hp → Prop} (rs : RSF S F0 H0 E env σ H) (p : PostF S W F0 H0 D (flOf r env g))
    (h : ∀ a E' H', r = .ok a → RSF S F0 H0 E' env σ H' → Step S E H E' H' → PostF S W F0 H0 D (g a) → q a E' H') : PostG S W E H σ r q := by
  cases r with
  | ok a => exact fun E' H' s => h a E' H' rfl (rs.step s) s p
  | ex d => exact fun E' H' s => p σ H' ⟨E', rs.step s⟩
  | no => exact p.elim
theorem PS.kind {st : Stmt} {t : TS} (h : X.env.scope.kind = .function → PS X st t) : PS X st t := ⟨fun pins s σ H D I q => (h I.ok.kind).run pins s σ H D I q⟩
theorem sw_zero {ts vs : List Expr} {kt k2 : Nat} {pt pt2 : Pos} {env : Env} (hs : env.scope = sc) (h : swKind sc ts vs = 0) : swappedStores [.Tuple ts kt pt] (.Tuple vs k2 pt2) env = pure none := by
  subst hs
  unfold swKind at h
  unfold swappedStores
  dsimp only
  by_cases h1 : (!(ts.length == 2 || ts.length == 3) || vs.length != ts.length) = true
  · rw [if_pos (by rw [h1]; rfl)]
  rw [if_neg h1] at h
  by_cases hb : (env.blockKind != .function) = true
  · rw [if_pos (by rw [hb, Bool.or_true])]
  rw [if_neg (by rw [Bool.eq_false_iff.mpr h1, Bool.eq_false_iff.mpr hb]; decide)]
  by_cases h2 : (vs.any fun | .Starred .. => true | _ => false) = true
  · exact if_pos h2
  have h := (if_neg h2).symm.trans h
  refine (if_neg h2).trans ?_
  by_cases h3 : ((ts.filterMap fun
      | .Name id pos => if env.scope.names.lookup id == some .local && pos.line == (ts.head?.map (·.pos.line)).getD 0 then some id else none
      | _ => none).length != ts.length || (ts.filterMap fun
      | .Name id pos => if env.scope.names.lookup id == some .local && pos.line == (ts.head?.map (·.pos.line)).getD 0 then some id else none
      | _ => none).eraseDups.length != (ts.filterMap fun
      | .Name id pos => if env.scope.names.lookup id == some .local && pos.line == (ts.head?.map (·.pos.line)).getD 0 then some id else none
      | _ => none).length) = true
  · exact if_pos h3
  · refine (if_neg h3).trans ?_
    have h := (if_neg h3).symm.trans h
    by_cases h4 : vs.all (foldedForSure 8) = true
    · rw [if_pos h4]
    · rw [if_neg h4] at h
      by_cases h5 : vs.all (constantsAlone 8) = true
      · rw [if_pos h5] at h; cases h
      · rw [if_neg h5] at h; cases h
theorem sw_some {ns : List Str} {ts vs : List Expr} {kt k2 : Nat} {pt pt2 : Pos} {env : Env} (hk : env.scope.kind = .function) (h1 : (!(ts.length == 2 || ts.length == 3) || vs.length != ts.length) = false) (hs : ∀ e ∈ vs, ∀ a p, e ≠ .Starred a p)
    (h3 : (ts.filterMap fun
      | .Name id pos => if env.kindOf id == some .local && pos.line == (ts.head?.map (·.pos.line)).getD 0 then some id else none
      | _ => none) = ns) (h4 : (ns.length != ts.length || ns.eraseDups.length != ns.length) = false) (hf : vs.all (foldedForSure 8) = false) (hc : vs.all (constantsAlone 8) = false) : swappedStores [.Tuple ts kt pt] (.Tuple vs k2 pt2) env = pure (some ns) := by
  have hb : (env.blockKind != .function) = false := by unfold Env.blockKind; rw [hk]; rfl
  unfold swappedStores
  dsimp only
  rw [if_neg (by rw [h1, hb]; decide)]
  refine (if_neg (fun h => by
    obtain ⟨z, hz, hm⟩ := List.any_eq_true.mp h
    have := hs z hz
    cases z <;> first | exact absurd rfl (this _ _) | cases hm)).trans ?_
  generalize hgn : List.filterMap _ ts = ns'
  obtain rfl : ns' = ns := hgn.symm.trans h3
  rw [if_neg (by rw [h4]; decide), if_neg (by rw [hf]; decide), if_neg (by rw [hc]; decide)]
theorem s_par3 {i j l : Nat} {x y z : Str} {a b d : Expr} {es : List E} {px py pz pt pt2 pos : Pos} {kt k2 : Nat} (g : Good S c k X sc so) (hx : sc.names.lookup x = some .local) (hy : sc.names.lookup y = some .local) (hz : sc.names.lookup z = some .local)
    (hl : (py.line == px.line) = true) (hl2 : (pz.line == px.line) = true) (hne : x ≠ y) (hne2 : x ≠ z) (hne3 : y ≠ z)
    (hi : ixOf x c.N 0 = some i) (hj : ixOf y c.N 0 = some j) (hk3 : ixOf z c.N 0 = some l) (hf : [a, b, d].all (foldedForSure 8) = false) (hca : [a, b, d].all (constantsAlone 8) = false) (hs : ∀ e ∈ [a, b, d], ∀ a p, e ≠ .Starred a p) (hlen : es.length = 3) (ha : PA X [a, b, d] (dA S W (evs F es))) :
    PS X (.Assign [.Tuple [.Name x px, .Name y py, .Name z pz] kt pt] (.Tuple [a, b, d] k2 pt2) pos) (dS S W (exec F (.par [i, j, l] es))) := by
  have hN := ixOf_at hi
  have hN2 := ixOf_at hj
  have hN3 := ixOf_at hk3
  have hij : i ≠ j := fun z => hne (by rw [z, hN2] at hN; exact (Option.some.inj hN).symm)
  have hil : i ≠ l := fun z => hne2 (by rw [z, hN3] at hN; exact (Option.some.inj hN).symm)
  have hjl : j ≠ l := fun z => hne3 (by rw [z, hN3] at hN2; exact (Option.some.inj hN2).symm)
  refine PS.kind fun hk => ?_
  have ka : X.env.kindOf x = some .local := by unfold Env.kindOf; rw [g.sc]; exact hx
  have kb : X.env.kindOf y = some .local := by unfold Env.kindOf; rw [g.sc]; exact hy
  have kd : X.env.kindOf z = some .local := by unfold Env.kindOf; rw [g.sc]; exact hz
  have hsw : swappedStores [.Tuple [.Name x px, .Name y py, .Name z pz] kt pt] (.Tuple [a, b, d] k2 pt2) X.env = pure (some [x, y, z]) := by
    refine sw_some hk rfl hs ?_ ?_ hf hca
    · have h1 : (X.env.kindOf x == some NameKind.local && px.line == (([Expr.Name x px, Expr.Name y py, Expr.Name z pz].head?.map (·.pos.line)).getD 0)) = true := by
        rw [ka]
        show (true && px.line == px.line) = true
        simp
      have h2 : (X.env.kindOf y == some NameKind.local && py.line == (([Expr.Name x px, Expr.Name y py, Expr.Name z pz].head?.map (·.pos.line)).getD 0)) = true := by
        rw [kb]; exact hl
      have h3 : (X.env.kindOf z == some NameKind.local && pz.line == (([Expr.Name x px, Expr.Name y py, Expr.Name z pz].head?.map (·.pos.line)).getD 0)) = true := by
        rw [kd]; exact hl2
      simp only [List.filterMap_cons, List.filterMap_nil, h1, h2, h3, if_true]
    · have e1 : (y == x) = false := by simpa using fun z => hne z.symm
      have e2 : (z == x) = false := by simpa using fun q => hne2 q.symm
      have e3 : (z == y) = false := by simpa using fun q => hne3 q.symm
      simp [List.eraseDups, List.eraseDupsBy, List.eraseDupsBy.loop, e1, e2, e3]
  refine (ps_par3 g.calm g.nd (by rw [g.hN]; exact hN) (by rw [g.hN]; exact hN2) (by rw [g.hN]; exact hN3) hij hil hjl (by rw [g.sc]; exact hx) (by rw [g.sc]; exact hy) (by rw [g.sc]; exact hz) ha hsw (by rfl)).imp fun D σ H q => ?_
  obtain ⟨F0, H0, env, ⟨E, r⟩, p⟩ := q
  simp only [exec] at p
  refine ⟨E, env, r.st.ok, r.eo, r.ev' p fun ts E' H' et r' s' p' vs rs => ?_⟩
  have el := evs_len et
  rcases ts with _ | ⟨t, _ | ⟨u, _ | ⟨u2, _ | ⟨u3, ts⟩⟩⟩⟩
  · rw [hlen] at el; cases el
  · rw [hlen] at el; cases el
  · rw [hlen] at el; cases el
  · obtain ⟨v, w, rfl, r1, v2, w2, rfl, r2, v3, w3, rfl, r3, rfl⟩ := rs
    refine ⟨v, v2, v3, rfl, p' _ H' ⟨E', ?_⟩⟩
    have q1 := r'.less (r'.eo.set (i := i) r1) .set
    have q2 := q1.less (q1.eo.set (i := j) r2) .set
    exact q2.less (q2.eo.set (i := l) r3) .set
  · rw [hlen] at el; cases el
theorem s_par {i j : Nat} {x y : Str} {a b : Expr} {es : List E} {px py pt pt2 pos : Pos} {kt k2 : Nat} (g : Good S c k X sc so) (hx : sc.names.lookup x = some .local) (hy : sc.names.lookup y = some .local) (hl : (py.line == px.line) = true) (hne : x ≠ y)
    (hi : ixOf x c.N 0 = some i) (hj : ixOf y c.N 0 = some j) (hf : [a, b].all (foldedForSure 8) = false) (hca : [a, b].all (constantsAlone 8) = false) (hs : ∀ e ∈ [a, b], ∀ a p, e ≠ .Starred a p) (hlen : es.length = 2) (ha : PA X [a, b] (dA S W (evs F es))) :
    PS X (.Assign [.Tuple [.Name x px, .Name y py] kt pt] (.Tuple [a, b] k2 pt2) pos) (dS S W (exec F (.par [i, j] es))) := by
  have hN := ixOf_at hi
  have hN2 := ixOf_at hj
  have hij : i ≠ j := fun z => hne (by rw [z, hN2] at hN; exact (Option.some.inj hN).symm)
  refine ⟨fun pins s σ H D I q => ?_⟩
  have hk : X.env.blockKind = .function := by unfold Env.blockKind; rw [I.ok.kind]; rfl
  have hsw : swappedStores [.Tuple [.Name x px, .Name y py] kt pt] (.Tuple [a, b] k2 pt2) X.env = pure (some [x, y]) := by
    have ka : X.env.kindOf x = some .local := by unfold Env.kindOf; rw [g.sc]; exact hx
    have kb : X.env.kindOf y = some .local := by unfold Env.kindOf; rw [g.sc]; exact hy
    have e1 : ((X.env.blockKind != .function) : Bool) = false := by rw [hk]; rfl
    have e3 : ([Expr.Name x px, Expr.Name y py].filterMap fun
        | .Name id pos => if X.env.kindOf id == some .local && pos.line == (([Expr.Name x px, Expr.Name y py].head?.map (·.pos.line)).getD 0) then some id else none
        | _ => none) = [x, y] := by
      have h1 : (X.env.kindOf x == some NameKind.local && px.line == (([Expr.Name x px, Expr.Name y py].head?.map (·.pos.line)).getD 0)) = true := by
        rw [ka]
        show (true && px.line == px.line) = true
        simp
      have h2 : (X.env.kindOf y == some NameKind.local && py.line == (([Expr.Name x px, Expr.Name y py].head?.map (·.pos.line)).getD 0)) = true := by
        rw [kb]
        exact hl
      simp only [List.filterMap_cons, List.filterMap_nil, h1, h2, if_true]
    have e4 : ([x, y].eraseDups.length != [x, y].length) = false := by
      have : (y == x) = false := by simpa using fun z => hne z.symm
      simp [List.eraseDups, List.eraseDupsBy, List.eraseDupsBy.loop, this]
    unfold swappedStores
    dsimp only
    rw [if_neg (by rw [e1]; exact (by decide : ¬ ((!(2 == 2 || 2 == 3) || (2 != 2) || false) = true)))]
    rw [if_neg (fun h => by
      obtain ⟨z, hz, hm⟩ := List.any_eq_true.mp h
      have := hs z hz
      cases z <;> first | exact absurd rfl (this _ _) | cases hm)]
    generalize hgn : List.filterMap _ _ = ns
    have hns : ns = [x, y] := hgn.symm.trans e3
    rw [hns, if_neg (by rw [e4]; exact (by decide : ¬ (((2 != 2) || false) = true))), if_neg (by rw [hf]; decide), if_neg (by rw [hca]; decide)]
  refine (ps_par g.calm g.nd (by rw [g.hN]; exact hN) (by rw [g.hN]; exact hN2) hij (by rw [g.sc]; exact hx) (by rw [g.sc]; exact hy) ha hsw (by rfl)).run pins s σ H D I ?_
  obtain ⟨F0, H0, env, ⟨E, r⟩, p⟩ := q
  simp only [exec] at p
  refine ⟨E, env, r.st.ok, r.eo, r.ev' p fun ts E' H' et r' s' p' vs rs => ?_⟩
  have el := evs_len et
  rcases ts with _ | ⟨t, _ | ⟨u, _ | ⟨u2, ts⟩⟩⟩
  · rw [hlen] at el; cases el
  · rw [hlen] at el; cases el
  · obtain ⟨v, w, rfl, r1, v2, w2, rfl, r2, rfl⟩ := rs
    refine ⟨v, v2, rfl, p' _ H' ⟨E', ?_⟩⟩
    have q1 := r'.less (r'.eo.set (i := i) r1) .set
    exact q1.less (q1.eo.set (i := j) r2) .set
  · rw [hlen] at el; cases el
end
end Fz

/-! every statement that is translated -/
namespace Fz
open PySem PySem.Spec L2
open PyProof.Rows hiding St

variable {S : Su}
section
variable {X : Cx} {W : WX} {F : Fns} {c : TC} {sc : Scope} {k : Nat}
def PSx (S : Su) (W : WX) (F : Fns) (X : Cx) (c : TC) (sc : Scope) (st : Stmt) : Prop := ∀ xs, trS c sc st = some xs → PS X st (dS S W (execs F xs))
theorem trSs_of : ∀ {ss : List Stmt}, (∀ s ∈ ss, PSx S W F X c sc s) → ∀ {xs : List Fz.S}, trSs c sc ss = some xs → PSs X ss (dS S W (execs F xs))
  | [], h, xs, e => by
    simp only [trSs] at e
    cases e
    exact s_nil
  | s :: ss, h, xs, e => by
    simp only [trSs] at e
    cases e1 : trS c sc s with
    | none => simp only [e1] at e; cases e
    | some x =>
      cases e2 : trSs c sc ss with
      | none => simp only [e1, e2] at e; cases e
      | some ys =>
        simp only [e1, e2] at e
        cases e
        exact s_cons (h s (List.mem_cons_self ..) x e1) (trSs_of (fun s hs => h s (List.mem_cons_of_mem _ hs)) e2)
theorem noSl {e : Expr} {x : E} (h : trE c sc e = some x) : isSl e = false := by
  cases e <;> first | rfl | (simp [trE] at h; done)
theorem onlyLc {e : Expr} {x : E} (h : trE c sc e = some x) (hc : isComp e = true) : ∃ elt gs scope pos, e = .ListComp elt gs scope pos := by
  cases e <;> first | (cases hc; done) | exact ⟨_, _, _, _, rfl⟩ | (simp [trE] at h; done)
theorem trS_all (g : Good S c k X sc sc) (tk : Takes X W) (hp : PassesOwn (model X.prog X.w) X.A X.env X.xe) (G : Glob S c F k) : ∀ (n : Nat) (st : Stmt), sizeOf st ≤ n → PSx S W F X c sc st := by
  intro n
  induction n with
  | zero => intro st h; cases st <;> simp at h
  | succ n ih =>
    intro st h xs hx
    have E1 : ∀ {e : Expr} {x : E}, trE c sc e = some x → TrO S W F X e x := fun {e x} h => trE_ok G e g tk x h
    have Es : ∀ {es : List Expr} {xs : List E}, trEs c sc es = some xs → PA X es (dA S W (evs F xs)) ∧ (∀ e ∈ es, ∀ a p, e ≠ .Starred a p) ∧ xs.length = es.length := fun {es xs} h => trEs_of g tk (fun e _ => trE_ok G e) h
    unfold trS at hx
    split at hx
    · cases hx; exact s_one s_pass
    · rename_i y p1 m ap a cp pos
      split at hx
      · rename_i hc
        simp only [Bool.and_eq_true] at hc
        split at hx
        · rename_i i e' e1 e2
          split at hx
          · rename_i hm
            subst hm
            cases hx
            exact s_shr (s_app g hc.1.1 hc.1.2 e1 hc.2 (E1 e2))
          · split at hx
            · rename_i hm
              subst hm
              cases hx
              exact s_shr (s_ext g hc.1.1 hc.1.2 e1 hc.2 (E1 e2))
            · cases hx
        · cases hx
      · cases hx
    · rename_i e pos _
      split at hx
      · cases hx
      · rename_i hc
        split at hx
        · rename_i x e1
          cases hx
          exact s_shr (s_expr (sw_plain (by simpa using hc)) (E1 e1).tri.e)
        · cases hx
    · rename_i y p1 e pos
      split at hx
      · rename_i hl
        split at hx
        · rename_i i e' e1 e2
          cases hx
          obtain ⟨q1, q2⟩ := s_set (py := p1) (pos := pos) g hl e1 (E1 e2) (onlyLc e2)
          split
          · rename_i hf
            simp only [Bool.and_eq_true] at hf
            exact s_shr (q2 hf.2)
          · exact s_shr q1
        · cases hx
      · cases hx
    · rename_i ts kt pt vs k2 pt2 pos
      split at hx
      · rename_i es gs e3 eg
        obtain ⟨a1, a2, a3⟩ := Es e3
        obtain ⟨g1, g2, g3⟩ := trGs_ok g ts gs eg
        split at hx
        · rename_i hsw
          split at hx
          · rename_i hlen
            cases hx
            exact s_shr (s_asg (by rfl) (sw_zero g.sc hsw) (fun _ _ h => by cases h) (e_tup (by omega) a1) (g_tup g g2 g3 g1))
          · cases hx
        · split at hx
          · rename_i x px y py a b
            split at hx
            · rename_i hc
              obtain ⟨h1, h2, h3, h4, h5, h6⟩ := hc
              split at hx
              · rename_i i j e1 e2
                cases hx
                exact s_shr (s_par g h1 h2 h3 h4 e1 e2 h5 h6 a2 a3 a1)
              · cases hx
            · cases hx
          · rename_i x px y py z pz a b d
            split at hx
            · rename_i hc
              obtain ⟨h1, h2, h3, h4, h5, h6, h7, h8, h9, h10⟩ := hc
              split at hx
              · rename_i i j l e1 e2 e4
                cases hx
                exact s_shr (s_par3 g h1 h2 h3 h4 h5 h6 h7 h8 e1 e2 e4 h9 h10 a2 a3 a1)
              · cases hx
            · cases hx
          · cases hx
      · cases hx
    · rename_i ts kt pt e pos _
      split at hx
      · cases hx
      · rename_i hnt
        split at hx
        · rename_i x gs e1 e2
          cases hx
          obtain ⟨g1, g2, g3⟩ := trGs_ok g ts gs e2
          refine s_shr (s_asg (by cases e <;> rfl) (by cases e <;> first | rfl | exact absurd rfl hnt) (fun _ _ h => by cases h) (E1 e1).tri.e (g_tup g g2 g3 g1))
        · cases hx
    · rename_i y p1 kx p2 e pos
      split at hx
      · rename_i hc
        simp only [Bool.and_eq_true] at hc
        split at hx
        · rename_i i k' e' e1 e2 e3
          cases hx
          exact s_shr (s_setI g hc.1 hc.2 e1 (noSl e2) (E1 e2) (E1 e3))
        · cases hx
      · cases hx
    · rename_i t a b pos
      simp only [Stmt.If.sizeOf_spec] at h
      split at hx
      · rename_i x y z e1 e2 e3
        cases hx
        exact s_shr (s_if (E1 e1).tri.tt (trSs_of (fun s hs => ih s (by have := List.sizeOf_lt_of_mem hs; omega)) e2) (trSs_of (fun s hs => ih s (by have := List.sizeOf_lt_of_mem hs; omega)) e3))
      · cases hx
    · rename_i t b pos
      simp only [Stmt.While.sizeOf_spec] at h
      split at hx
      · rename_i x y e1 e2
        cases hx
        exact s_shr (s_while hp (E1 e1).tri.tt (trSs_of (fun s hs => ih s (by have := List.sizeOf_lt_of_mem hs; omega)) e2))
      · cases hx
    · rename_i tg iter b pos
      simp only [Stmt.For.sizeOf_spec] at h
      split at hx
      · rename_i r ik its gt y e1 e2 e3
        cases hx
        obtain ⟨w1, w2⟩ := trW_of (tg := tg) (iter := iter) g tk G (fun e _ => trE_ok G e) e1
        exact s_shr (s_for hp g.calm w1 (trG_ok g tg gt e2).1 (trSs_of (fun s hs => ih s (by have := List.sizeOf_lt_of_mem hs; omega)) e3) w2)
      · cases hx
    · rename_i e pos
      split at hx
      · rename_i x e1
        cases hx
        exact s_shr (s_ret (E1 e1).tri.e)
      · cases hx
    · cases hx; exact s_one s_retN
    · rename_i x p m j p2 pos pos'
      split at hx
      · rename_i hc
        simp only [Bool.and_eq_true] at hc
        split at hx
        · rename_i i e1
          cases hx
          exact s_one (s_raise g tk (G.exc x i e1) hc.1 hc.2)
        · cases hx
      · cases hx
    · cases hx
theorem trSs_ok (g : Good S c k X sc sc) (tk : Takes X W) (hp : PassesOwn (model X.prog X.w) X.A X.env X.xe) (G : Glob S c F k) {ss : List Stmt} {xs : List Fz.S} (e : trSs c sc ss = some xs) : PSs X ss (dS S W (execs F xs)) :=
  trSs_of (fun s _ => trS_all g tk hp G _ s (Nat.le_refl _)) e
end
end Fz

/-! calls: every def of the table keeps its promise, by the depth of calls; the end of a law -/
namespace Fz
open PySem PySem.Spec L2
open PyProof.Rows hiding St

/-- a def of the text -/
structure DefT where
  /-- its number, the same in all laws -/
  id : Nat
  x : Str
  N : List Str
  ps : List Str
  acc : List Nat
  st : Stmt
  d : Def
/-- the names of the defs, each with its place -/
def gfOf (tab : List DefT) : List (Str × Nat) := tab.map fun t => (t.x, t.id)
def dsOf (tab : List DefT) : List (Nat × Def) := tab.map fun t => (t.id, t.d)
/-- what the law's defs have in common -/
structure Mo where
  tab : List DefT
  gc : List (Str × T)
  gx : List (Str × Nat)
  bl : List Str
def Mo.tc (M : Mo) (t : DefT) : TC := ⟨t.N, gfOf M.tab, M.gc, M.gx, M.bl, t.acc⟩
def Mo.F (M : Mo) (n : Nat) : Fns := callF (dsOf M.tab) n
/-- a def of the text, checked -/
structure DefC (M : Mo) (t : DefT) : Prop where
  sc : FnScope t.N t.ps (defScope t.st)
  tr : trSs (M.tc t) (defScope t.st) (defBody t.st) = some t.d.body
  np : t.d.np = t.ps.length
  nl : t.d.nl = t.N.length
  bnd : ∀ (kV doc pm : Value) (an : Option Addr) (cdv ct : Value) (us : List Value), us.length = t.ps.length → bindArgs (PySem.W.fnOf t.x t.x (defArgs t.st) (defBody t.st) (defScope t.st) .none kV doc pm an cdv ct) ⟨us, []⟩ = pure (t.ps.zip us)
variable {S : Su}
/-- a def as it stands behind the top -/
structure DefF (S : Su) (t : DefT) : Prop where
  mg : S.mg t.x = some (.ref (S.fA t.id))
  fn : ∃ fd, Fun S.K t.x t.x t.st (S.fA t.id) fd
/-- all that the top has made -/
structure MoOk (S : Su) (M : Mo) : Prop where
  chk : ∀ t ∈ M.tab, DefC M t
  nd : (M.tab.map DefT.id).Nodup
  fns : ∀ t ∈ M.tab, DefF S t
  cst : ∀ x t, M.gc.lookup x = some t → ∃ v u, S.mg x = some u ∧ RelV v u ∧ ∀ H, Rep S H t v
  blt : ∀ x, M.bl.contains x = true → S.mg x = none
  exc : ∀ x k, M.gx.lookup x = some k → ExAt S x k

theorem lookup_idx {x : Str} {f : Nat} : ∀ {tab : List DefT}, (gfOf tab).lookup x = some f → ∃ t ∈ tab, t.id = f ∧ t.x = x
  | [], h => by simp [gfOf] at h
  | t :: ts, h => by
    unfold gfOf at h
    rw [List.map_cons, List.lookup_cons] at h
    by_cases e : x == t.x
    · simp only [e] at h
      cases h
      exact ⟨t, List.mem_cons_self .., rfl, (eq_of_beq e).symm⟩
    · simp only [e] at h
      obtain ⟨u, h1, h2, h3⟩ := lookup_idx (tab := ts) h
      exact ⟨u, List.mem_cons_of_mem _ h1, h2, h3⟩
theorem lookup_ds : ∀ {tab : List DefT} {t : DefT}, (tab.map DefT.id).Nodup → t ∈ tab → (dsOf tab).lookup t.id = some t.d
  | [], t, _, h => (nomatch h)
  | u :: us, t, nd, h => by
    unfold dsOf
    rw [List.map_cons, List.lookup_cons]
    rw [List.map_cons, List.nodup_cons] at nd
    rcases List.mem_cons.mp h with rfl | h
    · simp
    · have : (t.id == u.id) = false := by
        rw [beq_eq_false_iff_ne]
        exact fun z => nd.1 (z ▸ List.mem_map_of_mem h)
      simp only [this]
      exact lookup_ds nd.2 h
theorem startC_get {d : Def} {args : List T} {j : Nat} {cl : Cell} (h : (startC d args)[j]? = some cl) : cl = .un ∨ ∃ t, args[j]? = some t ∧ cl = .sh t := by
  unfold startC at h
  by_cases hj : j < args.length
  · rw [List.getElem?_append_left (by simpa using hj), List.getElem?_map] at h
    cases e : args[j]? with
    | none => rw [e] at h; cases h
    | some t => rw [e] at h; exact .inr ⟨t, rfl, (Option.some.inj h).symm⟩
  · rw [List.getElem?_append_right (by simpa using hj), List.getElem?_replicate] at h
    split at h
    · exact .inl (Option.some.inj h).symm
    · cases h
theorem start_get {N : List Str} {vs : List V} {j : Nat} {v : V} (h : vs[j]? = some v) : (L2.start N vs)[j]? = some (some v) := by
  have hj : j < vs.length := (List.getElem?_eq_some_iff.mp h).1
  unfold L2.start
  rw [List.getElem?_append_left (by simpa using hj), List.getElem?_map, h]
  rfl
theorem rs_start {F H : Hp} {t : DefT} {ts : List T} {vs : List V} (o : Ok S F H) (rs : Reps S F ts vs) (hn : t.d.nl = t.N.length) (hl : vs.length ≤ t.N.length) : RS S F H (startC t.d ts) (L2.start t.N vs) H := by
  have l := rs.length
  refine ⟨F, .refl o, ⟨?_, fun j cl h => ?_⟩, fun i j a b n h1 _ => ?_, fun i u a h1 _ => ?_⟩
  · unfold L2.start startC
    simp only [List.length_append, List.length_map, List.length_replicate]
    omega
  · rcases startC_get h with rfl | ⟨u, h1, rfl⟩
    · trivial
    · obtain ⟨v, h2, h3⟩ := rs.get h1
      exact ⟨v, start_get h2, h3⟩
  · rcases startC_get h1 with z | ⟨_, _, z⟩ <;> cases z
  · rcases startC_get h1 with z | ⟨_, _, z⟩ <;> cases z
theorem Mo.F_succ (M : Mo) (nd : (M.tab.map DefT.id).Nodup) {t : DefT} (ht : t ∈ M.tab) (hn : t.d.np = t.ps.length) (n : Nat) (ts : List T) : M.F (n + 1) t.id ts = if ts.length = t.ps.length then finF (execs (M.F n) t.d.body (startC t.d ts)) else .no := by
  unfold Mo.F
  rw [callF, lookup_ds nd ht]
  simp only [hn]
/-- a def keeps its promise where those that it calls do -/
theorem fn_at {M : Mo} (O : MoOk S M) {n : Nat} {t : DefT} {fd : FuncData} (ih : ∀ (x : Str) (f : Nat), (gfOf M.tab).lookup x = some f → FnAt S (M.F n) n x f) (ht : t ∈ M.tab) (hf : Fun S.K t.x t.x t.st (S.fA t.id) fd) :
    FnOk S.P S.w S.K S.mg S.base (L2.CX S.P S.w) (n + 1) (S.fA t.id) fd t.ps (spF S (M.F (n + 1)) t.id t.ps.length) := by
  have C := O.chk t ht
  have hF := fun ts => Mo.F_succ M O.nd ht C.np n ts
  refine hf.okX C.sc (fun vs H Q E q => q.1) fun cdv A outer s H vs Q E hr q => ?_
  obtain ⟨hl, F0, ts, o, rs, q⟩ := q
  have hts : ts.length = t.ps.length := rs.length.trans hl
  rw [hF, if_pos hts] at q
  have g : Good S (M.tc t) n (cxOf (L2.CX S.P S.w) S.P S.w S.K S.mg S.base t.N t.x (defScope t.st) (S.fA t.id) cdv A outer s H E) (defScope t.st) (defScope t.st) :=
    ⟨rfl, rfl, rfl, rfl, rfl, rfl, C.sc.nd, rfl, rfl, hr, fun x h => rfl⟩
  have G : Glob S (M.tc t) (M.F n) n := ⟨fun x f h => ih x f h, O.cst, O.blt, O.exc⟩
  have tk : Takes (cxOf (L2.CX S.P S.w) S.P S.w S.K S.mg S.base t.N t.x (defScope t.st) (S.fA t.id) cdv A outer s H E) (fun cls d _ H => E cls d H) := takes_of rfl rfl rfl rfl
  refine ⟨_, trSs_ok g tk (passes_of rfl) G C.tr, F0, H, _, rs_start o rs C.nl ?_, ?_⟩
  · have := congrArg List.length C.sc.pre
    rw [List.length_take] at this
    omega
  · cases e : execs (M.F n) t.d.body (startC t.d ts) with
    | nx env => rw [e] at q; exact fun σ H' r => by obtain ⟨F', r⟩ := r; exact q .non F' H' r.st rfl
    | rt u => rw [e] at q; exact fun v F' H' s r => q v F' H' s r
    | ex d env => rw [e] at q; exact fun σ H' r => by obtain ⟨F', r⟩ := r; exact q F' H' r.st
    | no => rw [e] at q; exact q
/-- every def keeps its promise -/
theorem fns_ok {M : Mo} (O : MoOk S M) : ∀ (n : Nat) (x : Str) (f : Nat), (gfOf M.tab).lookup x = some f → FnAt S (M.F n) n x f := by
  intro n
  induction n with
  | zero =>
    intro x f h
    obtain ⟨t, ht, rfl, rfl⟩ := lookup_idx h
    have D := O.fns t ht
    have C := O.chk t ht
    obtain ⟨fd, hf⟩ := D.fn
    exact ⟨fd, t.ps, D.mg, hf.kp, hf.binds C.bnd, fun ts z => absurd rfl z, ⟨fun vs H Q E q => q.1, fun A outer s H args us vs Q E _ _ _ _ q => by obtain ⟨_, F0, ts, _, _, z⟩ := q; exact z.elim⟩⟩
  | succ n ih =>
    intro x f h
    obtain ⟨t, ht, rfl, rfl⟩ := lookup_idx h
    have D := O.fns t ht
    have C := O.chk t ht
    obtain ⟨fd, hf⟩ := D.fn
    refine ⟨fd, t.ps, D.mg, hf.kp, hf.binds C.bnd, fun ts z => ?_, fn_at O ih ht hf⟩
    have hF := Mo.F_succ M O.nd ht C.np n ts
    rw [hF] at z
    by_cases e : ts.length = t.ps.length
    · exact e
    · rw [if_neg e] at z; exact absurd rfl z
end Fz

/-! the end of a law: from the facts of the top to its promise -/
namespace Fz
open PySem PySem.Spec L2
open PyProof.Rows hiding St

/-- a def's facts -/
structure FnF (K : PySem.W.Frag) (x : Str) (st : Stmt) (f : Addr) : Prop where
  a : PySem.W.nsIn K mainGlobals x = some (some (.ref f))
  l : ∃ (oc : Value) (od an : Option Addr) (osl : Array (Option Value)) (kV doc pm cdv ct : Value), K.lookup f = some ⟨oc, od, .func (PySem.W.fnOf x x (defArgs st) (defBody st) (defScope st) .none kV doc pm an cdv ct), osl⟩ ∧ PySem.W.codeIn K cdv x = true
  k : PySem.W.keepIn K (.ref f) = true
theorem fnF_mk {K : PySem.W.Frag} {x : Str} {st : Stmt} {f : Addr} {oc : Value} {od an : Option Addr} {osl : Array (Option Value)} {kV doc pm cdv ct : Value} (a : PySem.W.nsIn K mainGlobals x = some (some (.ref f)))
    (l : K.lookup f = some ⟨oc, od, .func (PySem.W.fnOf x x (defArgs st) (defBody st) (defScope st) .none kV doc pm an cdv ct), osl⟩) (c : PySem.W.codeIn K cdv x = true) (k : PySem.W.keepIn K (.ref f) = true) : FnF K x st f :=
  ⟨a, ⟨oc, od, an, osl, kV, doc, pm, cdv, ct, l, c⟩, k⟩
inductive FnsF (K : PySem.W.Frag) : List DefT → List Addr → Prop where
  | nil : FnsF K [] []
  | cons {t : DefT} {ts : List DefT} {f : Addr} {fs : List Addr} (h : FnF K t.x t.st f) (r : FnsF K ts fs) : FnsF K (t :: ts) (f :: fs)
def adr : List DefT → List Addr → Nat → Addr
  | t :: ts, f :: fs, i => if i = t.id then f else adr ts fs i
  | _, _, _ => 0
theorem FnsF.get {K : PySem.W.Frag} {ts : List DefT} {fs : List Addr} (h : FnsF K ts fs) : ∀ {t : DefT}, (ts.map DefT.id).Nodup → t ∈ ts → FnF K t.x t.st (adr ts fs t.id) := by
  induction h with
  | nil => intro t _ e; cases e
  | cons h r ih =>
    intro t nd e
    rw [List.map_cons, List.nodup_cons] at nd
    unfold adr
    rcases List.mem_cons.mp e with rfl | e
    · rw [if_pos rfl]; exact h
    · rw [if_neg (fun z => nd.1 (by rw [← z]; exact List.mem_map_of_mem e))]
      exact ih nd.2 e
/-- an own exception class's facts -/
structure ExF (K : PySem.W.Frag) (x : Str) (C : Addr) : Prop where
  a : PySem.W.nsIn K mainGlobals x = some (some (.ref C))
  kp : PySem.W.keepIn K (.ref C) = true
  fx : ∃ (B newId initId : String) (bmB : List Value), ExcBaseFacts B newId initId bmB ∧ PySem.W.excIn K C bmB newId = true
  sb : PySem.W.subIn K (.ref C) (.type "BaseException") = some true
  ty : PySem.W.typeIn K (.ref C) = some (.type "type")
inductive ExsF (K : PySem.W.Frag) : List Str → List Addr → Prop where
  | nil : ExsF K [] []
  | cons {x : Str} {xs : List Str} {f : Addr} {fs : List Addr} (h : ExF K x f) (r : ExsF K xs fs) : ExsF K (x :: xs) (f :: fs)
theorem ExsF.get {K : PySem.W.Frag} {xs : List Str} {fs : List Addr} (h : ExsF K xs fs) : ∀ {i : Nat} {x : Str}, xs[i]? = some x → ExF K x (fs.getD i 0) := by
  induction h with
  | nil => intro i t e; simp at e
  | cons h r ih =>
    intro i t e
    cases i with
    | zero => cases (Option.some.inj e); exact h
    | succ i => exact ih (i := i) (by simpa using e)
def nameIx : List Str → Nat → List (Str × Nat)
  | [], _ => []
  | x :: xs, k => (x, k) :: nameIx xs (k + 1)
theorem nameIx_get : ∀ {xs : List Str} {k : Nat} {x : Str} {i : Nat}, (nameIx xs k).lookup x = some i → k ≤ i ∧ xs[i - k]? = some x
  | [], k, x, i, h => by simp [nameIx] at h
  | y :: ys, k, x, i, h => by
    unfold nameIx at h
    rw [List.lookup_cons] at h
    by_cases e : x == y
    · simp only [e] at h
      cases h
      exact ⟨Nat.le_refl _, by rw [Nat.sub_self, eq_of_beq e]; rfl⟩
    · simp only [e] at h
      obtain ⟨h1, h2⟩ := nameIx_get h
      refine ⟨by omega, ?_⟩
      rw [show i - k = (i - (k + 1)) + 1 by omega]
      exact h2
/-- no constant, a whole number, ..: a name of the module that stands for a value -/
inductive CstF (K : PySem.W.Frag) : List (Str × T) → Prop where
  | nil : CstF K []
  | int {x : Str} {i : Int} {t : Addr} {r : List (Str × T)} (a : PySem.W.nsIn K mainGlobals x = some (some (.int i t))) (h : CstF K r) : CstF K ((x, .int i) :: r)
  | str {x s : Str} {t : Addr} {r : List (Str × T)} (a : PySem.W.nsIn K mainGlobals x = some (some (.str s t))) (h : CstF K r) : CstF K ((x, .str s) :: r)
inductive NoF (K : PySem.W.Frag) : List Str → Prop where
  | nil : NoF K []
  | cons {x : Str} {xs : List Str} (a : PySem.W.nsIn K mainGlobals x = some none) (r : NoF K xs) : NoF K (x :: xs)
theorem NoF.get {K : PySem.W.Frag} {xs : List Str} (h : NoF K xs) : ∀ {x : Str}, x ∈ xs → PySem.W.nsIn K mainGlobals x = some none := by
  induction h with
  | nil => intro x e; cases e
  | cons a r ih =>
    intro x e
    rcases List.mem_cons.mp e with rfl | e
    · exact a
    · exact ih e
theorem CstF.get {S : Su} {r : List (Str × T)} (h : CstF S.K r) {hp : Heap} (X : S.K.In hp) (G : hp.Ns mainGlobals S.mg) : ∀ {x : Str} {t : T}, r.lookup x = some t → ∃ v u, S.mg x = some u ∧ RelV v u ∧ ∀ H, Rep S H t v := by
  induction h with
  | nil => intro x t e; simp at e
  | int a h ih =>
    rename_i y i tk r
    intro x t e
    rw [List.lookup_cons] at e
    by_cases z : x == y
    · simp only [z] at e
      cases e
      rw [eq_of_beq z]
      exact ⟨.int i, _, PySem.W.mg_of X G a, ⟨_, rfl⟩, fun _ => rfl⟩
    · simp only [z] at e
      exact ih e
  | str a h ih =>
    rename_i y i tk r
    intro x t e
    rw [List.lookup_cons] at e
    by_cases z : x == y
    · simp only [z] at e
      cases e
      rw [eq_of_beq z]
      exact ⟨.str i, _, PySem.W.mg_of X G a, ⟨_, rfl⟩, fun _ => rfl⟩
    · simp only [z] at e
      exact ih e
/-- law's promise: the script is handed in, True comes out -/
def spLaw (K : PySem.W.Frag) : Sp := fun vs H Q _ => ∃ (a : Addr) (ns : List Int), vs = [.ref a] ∧ La K H a (ns.map V.int) ∧ ns.length ≤ 63 ∧ Only H ∧ ∀ H', Q (.bl true) H'
theorem reps_ints {S : Su} {H : Hp} : ∀ ns : List Int, Reps S H (ns.map T.int) (ns.map V.int)
  | [] => rfl
  | n :: ns => ⟨_, _, rfl, rfl, reps_ints ns⟩
theorem law_ok {M : Mo} {t : DefT} {n : Nat} {fs cs : List Addr} {P : Program} {w : World} {K : PySem.W.Frag} {mg : Str → Option Value} {base h : Heap} {fa : Addr} {x : Str} (X : K.In h) (G : h.Ns mainGlobals mg)
    (hfa : mg t.x = some (.ref fa)) (nd : (M.tab.map DefT.id).Nodup) (ht : t ∈ M.tab) (hps : t.ps = [x]) (F : FnsF K M.tab fs) {xs : List Str} (hx : M.gx = nameIx xs 0) (Ex : ExsF K xs cs) (C : CstF K M.gc) (N : NoF K M.bl) (chk : ∀ t ∈ M.tab, DefC M t)
    (law : ∀ ns : List Int, ns.length ≤ 63 → M.F (n + 1) t.id [.lst (ns.map T.int)] = .ok (.bl true)) {fd : FuncData} (hf : Fun K t.x t.x t.st fa fd) : FnOk P w K mg base (L2.CX P w) (n + 1) fa fd [x] (spLaw K) := by
  let S : Su := ⟨P, w, K, mg, base, fun i => adr M.tab fs i, fun i => cs.getD i 0, []⟩
  have O : MoOk S M := by
    refine ⟨chk, nd, fun u hu => ?_, fun x t h => CstF.get (S := S) C X G h, fun x h => PySem.W.mg_none_of X G (N.get (by simpa using h)), fun x k h => ?_⟩
    · obtain ⟨a, ⟨oc, od, an, osl, kV, doc, pm, cdv, ct, l, c⟩, k⟩ := F.get nd hu
      exact ⟨PySem.W.mg_of X G a, _, fun_mk l c k⟩
    · rw [hx] at h
      obtain ⟨_, h2⟩ := nameIx_get h
      rw [Nat.sub_zero] at h2
      obtain ⟨a, kp, fx, sb, ty⟩ := Ex.get h2
      exact ⟨PySem.W.mg_of X G a, kp, fx, sb, ty⟩
  have D := O.fns t ht
  have e : fa = S.fA t.id := by
    have := hfa.symm.trans D.mg
    injection this with this
    injection this
  subst e
  have q := fn_at O (fns_ok O n) ht hf
  rw [hps] at q
  refine q.imp fun vs H Q E z => ?_
  obtain ⟨a, ns, rfl, la, hl, ho, hq⟩ := z
  have nt : ∀ a o, H a = some o → ¬ isTbl o := fun a o e => by
    rcases ho a with z | ⟨o', xs, z⟩
    · rw [z] at e; cases e
    · rw [z] at e; cases e; exact fun z => z
  have l1 : ((ns.map T.int).length ≤ sizeLine) := by
    rw [List.length_map]
    exact Nat.le_trans hl (by decide)
  refine ⟨rfl, H, [.lst (ns.map T.int)], ⟨.refl _, nt, fun p hp => (nomatch hp)⟩, .one ⟨a, _, rfl, la, l1, reps_ints ns⟩, ?_⟩
  rw [law ns hl]
  intro v F' H' s r
  rw [show v = _ from r]
  exact hq H'
theorem la_of {K : PySem.W.Frag} {h : Heap} {H : Hp} {a : Addr} {xs : List V} {vs : List Value} (X : K.In h) (e : h.get? a = some { cls := .type "list", data := .seq vs.toArray }) (q : SqL K H a xs) : La K H a xs := by
  rcases q with q | ⟨o, its, n, h1, h2, h3, h4, h5, h6⟩
  · exact .inl q
  · have := X a o h1
    rw [e] at this
    cases (Option.some.inj this)
    cases h4
    exact .inr ⟨vs, _, h1, by rw [h6.length]; simpa using h5, by simpa using h6⟩
/-- the law's row -/
theorem walkFz {l : PySem.W.OpenLaw} {k : Nat} {q : Program} {loose : List Str} {XP : (Str → Option Value) → Heap → Prop} {YP : World → Heap → Prop} {d : DefRec} {K : Params → PySem.W.Frag} {x : Str} (hn : l.most = some 63) (hdf : d.params.defaults = []) (hr : Room k callerA)
    (hY : ∀ (w : World) (h : Heap), YP w h → (K w.params).In h)
    (F : ∀ (w : World) (mg : Str → Option Value) (fa : Addr) (h : Heap), (K w.params).In h → h.Ns mainGlobals mg → mg d.name = some (.ref fa) →
      ∃ fd : FuncData, (∀ (s : Shared) (u : Value), BindsTo s fd ⟨[u], []⟩ [(x, u)]) ∧ ∀ base : Heap, (K w.params).In base → base.Ns mainGlobals mg → FnOk l.prog w (K w.params) mg base (L2.CX l.prog w) k fa fd [x] (spLaw (K w.params))) :
    PySem.W.WalkO q loose XP YP l.row.toRowW d [] (fun f vs => PySem.call f vs) := by
  refine Att.attach_call hn hdf fun w s₀ s₁ mg mb fa o pm cd doc a vs ns G Y ho hd hcd hmg hobj hints hlen hg => ?_
  have KX := hY w _ Y
  obtain ⟨fd, hb, hF⟩ := F w mg fa _ KX G.T.g hmg
  refine law_call KX G.T.g G.T.b G.T.builtins G.T.nolimit hg hobj hints (Nat.le_trans hlen (by decide)) hr hF hb (fun H hO hS => ⟨a, ns, rfl, la_of KX hobj hS, hlen, hO, fun _ => rfl⟩) fun H e s' h => ?_
  obtain ⟨_, _, _, _, _, _, _, _, _, _, _, _, z⟩ := h
  exact z
theorem facts_mk {K : PySem.W.Frag} {M : Mo} {xs : List Str} {fs cs : List Addr} (h1 : FnsF K M.tab fs) (h2 : ExsF K xs cs) (h3 : CstF K M.gc) (h4 : NoF K M.bl) : ∃ fs cs : List Addr, FnsF K M.tab fs ∧ ExsF K xs cs ∧ CstF K M.gc ∧ NoF K M.bl := ⟨fs, cs, h1, h2, h3, h4⟩
/-- the whole -/
theorem law_holds {M : Mo} {t : DefT} {n : Nat} {l : PySem.W.OpenLaw} {q : Program} {loose : List Str} {XP : (Str → Option Value) → Heap → Prop} {YP : World → Heap → Prop} {d : DefRec} {K : Params → PySem.W.Frag} {x : Str} {xs : List Str} (hn : l.most = some 63) (hdf : d.params.defaults = [])
    (hr : Room (n + 1) callerA) (hY : ∀ (w : World) (h : Heap), YP w h → (K w.params).In h) (nd : (M.tab.map DefT.id).Nodup) (ht : t ∈ M.tab) (hd : d.name = t.x) (hps : t.ps = [x]) (hx : M.gx = nameIx xs 0) (chk : ∀ t ∈ M.tab, DefC M t)
    (law : ∀ ns : List Int, ns.length ≤ 63 → M.F (n + 1) t.id [.lst (ns.map T.int)] = .ok (.bl true))
    (F : ∀ w : World, ∃ fs cs : List Addr, FnsF (K w.params) M.tab fs ∧ ExsF (K w.params) xs cs ∧ CstF (K w.params) M.gc ∧ NoF (K w.params) M.bl) :
    PySem.W.WalkO q loose XP YP l.row.toRowW d [] (fun f vs => PySem.call f vs) := by
  refine walkFz (x := x) hn hdf hr hY fun w mg fa h X G hfa => ?_
  obtain ⟨fs, cs, h1, h2, h3, h4⟩ := F w
  rw [hd] at hfa
  obtain ⟨a, ⟨oc, od, an, osl, kV, doc, pm, cdv, ct, l1, c⟩, kk⟩ := h1.get nd ht
  have e : fa = adr M.tab fs t.id := by
    have := hfa.symm.trans (PySem.W.mg_of X G a)
    injection this with this
    injection this
  subst e
  have C := chk t ht
  refine ⟨_, fun s u => .of_eq ?_, fun base _ _ => law_ok X G hfa nd ht hps h1 hx h2 h3 h4 chk law (fun_mk l1 c kk)⟩
  have := C.bnd kV doc pm an cdv ct [u] (by rw [hps]; rfl)
  rw [hps] at this
  exact this
end Fz

/-! the bodies of the defs, by their numbers: printed by genall.py -/
namespace Fz
open PySem
def I_is_whole : Nat := 0
def D_is_whole : Def := ⟨3, 3, [(.ret (.band (.blt .isInt [(.var 0)]) (.band (.not (.blt .isBool [(.var 0)])) (.chain .le .le (.var 1) (.var 0) (.var 2)))))]⟩
def I_is_game_in : Nat := 1
def D_is_game_in : Def := ⟨2, 3, [(.ifS (.bor (.cmp .eq (.var 1) (.cst (.int 0))) (.bor (.not (.blt .isTuple [(.var 0)])) (.bor (.not (.var 0)) (.not (.call 0 [(.idx (.var 0) (.cst (.int 0))), (.bin .sub (.cst (.int 0)) (.cst (.int 20))), (.cst (.int 20))]))))) [(.ret (.cst (.bl false)))] []), (.ifS (.cmp .eq (.len (.var 0)) (.cst (.int 1))) [(.ret (.cst (.bl true)))] []), (.ifS (.bor (.cmp .ne (.len (.var 0)) (.cst (.int 2))) (.bor (.not (.blt .isTuple [(.idx (.var 0) (.cst (.int 1)))])) (.not (.chain .le .le (.cst (.int 1)) (.len (.idx (.var 0) (.cst (.int 1)))) (.cst (.int 3)))))) [(.ret (.cst (.bl false)))] []), (.forS (.nm 2) .seq [(.idx (.var 0) (.cst (.int 1)))] [(.ifS (.bor (.not (.blt .isTuple [(.var 2)])) (.bor (.cmp .ne (.len (.var 2)) (.cst (.int 2))) (.not (.call 0 [(.idx (.var 2) (.cst (.int 0))), (.cst (.int 1)), (.cst (.int 9))])))) [(.ret (.cst (.bl false)))] [])]), (.ret (.blt .all [(.comp (.call 1 [(.idx (.var 2) (.cst (.int 1))), (.bin .sub (.var 1) (.cst (.int 1)))]) (.nm 2) .seq [(.idx (.var 0) (.cst (.int 1)))] [] [2])]))]⟩
def I_is_game : Nat := 2
def D_is_game : Def := ⟨1, 1, [(.ret (.call 1 [(.var 0), (.cst (.int 4))]))]⟩
def I_look_game : Nat := 3
def D_look_game : Def := ⟨1, 1, [(.ifS (.not (.call 2 [(.var 0)])) [(.raise 0)] [])]⟩
def I_ways_of : Nat := 4
def D_ways_of : Def := ⟨1, 1, [(.ret (.ite (.cmp .eq (.len (.var 0)) (.cst (.int 2))) (.idx (.var 0) (.cst (.int 1))) (.tup [])))]⟩
def I_paths_of : Nat := 5
def D_paths_of : Def := ⟨1, 6, [(.own 1 (.lst [(.tup [])])), (.forS (.tp [(.nm 2), (.tp [(.nm 3), (.nm 4)])]) .enum [(.call 4 [(.var 0)])] [(.ext 1 (.comp (.bin .add (.tup [(.var 2)]) (.var 5)) (.nm 5) .seq [(.call 5 [(.var 4)])] [] [5]))]), (.share [1]), (.ret (.var 1))]⟩
def I_paths : Nat := 6
def D_paths : Def := ⟨1, 1, [(.expr (.call 3 [(.var 0)])), (.ret (.call 5 [(.var 0)]))]⟩
def I__law_cell : Nat := 7
def D__law_cell : Def := ⟨2, 2, [(.ifS (.cmp .lt (.var 1) (.len (.var 0))) [(.ret (.idx (.var 0) (.var 1)))] []), (.ifS (.cmp .eq (.var 0) (.lst [])) [(.ret (.cst (.int 0)))] []), (.ret (.bin .add (.bin .mul (.idx (.var 0) (.bin .mod (.var 1) (.len (.var 0)))) (.cst (.int 31))) (.var 1)))]⟩
def I__law_pick : Nat := 8
def D__law_pick : Def := ⟨3, 4, [(.asg (.nm 3) (.bin .mod (.bin .mul (.bin .add (.call 7 [(.var 0), (.var 1)]) (.bin .mul (.cst (.int 6151)) (.bin .add (.var 1) (.cst (.int 1))))) (.cst (.int 40692))) (.cst (.int 2147483399)))), (.ret (.bin .mod (.bin .mod (.bin .add (.bin .mul (.var 3) (.var 3)) (.bin .fdiv (.var 3) (.cst (.int 31)))) (.cst (.int 2147483629))) (.var 2)))]⟩
def I__law_game : Nat := 9
def D__law_game : Def := ⟨5, 14, [(.asg (.nm 5) (.bin .mul (.cst (.int 20)) (.var 1))), (.asg (.nm 6) (.idx (.lst [(.cst (.int 0)), (.cst (.int 1)), (.cst (.int 2)), (.cst (.int 2)), (.cst (.int 3))]) (.call 8 [(.var 0), (.var 5), (.cst (.int 5))]))), (.ifS (.cmp .eq (.var 1) (.cst (.int 1))) [(.asg (.nm 6) (.blt .max2 [(.cst (.int 1)), (.var 6)]))] []), (.ifS (.bor (.cmp .eq (.var 3) (.cst (.int 1))) (.cmp .eq (.var 6) (.cst (.int 0)))) [(.ret (.tup [(.var 2)]))] []), (.own 7 (.lst [])), (.ifS (.var 4) [(.par [8, 9] [(.bin .add (.cst (.int 1)) (.call 8 [(.var 0), (.bin .add (.var 5) (.cst (.int 1))), (.cst (.int 3))])), (.bin .add (.cst (.int 1)) (.call 8 [(.var 0), (.bin .add (.var 5) (.cst (.int 2))), (.cst (.int 3))]))]), (.own 7 (.lst [(.tup [(.var 9), (.var 8)]), (.tup [(.var 8), (.bin .sub (.cst (.int 0)) (.var 9))]), (.tup [(.bin .add (.cst (.int 1)) (.call 8 [(.var 0), (.bin .add (.var 5) (.cst (.int 3))), (.cst (.int 9))])), (.cst (.int 0))])])), (.share [7]), (.asg (.nm 7) (.ite (.cmp .eq (.var 6) (.cst (.int 1))) (.slc (.var 7) [(.cst (.int 2))] []) (.slc (.var 7) [] [(.var 6)])))] [(.forS (.nm 10) .rng1 [(.var 6)] [(.app 7 (.tup [(.bin .add (.cst (.int 1)) (.call 8 [(.var 0), (.bin .add (.bin .add (.var 5) (.cst (.int 5))) (.var 10)), (.cst (.int 9))])), (.bin .sub (.call 8 [(.var 0), (.bin .add (.bin .add (.var 5) (.cst (.int 8))) (.var 10)), (.cst (.int 7))]) (.cst (.int 3)))]))])]), (.ifS (.cmp .eq (.call 8 [(.var 0), (.bin .add (.var 5) (.cst (.int 4))), (.cst (.int 2))]) (.cst (.int 0))) [(.share [7]), (.asg (.nm 7) (.rev (.var 7)))] []), (.own 11 (.lst [])), (.share [7]), (.forS (.tp [(.nm 10), (.tp [(.nm 12), (.nm 13)])]) .enum [(.var 7)] [(.app 11 (.tup [(.var 12), (.call 9 [(.var 0), (.bin .add (.bin .add (.bin .mul (.cst (.int 4)) (.var 1)) (.cst (.int 1))) (.var 10)), (.bin .add (.var 2) (.var 13)), (.bin .sub (.var 3) (.cst (.int 1))), (.var 4)])]))]), (.share [11]), (.ret (.tup [(.var 2), (.blt .tuple [(.var 11)])]))]⟩
def I__law_drawn : Nat := 10
def D__law_drawn : Def := ⟨2, 2, [(.ret (.call 9 [(.var 0), (.cst (.int 1)), (.bin .sub (.call 8 [(.var 0), (.cst (.int 0)), (.cst (.int 13))]) (.cst (.int 6))), (.var 1), (.cmp .eq (.call 8 [(.var 0), (.cst (.int 1)), (.cst (.int 2))]) (.cst (.int 0)))]))]⟩
def I__law_ways : Nat := 11
def D__law_ways : Def := ⟨1, 1, [(.ret (.ite (.cmp .eq (.len (.var 0)) (.cst (.int 2))) (.idx (.var 0) (.cst (.int 1))) (.tup [])))]⟩
def I__law_walk : Nat := 12
def D__law_walk : Def := ⟨1, 9, [(.own 1 (.lst [(.tup [(.tup []), (.var 0), (.tup [(.cst (.int 1)), (.cst (.int 1))])])])), (.asg (.nm 2) (.blt .sum [(.comp (.var 3) (.tp [(.nm 3), (.nm 4)]) .seq [(.call 11 [(.var 0)])] [] [3, 4])])), (.forS (.tp [(.nm 5), (.tp [(.nm 3), (.nm 4)])]) .enum [(.call 11 [(.var 0)])] [(.forS (.tp [(.nm 6), (.nm 7), (.nm 8)]) .seq [(.call 12 [(.var 4)])] [(.app 1 (.tup [(.bin .add (.tup [(.var 5)]) (.var 6)), (.var 7), (.call 13 [(.bin .mul (.idx (.var 8) (.cst (.int 0))) (.var 3)), (.bin .mul (.idx (.var 8) (.cst (.int 1))) (.var 2))])]))])]), (.share [1]), (.ret (.var 1))]⟩
def I__law_low : Nat := 13
def D__law_low : Def := ⟨2, 4, [(.par [2, 3] [(.blt .abs [(.var 0)]), (.blt .abs [(.var 1)])]), (.whl (.cmp .ne (.var 3) (.cst (.int 0))) [(.par [2, 3] [(.var 3), (.bin .mod (.var 2) (.var 3))])]), (.ret (.ite (.cmp .gt (.var 1) (.cst (.int 0))) (.tup [(.bin .fdiv (.var 0) (.var 2)), (.bin .fdiv (.var 1) (.var 2))]) (.tup [(.bin .sub (.cst (.int 0)) (.bin .fdiv (.var 0) (.var 2))), (.bin .sub (.cst (.int 0)) (.bin .fdiv (.var 1) (.var 2)))])))]⟩
def I__law_sum : Nat := 14
def D__law_sum : Def := ⟨1, 4, [(.asg (.tp [(.nm 1), (.nm 2)]) (.tup [(.cst (.int 0)), (.cst (.int 1))])), (.forS (.nm 3) .seq [(.var 0)] [(.asg (.tp [(.nm 1), (.nm 2)]) (.call 13 [(.bin .add (.bin .mul (.var 1) (.idx (.var 3) (.cst (.int 1)))) (.bin .mul (.idx (.var 3) (.cst (.int 0))) (.var 2))), (.bin .mul (.var 2) (.idx (.var 3) (.cst (.int 1))))]))]), (.ret (.tup [(.var 1), (.var 2)]))]⟩
def I__law_prod : Nat := 15
def D__law_prod : Def := ⟨2, 2, [(.ret (.call 13 [(.bin .mul (.idx (.var 0) (.cst (.int 0))) (.idx (.var 1) (.cst (.int 0)))), (.bin .mul (.idx (.var 0) (.cst (.int 1))) (.idx (.var 1) (.cst (.int 1))))]))]⟩
def I__law_places : Nat := 16
def D__law_places : Def := ⟨1, 4, [(.own 1 (.lst [(.tup [])])), (.ifS (.blt .isTuple [(.var 0)]) [(.forS (.nm 2) .rng1 [(.len (.var 0))] [(.ext 1 (.comp (.bin .add (.tup [(.var 2)]) (.var 3)) (.nm 3) .seq [(.call 16 [(.idx (.var 0) (.var 2))])] [] [3]))])] []), (.share [1]), (.ret (.var 1))]⟩
def I__law_put : Nat := 17
def D__law_put : Def := ⟨3, 4, [(.ifS (.cmp .eq (.var 1) (.tup [])) [(.ret (.var 2))] []), (.asg (.nm 3) (.idx (.var 1) (.cst (.int 0)))), (.ret (.bin .add (.bin .add (.slc (.var 0) [] [(.var 3)]) (.tup [(.call 17 [(.idx (.var 0) (.var 3)), (.slc (.var 1) [(.cst (.int 1))] []), (.var 2)])])) (.slc (.var 0) [(.bin .add (.var 3) (.cst (.int 1)))] [])))]⟩
def I__law_spoilt_thing : Nat := 18
def D__law_spoilt_thing : Def := ⟨3, 9, [(.asg (.nm 3) (.call 16 [(.var 2)])), (.asg (.nm 4) (.idx (.var 3) (.call 8 [(.var 0), (.var 1), (.len (.var 3))]))), (.asg (.nm 5) (.var 2)), (.forS (.nm 6) .seq [(.var 4)] [(.asg (.nm 5) (.idx (.var 5) (.var 6)))]), (.asg (.nm 7) (.lst [(.cst (.int 0)), (.cst (.int 1)), (.cst (.int 9)), (.cst (.int 10)), (.cst (.int 20)), (.cst (.int 21)), (.neg (.cst (.int 20))), (.neg (.cst (.int 21))), (.cst (.bl true)), (.cst .non), (.cst (.str "1")), (.tup []), (.tup [(.cst (.int 1))]), (.tup [(.cst (.int 0)), (.cst (.int 1))]), (.lst [(.cst (.int 0))]), (.tup [(.var 5)]), (.tup [(.var 5), (.var 5)])])), (.asg (.nm 8) (.call 8 [(.var 0), (.bin .add (.var 1) (.cst (.int 1))), (.cst (.int 23))])), (.ifS (.cmp .lt (.var 8) (.cst (.int 17))) [(.ret (.call 17 [(.var 2), (.var 4), (.idx (.var 7) (.var 8))]))] []), (.ifS (.band (.blt .isTuple [(.var 5)]) (.cmp .ne (.var 5) (.tup []))) [(.asg (.nm 6) (.call 8 [(.var 0), (.bin .add (.var 1) (.cst (.int 2))), (.len (.var 5))])), (.ret (.call 17 [(.var 2), (.var 4), (.ite (.cmp .lt (.var 8) (.cst (.int 20))) (.bin .add (.slc (.var 5) [] [(.var 6)]) (.slc (.var 5) [(.bin .add (.var 6) (.cst (.int 1)))] [])) (.bin .add (.slc (.var 5) [] [(.bin .add (.var 6) (.cst (.int 1)))]) (.slc (.var 5) [(.var 6)] [])))]))] []), (.ret (.call 17 [(.var 2), (.var 4), (.ite (.blt .isInt [(.var 5)]) (.bin .sub (.cst (.int 0)) (.var 5)) (.cst (.int 7)))]))]⟩
def I__law_whole : Nat := 19
def D__law_whole : Def := ⟨3, 3, [(.ret (.band (.blt .isInt [(.var 0)]) (.band (.not (.blt .isBool [(.var 0)])) (.chain .le .le (.var 1) (.var 0) (.var 2)))))]⟩
def I__law_is_game : Nat := 20
def D__law_is_game : Def := ⟨2, 3, [(.ifS (.bor (.cmp .lt (.var 1) (.cst (.int 1))) (.bor (.not (.blt .isTuple [(.var 0)])) (.bor (.not (.chain .le .le (.cst (.int 1)) (.len (.var 0)) (.cst (.int 2)))) (.not (.call 19 [(.idx (.var 0) (.cst (.int 0))), (.neg (.cst (.int 20))), (.cst (.int 20))]))))) [(.ret (.cst (.bl false)))] []), (.ifS (.cmp .eq (.len (.var 0)) (.cst (.int 1))) [(.ret (.cst (.bl true)))] []), (.ifS (.bor (.not (.blt .isTuple [(.idx (.var 0) (.cst (.int 1)))])) (.not (.chain .le .le (.cst (.int 1)) (.len (.idx (.var 0) (.cst (.int 1)))) (.cst (.int 3))))) [(.ret (.cst (.bl false)))] []), (.forS (.nm 2) .seq [(.idx (.var 0) (.cst (.int 1)))] [(.ifS (.bor (.not (.blt .isTuple [(.var 2)])) (.bor (.cmp .ne (.len (.var 2)) (.cst (.int 2))) (.not (.call 19 [(.idx (.var 2) (.cst (.int 0))), (.cst (.int 1)), (.cst (.int 9))])))) [(.ret (.cst (.bl false)))] []), (.ifS (.not (.call 20 [(.idx (.var 2) (.cst (.int 1))), (.bin .sub (.var 1) (.cst (.int 1)))])) [(.ret (.cst (.bl false)))] [])]), (.ret (.cst (.bl true)))]⟩
def I_divisor : Nat := 24
def D_divisor : Def := ⟨2, 2, [(.whl (.cmp .ne (.var 1) (.cst (.int 0))) [(.par [0, 1] [(.var 1), (.bin .mod (.var 0) (.var 1))])]), (.ret (.blt .abs [(.var 0)]))]⟩
def I_share : Nat := 25
def D_share : Def := ⟨2, 3, [(.asg (.nm 2) (.call 24 [(.var 0), (.var 1)])), (.ifS (.cmp .lt (.var 1) (.cst (.int 0))) [(.asg (.nm 2) (.bin .sub (.cst (.int 0)) (.var 2)))] []), (.ret (.tup [(.bin .fdiv (.var 0) (.var 2)), (.bin .fdiv (.var 1) (.var 2))]))]⟩
def I_times : Nat := 26
def D_times : Def := ⟨2, 2, [(.ret (.call 25 [(.bin .mul (.idx (.var 0) (.cst (.int 0))) (.idx (.var 1) (.cst (.int 0)))), (.bin .mul (.idx (.var 0) (.cst (.int 1))) (.idx (.var 1) (.cst (.int 1))))]))]⟩
def I_is_end : Nat := 27
def D_is_end : Def := ⟨1, 1, [(.ret (.cmp .eq (.len (.var 0)) (.cst (.int 1))))]⟩
def I_part_of : Nat := 28
def D_part_of : Def := ⟨2, 3, [(.forS (.nm 2) .seq [(.var 1)] [(.asg (.nm 0) (.idx (.idx (.call 4 [(.var 0)]) (.var 2)) (.cst (.int 1))))]), (.ret (.var 0))]⟩
def I_is_path : Nat := 29
def D_is_path : Def := ⟨2, 3, [(.ifS (.not (.blt .isTuple [(.var 1)])) [(.ret (.cst (.bl false)))] []), (.forS (.nm 2) .seq [(.var 1)] [(.ifS (.not (.call 0 [(.var 2), (.cst (.int 0)), (.bin .sub (.len (.call 4 [(.var 0)])) (.cst (.int 1)))])) [(.ret (.cst (.bl false)))] []), (.asg (.nm 0) (.idx (.idx (.call 4 [(.var 0)]) (.var 2)) (.cst (.int 1))))]), (.ret (.cst (.bl true)))]⟩
def I_look_path : Nat := 30
def D_look_path : Def := ⟨2, 2, [(.ifS (.not (.call 29 [(.var 0), (.var 1)])) [(.raise 1)] [])]⟩
def I_part : Nat := 31
def D_part : Def := ⟨2, 2, [(.expr (.call 3 [(.var 0)])), (.expr (.call 30 [(.var 0), (.var 1)])), (.ret (.call 28 [(.var 0), (.var 1)]))]⟩
def I_worth : Nat := 32
def D_worth : Def := ⟨2, 2, [(.ret (.idx (.call 31 [(.var 0), (.var 1)]) (.cst (.int 0))))]⟩
def I_ends_of : Nat := 33
def D_ends_of : Def := ⟨1, 2, [(.ret (.comp (.var 1) (.nm 1) .seq [(.call 5 [(.var 0)])] [(.call 27 [(.call 28 [(.var 0), (.var 1)])])] [1]))]⟩
def I_ends : Nat := 34
def D_ends : Def := ⟨1, 1, [(.expr (.call 3 [(.var 0)])), (.ret (.call 33 [(.var 0)]))]⟩
def I_shares_of : Nat := 35
def D_shares_of : Def := ⟨1, 4, [(.asg (.nm 1) (.blt .sum [(.comp (.var 2) (.tp [(.nm 2), (.nm 3)]) .seq [(.call 4 [(.var 0)])] [] [2, 3])])), (.ret (.comp (.call 25 [(.var 2), (.var 1)]) (.tp [(.nm 2), (.nm 3)]) .seq [(.call 4 [(.var 0)])] [] [2, 3]))]⟩
def I_chance_of : Nat := 36
def D_chance_of : Def := ⟨2, 4, [(.asg (.nm 2) (.tup [(.cst (.int 1)), (.cst (.int 1))])), (.forS (.nm 3) .seq [(.var 1)] [(.asg (.nm 2) (.call 26 [(.var 2), (.idx (.call 35 [(.var 0)]) (.var 3))])), (.asg (.nm 0) (.idx (.idx (.call 4 [(.var 0)]) (.var 3)) (.cst (.int 1))))]), (.ret (.var 2))]⟩
def I_chance : Nat := 37
def D_chance : Def := ⟨2, 2, [(.expr (.call 3 [(.var 0)])), (.expr (.call 30 [(.var 0), (.var 1)])), (.ret (.call 36 [(.var 0), (.var 1)]))]⟩
def I_plus : Nat := 40
def D_plus : Def := ⟨2, 2, [(.ret (.call 25 [(.bin .add (.bin .mul (.idx (.var 0) (.cst (.int 0))) (.idx (.var 1) (.cst (.int 1)))) (.bin .mul (.idx (.var 1) (.cst (.int 0))) (.idx (.var 0) (.cst (.int 1))))), (.bin .mul (.idx (.var 0) (.cst (.int 1))) (.idx (.var 1) (.cst (.int 1))))]))]⟩
def I_less : Nat := 41
def D_less : Def := ⟨2, 2, [(.ret (.call 25 [(.bin .sub (.bin .mul (.idx (.var 0) (.cst (.int 0))) (.idx (.var 1) (.cst (.int 1)))) (.bin .mul (.idx (.var 1) (.cst (.int 0))) (.idx (.var 0) (.cst (.int 1))))), (.bin .mul (.idx (.var 0) (.cst (.int 1))) (.idx (.var 1) (.cst (.int 1))))]))]⟩
def I_parted : Nat := 42
def D_parted : Def := ⟨2, 2, [(.ret (.call 25 [(.bin .mul (.idx (.var 0) (.cst (.int 0))) (.idx (.var 1) (.cst (.int 1)))), (.bin .mul (.idx (.var 0) (.cst (.int 1))) (.idx (.var 1) (.cst (.int 0))))]))]⟩
def I_is_less : Nat := 43
def D_is_less : Def := ⟨2, 2, [(.ret (.cmp .lt (.bin .mul (.idx (.var 0) (.cst (.int 0))) (.idx (.var 1) (.cst (.int 1)))) (.bin .mul (.idx (.var 1) (.cst (.int 0))) (.idx (.var 0) (.cst (.int 1))))))]⟩
def I_all_plus : Nat := 44
def D_all_plus : Def := ⟨1, 3, [(.asg (.nm 1) (.tup [(.cst (.int 0)), (.cst (.int 1))])), (.forS (.nm 2) .seq [(.var 0)] [(.asg (.nm 1) (.call 40 [(.var 1), (.var 2)]))]), (.ret (.var 1))]⟩
def I_is_rule : Nat := 47
def D_is_rule : Def := ⟨2, 2, [(.expr (.call 3 [(.var 0)])), (.ret (.call 46 [(.var 0), (.var 1)]))]⟩
def I_look_rule : Nat := 48
def D_look_rule : Def := ⟨2, 2, [(.ifS (.not (.call 47 [(.var 0), (.var 1)])) [(.raise 2)] [])]⟩
def I_mean_of : Nat := 49
def D_mean_of : Def := ⟨2, 3, [(.expr (.call 48 [(.var 0), (.var 1)])), (.ret (.call 44 [(.comp (.call 26 [(.call 36 [(.var 0), (.var 2)]), (.tup [(.idx (.call 28 [(.var 0), (.var 2)]) (.cst (.int 0))), (.cst (.int 1))])]) (.nm 2) .seq [(.var 1)] [] [2])]))]⟩
def I__law_rules : Nat := 50
def D__law_rules : Def := ⟨1, 11, [(.asg (.nm 1) (.lst [(.lst [(.tup [])])])), (.asg (.nm 2) (.lst [(.lst [])])), (.forS (.tp [(.nm 3), (.tp [(.nm 4), (.nm 5)])]) .enum [(.call 11 [(.var 0)])] [(.asg (.nm 6) (.comp (.comp (.bin .add (.tup [(.var 3)]) (.var 7)) (.nm 7) .seq [(.var 8)] [] [7]) (.nm 8) .seq [(.call 50 [(.var 5)])] [] [8])), (.own 9 (.lst [])), (.forS (.nm 10) .seq [(.var 2)] [(.ext 9 (.comp (.bin .add (.var 10) (.var 8)) (.nm 8) .seq [(.var 6)] [] [8]))]), (.share [9]), (.asg (.nm 2) (.var 9))]), (.ret (.ite (.cmp .eq (.len (.var 0)) (.cst (.int 2))) (.bin .add (.var 1) (.var 2)) (.var 1)))]⟩
def I__law_has_truth : Nat := 54
def D__law_has_truth : Def := ⟨1, 2, [(.ifS (.blt .isTuple [(.var 0)]) [(.ret (.cmp .ne (.comp (.var 1) (.nm 1) .seq [(.var 0)] [(.call 54 [(.var 1)])] [1]) (.lst [])))] []), (.ret (.blt .isBool [(.var 0)]))]⟩
def I_how_many : Nat := 56
def D_how_many : Def := ⟨1, 4, [(.ifS (.call 27 [(.var 0)]) [(.ret (.cst (.int 1)))] []), (.asg (.nm 1) (.cst (.int 1))), (.forS (.tp [(.nm 2), (.nm 3)]) .seq [(.call 4 [(.var 0)])] [(.asg (.nm 1) (.bin .mul (.var 1) (.call 56 [(.var 3)])))]), (.ret (.bin .add (.var 1) (.cst (.int 1))))]⟩
def I_how_many_rules : Nat := 57
def D_how_many_rules : Def := ⟨1, 1, [(.expr (.call 3 [(.var 0)])), (.ret (.call 56 [(.var 0)]))]⟩
def I_rules_of : Nat := 58
def D_rules_of : Def := ⟨1, 10, [(.asg (.nm 1) (.lst [(.lst [(.tup [])])])), (.ifS (.call 27 [(.var 0)]) [(.ret (.var 1))] []), (.asg (.nm 2) (.lst [(.lst [])])), (.forS (.tp [(.nm 3), (.tp [(.nm 4), (.nm 5)])]) .enum [(.call 4 [(.var 0)])] [(.own 6 (.lst [])), (.forS (.nm 7) .seq [(.var 2)] [(.ext 6 (.comp (.bin .add (.var 7) (.comp (.bin .add (.tup [(.var 3)]) (.var 8)) (.nm 8) .seq [(.var 9)] [] [8])) (.nm 9) .seq [(.call 58 [(.var 5)])] [] [9]))]), (.share [6]), (.asg (.nm 2) (.var 6))]), (.ret (.bin .add (.var 1) (.var 2)))]⟩
def I_mean_in : Nat := 60
def D_mean_in : Def := ⟨1, 5, [(.ifS (.call 27 [(.var 0)]) [(.ret (.tup [(.idx (.var 0) (.cst (.int 0))), (.cst (.int 1))]))] []), (.asg (.nm 1) (.tup [(.cst (.int 0)), (.cst (.int 1))])), (.forS (.tp [(.tp [(.nm 2), (.nm 3)]), (.nm 4)]) .zip [(.call 4 [(.var 0)]), (.call 35 [(.var 0)])] [(.asg (.nm 1) (.call 40 [(.var 1), (.call 26 [(.var 4), (.call 60 [(.var 3)])])]))]), (.ret (.var 1))]⟩
def I_means : Nat := 61
def D_means : Def := ⟨1, 2, [(.expr (.call 3 [(.var 0)])), (.ret (.comp (.tup [(.var 1), (.call 60 [(.call 28 [(.var 0), (.var 1)])])]) (.nm 1) .seq [(.call 5 [(.var 0)])] [] [1]))]⟩
def I_first_of : Nat := 66
def D_first_of : Def := ⟨3, 3, [(.expr (.call 48 [(.var 0), (.var 1)])), (.expr (.call 48 [(.var 0), (.var 2)])), (.ret (.call 64 [(.var 1), (.var 2)]))]⟩
def I_last_of : Nat := 67
def D_last_of : Def := ⟨3, 3, [(.expr (.call 48 [(.var 0), (.var 1)])), (.expr (.call 48 [(.var 0), (.var 2)])), (.ret (.call 65 [(.var 1), (.var 2)]))]⟩
def I_mirrored : Nat := 71
def D_mirrored : Def := ⟨1, 3, [(.expr (.call 3 [(.var 0)])), (.ifS (.cmp .eq (.len (.var 0)) (.cst (.int 1))) [(.ret (.tup [(.bin .sub (.cst (.int 0)) (.idx (.var 0) (.cst (.int 0))))]))] []), (.ret (.tup [(.bin .sub (.cst (.int 0)) (.idx (.var 0) (.cst (.int 0)))), (.blt .tuple [(.comp (.tup [(.var 1), (.call 71 [(.var 2)])]) (.tp [(.nm 1), (.nm 2)]) .seq [(.idx (.var 0) (.cst (.int 1)))] [] [1, 2])])]))]⟩
def I_ahead_of : Nat := 76
def D_ahead_of : Def := ⟨2, 4, [(.expr (.call 3 [(.var 0)])), (.expr (.call 48 [(.var 0), (.var 1)])), (.ret (.comp (.var 2) (.nm 2) .seq [(.call 5 [(.var 0)])] [(.blt .any [(.comp (.band (.cmp .eq (.slc (.var 3) [] [(.len (.var 2))]) (.var 2)) (.cmp .ne (.var 3) (.var 2))) (.nm 3) .seq [(.var 1)] [] [3])])] [2]))]⟩
def I_going : Nat := 79
def D_going : Def := ⟨1, 2, [(.ret (.comp (.var 1) (.nm 1) .seq [(.call 5 [(.var 0)])] [(.not (.call 27 [(.call 28 [(.var 0), (.var 1)])]))] [1]))]⟩
def I_put_at : Nat := 80
def D_put_at : Def := ⟨3, 6, [(.ifS (.cmp .eq (.var 1) (.tup [])) [(.ret (.var 2))] []), (.own 3 (.blt .list [(.call 4 [(.var 0)])])), (.share [3]), (.asg (.tp [(.nm 4), (.nm 5)]) (.idx (.var 3) (.idx (.var 1) (.cst (.int 0))))), (.setI 3 (.idx (.var 1) (.cst (.int 0))) (.tup [(.var 4), (.call 80 [(.var 5), (.slc (.var 1) [(.cst (.int 1))] []), (.var 2)])])), (.share [3]), (.ret (.tup [(.idx (.var 0) (.cst (.int 0))), (.blt .tuple [(.var 3)])]))]⟩
def I_cut : Nat := 81
def D_cut : Def := ⟨2, 2, [(.expr (.call 3 [(.var 0)])), (.expr (.call 30 [(.var 0), (.var 1)])), (.ret (.call 80 [(.var 0), (.var 1), (.tup [(.idx (.call 28 [(.var 0), (.var 1)]) (.cst (.int 0)))])]))]⟩
def I_stopped : Nat := 83
def D_stopped : Def := ⟨2, 4, [(.expr (.call 3 [(.var 0)])), (.expr (.call 48 [(.var 0), (.var 1)])), (.asg (.nm 2) (.var 0)), (.forS (.nm 3) .seq [(.var 1)] [(.asg (.nm 2) (.call 81 [(.var 2), (.var 3)]))]), (.ret (.var 2))]⟩
def I_gain_at : Nat := 84
def D_gain_at : Def := ⟨1, 5, [(.asg (.nm 1) (.tup [(.cst (.int 0)), (.cst (.int 1))])), (.forS (.tp [(.tp [(.nm 2), (.nm 3)]), (.nm 4)]) .zip [(.call 4 [(.var 0)]), (.call 35 [(.var 0)])] [(.asg (.nm 1) (.call 40 [(.var 1), (.call 26 [(.var 4), (.tup [(.bin .sub (.idx (.var 3) (.cst (.int 0))) (.idx (.var 0) (.cst (.int 0)))), (.cst (.int 1))])])]))]), (.ret (.var 1))]⟩
def I_gains_of : Nat := 85
def D_gains_of : Def := ⟨1, 2, [(.ret (.comp (.call 84 [(.call 28 [(.var 0), (.var 1)])]) (.nm 1) .seq [(.call 79 [(.var 0)])] [] [1]))]⟩
def I_is_fair : Nat := 86
def D_is_fair : Def := ⟨1, 2, [(.expr (.call 3 [(.var 0)])), (.ret (.blt .all [(.comp (.cmp .eq (.idx (.var 1) (.cst (.int 0))) (.cst (.int 0))) (.nm 1) .seq [(.call 85 [(.var 0)])] [] [1])]))]⟩
def I_never_falls : Nat := 87
def D_never_falls : Def := ⟨1, 2, [(.expr (.call 3 [(.var 0)])), (.ret (.blt .all [(.comp (.cmp .ge (.idx (.var 1) (.cst (.int 0))) (.cst (.int 0))) (.nm 1) .seq [(.call 85 [(.var 0)])] [] [1])]))]⟩
def I_spread : Nat := 89
def D_spread : Def := ⟨2, 2, [(.expr (.call 3 [(.var 0)])), (.expr (.call 48 [(.var 0), (.var 1)])), (.ret (.call 88 [(.var 0), (.var 1)]))]⟩
def I_last_spread : Nat := 90
def D_last_spread : Def := ⟨1, 1, [(.expr (.call 3 [(.var 0)])), (.ret (.call 88 [(.var 0), (.call 33 [(.var 0)])]))]⟩
def I_gain : Nat := 93
def D_gain : Def := ⟨2, 2, [(.expr (.call 3 [(.var 0)])), (.expr (.call 30 [(.var 0), (.var 1)])), (.ret (.call 84 [(.call 28 [(.var 0), (.var 1)])]))]⟩
def I_never_rises : Nat := 94
def D_never_rises : Def := ⟨1, 2, [(.expr (.call 3 [(.var 0)])), (.ret (.blt .all [(.comp (.cmp .le (.idx (.var 1) (.cst (.int 0))) (.cst (.int 0))) (.nm 1) .seq [(.call 85 [(.var 0)])] [] [1])]))]⟩
def I_rule_through : Nat := 95
def D_rule_through : Def := ⟨2, 5, [(.own 2 (.lst [(.var 1)])), (.forS (.nm 3) .rng1 [(.len (.var 1))] [(.forS (.nm 4) .rng1 [(.len (.call 4 [(.call 28 [(.var 0), (.slc (.var 1) [] [(.var 3)])])]))] [(.ifS (.cmp .ne (.var 4) (.idx (.var 1) (.var 3))) [(.app 2 (.bin .add (.slc (.var 1) [] [(.var 3)]) (.tup [(.var 4)])))] [])])]), (.share [2]), (.ret (.var 2))]⟩
def I_is_unfair : Nat := 97
def D_is_unfair : Def := ⟨2, 3, [(.expr (.call 3 [(.var 0)])), (.ifS (.bor (.not (.blt .isTuple [(.var 1)])) (.bor (.cmp .ne (.len (.var 1)) (.cst (.int 2))) (.not (.blt .all [(.comp (.call 46 [(.var 0), (.var 2)]) (.nm 2) .seq [(.var 1)] [] [2])])))) [(.ret (.cst (.bl false)))] []), (.ret (.cmp .ne (.call 49 [(.var 0), (.idx (.var 1) (.cst (.int 0)))]) (.call 49 [(.var 0), (.idx (.var 1) (.cst (.int 1)))])))]⟩
def I__law_nearly : Nat := 99
def D__law_nearly : Def := ⟨3, 7, [(.ifS (.cmp .gt (.call 8 [(.var 0), (.var 1), (.cst (.int 3))]) (.cst (.int 0))) [(.ret (.var 2))] []), (.asg (.nm 3) (.comp (.var 4) (.tp [(.nm 4), (.nm 5), (.nm 6)]) .seq [(.call 12 [(.var 2)])] [(.band (.cmp .eq (.len (.var 5)) (.cst (.int 1))) (.cmp .ne (.var 4) (.tup [])))] [4, 5, 6])), (.ret (.call 100 [(.var 2), (.idx (.var 3) (.call 8 [(.var 0), (.bin .add (.var 1) (.cst (.int 1))), (.len (.var 3))]))]))]⟩
def I__law_put_worth : Nat := 100
def D__law_put_worth : Def := ⟨2, 5, [(.ifS (.cmp .eq (.var 1) (.tup [])) [(.ret (.bin .add (.tup [(.bin .add (.idx (.var 0) (.cst (.int 0))) (.cst (.int 1)))]) (.slc (.var 0) [(.cst (.int 1))] [])))] []), (.asg (.nm 2) (.idx (.var 1) (.cst (.int 0)))), (.asg (.tp [(.nm 3), (.nm 4)]) (.idx (.idx (.var 0) (.cst (.int 1))) (.var 2))), (.ret (.tup [(.idx (.var 0) (.cst (.int 0))), (.bin .add (.bin .add (.slc (.idx (.var 0) (.cst (.int 1))) [] [(.var 2)]) (.tup [(.tup [(.var 3), (.call 100 [(.var 4), (.slc (.var 1) [(.cst (.int 1))] [])])])])) (.slc (.idx (.var 0) (.cst (.int 1))) [(.bin .add (.var 2) (.cst (.int 1)))] []))]))]⟩
def I_drift_of : Nat := 104
def D_drift_of : Def := ⟨2, 4, [(.asg (.nm 2) (.tup [(.cst (.int 0)), (.cst (.int 1))])), (.forS (.nm 3) .rng1 [(.len (.var 1))] [(.asg (.nm 2) (.call 40 [(.var 2), (.call 84 [(.call 28 [(.var 0), (.slc (.var 1) [] [(.var 3)])])])]))]), (.ret (.var 2))]⟩
def I_drift : Nat := 105
def D_drift : Def := ⟨1, 2, [(.expr (.call 3 [(.var 0)])), (.ret (.comp (.tup [(.var 1), (.call 104 [(.var 0), (.var 1)])]) (.nm 1) .seq [(.call 5 [(.var 0)])] [] [1]))]⟩
def I_fair_part : Nat := 106
def D_fair_part : Def := ⟨1, 2, [(.expr (.call 3 [(.var 0)])), (.ret (.comp (.tup [(.var 1), (.call 41 [(.tup [(.idx (.call 28 [(.var 0), (.var 1)]) (.cst (.int 0))), (.cst (.int 1))]), (.call 104 [(.var 0), (.var 1)])])]) (.nm 1) .seq [(.call 5 [(.var 0)])] [] [1]))]⟩
def I_ahead_in : Nat := 109
def D_ahead_in : Def := ⟨2, 6, [(.asg (.nm 2) (.tup [(.cst (.int 0)), (.cst (.int 1))])), (.forS (.tp [(.tp [(.nm 3), (.nm 4)]), (.nm 5)]) .zip [(.call 4 [(.var 0)]), (.call 35 [(.var 0)])] [(.asg (.nm 2) (.call 40 [(.var 2), (.call 26 [(.var 5), (.call 110 [(.var 4), (.var 1)])])]))]), (.ret (.var 2))]⟩
def I_value_in : Nat := 110
def D_value_in : Def := ⟨2, 4, [(.asg (.nm 2) (.tup [(.idx (.var 0) (.cst (.int 0))), (.cst (.int 1))])), (.ifS (.call 27 [(.var 0)]) [(.ret (.var 2))] []), (.asg (.nm 3) (.call 109 [(.var 0), (.var 1)])), (.ret (.ite (.band (.cmp .eq (.call 43 [(.var 2), (.var 3)]) (.var 1)) (.cmp .ne (.var 3) (.var 2))) (.var 3) (.var 2)))]⟩
def I_best_mean : Nat := 111
def D_best_mean : Def := ⟨1, 1, [(.expr (.call 3 [(.var 0)])), (.ret (.call 110 [(.var 0), (.cst (.bl true))]))]⟩
def I_worst_mean : Nat := 112
def D_worst_mean : Def := ⟨1, 1, [(.expr (.call 3 [(.var 0)])), (.ret (.call 110 [(.var 0), (.cst (.bl false))]))]⟩
def I_best_values : Nat := 113
def D_best_values : Def := ⟨1, 2, [(.expr (.call 3 [(.var 0)])), (.ret (.comp (.tup [(.var 1), (.call 110 [(.call 28 [(.var 0), (.var 1)]), (.cst (.bl true))])]) (.nm 1) .seq [(.call 5 [(.var 0)])] [] [1]))]⟩
def I_stops : Nat := 114
def D_stops : Def := ⟨3, 7, [(.asg (.nm 3) (.call 28 [(.var 0), (.var 1)])), (.ifS (.call 27 [(.var 3)]) [(.ret (.lst [(.var 1)]))] []), (.asg (.nm 4) (.call 109 [(.var 3), (.cst (.bl true))])), (.ifS (.bor (.call 43 [(.var 4), (.tup [(.idx (.var 3) (.cst (.int 0))), (.cst (.int 1))])]) (.band (.var 2) (.cmp .eq (.var 4) (.tup [(.idx (.var 3) (.cst (.int 0))), (.cst (.int 1))])))) [(.ret (.lst [(.var 1)]))] []), (.own 5 (.lst [])), (.forS (.nm 6) .rng1 [(.len (.call 4 [(.var 3)]))] [(.ext 5 (.call 114 [(.var 0), (.bin .add (.var 1) (.tup [(.var 6)])), (.var 2)]))]), (.share [5]), (.ret (.var 5))]⟩
def I_is_best : Nat := 117
def D_is_best : Def := ⟨2, 2, [(.expr (.call 48 [(.var 0), (.var 1)])), (.ret (.cmp .eq (.call 49 [(.var 0), (.var 1)]) (.call 110 [(.var 0), (.cst (.bl true))])))]⟩
def I_are_bets_of : Nat := 121
def D_are_bets_of : Def := ⟨2, 3, [(.ifS (.bor (.not (.blt .isTuple [(.var 1)])) (.cmp .ne (.len (.var 1)) (.len (.call 79 [(.var 0)])))) [(.ret (.cst (.bl false)))] []), (.ret (.blt .all [(.comp (.call 0 [(.var 2), (.bin .sub (.cst (.int 0)) (.cst (.int 99))), (.cst (.int 99))]) (.nm 2) .seq [(.var 1)] [] [2])]))]⟩
def I_are_bets : Nat := 122
def D_are_bets : Def := ⟨2, 2, [(.expr (.call 3 [(.var 0)])), (.ret (.call 121 [(.var 0), (.var 1)]))]⟩
def I_look_bets : Nat := 123
def D_look_bets : Def := ⟨2, 2, [(.ifS (.not (.call 122 [(.var 0), (.var 1)])) [(.raise 2)] [])]⟩
def I_gain_along : Nat := 124
def D_gain_along : Def := ⟨3, 6, [(.asg (.nm 3) (.tup [(.cst (.int 0)), (.cst (.int 1))])), (.forS (.nm 4) .rng1 [(.len (.var 2))] [(.asg (.nm 5) (.bin .sub (.idx (.call 28 [(.var 0), (.slc (.var 2) [] [(.bin .add (.var 4) (.cst (.int 1)))])]) (.cst (.int 0))) (.idx (.call 28 [(.var 0), (.slc (.var 2) [] [(.var 4)])]) (.cst (.int 0))))), (.asg (.nm 3) (.call 40 [(.var 3), (.call 26 [(.idx (.var 1) (.slc (.var 2) [] [(.var 4)])), (.tup [(.var 5), (.cst (.int 1))])])]))]), (.ret (.var 3))]⟩
def I_mean_gain : Nat := 126
def D_mean_gain : Def := ⟨2, 5, [(.asg (.nm 2) (.call 125 [(.var 0), (.var 1)])), (.ret (.call 44 [(.comp (.call 26 [(.call 36 [(.var 0), (.var 3)]), (.tup [(.var 4), (.cst (.int 1))])]) (.tp [(.nm 3), (.nm 4)]) .zip [(.call 33 [(.var 0)]), (.var 2)] [] [3, 4])]))]⟩
def I_steps_at : Nat := 130
def D_steps_at : Def := ⟨1, 3, [(.ret (.comp (.bin .sub (.idx (.var 2) (.cst (.int 0))) (.idx (.var 0) (.cst (.int 0)))) (.tp [(.nm 1), (.nm 2)]) .seq [(.call 4 [(.var 0)])] [] [1, 2]))]⟩
def I_fair_weights : Nat := 133
def D_fair_weights : Def := ⟨1, 7, [(.expr (.call 3 [(.var 0)])), (.ifS (.cmp .isNot (.call 131 [(.var 0)]) (.cst .non)) [(.ret (.cst .non))] []), (.own 1 (.lst [])), (.forS (.nm 2) .seq [(.call 79 [(.var 0)])] [(.asg (.nm 3) (.call 130 [(.call 28 [(.var 0), (.var 2)])])), (.asg (.nm 4) (.blt .sum [(.comp (.var 5) (.nm 5) .seq [(.var 3)] [(.cmp .gt (.var 5) (.cst (.int 0)))] [5])])), (.asg (.nm 6) (.bin .sub (.cst (.int 0)) (.blt .sum [(.comp (.var 5) (.nm 5) .seq [(.var 3)] [(.cmp .lt (.var 5) (.cst (.int 0)))] [5])]))), (.app 1 (.blt .tuple [(.comp (.ite (.cmp .gt (.var 5) (.cst (.int 0))) (.var 6) (.ite (.cmp .lt (.var 5) (.cst (.int 0))) (.var 4) (.cst (.int 1)))) (.nm 5) .seq [(.var 3)] [] [5])]))]), (.share [1]), (.ret (.blt .tuple [(.var 1)]))]⟩
def I_are_fair_weights : Nat := 134
def D_are_fair_weights : Def := ⟨2, 8, [(.expr (.call 3 [(.var 0)])), (.asg (.nm 2) (.call 79 [(.var 0)])), (.ifS (.bor (.not (.blt .isTuple [(.var 1)])) (.cmp .ne (.len (.var 1)) (.len (.var 2)))) [(.ret (.cst (.bl false)))] []), (.forS (.tp [(.nm 3), (.nm 4)]) .zip [(.var 2), (.var 1)] [(.asg (.nm 5) (.call 130 [(.call 28 [(.var 0), (.var 3)])])), (.ifS (.bor (.not (.blt .isTuple [(.var 4)])) (.cmp .ne (.len (.var 4)) (.len (.var 5)))) [(.ret (.cst (.bl false)))] []), (.ifS (.not (.blt .all [(.comp (.band (.blt .isInt [(.var 6)]) (.band (.not (.blt .isBool [(.var 6)])) (.cmp .gt (.var 6) (.cst (.int 0))))) (.nm 6) .seq [(.var 4)] [] [6])])) [(.ret (.cst (.bl false)))] []), (.ifS (.cmp .ne (.blt .sum [(.comp (.bin .mul (.var 6) (.var 7)) (.tp [(.nm 6), (.nm 7)]) .zip [(.var 4), (.var 5)] [] [6, 7])]) (.cst (.int 0))) [(.ret (.cst (.bl false)))] [])]), (.ret (.cst (.bl true)))]⟩
def I_look_claim : Nat := 139
def D_look_claim : Def := ⟨2, 3, [(.expr (.call 3 [(.var 0)])), (.ifS (.bor (.not (.blt .isTuple [(.var 1)])) (.cmp .ne (.len (.var 1)) (.len (.call 33 [(.var 0)])))) [(.raise 4)] []), (.ifS (.not (.blt .all [(.comp (.call 0 [(.var 2), (.bin .sub (.cst (.int 0)) (.cst (.int 99))), (.cst (.int 99))]) (.nm 2) .seq [(.var 1)] [] [2])])) [(.raise 4)] [])]⟩
def I_paid_at : Nat := 140
def D_paid_at : Def := ⟨2, 8, [(.asg (.nm 2) (.comp (.var 3) (.nm 3) .rng1 [(.len (.var 0))] [(.cmp .ne (.idx (.var 0) (.var 3)) (.idx (.var 0) (.cst (.int 0))))] [3])), (.asg (.nm 4) (.tup [(.cst (.int 0)), (.cst (.int 1))])), (.ifS (.cmp .ne (.var 2) (.lst [])) [(.asg (.nm 4) (.call 42 [(.call 41 [(.idx (.var 1) (.idx (.var 2) (.cst (.int 0)))), (.idx (.var 1) (.cst (.int 0)))]), (.tup [(.bin .sub (.idx (.var 0) (.idx (.var 2) (.cst (.int 0)))) (.idx (.var 0) (.cst (.int 0)))), (.cst (.int 1))])]))] []), (.asg (.nm 5) (.call 41 [(.idx (.var 1) (.cst (.int 0))), (.call 26 [(.var 4), (.tup [(.idx (.var 0) (.cst (.int 0))), (.cst (.int 1))])])])), (.forS (.tp [(.nm 6), (.nm 7)]) .zip [(.var 0), (.var 1)] [(.ifS (.cmp .ne (.call 40 [(.var 5), (.call 26 [(.var 4), (.tup [(.var 6), (.cst (.int 1))])])]) (.var 7)) [(.raise 5)] [])]), (.ret (.tup [(.var 5), (.var 4)]))]⟩
def I__law_agreed : Nat := 146
def D__law_agreed : Def := ⟨1, 8, [(.own 1 (.comp (.var 3) (.tp [(.nm 2), (.nm 3)]) .seq [(.var 0)] [(.cmp .eq (.var 2) (.cst (.int 0)))] [2, 3])), (.forS (.tp [(.nm 2), (.nm 3)]) .seq [(.var 0)] [(.forS (.tp [(.nm 4), (.nm 5)]) .seq [(.var 0)] [(.ifS (.chain .gt .gt (.var 2) (.cst (.int 0)) (.var 4)) [(.asg (.nm 6) (.call 14 [(.lst [(.call 15 [(.var 3), (.tup [(.bin .sub (.cst (.int 0)) (.var 4)), (.cst (.int 1))])]), (.call 15 [(.var 5), (.tup [(.var 2), (.cst (.int 1))])])])])), (.app 1 (.call 15 [(.var 6), (.tup [(.cst (.int 1)), (.bin .sub (.var 2) (.var 4))])]))] [])])]), (.share [1]), (.ret (.ite (.band (.cmp .ne (.var 1) (.lst [])) (.cmp .eq (.comp (.var 7) (.nm 7) .seq [(.var 1)] [(.cmp .ne (.var 7) (.idx (.var 1) (.cst (.int 0))))] [7]) (.lst []))) (.idx (.var 1) (.cst (.int 0))) (.cst .non)))]⟩
def I_mean_of_most : Nat := 150
def D_mean_of_most : Def := ⟨1, 2, [(.expr (.call 3 [(.var 0)])), (.ret (.call 44 [(.comp (.call 26 [(.call 36 [(.var 0), (.var 1)]), (.tup [(.call 149 [(.var 0), (.var 1)]), (.cst (.int 1))])]) (.nm 1) .seq [(.call 33 [(.var 0)])] [] [1])]))]⟩
def I_chance_reached : Nat := 151
def D_chance_reached : Def := ⟨2, 3, [(.expr (.call 3 [(.var 0)])), (.ret (.call 44 [(.comp (.call 36 [(.var 0), (.var 2)]) (.nm 2) .seq [(.call 33 [(.var 0)])] [(.cmp .ge (.call 149 [(.var 0), (.var 2)]) (.var 1))] [2])]))]⟩
def I_mean_square : Nat := 152
def D_mean_square : Def := ⟨1, 5, [(.expr (.call 3 [(.var 0)])), (.asg (.nm 1) (.comp (.tup [(.call 36 [(.var 0), (.var 2)]), (.idx (.call 28 [(.var 0), (.var 2)]) (.cst (.int 0)))]) (.nm 2) .seq [(.call 33 [(.var 0)])] [] [2])), (.ret (.call 44 [(.comp (.call 26 [(.var 3), (.tup [(.bin .mul (.var 4) (.var 4)), (.cst (.int 1))])]) (.tp [(.nm 3), (.nm 4)]) .seq [(.var 1)] [] [3, 4])]))]⟩
def I_mean_steps : Nat := 153
def D_mean_steps : Def := ⟨1, 8, [(.expr (.call 3 [(.var 0)])), (.own 1 (.lst [])), (.forS (.nm 2) .seq [(.call 79 [(.var 0)])] [(.asg (.nm 3) (.call 28 [(.var 0), (.var 2)])), (.forS (.tp [(.nm 4), (.tp [(.nm 5), (.nm 6)])]) .enum [(.call 4 [(.var 3)])] [(.asg (.nm 7) (.bin .sub (.idx (.var 6) (.cst (.int 0))) (.idx (.var 3) (.cst (.int 0))))), (.app 1 (.call 26 [(.call 36 [(.var 0), (.bin .add (.var 2) (.tup [(.var 4)]))]), (.tup [(.bin .mul (.var 7) (.var 7)), (.cst (.int 1))])]))])]), (.share [1]), (.ret (.call 44 [(.var 1)]))]⟩
def I__law_lifted : Nat := 155
def D__law_lifted : Def := ⟨2, 4, [(.ifS (.cmp .eq (.len (.var 0)) (.cst (.int 1))) [(.ret (.tup [(.bin .add (.idx (.var 0) (.cst (.int 0))) (.var 1))]))] []), (.ret (.tup [(.bin .add (.idx (.var 0) (.cst (.int 0))) (.var 1)), (.blt .tuple [(.comp (.tup [(.var 2), (.call 155 [(.var 3), (.var 1)])]) (.tp [(.nm 2), (.nm 3)]) .seq [(.idx (.var 0) (.cst (.int 1)))] [] [2, 3])])]))]⟩
def I_power : Nat := 157
def D_power : Def := ⟨2, 4, [(.asg (.nm 2) (.cst (.int 1))), (.forS (.nm 3) .rng1 [(.var 1)] [(.asg (.nm 2) (.bin .mul (.var 2) (.var 0)))]), (.ret (.var 2))]⟩
def I_home_chance : Nat := 158
def D_home_chance : Def := ⟨4, 6, [(.ifS (.cmp .eq (.var 2) (.var 3)) [(.ret (.call 25 [(.var 1), (.var 0)]))] []), (.asg (.nm 4) (.bin .sub (.call 157 [(.var 2), (.var 0)]) (.call 157 [(.var 3), (.var 0)]))), (.asg (.nm 5) (.bin .sub (.call 157 [(.var 2), (.var 1)]) (.call 157 [(.var 3), (.var 1)]))), (.ret (.call 25 [(.bin .mul (.var 5) (.call 157 [(.var 2), (.bin .sub (.var 0) (.var 1))])), (.var 4)]))]⟩
def I_steps_home : Nat := 159
def D_steps_home : Def := ⟨4, 5, [(.ifS (.cmp .eq (.var 2) (.var 3)) [(.ret (.tup [(.bin .mul (.var 1) (.bin .sub (.var 0) (.var 1))), (.cst (.int 1))]))] []), (.asg (.nm 4) (.call 26 [(.tup [(.var 0), (.cst (.int 1))]), (.call 158 [(.var 0), (.var 1), (.var 2), (.var 3)])])), (.ret (.call 26 [(.call 25 [(.bin .add (.var 2) (.var 3)), (.bin .sub (.var 2) (.var 3))]), (.call 25 [(.bin .sub (.idx (.var 4) (.cst (.int 0))) (.bin .mul (.var 1) (.idx (.var 4) (.cst (.int 1))))), (.idx (.var 4) (.cst (.int 1)))])]))]⟩
def I_spread_at : Nat := 161
def D_spread_at : Def := ⟨2, 2, [(.expr (.call 3 [(.var 0)])), (.ret (.call 89 [(.var 0), (.call 73 [(.var 0), (.var 1)])]))]⟩
def I_mean_at : Nat := 162
def D_mean_at : Def := ⟨2, 2, [(.expr (.call 3 [(.var 0)])), (.ret (.call 49 [(.var 0), (.call 73 [(.var 0), (.var 1)])]))]⟩
def I_still_going : Nat := 163
def D_still_going : Def := ⟨2, 4, [(.expr (.call 3 [(.var 0)])), (.asg (.nm 2) (.comp (.var 3) (.nm 3) .seq [(.call 73 [(.var 0), (.var 1)])] [(.band (.cmp .eq (.len (.var 3)) (.var 1)) (.not (.call 27 [(.call 28 [(.var 0), (.var 3)])])))] [3])), (.ret (.call 44 [(.comp (.call 36 [(.var 0), (.var 3)]) (.nm 3) .seq [(.var 2)] [] [3])]))]⟩
def I_step_means : Nat := 164
def D_step_means : Def := ⟨1, 2, [(.expr (.call 3 [(.var 0)])), (.own 1 (.lst [])), (.whl (.cmp .ne (.call 163 [(.var 0), (.len (.var 1))]) (.tup [(.cst (.int 0)), (.cst (.int 1))])) [(.app 1 (.call 41 [(.call 162 [(.var 0), (.bin .add (.len (.var 1)) (.cst (.int 1)))]), (.call 162 [(.var 0), (.len (.var 1))])]))]), (.share [1]), (.ret (.var 1))]⟩
def I_game_text : Nat := 169
def D_game_text : Def := ⟨1, 1, [(.expr (.call 3 [(.var 0)])), (.ret (.call 168 [(.var 0)]))]⟩
def I_game_at : Nat := 171
def D_game_at : Def := ⟨3, 7, [(.ifS (.cmp .eq (.var 2) (.cst (.int 0))) [(.raise 6)] []), (.asg (.tp [(.nm 3), (.nm 1)]) (.call 170 [(.var 0), (.var 1)])), (.ifS (.cmp .ne (.slc (.var 0) [(.var 1)] [(.bin .add (.var 1) (.cst (.int 1)))]) (.cst (.str "("))) [(.ret (.tup [(.tup [(.var 3)]), (.var 1)]))] []), (.own 4 (.lst [])), (.asg (.nm 1) (.bin .add (.var 1) (.cst (.int 1)))), (.whl (.bor (.cmp .eq (.var 4) (.lst [])) (.cmp .eq (.slc (.var 0) [(.var 1)] [(.bin .add (.var 1) (.cst (.int 1)))]) (.cst (.str " ")))) [(.asg (.nm 1) (.bin .add (.var 1) (.blt .int [(.cmp .ne (.var 4) (.lst []))]))), (.asg (.tp [(.nm 5), (.nm 1)]) (.call 170 [(.var 0), (.var 1)])), (.ifS (.cmp .ne (.slc (.var 0) [(.var 1)] [(.bin .add (.var 1) (.cst (.int 1)))]) (.cst (.str ":"))) [(.raise 6)] []), (.asg (.tp [(.nm 6), (.nm 1)]) (.call 171 [(.var 0), (.bin .add (.var 1) (.cst (.int 1))), (.bin .sub (.var 2) (.cst (.int 1)))])), (.app 4 (.tup [(.var 5), (.var 6)]))]), (.ifS (.cmp .ne (.slc (.var 0) [(.var 1)] [(.bin .add (.var 1) (.cst (.int 1)))]) (.cst (.str ")"))) [(.raise 6)] []), (.share [4]), (.ret (.tup [(.tup [(.var 3), (.blt .tuple [(.var 4)])]), (.bin .add (.var 1) (.cst (.int 1)))]))]⟩
def I_read_game : Nat := 172
def D_read_game : Def := ⟨1, 3, [(.asg (.tp [(.nm 1), (.nm 2)]) (.call 171 [(.var 0), (.cst (.int 0)), (.cst (.int 4))])), (.ifS (.bor (.cmp .ne (.var 2) (.len (.var 0))) (.bor (.not (.call 2 [(.var 1)])) (.cmp .ne (.call 168 [(.var 1)]) (.var 0)))) [(.raise 6)] []), (.ret (.var 1))]⟩
def I__law_spoilt : Nat := 173
def D__law_spoilt : Def := ⟨3, 7, [(.asg (.nm 3) (.bin .mod (.var 1) (.bin .add (.len (.var 0)) (.cst (.int 1))))), (.asg (.nm 4) (.idx (.var 2) (.bin .mod (.bin .fdiv (.var 1) (.cst (.int 1000))) (.len (.var 2))))), (.asg (.nm 5) (.bin .add (.bin .add (.var 3) (.cst (.int 1))) (.bin .mod (.bin .fdiv (.var 1) (.cst (.int 7))) (.cst (.int 9))))), (.asg (.nm 6) (.bin .mod (.bin .fdiv (.var 1) (.cst (.int 100000))) (.cst (.int 8)))), (.ifS (.cmp .lt (.var 6) (.cst (.int 2))) [(.ret (.bin .add (.bin .add (.slc (.var 0) [] [(.var 3)]) (.var 4)) (.slc (.var 0) [(.var 3)] [])))] []), (.ifS (.cmp .eq (.var 6) (.cst (.int 2))) [(.ret (.bin .add (.slc (.var 0) [] [(.var 3)]) (.slc (.var 0) [(.bin .add (.var 3) (.cst (.int 1)))] [])))] []), (.ifS (.cmp .lt (.var 6) (.cst (.int 5))) [(.ret (.bin .add (.bin .add (.slc (.var 0) [] [(.var 3)]) (.var 4)) (.slc (.var 0) [(.bin .add (.var 3) (.cst (.int 1)))] [])))] []), (.ifS (.cmp .eq (.var 6) (.cst (.int 5))) [(.ret (.bin .add (.slc (.var 0) [] [(.var 3)]) (.slc (.var 0) [(.var 5)] [])))] []), (.ifS (.cmp .eq (.var 6) (.cst (.int 6))) [(.ret (.bin .add (.slc (.var 0) [] [(.var 5)]) (.slc (.var 0) [(.var 3)] [])))] []), (.ret (.idx (.lst [(.bin .add (.var 0) (.cst (.str " "))), (.bin .add (.cst (.str " ")) (.var 0)), (.bin .add (.slc (.var 0) [(.var 3)] []) (.slc (.var 0) [] [(.var 3)])), (.cst (.str "")), (.bin .add (.var 0) (.var 0))]) (.bin .mod (.var 1) (.cst (.int 5)))))]⟩
def I__law_text : Nat := 175
def D__law_text : Def := ⟨1, 5, [(.asg (.nm 1) (.blt .str [(.idx (.var 0) (.cst (.int 0)))])), (.ifS (.cmp .eq (.len (.var 0)) (.cst (.int 2))) [(.asg (.nm 1) (.bin .add (.var 1) (.cst (.str "(")))), (.forS (.tp [(.nm 2), (.tp [(.nm 3), (.nm 4)])]) .enum [(.idx (.var 0) (.cst (.int 1)))] [(.asg (.nm 1) (.bin .add (.bin .add (.bin .add (.bin .add (.var 1) (.ite (.cmp .gt (.var 2) (.cst (.int 0))) (.cst (.str " ")) (.cst (.str "")))) (.blt .str [(.var 3)])) (.cst (.str ":"))) (.call 175 [(.var 4)])))]), (.asg (.nm 1) (.bin .add (.var 1) (.cst (.str ")"))))] []), (.ret (.var 1))]⟩
def I__law_pick_v2 : Nat := 177
def D__law_pick_v2 : Def := ⟨3, 4, [(.asg (.nm 3) (.bin .mod (.bin .mul (.bin .add (.call 7 [(.var 0), (.var 1)]) (.bin .mul (.cst (.int 6151)) (.bin .add (.var 1) (.cst (.int 1))))) (.cst (.int 40692))) (.cst (.int 2147483399)))), (.ret (.bin .mod (.bin .mod (.bin .add (.bin .mul (.var 3) (.var 3)) (.bin .fdiv (.var 3) (.cst (.int 31)))) (.cst (.int 2147483629))) (.var 2)))]⟩
def I__law_lists : Nat := 182
def D__law_lists : Def := ⟨2, 3, [(.asg (.nm 2) (.lst [(.call 6 [(.var 0)]), (.call 34 [(.var 0)]), (.call 59 [(.var 0)]), (.call 61 [(.var 0)]), (.call 105 [(.var 0)]), (.call 106 [(.var 0)]), (.call 113 [(.var 0)])])), (.ret (.bin .add (.var 2) (.lst [(.call 125 [(.var 0), (.var 1)])])))]⟩
def I_looked : Nat := 184
def D_looked : Def := ⟨1, 1, [(.expr (.call 3 [(.var 0)])), (.ret (.var 0))]⟩
def I_with_part : Nat := 185
def D_with_part : Def := ⟨3, 3, [(.expr (.call 3 [(.var 0)])), (.expr (.call 3 [(.var 2)])), (.expr (.call 30 [(.var 0), (.var 1)])), (.ret (.call 184 [(.call 80 [(.var 0), (.var 1), (.var 2)])]))]⟩
def I_with_worth : Nat := 186
def D_with_worth : Def := ⟨3, 3, [(.expr (.call 3 [(.var 0)])), (.expr (.call 30 [(.var 0), (.var 1)])), (.ret (.call 184 [(.call 80 [(.var 0), (.var 1), (.bin .add (.tup [(.var 2)]) (.slc (.call 28 [(.var 0), (.var 1)]) [(.cst (.int 1))] []))])]))]⟩
def I_raised : Nat := 188
def D_raised : Def := ⟨2, 4, [(.ifS (.cmp .eq (.len (.var 0)) (.cst (.int 1))) [(.ret (.tup [(.bin .add (.idx (.var 0) (.cst (.int 0))) (.var 1))]))] []), (.ret (.tup [(.bin .add (.idx (.var 0) (.cst (.int 0))) (.var 1)), (.blt .tuple [(.comp (.tup [(.var 2), (.call 188 [(.var 3), (.var 1)])]) (.tp [(.nm 2), (.nm 3)]) .seq [(.idx (.var 0) (.cst (.int 1)))] [] [2, 3])])]))]⟩
def I_lifted : Nat := 189
def D_lifted : Def := ⟨2, 2, [(.expr (.call 3 [(.var 0)])), (.ret (.call 184 [(.call 188 [(.var 0), (.var 1)])]))]⟩
def I_variance : Nat := 193
def D_variance : Def := ⟨2, 6, [(.expr (.call 3 [(.var 0)])), (.expr (.call 48 [(.var 0), (.var 1)])), (.asg (.nm 2) (.call 49 [(.var 0), (.var 1)])), (.asg (.nm 3) (.call 44 [(.comp (.call 26 [(.tup [(.bin .mul (.var 4) (.var 4)), (.cst (.int 1))]), (.var 5)]) (.tp [(.nm 4), (.nm 5)]) .seq [(.call 88 [(.var 0), (.var 1)])] [] [4, 5])])), (.ret (.call 41 [(.var 3), (.call 26 [(.var 2), (.var 2)])]))]⟩
def I_how_long : Nat := 194
def D_how_long : Def := ⟨2, 3, [(.expr (.call 3 [(.var 0)])), (.expr (.call 48 [(.var 0), (.var 1)])), (.ret (.call 44 [(.comp (.call 26 [(.tup [(.len (.var 2)), (.cst (.int 1))]), (.call 36 [(.var 0), (.var 2)])]) (.nm 2) .seq [(.var 1)] [] [2])]))]⟩
def I_likeliest : Nat := 196
def D_likeliest : Def := ⟨1, 4, [(.expr (.call 3 [(.var 0)])), (.asg (.nm 1) (.cst .non)), (.forS (.nm 2) .seq [(.call 33 [(.var 0)])] [(.asg (.nm 3) (.call 36 [(.var 0), (.var 2)])), (.ifS (.bor (.cmp .is (.var 1) (.cst .non)) (.cmp .lt (.bin .mul (.idx (.idx (.var 1) (.cst (.int 0))) (.cst (.int 0))) (.idx (.var 3) (.cst (.int 1)))) (.bin .mul (.idx (.var 3) (.cst (.int 0))) (.idx (.idx (.var 1) (.cst (.int 0))) (.cst (.int 1)))))) [(.asg (.nm 1) (.tup [(.var 3), (.var 2)]))] [])]), (.ret (.idx (.var 1) (.cst (.int 1))))]⟩
def I_chance_above : Nat := 197
def D_chance_above : Def := ⟨3, 8, [(.expr (.call 3 [(.var 0)])), (.expr (.call 48 [(.var 0), (.var 1)])), (.expr (.call 48 [(.var 0), (.var 2)])), (.own 3 (.lst [])), (.forS (.nm 4) .seq [(.call 33 [(.var 0)])] [(.asg (.nm 5) (.idx (.comp (.var 6) (.nm 6) .seq [(.var 1)] [(.cmp .eq (.slc (.var 4) [] [(.len (.var 6))]) (.var 6))] [6]) (.cst (.int 0)))), (.asg (.nm 7) (.idx (.comp (.var 6) (.nm 6) .seq [(.var 2)] [(.cmp .eq (.slc (.var 4) [] [(.len (.var 6))]) (.var 6))] [6]) (.cst (.int 0)))), (.ifS (.cmp .gt (.idx (.call 28 [(.var 0), (.var 5)]) (.cst (.int 0))) (.idx (.call 28 [(.var 0), (.var 7)]) (.cst (.int 0)))) [(.app 3 (.call 36 [(.var 0), (.var 4)]))] [])]), (.share [3]), (.ret (.call 44 [(.var 3)]))]⟩
def I__law_deed : Nat := 202
def D__law_deed : Def := ⟨3, 4, [(.asg (.nm 3) (.call 8 [(.var 0), (.var 1), (.cst (.int 5))])), (.ifS (.cmp .lt (.var 3) (.cst (.int 2))) [(.ret (.tup [(.cst (.str "bet")), (.bin .sub (.call 8 [(.var 0), (.bin .add (.var 1) (.cst (.int 1))), (.cst (.int 13))]) (.cst (.int 6)))]))] []), (.ret (.tup [(.cst (.str "go")), (.call 8 [(.var 0), (.bin .add (.var 1) (.cst (.int 1))), (.ite (.cmp .eq (.len (.var 2)) (.cst (.int 2))) (.bin .add (.len (.idx (.var 2) (.cst (.int 1)))) (.blt .int [(.cmp .eq (.var 3) (.cst (.int 4)))])) (.cst (.int 2)))])]))]⟩
def I__law_behind : Nat := 203
def D__law_behind : Def := ⟨3, 8, [(.asg (.tp [(.nm 3), (.nm 4), (.nm 5)]) (.var 1)), (.ifS (.cmp .eq (.idx (.var 2) (.cst (.int 0))) (.cst (.str "bet"))) [(.ret (.tup [(.tup [(.var 3), (.idx (.var 2) (.cst (.int 1))), (.var 5)]), (.var 4)]))] []), (.asg (.nm 6) (.call 204 [(.var 0), (.var 3)])), (.ifS (.bor (.cmp .eq (.len (.var 6)) (.cst (.int 1))) (.cmp .ge (.idx (.var 2) (.cst (.int 1))) (.len (.idx (.var 6) (.cst (.int 1)))))) [(.ret (.tup [(.var 1), (.cst (.str "no path"))]))] []), (.asg (.nm 7) (.bin .mul (.var 4) (.bin .sub (.idx (.idx (.idx (.idx (.var 6) (.cst (.int 1))) (.idx (.var 2) (.cst (.int 1)))) (.cst (.int 1))) (.cst (.int 0))) (.idx (.var 6) (.cst (.int 0)))))), (.ret (.tup [(.tup [(.bin .add (.var 3) (.tup [(.idx (.var 2) (.cst (.int 1)))])), (.var 4), (.bin .add (.var 5) (.var 7))]), (.var 7)]))]⟩
def I__law_there : Nat := 204
def D__law_there : Def := ⟨2, 3, [(.forS (.nm 2) .seq [(.var 1)] [(.asg (.nm 0) (.idx (.idx (.idx (.var 0) (.cst (.int 1))) (.var 2)) (.cst (.int 1))))]), (.ret (.var 0))]⟩
def I__law_spoilt_v2 : Nat := 215
def D__law_spoilt_v2 : Def := ⟨3, 7, [(.asg (.nm 3) (.bin .mod (.var 1) (.bin .add (.len (.var 0)) (.cst (.int 1))))), (.asg (.nm 4) (.idx (.var 2) (.bin .mod (.bin .fdiv (.var 1) (.cst (.int 1000))) (.len (.var 2))))), (.asg (.nm 5) (.bin .add (.bin .add (.var 3) (.cst (.int 1))) (.bin .mod (.bin .fdiv (.var 1) (.cst (.int 7))) (.cst (.int 9))))), (.asg (.nm 6) (.bin .mod (.bin .fdiv (.var 1) (.cst (.int 100000))) (.cst (.int 8)))), (.ifS (.cmp .lt (.var 6) (.cst (.int 2))) [(.ret (.bin .add (.bin .add (.slc (.var 0) [] [(.var 3)]) (.var 4)) (.slc (.var 0) [(.var 3)] [])))] []), (.ifS (.cmp .eq (.var 6) (.cst (.int 2))) [(.ret (.bin .add (.slc (.var 0) [] [(.var 3)]) (.slc (.var 0) [(.bin .add (.var 3) (.cst (.int 1)))] [])))] []), (.ifS (.cmp .lt (.var 6) (.cst (.int 5))) [(.ret (.bin .add (.bin .add (.slc (.var 0) [] [(.var 3)]) (.var 4)) (.slc (.var 0) [(.bin .add (.var 3) (.cst (.int 1)))] [])))] []), (.ifS (.cmp .eq (.var 6) (.cst (.int 5))) [(.ret (.bin .add (.slc (.var 0) [] [(.var 3)]) (.slc (.var 0) [(.var 5)] [])))] []), (.ifS (.cmp .eq (.var 6) (.cst (.int 6))) [(.ret (.bin .add (.slc (.var 0) [] [(.var 5)]) (.slc (.var 0) [(.var 3)] [])))] []), (.ret (.idx (.lst [(.bin .add (.var 0) (.cst (.str " "))), (.bin .add (.cst (.str " ")) (.var 0)), (.bin .add (.slc (.var 0) [(.var 3)] []) (.slc (.var 0) [] [(.var 3)])), (.cst (.str "")), (.bin .add (.var 0) (.var 0))]) (.bin .mod (.var 1) (.cst (.int 5)))))]⟩
def I__law_both_v2 : Nat := 223
def D__law_both_v2 : Def := ⟨3, 4, [(.asg (.nm 3) (.bin .add (.idx (.var 0) (.cst (.int 0))) (.idx (.var 0) (.cst (.int 1))))), (.ret (.call 14 [(.lst [(.call 15 [(.tup [(.idx (.var 0) (.cst (.int 0))), (.var 3)]), (.var 1)]), (.call 15 [(.tup [(.idx (.var 0) (.cst (.int 1))), (.var 3)]), (.var 2)])])]))]⟩
end Fz

/-! the evaluator's equations, for simp -/
namespace Fz
open PySem
section
variable {α β : Type} {F : Fns} {env : Cells} {a b d t : E} {e : E} {es : List E} {i n : Nat}
@[simp] theorem bind_ok_ (x : α) (k : α → Res β) : (Res.ok x).bind k = k x := rfl
@[simp] theorem bind_ex_ (c : Nat) (k : α → Res β) : (Res.ex c : Res α).bind k = .ex c := rfl
@[simp] theorem bind_no_ (k : α → Res β) : (Res.no : Res α).bind k = .no := rfl
@[simp] theorem noex_ok_ (x : α) : (Res.ok x).noex = .ok x := rfl
@[simp] theorem flOf_ok_ (x : α) (k : α → Fl) : flOf (.ok x) env k = k x := rfl
@[simp] theorem flOf_ex_ (c : Nat) (k : α → Fl) : flOf (.ex c : Res α) env k = .ex c env := rfl
@[simp] theorem flOf_no_ (k : α → Fl) : flOf (.no : Res α) env k = .no := rfl
@[simp] theorem finF_nx_ : finF (.nx env) = .ok .non := rfl
@[simp] theorem finF_rt_ (t : T) : finF (.rt t) = .ok t := rfl
@[simp] theorem finF_ex_ (c : Nat) : finF (.ex c env) = .ex c := rfl
@[simp] theorem finF_no_ : finF .no = .no := rfl
@[simp] theorem ev_var_ : ev F (.var i) env = rd env i := by rw [ev]
@[simp] theorem ev_cst_ (t : T) : ev F (.cst t) env = .ok t := by rw [ev]
@[simp] theorem ev_bin_ (op : Bop) : ev F (.bin op a b) env = (ev F a env).bind fun x => (ev F b env).bind fun y => binop op x y := by rw [ev]
@[simp] theorem ev_neg_ : ev F (.neg a) env = (ev F a env).bind negT := by rw [ev]
@[simp] theorem ev_cmp_ (op : Cop) : ev F (.cmp op a b) env = (rdB env a (ev F a env)).bind fun x => (rdB env b (ev F b env)).bind fun y => cmpT op x y := by rw [ev]
@[simp] theorem ev_chain_ (o1 o2 : Cop) : ev F (.chain o1 o2 a b d) env = (ev F a env).bind fun x => (ev F b env).bind fun y => (cmpT o1 x y).bind fun z =>
      (match z with | .bl true => (ev F d env).bind fun u => cmpT o2 y u | .bl false => .ok (.bl false) | _ => .no) := by rw [ev] <;> rfl
@[simp] theorem ev_band_ : ev F (.band a b) env = (ev F a env).bind fun x => (truT x).bind fun k => if k then ev F b env else .ok x := by rw [ev]
@[simp] theorem ev_bor_ : ev F (.bor a b) env = (ev F a env).bind fun x => (truT x).bind fun k => if k then .ok x else ev F b env := by rw [ev]
@[simp] theorem ev_not_ : ev F (.not a) env = (rdB env a (ev F a env)).bind fun x => (truT x).bind fun k => .ok (.bl (!k)) := by rw [ev]
@[simp] theorem ev_ite_ : ev F (.ite t a b) env = (ev F t env).bind fun x => (truT x).bind fun k => if k then ev F a env else ev F b env := by rw [ev]
@[simp] theorem ev_tup_ : ev F (.tup es) env = (evs F es env).bind fun ts => .ok (.tup ts) := by rw [ev]
@[simp] theorem ev_lst_ : ev F (.lst es) env = (evs F es env).bind fun ts => .ok (.lst ts) := by rw [ev]
@[simp] theorem ev_len_ : ev F (.len a) env = (rdB env a (ev F a env)).bind lenT := by rw [ev]
@[simp] theorem ev_idx_ : ev F (.idx a b) env = (ev F a env).bind fun x => (ev F b env).bind fun y => idxT x y := by rw [ev]
@[simp] theorem ev_slc_ (lo hi : List E) : ev F (.slc a lo hi) env = (ev F a env).bind fun x => (evs F lo env).bind fun l => (partT l).bind fun lo' => (evs F hi env).bind fun h => (partT h).bind fun hi' => slcT x lo' hi' := by rw [ev]
@[simp] theorem ev_rev_ : ev F (.rev a) env = (ev F a env).bind revT := by rw [ev]
@[simp] theorem ev_call_ (f : Nat) : ev F (.call f es) env = (evs F es env).bind fun ts => F f ts := by rw [ev]
@[simp] theorem ev_blt_ (b : Blt) : ev F (.blt b es) env = (evs F es env).bind fun ts => bltT b ts := by rw [ev]
@[simp] theorem evs_nil_ : evs F [] env = .ok [] := by rw [evs]
@[simp] theorem evs_cons_ : evs F (e :: es) env = (ev F e env).bind fun t => (evs F es env).bind fun ts => .ok (t :: ts) := by rw [evs]
/-- one turn of a comprehension -/
def turn1 (F : Fns) (elt : E) (tg : Tg) (cond : List E) (own : List Nat) (env : Cells) (x : T) : Res (Option T) :=
  match asgT tg x (wipeC env own) with
  | some env' => (evs F cond env').noex.bind fun cs => (match cs with
    | [] => (ev F elt env').noex.bind fun t => .ok (some t)
    | [b] => (truT b).bind fun k => if k then (ev F elt env').noex.bind fun t => .ok (some t) else .ok none
    | _ => .no)
  | none => .no
@[simp] theorem ev_comp_ (tg : Tg) (ik : IK) (its cond : List E) (own : List Nat) : ev F (.comp e tg ik its cond own) env = (evs F its env).bind fun as => (itemsT ik as).bind fun xs => (compL (turn1 F e tg cond own env) xs).bind fun ts => .ok (.lst ts) := by
  rw [ev] <;> rfl
@[simp] theorem exec_asg_ (tg : Tg) : exec F (.asg tg e) env = flOf (ev F e env) env fun t => (match asgT tg t env with | some env' => .nx env' | none => .no) := by rw [exec] <;> rfl
@[simp] theorem exec_own_ : exec F (.own i e) env = flOf (ev F e env) env fun t => .nx (env.set i (.ow t)) := by rw [exec]
@[simp] theorem exec_par_ (is : List Nat) : exec F (.par is es) env = flOf (evs F es env) env fun ts => .nx (setAll env is ts) := by rw [exec]
@[simp] theorem exec_share_ (is : List Nat) : exec F (.share is) env = .nx (shareC env is) := by rw [exec]
@[simp] theorem exec_app_ : exec F (.app i e) env = (match env[i]? with
      | some (.ow (.lst xs)) => flOf (ev F e env) env fun t => if xs.length < SZ then .nx (env.set i (.ow (.lst (xs ++ [t])))) else .no
      | _ => .no) := by rw [exec] <;> rfl
@[simp] theorem exec_ext_ : exec F (.ext i e) env = (match env[i]? with
      | some (.ow (.lst xs)) => flOf (ev F e env) env fun t => (match t with
        | .lst ys => if xs.length + ys.length ≤ SZ then .nx (env.set i (.ow (.lst (xs ++ ys)))) else .no
        | _ => .no)
      | _ => .no) := by rw [exec] <;> rfl
@[simp] theorem exec_setI_ : exec F (.setI i a e) env = flOf (ev F e env) env fun t => (match env[i]? with
      | some (.ow (.lst xs)) => flOf (ev F a env) env fun j => (match j with
        | .int n => if 0 ≤ n ∧ n < xs.length then .nx (env.set i (.ow (.lst (xs.set n.toNat t)))) else .no
        | _ => .no)
      | _ => .no) := by rw [exec] <;> rfl
@[simp] theorem exec_expr_ : exec F (.expr e) env = flOf (ev F e env) env fun _ => .nx env := by rw [exec]
@[simp] theorem exec_ifS_ (x y : List S) : exec F (.ifS t x y) env = flOf ((ev F t env).bind truT) env fun k => if k then execs F x env else execs F y env := by rw [exec]
@[simp] theorem exec_whl_ (x : List S) : exec F (.whl t x) env = whileF (fun env => (ev F t env).bind truT) (execs F x) FUEL env := by rw [exec]
/-- one turn of a for -/
def forB (F : Fns) (tg : Tg) (ss : List S) (env : Cells) (x : T) : Fl := match asgT tg x env with | some env' => execs F ss env' | none => .no
@[simp] theorem forB_ (tg : Tg) (ss : List S) (x : T) : forB F tg ss env x = (match asgT tg x env with | some env' => execs F ss env' | none => .no) := rfl
@[simp] theorem exec_forS_ (tg : Tg) (ik : IK) (x : List S) : exec F (.forS tg ik es x) env = flOf ((evs F es env).bind fun as => itemsT ik as) env fun xs => forF (forB F tg x) xs env := by rw [exec] <;> rfl
@[simp] theorem exec_ret_ : exec F (.ret e) env = flOf (ev F e env) env fun t => .rt t := by rw [exec]
@[simp] theorem exec_retN_ : exec F .retN env = .rt .non := by rw [exec]
@[simp] theorem exec_raise_ (c : Nat) : exec F (.raise c) env = .ex c env := by rw [exec]
@[simp] theorem exec_pass_ : exec F .pass env = .nx env := by rw [exec]
@[simp] theorem execs_nil_ : execs F [] env = .nx env := by rw [execs]
@[simp] theorem execs_cons_ (s : S) (ss : List S) : execs F (s :: ss) env = (match exec F s env with | .nx env' => execs F ss env' | r => r) := by rw [execs] <;> rfl
@[simp] theorem rd_ : rd env i = (match env[i]? with | some (.sh t) => .ok t | _ => .no) := rfl
@[simp] theorem rdAny_ : rdAny env i = (match env[i]? with | some (.sh t) => .ok t | some (.ow t) => .ok t | _ => .no) := rfl
@[simp] theorem rdB_var_ (r : Res T) : rdB env (.var i) r = rdAny env i := rfl
@[simp] theorem rdB_cst_ (t : T) (r : Res T) : rdB env (.cst t) r = r := rfl
@[simp] theorem rdB_bin_ (op : Bop) (r : Res T) : rdB env (.bin op a b) r = r := rfl
@[simp] theorem rdB_neg_ (r : Res T) : rdB env (.neg a) r = r := rfl
@[simp] theorem rdB_cmp_ (op : Cop) (r : Res T) : rdB env (.cmp op a b) r = r := rfl
@[simp] theorem rdB_not_ (r : Res T) : rdB env (.not a) r = r := rfl
@[simp] theorem rdB_ite_ (r : Res T) : rdB env (.ite t a b) r = r := rfl
@[simp] theorem rdB_tup_ (r : Res T) : rdB env (.tup es) r = r := rfl
@[simp] theorem rdB_lst_ (r : Res T) : rdB env (.lst es) r = r := rfl
@[simp] theorem rdB_len_ (r : Res T) : rdB env (.len a) r = r := rfl
@[simp] theorem rdB_idx_ (r : Res T) : rdB env (.idx a b) r = r := rfl
@[simp] theorem rdB_slc_ (l h : List E) (r : Res T) : rdB env (.slc a l h) r = r := rfl
@[simp] theorem rdB_rev_ (r : Res T) : rdB env (.rev a) r = r := rfl
@[simp] theorem rdB_call_ (f : Nat) (r : Res T) : rdB env (.call f es) r = r := rfl
@[simp] theorem rdB_blt_ (b : Blt) (r : Res T) : rdB env (.blt b es) r = r := rfl
@[simp] theorem rdB_band_ (r : Res T) : rdB env (.band a b) r = r := rfl
@[simp] theorem rdB_bor_ (r : Res T) : rdB env (.bor a b) r = r := rfl
@[simp] theorem rdB_chain_ (o1 o2 : Cop) (r : Res T) : rdB env (.chain o1 o2 a b d) r = r := rfl
@[simp] theorem rdB_comp_ (tg : Tg) (ik : IK) (its cond : List E) (own : List Nat) (r : Res T) : rdB env (.comp e tg ik its cond own) r = r := rfl
end
section
variable {env : Cells} {x y : T} {xs ys : List T} {i j : Int}
@[simp] theorem add_ii_ : binop .add (.int i) (.int j) = .ok (.int (i + j)) := rfl
@[simp] theorem sub_ii_ : binop .sub (.int i) (.int j) = .ok (.int (i - j)) := rfl
@[simp] theorem mul_ii_ : binop .mul (.int i) (.int j) = if mulOk i j then .ok (.int (i * j)) else .no := rfl
@[simp] theorem fdiv_ii_ : binop .fdiv (.int i) (.int j) = if divOk j then .ok (.int (i.fdiv j)) else .no := rfl
@[simp] theorem mod_ii_ : binop .mod (.int i) (.int j) = if j = 0 then .no else .ok (.int (i.fmod j)) := rfl
@[simp] theorem add_tt_ : binop .add (.tup xs) (.tup ys) = if xs.length + ys.length ≤ SZ then .ok (.tup (xs ++ ys)) else .no := rfl
@[simp] theorem add_ll_ : binop .add (.lst xs) (.lst ys) = if xs.length + ys.length ≤ SZ then .ok (.lst (xs ++ ys)) else .no := rfl
@[simp] theorem add_ss_ (a b : Str) : binop .add (.str a) (.str b) = if a.length + b.length ≤ SZ then .ok (.str (a ++ b)) else .no := rfl
@[simp] theorem neg_i_ : negT (.int i) = .ok (.int (-i)) := rfl
@[simp] theorem cmp_eq_ : cmpT .eq x y = if x.plain 60 && y.plain 60 then .ok (.bl (T.eqv x y)) else .no := by rw [cmpT]
@[simp] theorem cmp_ne_ : cmpT .ne x y = if x.plain 60 && y.plain 60 then .ok (.bl (!T.eqv x y)) else .no := by rw [cmpT]
@[simp] theorem cmp_lt_ : cmpT .lt (.int i) (.int j) = .ok (.bl (decide (i < j))) := rfl
@[simp] theorem cmp_le_ : cmpT .le (.int i) (.int j) = .ok (.bl (decide (i ≤ j))) := rfl
@[simp] theorem cmp_gt_ : cmpT .gt (.int i) (.int j) = .ok (.bl (decide (j < i))) := rfl
@[simp] theorem cmp_ge_ : cmpT .ge (.int i) (.int j) = .ok (.bl (decide (j ≤ i))) := rfl
@[simp] theorem cmp_is_ : cmpT .is x y = (isSame x y).bind fun k => .ok (.bl k) := by rw [cmpT]
@[simp] theorem cmp_isNot_ : cmpT .isNot x y = (isSame x y).bind fun k => .ok (.bl (!k)) := by rw [cmpT]
@[simp] theorem tru_non_ : truT .non = .ok false := rfl
@[simp] theorem tru_bl_ (b : Bool) : truT (.bl b) = .ok b := rfl
@[simp] theorem tru_int_ : truT (.int i) = .ok (i != 0) := rfl
@[simp] theorem tru_tup_ : truT (.tup xs) = .ok (!xs.isEmpty) := rfl
@[simp] theorem tru_lst_ : truT (.lst xs) = .ok (!xs.isEmpty) := rfl
@[simp] theorem asg_nm_ (k : Nat) : asgT (.nm k) x env = some (env.set k (.sh x)) := by rw [asgT]
@[simp] theorem asg_tp_ (l : List Tg) : asgT (.tp l) x env = (match seqOf x with | some xs => asgTs l xs env | none => none) := by rw [asgT] <;> rfl
@[simp] theorem asgs_nil_ : asgTs [] [] env = some env := by rw [asgTs]
@[simp] theorem asgs_cons_ (g : Tg) (gs : List Tg) : asgTs (g :: gs) (x :: xs) env = (match asgT g x env with | some env' => asgTs gs xs env' | none => none) := by rw [asgTs] <;> rfl
@[simp] theorem seq_lst_ : seqOf (.lst xs) = some xs := rfl
@[simp] theorem seq_tup_ : seqOf (.tup xs) = some xs := rfl
@[simp] theorem setAll_nil_ (ts : List T) : setAll env [] ts = env := by cases ts <;> rfl
@[simp] theorem setAll_cons_ (k : Nat) (is : List Nat) (ts : List T) : setAll env (k :: is) (x :: ts) = setAll (env.set k (.sh x)) is ts := rfl
@[simp] theorem len_l_ : lenT (.lst xs) = .ok (.int xs.length) := rfl
@[simp] theorem len_t_ : lenT (.tup xs) = .ok (.int xs.length) := rfl
@[simp] theorem idx_l_ : idxT (.lst xs) (.int i) = atT xs i := rfl
@[simp] theorem idx_t_ : idxT (.tup xs) (.int i) = atT xs i := rfl
@[simp] theorem eqv_ii_ : T.eqv (.int i) (.int j) = (i == j) := by rw [T.eqv]
@[simp] theorem eqv_bb_ (a b : Bool) : T.eqv (.bl a) (.bl b) = (a == b) := by rw [T.eqv]
@[simp] theorem eqv_tt_ : T.eqv (.tup xs) (.tup ys) = T.eqvs xs ys := by rw [T.eqv]
@[simp] theorem eqv_ll_ : T.eqv (.lst xs) (.lst ys) = T.eqvs xs ys := by rw [T.eqv]
@[simp] theorem eqv_lt_ : T.eqv (.lst xs) (.tup ys) = false := by simp [T.eqv]
@[simp] theorem eqv_tl_ : T.eqv (.tup xs) (.lst ys) = false := by simp [T.eqv]
@[simp] theorem eqvs_nil_ : T.eqvs [] [] = true := by rw [T.eqvs]
@[simp] theorem eqvs_cons_ : T.eqvs (x :: xs) (y :: ys) = (T.eqv x y && T.eqvs xs ys) := by rw [T.eqvs]
@[simp] theorem eqvs_nc_ : T.eqvs [] (y :: ys) = false := by simp [T.eqvs]
@[simp] theorem eqvs_cn_ : T.eqvs (x :: xs) [] = false := by simp [T.eqvs]
@[simp] theorem plain_int_ (n : Nat) : T.plain (.int i) n = true := by simp [T.plain]
@[simp] theorem plain_bl_ (b : Bool) (n : Nat) : T.plain (.bl b) n = true := by simp [T.plain]
@[simp] theorem plain_non_ (n : Nat) : T.plain .non n = true := by simp [T.plain]
@[simp] theorem plain_tup_ (n : Nat) : T.plain (.tup xs) (n + 1) = T.plains xs n := by simp [T.plain]
@[simp] theorem plain_lst_ (n : Nat) : T.plain (.lst xs) (n + 1) = T.plains xs n := by simp [T.plain]
@[simp] theorem plains_nil_ (n : Nat) : T.plains [] n = true := by simp [T.plains]
@[simp] theorem plains_cons_ (n : Nat) : T.plains (x :: xs) n = (x.plain n && T.plains xs n) := by simp [T.plains]
@[simp] theorem blt_abs_ : bltT .abs [.int i] = .ok (.int (if i < 0 then -i else i)) := rfl
@[simp] theorem blt_max2_ : bltT .max2 [.int i, .int j] = .ok (.int (if j > i then j else i)) := rfl
@[simp] theorem blt_min2_ : bltT .min2 [.int i, .int j] = .ok (.int (if j < i then j else i)) := rfl
@[simp] theorem blt_list_l_ : bltT .list [.lst xs] = .ok (.lst xs) := rfl
@[simp] theorem blt_list_t_ : bltT .list [.tup xs] = .ok (.lst xs) := rfl
@[simp] theorem blt_tuple_l_ : bltT .tuple [.lst xs] = .ok (.tup xs) := rfl
@[simp] theorem blt_tuple_t_ : bltT .tuple [.tup xs] = .ok (.tup xs) := rfl
@[simp] theorem items_lst_ : itemsT .seq [.lst xs] = .ok xs := rfl
@[simp] theorem items_tup_ : itemsT .seq [.tup xs] = .ok xs := rfl
@[simp] theorem items_enum_l_ : itemsT .enum [.lst xs] = .ok (enumT 0 xs) := rfl
@[simp] theorem items_enum_t_ : itemsT .enum [.tup xs] = .ok (enumT 0 xs) := rfl
@[simp] theorem items_zip_ll_ : itemsT .zip [.lst xs, .lst ys] = .ok (zipT xs ys) := rfl
@[simp] theorem items_zip_lt_ : itemsT .zip [.lst xs, .tup ys] = .ok (zipT xs ys) := rfl
@[simp] theorem items_zip_tl_ : itemsT .zip [.tup xs, .lst ys] = .ok (zipT xs ys) := rfl
@[simp] theorem items_zip_tt_ : itemsT .zip [.tup xs, .tup ys] = .ok (zipT xs ys) := rfl
@[simp] theorem at_0_ : atT (x :: xs) 0 = .ok x := by simp [atT]
@[simp] theorem at_1_ : atT (y :: x :: xs) 1 = .ok x := by
  unfold atT
  rw [if_pos (by decide), if_pos (by simp only [List.length_cons]; omega)]
  rfl
@[simp] theorem at_2_ (z : T) : atT (y :: z :: x :: xs) 2 = .ok x := by
  unfold atT
  rw [if_pos (by decide), if_pos (by simp only [List.length_cons]; omega)]
  rfl
@[simp] theorem startC_ (d : Def) : startC d xs = xs.map .sh ++ List.replicate (d.nl - xs.length) .un := rfl
end
end Fz

/-! fractions: what the defs of fractions compute, as rationals -/
namespace Fz
open PySem

theorem call_at {ds : List (Nat × Def)} {n f : Nat} {d : Def} {args : List T} (h : ds.lookup f = some d) (hl : args.length = d.np) : callF ds (n + 1) f args = finF (execs (callF ds n) d.body (startC d args)) := by
  rw [callF, h]
  simp only [hl, if_true]
/-- Euclid's way, wherever it stands -/
theorem gcd_fmod (x y : Int) : Int.gcd y (x.fmod y) = Int.gcd x y := by
  rw [Int.fmod_def, Int.gcd_sub_mul_left_right, Int.gcd_comm]
theorem fmod_abs (x : Int) {y : Int} (h : y ≠ 0) : (x.fmod y).natAbs < y.natAbs ∧ (0 < y → 0 ≤ x.fmod y) ∧ (y < 0 → x.fmod y ≤ 0) := by
  rcases Int.lt_or_gt_of_ne h with h | h
  · have e : x.fmod y = -((-x).fmod (-y)) := by rw [← Int.neg_fmod_neg, Int.neg_neg, Int.neg_neg]
    have h1 := Int.fmod_nonneg_of_pos (-x) (b := -y) (by omega)
    have h2 := Int.fmod_lt_of_pos (-x) (b := -y) (by omega)
    omega
  · have h1 := Int.fmod_nonneg_of_pos x h
    have h2 := Int.fmod_lt_of_pos x h
    omega
theorem fmod_half (y : Int) {r : Int} (h0 : r ≠ 0) (hr : r.natAbs < y.natAbs) (hs : (0 < y → 0 ≤ r) ∧ (y < 0 → r ≤ 0)) : 2 * (y.fmod r).natAbs < y.natAbs := by
  have key : ∀ y r : Int, 0 < r → r < y → 2 * (y.fmod r) < y ∧ 0 ≤ y.fmod r := fun y r h1 h2 => by
    rw [Int.fmod_eq_emod_of_nonneg y (Int.le_of_lt h1)]
    have a1 := Int.emod_lt_of_pos y h1
    have a2 := Int.emod_nonneg y (Int.ne_of_gt h1)
    refine ⟨?_, a2⟩
    have e := Int.mul_ediv_add_emod y r
    have d1 : 1 ≤ y / r := by
      rw [Int.le_ediv_iff_mul_le h1]; omega
    have d2 : r * 1 ≤ r * (y / r) := Int.mul_le_mul_of_nonneg_left d1 (Int.le_of_lt h1)
    omega
  rcases Int.lt_trichotomy y 0 with hy | hy | hy
  · have h1 := hs.2 hy
    have e : y.fmod r = -((-y).fmod (-r)) := by rw [← Int.neg_fmod_neg, Int.neg_neg, Int.neg_neg]
    have := key (-y) (-r) (by omega) (by omega)
    omega
  · omega
  · have h1 := hs.1 hy
    have := key y r (by omega) (by omega)
    omega
theorem while_euc (mk : Int → Int → Cells) (t : Cells → Res Bool) (b : Cells → Fl) (ht : ∀ x y, t (mk x y) = .ok (decide (y ≠ 0))) (hb : ∀ x y, y ≠ 0 → b (mk x y) = .nx (mk y (x.fmod y))) :
    ∀ (k : Nat) (x y : Int) (n : Nat), y.natAbs < 2 ^ k → 2 * k + 1 ≤ n → ∃ g, whileF t b n (mk x y) = .nx (mk g 0) ∧ g.natAbs = Int.gcd x y ∧ (0 ≤ x → 0 ≤ y → 0 ≤ g) := by
  have one : ∀ x n, 1 ≤ n → whileF t b n (mk x 0) = .nx (mk x 0) := fun x n hn => by
    obtain ⟨m, rfl⟩ : ∃ m, n = m + 1 := ⟨n - 1, by omega⟩
    rw [whileF, ht]
    rfl
  have step : ∀ x y n, y ≠ 0 → whileF t b (n + 1) (mk x y) = whileF t b n (mk y (x.fmod y)) := fun x y n h => by
    rw [whileF, ht]
    simp only [flOf, decide_eq_true h, if_true, hb x y h]
  intro k
  induction k with
  | zero =>
    intro x y n h hn
    have : y = 0 := by omega
    subst this
    exact ⟨x, one x n (by omega), by simp, fun h _ => h⟩
  | succ k ih =>
    intro x y n h hn
    by_cases hy : y = 0
    · subst hy
      exact ⟨x, one x n (by omega), by simp, fun h _ => h⟩
    · obtain ⟨m, rfl⟩ : ∃ m, n = m + 2 := ⟨n - 2, by omega⟩
      obtain ⟨f1, f2⟩ := fmod_abs x hy
      rw [step x y _ hy]
      by_cases hr : x.fmod y = 0
      · rw [hr]
        exact ⟨y, one y _ (by omega), by rw [← gcd_fmod x y, hr]; simp, fun _ h => h⟩
      · rw [step _ _ _ hr]
        have := fmod_half y hr f1 f2
        obtain ⟨g, g1, g2, g3⟩ := ih (x.fmod y) (y.fmod (x.fmod y)) m (by rw [Nat.pow_succ] at h; omega) (by omega)
        exact ⟨g, g1, by rw [g2, gcd_fmod, gcd_fmod], fun h1 h2 => g3 (f2.1 (by omega)) ((fmod_abs y hr).2.1 (by have := f2.1 (by omega); omega))⟩

/-- a fraction as the program has it -/
def fr (q : Rat) : T := .tup [.int q.num, .int q.den]
theorem fr_inj {p q : Rat} (h : fr p = fr q) : p = q := by
  unfold fr at h
  injection h with h
  injection h with h1 h2
  injection h2 with h2 _
  injection h1 with h1
  injection h2 with h2
  exact Rat.ext h1 (Int.ofNat_inj.mp h2)
section
variable {ds : List (Nat × Def)}
theorem divisor_ok (h : ds.lookup 24 = some D_divisor) (n : Nat) (a b : Int) (hb : b.natAbs < 2 ^ 40000) : callF ds (n + 1) 24 [.int a, .int b] = .ok (.int (Int.gcd a b)) := by
  rw [call_at h rfl]
  have w := while_euc (fun x y => [Cell.sh (.int x), Cell.sh (.int y)]) (fun env => (ev (callF ds n) (.cmp .ne (.var 1) (.cst (.int 0))) env).bind truT)
    (execs (callF ds n) [(.par [0, 1] [(.var 1), (.bin .mod (.var 0) (.var 1))])]) (fun x y => by simp; rfl) (fun x y hy => by simp [hy]) 40000 a b FUEL hb (by decide)
  obtain ⟨g, g1, g2, _⟩ := w
  show finF (execs (callF ds n) [(.whl (.cmp .ne (.var 1) (.cst (.int 0))) [(.par [0, 1] [(.var 1), (.bin .mod (.var 0) (.var 1))])]), (.ret (.blt .abs [(.var 0)]))] [Cell.sh (.int a), Cell.sh (.int b)]) = _
  rw [execs_cons_, exec_whl_, g1]
  simp
  omega
/-- a fraction's lowest terms -/
theorem fr_divInt (a : Int) {b : Int} (hb : b ≠ 0) : fr (Rat.divInt a b) = .tup [.int (b.sign * a / b.gcd a), .int ((b.natAbs / b.gcd a : Nat) : Int)] := by
  unfold fr
  rw [Rat.num_divInt, Rat.den_divInt, if_neg hb]
theorem gcd_pos' (a : Int) {b : Int} (hb : b ≠ 0) : 0 < Int.gcd a b := Int.gcd_pos_of_ne_zero_right a hb
theorem fdiv_pos (a : Int) {g : Int} (hg : 0 < g) : a.fdiv g = a / g := Int.fdiv_eq_ediv_of_nonneg a (Int.le_of_lt hg)
theorem fdiv_neg' {a g : Int} (hg : 0 < g) (hd : g ∣ a) : a.fdiv (-g) = -(a / g) := by
  obtain ⟨c, rfl⟩ := hd
  have e : (g * c).fdiv (-g) = ((-g) * (-c)).fdiv (-g) := by rw [Int.neg_mul_neg]
  rw [e, Int.mul_fdiv_cancel_left _ (by omega), Int.mul_ediv_cancel_left _ (by omega)]
/-- what share takes: a size -/
def DOk (b : Int) : Prop := b ≠ 0 ∧ b.natAbs < 2 ^ 8000
theorem DOk.ne {b : Int} (h : DOk b) : b ≠ 0 := h.1
theorem DOk.pos {b : Int} (h : 0 < b ∧ b.natAbs < 2 ^ 8000) : DOk b := ⟨by omega, h.2⟩
theorem DOk.lt {b : Int} (h : DOk b) : b.natAbs < 2 ^ 40000 := by
  exact Nat.lt_of_lt_of_le h.2 (Nat.pow_le_pow_right (by decide) (by decide))
theorem gcd_le' (a : Int) {b : Int} (hb : b ≠ 0) : Int.gcd a b ≤ b.natAbs := Nat.le_of_dvd (Int.natAbs_pos.mpr hb) (Int.gcd_dvd_natAbs_right a b)
theorem share_fin (a : Int) {b : Int} (hb : b ≠ 0) : (0 < b → fr (Rat.divInt a b) = .tup [.int (a.fdiv (Int.gcd a b)), .int (b.fdiv (Int.gcd a b))]) ∧ (b < 0 → fr (Rat.divInt a b) = .tup [.int (a.fdiv (-(Int.gcd a b : Int))), .int (b.fdiv (-(Int.gcd a b : Int)))]) := by
  have hg : (0 : Int) < (Int.gcd a b : Int) := by exact_mod_cast gcd_pos' a hb
  have d1 : (Int.gcd a b : Int) ∣ a := Int.gcd_dvd_left a b
  have d2 : (Int.gcd a b : Int) ∣ b := Int.gcd_dvd_right a b
  refine ⟨fun h => ?_, fun h => ?_⟩
  · rw [fr_divInt a hb, Int.gcd_comm b a, Int.sign_eq_one_of_pos h, Int.one_mul, fdiv_pos _ hg, fdiv_pos _ hg]
    have : ((b.natAbs / Int.gcd a b : Nat) : Int) = b / (Int.gcd a b : Int) := by
      rw [Int.natCast_ediv, Int.natAbs_of_nonneg (Int.le_of_lt h)]
    rw [this]
  · rw [fr_divInt a hb, Int.gcd_comm b a, Int.sign_eq_neg_one_of_neg h, fdiv_neg' hg d1, fdiv_neg' hg d2]
    have e1 : -1 * a / (Int.gcd a b : Int) = -(a / (Int.gcd a b : Int)) := by
      rw [Int.neg_mul, Int.one_mul, Int.neg_ediv_of_dvd d1]
    have e2 : ((b.natAbs / Int.gcd a b : Nat) : Int) = -(b / (Int.gcd a b : Int)) := by
      rw [Int.natCast_ediv, ← Int.neg_ediv_of_dvd d2]
      congr 1
      omega
    rw [e1, e2]
theorem share_ok (h : ds.lookup 24 = some D_divisor) (h2 : ds.lookup 25 = some D_share) (n : Nat) (a b : Int) (hb : DOk b) : callF ds (n + 2) 25 [.int a, .int b] = .ok (fr (Rat.divInt a b)) := by
  have hne := hb.ne
  rw [call_at h2 rfl]
  have hg : (0 : Int) < (Int.gcd a b : Int) := by exact_mod_cast gcd_pos' a hne
  have hle := gcd_le' a hne
  obtain ⟨f1, f2⟩ := share_fin a hne
  have dv := divisor_ok h n a b hb.lt
  by_cases hneg : b < 0
  · have k1 : divOk (-(Int.gcd a b : Int)) = true := by
      unfold divOk
      have := hb.2
      simp only [decide_eq_true_eq]
      exact ⟨by omega, by omega⟩
    rw [f2 hneg]
    simp [D_share, dv, hneg, k1]
  · have k1 : divOk (Int.gcd a b : Int) = true := by
      unfold divOk
      have := hb.2
      simp only [decide_eq_true_eq]
      exact ⟨by omega, by omega⟩
    rw [f1 (by omega)]
    simp [D_share, dv, hneg, k1]

/-! ### sizes -/
def Sz (k : Nat) (q : Rat) : Prop := q.num.natAbs < 2 ^ k ∧ q.den < 2 ^ k
theorem Sz.mono {j k : Nat} {q : Rat} (h : Sz j q) (hk : j ≤ k) : Sz k q := ⟨Nat.lt_of_lt_of_le h.1 (Nat.pow_le_pow_right (by decide) hk), Nat.lt_of_lt_of_le h.2 (Nat.pow_le_pow_right (by decide) hk)⟩
theorem mul_lt_pow {a b i j : Nat} (ha : a < 2 ^ i) (hb : b < 2 ^ j) : a * b < 2 ^ (i + j) := by
  rw [Nat.pow_add]
  exact Nat.mul_lt_mul'' ha hb
theorem Sz.mk_divInt {k : Nat} {a b : Int} (hb : b ≠ 0) (h1 : a.natAbs < 2 ^ k) (h2 : b.natAbs < 2 ^ k) : Sz k (Rat.divInt a b) := by
  refine ⟨?_, ?_⟩
  · rw [Rat.num_divInt]
    have : (b.sign * a / (b.gcd a : Int)).natAbs ≤ (b.sign * a).natAbs := by
      rw [Int.natAbs_ediv_of_dvd]
      · exact Nat.div_le_self _ _
      · exact Int.dvd_mul_of_dvd_right (Int.gcd_dvd_right b a)
    rw [Int.natAbs_mul] at this
    have s : b.sign.natAbs = 1 := by
      rw [Int.natAbs_sign_of_ne_zero hb]
    rw [s, Nat.one_mul] at this
    omega
  · rw [Rat.den_divInt, if_neg hb]
    exact Nat.lt_of_le_of_lt (Nat.div_le_self _ _) h2
theorem den_ne (q : Rat) : (q.den : Int) ≠ 0 := by exact_mod_cast q.den_nz
theorem den_pos' (q : Rat) : (0 : Int) < q.den := by have := q.den_nz; omega
theorem add_eq (p q : Rat) : p + q = Rat.divInt (p.num * q.den + q.num * p.den) (p.den * q.den) := by
  conv => lhs; rw [← Rat.num_divInt_den p, ← Rat.num_divInt_den q, Rat.divInt_add_divInt _ _ (den_ne p) (den_ne q)]
theorem sub_eq (p q : Rat) : p - q = Rat.divInt (p.num * q.den - q.num * p.den) (p.den * q.den) := by
  conv => lhs; rw [← Rat.num_divInt_den p, ← Rat.num_divInt_den q, Rat.divInt_sub_divInt _ _ (den_ne p) (den_ne q)]
theorem mul_eq (p q : Rat) : p * q = Rat.divInt (p.num * q.num) (p.den * q.den) := by
  conv => lhs; rw [← Rat.num_divInt_den p, ← Rat.num_divInt_den q, Rat.divInt_mul_divInt]
theorem div_eq (p q : Rat) : p / q = Rat.divInt (p.num * q.den) (p.den * q.num) := by
  conv => lhs; rw [← Rat.num_divInt_den p, ← Rat.num_divInt_den q, Rat.div_def, Rat.inv_divInt, Rat.divInt_mul_divInt]
theorem Sz.add {i j : Nat} {p q : Rat} (hp : Sz i p) (hq : Sz j q) : Sz (i + j + 1) (p + q) := by
  have h1 := mul_lt_pow hp.1 hq.2
  have h2 := mul_lt_pow hq.1 hp.2
  have h3 := mul_lt_pow hp.2 hq.2
  rw [add_eq]
  refine Sz.mk_divInt ?_ ?_ ?_
  · exact Int.mul_ne_zero (den_ne p) (den_ne q)
  · have := Int.natAbs_add_le (p.num * q.den) (q.num * p.den)
    rw [Int.natAbs_mul, Int.natAbs_mul, Int.natAbs_natCast, Int.natAbs_natCast] at this
    rw [Nat.add_comm j i] at h2
    rw [Nat.pow_succ]
    omega
  · rw [Int.natAbs_mul, Int.natAbs_natCast, Int.natAbs_natCast, Nat.pow_succ]
    omega
theorem Sz.neg {i : Nat} {p : Rat} (hp : Sz i p) : Sz i (-p) := ⟨by rw [Rat.neg_num, Int.natAbs_neg]; exact hp.1, hp.2⟩
theorem Sz.sub {i j : Nat} {p q : Rat} (hp : Sz i p) (hq : Sz j q) : Sz (i + j + 1) (p - q) := by
  rw [Rat.sub_eq_add_neg]
  exact hp.add hq.neg
theorem Sz.mul {i j : Nat} {p q : Rat} (hp : Sz i p) (hq : Sz j q) : Sz (i + j) (p * q) := by
  have h1 := mul_lt_pow hp.1 hq.1
  have h3 := mul_lt_pow hp.2 hq.2
  rw [mul_eq]
  refine Sz.mk_divInt (Int.mul_ne_zero (den_ne p) (den_ne q)) ?_ ?_
  · rw [Int.natAbs_mul]; exact h1
  · rw [Int.natAbs_mul, Int.natAbs_natCast, Int.natAbs_natCast]; exact h3
theorem mulOk_of {a b : Int} (ha : a.natAbs < 2 ^ 8000) (hb : b.natAbs < 2 ^ 8000) : mulOk a b = true := by
  unfold mulOk
  simp only [Bool.or_eq_true, decide_eq_true_eq]
  exact .inl (.inl ⟨ha, hb⟩)
/-- small enough to be reckoned with -/
abbrev Ok1 (q : Rat) : Prop := Sz 3900 q
theorem Ok1.n {q : Rat} (h : Ok1 q) : q.num.natAbs < 2 ^ 8000 := Nat.lt_of_lt_of_le h.1 (Nat.pow_le_pow_right (by decide) (by decide))
theorem Ok1.d {q : Rat} (h : Ok1 q) : (q.den : Int).natAbs < 2 ^ 8000 := Nat.lt_of_lt_of_le (by simpa using h.2) (Nat.pow_le_pow_right (by decide) (by decide))
theorem Ok1.dd {p q : Rat} (h : Ok1 p) (h' : Ok1 q) : 0 < (p.den : Int) * q.den ∧ ((p.den : Int) * q.den).natAbs < 2 ^ 8000 := by
  refine ⟨Int.mul_pos (den_pos' p) (den_pos' q), ?_⟩
  rw [Int.natAbs_mul, Int.natAbs_natCast, Int.natAbs_natCast]
  exact Nat.lt_of_lt_of_le (mul_lt_pow h.2 h'.2) (Nat.pow_le_pow_right (by decide) (by decide))
theorem plus_ok (h : ds.lookup 24 = some D_divisor) (h2 : ds.lookup 25 = some D_share) (h3 : ds.lookup 40 = some D_plus) (n : Nat) {p q : Rat} (hp : Ok1 p) (hq : Ok1 q) : callF ds (n + 3) 40 [fr p, fr q] = .ok (fr (p + q)) := by
  rw [call_at h3 rfl, add_eq]
  have s := share_ok h h2 n (p.num * q.den + q.num * p.den) (p.den * q.den) (.pos (hp.dd hq))
  simp [D_plus, fr, mulOk_of hp.n hq.d, mulOk_of hq.n hp.d, mulOk_of hp.d hq.d] at s ⊢
  rw [s]
  rfl
theorem less_ok (h : ds.lookup 24 = some D_divisor) (h2 : ds.lookup 25 = some D_share) (h3 : ds.lookup 41 = some D_less) (n : Nat) {p q : Rat} (hp : Ok1 p) (hq : Ok1 q) : callF ds (n + 3) 41 [fr p, fr q] = .ok (fr (p - q)) := by
  rw [call_at h3 rfl, sub_eq]
  have s := share_ok h h2 n (p.num * q.den - q.num * p.den) (p.den * q.den) (.pos (hp.dd hq))
  simp [D_less, fr, mulOk_of hp.n hq.d, mulOk_of hq.n hp.d, mulOk_of hp.d hq.d] at s ⊢
  rw [s]
  rfl
theorem times_ok (h : ds.lookup 24 = some D_divisor) (h2 : ds.lookup 25 = some D_share) (h3 : ds.lookup 26 = some D_times) (n : Nat) {p q : Rat} (hp : Ok1 p) (hq : Ok1 q) : callF ds (n + 3) 26 [fr p, fr q] = .ok (fr (p * q)) := by
  rw [call_at h3 rfl, mul_eq]
  have s := share_ok h h2 n (p.num * q.num) (p.den * q.den) (.pos (hp.dd hq))
  simp [D_times, fr, mulOk_of hp.n hq.n, mulOk_of hp.d hq.d] at s ⊢
  rw [s]
  rfl
theorem parted_ok (h : ds.lookup 24 = some D_divisor) (h2 : ds.lookup 25 = some D_share) (h3 : ds.lookup 42 = some D_parted) (n : Nat) {p q : Rat} (hp : Ok1 p) (hq : Ok1 q) (hd : DOk (p.den * q.num)) : callF ds (n + 3) 42 [fr p, fr q] = .ok (fr (p / q)) := by
  rw [call_at h3 rfl, div_eq]
  have s := share_ok h h2 n (p.num * q.den) (p.den * q.num) hd
  simp [D_parted, fr, mulOk_of hp.n hq.d, mulOk_of hp.d hq.n] at s ⊢
  rw [s]
  rfl
theorem is_less_ok (h3 : ds.lookup 43 = some D_is_less) (n : Nat) {p q : Rat} (hp : Ok1 p) (hq : Ok1 q) : callF ds (n + 1) 43 [fr p, fr q] = .ok (.bl (decide (p < q))) := by
  rw [call_at h3 rfl]
  simp [D_is_less, fr, mulOk_of hp.n hq.d, mulOk_of hq.n hp.d, Rat.lt_iff]
def sumQ : List Rat → Rat
  | [] => 0
  | q :: qs => q + sumQ qs
theorem sumQ_append : ∀ (a b : List Rat), sumQ (a ++ b) = sumQ a + sumQ b
  | [], b => by simp [sumQ, Rat.zero_add]
  | q :: qs, b => by simp only [List.cons_append, sumQ, sumQ_append qs b, Rat.add_assoc]
theorem Sz.sum {j : Nat} : ∀ {qs : List Rat}, (∀ q ∈ qs, Sz j q) → Sz (1 + qs.length * (j + 1)) (sumQ qs)
  | [], _ => ⟨by show (0 : Rat).num.natAbs < _; simp, by show (1 : Nat) < _; simp⟩
  | q :: qs, h => by
    have h1 := (h q (List.mem_cons_self ..)).add (Sz.sum fun q hq => h q (List.mem_cons_of_mem _ hq))
    refine h1.mono ?_
    simp only [List.length_cons, Nat.add_mul]
    omega
theorem all_plus_ok (h : ds.lookup 24 = some D_divisor) (h2 : ds.lookup 25 = some D_share) (h3 : ds.lookup 40 = some D_plus) (h4 : ds.lookup 44 = some D_all_plus) (n : Nat) {j : Nat} {qs : List Rat} (hq : ∀ q ∈ qs, Sz j q) (hj : 1 + qs.length * (j + 1) ≤ 3900) (hj2 : j ≤ 3900) : callF ds (n + 4) 44 [.lst (qs.map fr)] = .ok (fr (sumQ qs)) := by
  rw [call_at h4 rfl]
  have loop : ∀ (rest done : List Rat) (x : Cell), done ++ rest = qs → ∃ y, forF (forB (callF ds (n + 3)) (.nm 2) [(.asg (.nm 1) (.call 40 [(.var 1), (.var 2)]))]) (rest.map fr) [.sh (.lst (qs.map fr)), .sh (fr (sumQ done)), x] = .nx [.sh (.lst (qs.map fr)), .sh (fr (sumQ qs)), y] := by
    intro rest
    induction rest with
    | nil => intro done x e; rw [List.append_nil] at e; subst e; exact ⟨x, rfl⟩
    | cons q rest ih =>
      intro done x e
      have hd : ∀ q ∈ done, Sz j q := fun q hm => hq q (by rw [← e]; exact List.mem_append_left _ hm)
      have hl : done.length ≤ qs.length := by rw [← e, List.length_append]; omega
      have hs : Ok1 (sumQ done) := (Sz.sum hd).mono (Nat.le_trans (Nat.add_le_add_left (Nat.mul_le_mul_right _ hl) 1) hj)
      have hs2 : Ok1 q := (hq q (by rw [← e]; simp)).mono hj2
      have p := plus_ok h h2 h3 n hs hs2
      obtain ⟨y, ey⟩ := ih (done ++ [q]) (.sh (fr q)) (by rw [← e]; simp)
      refine ⟨y, ?_⟩
      rw [List.map_cons, forF]
      simp [p]
      rw [sumQ_append] at ey
      simp only [sumQ, Rat.add_zero] at ey
      simpa using ey
  obtain ⟨y, ey⟩ := loop qs [] .un rfl
  show finF (execs (callF ds (n + 3)) [(.asg (.nm 1) (.tup [(.cst (.int 0)), (.cst (.int 1))])), (.forS (.nm 2) .seq [(.var 0)] [(.asg (.nm 1) (.call 40 [(.var 1), (.var 2)]))]), (.ret (.var 1))] [.sh (.lst (qs.map fr)), .un, .un]) = _
  have e1 : exec (callF ds (n + 3)) (.asg (.nm 1) (.tup [(.cst (.int 0)), (.cst (.int 1))])) [.sh (.lst (qs.map fr)), .un, .un] = .nx [.sh (.lst (qs.map fr)), .sh (fr (sumQ [])), .un] := by
    simp; rfl
  rw [execs_cons_, e1]
  simp only []
  rw [execs_cons_, exec_forS_]
  simp only [evs_cons_, evs_nil_, ev_var_, rd_, List.getElem?_cons_zero, bind_ok_, items_lst_, flOf_ok_]
  rw [ey]
  simp

/-! ### the law's own fractions -/
theorem low_ok (h : ds.lookup 13 = some D__law_low) (n : Nat) (a b : Int) (hb : b ≠ 0) (hz : b.natAbs < 2 ^ 8000) : callF ds (n + 1) 13 [.int a, .int b] = .ok (fr (Rat.divInt a b)) := by
  rw [call_at h rfl]
  have w := while_euc (fun x y => [Cell.sh (.int a), Cell.sh (.int b), Cell.sh (.int x), Cell.sh (.int y)]) (fun env => (ev (callF ds n) (.cmp .ne (.var 3) (.cst (.int 0))) env).bind truT)
    (execs (callF ds n) [(.par [2, 3] [(.var 3), (.bin .mod (.var 2) (.var 3))])]) (fun x y => by simp; rfl) (fun x y hy => by simp [hy]) 8000 (if a < 0 then -a else a) (if b < 0 then -b else b) FUEL (by split <;> omega) (by decide)
  obtain ⟨g, g1, g2, g3⟩ := w
  have g3 := g3 (by split <;> omega) (by split <;> omega)
  have eg : Int.gcd (if a < 0 then -a else a) (if b < 0 then -b else b) = Int.gcd a b := by
    split <;> split <;> simp [Int.gcd_neg, Int.neg_gcd]
  rw [eg] at g2
  have e : g = (Int.gcd a b : Int) := by omega
  subst e
  have hg : (0 : Int) < (Int.gcd a b : Int) := by exact_mod_cast gcd_pos' a hb
  have hle := gcd_le' a hb
  have k1 : divOk (Int.gcd a b : Int) = true := by
    unfold divOk
    simp only [decide_eq_true_eq]
    exact ⟨by omega, by omega⟩
  obtain ⟨f1, f2⟩ := share_fin a hb
  show finF (execs (callF ds n) [(.par [2, 3] [(.blt .abs [(.var 0)]), (.blt .abs [(.var 1)])]), (.whl (.cmp .ne (.var 3) (.cst (.int 0))) [(.par [2, 3] [(.var 3), (.bin .mod (.var 2) (.var 3))])]), (.ret (.ite (.cmp .gt (.var 1) (.cst (.int 0))) (.tup [(.bin .fdiv (.var 0) (.var 2)), (.bin .fdiv (.var 1) (.var 2))]) (.tup [(.bin .sub (.cst (.int 0)) (.bin .fdiv (.var 0) (.var 2))), (.bin .sub (.cst (.int 0)) (.bin .fdiv (.var 1) (.var 2)))])))]
    [Cell.sh (.int a), Cell.sh (.int b), .un, .un]) = _
  have e1 : exec (callF ds n) (.par [2, 3] [(.blt .abs [(.var 0)]), (.blt .abs [(.var 1)])]) [Cell.sh (.int a), Cell.sh (.int b), .un, .un] = .nx [Cell.sh (.int a), Cell.sh (.int b), Cell.sh (.int (if a < 0 then -a else a)), Cell.sh (.int (if b < 0 then -b else b))] := by
    simp
  rw [execs_cons_, e1]
  simp only []
  rw [execs_cons_, exec_whl_, g1]
  have d1 : (Int.gcd a b : Int) ∣ a := Int.gcd_dvd_left a b
  have d2 : (Int.gcd a b : Int) ∣ b := Int.gcd_dvd_right a b
  by_cases hp : 0 < b
  · rw [f1 hp]
    simp [hp, k1]
  · rw [f2 (by omega), fdiv_neg' hg d1, fdiv_neg' hg d2]
    simp [hp, k1, fdiv_pos _ hg]
theorem prod_ok (h : ds.lookup 13 = some D__law_low) (h2 : ds.lookup 15 = some D__law_prod) (n : Nat) {p q : Rat} (hp : Ok1 p) (hq : Ok1 q) : callF ds (n + 2) 15 [fr p, fr q] = .ok (fr (p * q)) := by
  have dd := hp.dd hq
  rw [call_at h2 rfl, mul_eq]
  have s := low_ok h n (p.num * q.num) (p.den * q.den) (by omega) dd.2
  simp [D__law_prod, fr, mulOk_of hp.n hq.n, mulOk_of hp.d hq.d] at s ⊢
  rw [s]
  rfl
theorem sum_ok (h : ds.lookup 13 = some D__law_low) (h4 : ds.lookup 14 = some D__law_sum) (n : Nat) {j : Nat} {qs : List Rat} (hq : ∀ q ∈ qs, Sz j q) (hj : 1 + qs.length * (j + 1) ≤ 3900) (hj2 : j ≤ 3900) : callF ds (n + 2) 14 [.lst (qs.map fr)] = .ok (fr (sumQ qs)) := by
  rw [call_at h4 rfl]
  generalize hb : forB (callF ds (n + 1)) (.nm 3) [(.asg (.tp [(.nm 1), (.nm 2)]) (.call 13 [(.bin .add (.bin .mul (.var 1) (.idx (.var 3) (.cst (.int 1)))) (.bin .mul (.idx (.var 3) (.cst (.int 0))) (.var 2))), (.bin .mul (.var 2) (.idx (.var 3) (.cst (.int 1))))]))] = bf
  have loop : ∀ (rest done : List Rat) (x : Cell), done ++ rest = qs → ∃ y, forF bf (rest.map fr) [.sh (.lst (qs.map fr)), .sh (.int (sumQ done).num), .sh (.int (sumQ done).den), x] = .nx [.sh (.lst (qs.map fr)), .sh (.int (sumQ qs).num), .sh (.int (sumQ qs).den), y] := by
    intro rest
    induction rest with
    | nil => intro done x e; rw [List.append_nil] at e; subst e; exact ⟨x, rfl⟩
    | cons q rest ih =>
      intro done x e
      have hd : ∀ q ∈ done, Sz j q := fun q hm => hq q (by rw [← e]; exact List.mem_append_left _ hm)
      have hl : done.length ≤ qs.length := by rw [← e, List.length_append]; omega
      have hs : Ok1 (sumQ done) := (Sz.sum hd).mono (Nat.le_trans (Nat.add_le_add_left (Nat.mul_le_mul_right _ hl) 1) hj)
      have hs2 : Ok1 q := (hq q (by rw [← e]; simp)).mono hj2
      have dd := hs.dd hs2
      have p := low_ok h n ((sumQ done).num * q.den + q.num * (sumQ done).den) ((sumQ done).den * q.den) (by omega) dd.2
      rw [← add_eq] at p
      obtain ⟨y, ey⟩ := ih (done ++ [q]) (.sh (fr q)) (by rw [← e]; simp)
      refine ⟨y, ?_⟩
      rw [List.map_cons, forF]
      rw [sumQ_append] at ey
      simp only [sumQ, Rat.add_zero] at ey
      have e1 : bf [.sh (.lst (qs.map fr)), .sh (.int (sumQ done).num), .sh (.int (sumQ done).den), x] (fr q) = .nx [.sh (.lst (qs.map fr)), .sh (.int (sumQ done + q).num), .sh (.int (sumQ done + q).den), .sh (fr q)] := by
        rw [← hb]
        simp [fr, mulOk_of hs.n hs2.d, mulOk_of hs2.n hs.d, mulOk_of hs.d hs2.d] at p ⊢
        rw [p]
        simp
      rw [e1]
      exact ey
  obtain ⟨y, ey⟩ := loop qs [] .un rfl
  show finF (execs (callF ds (n + 1)) [(.asg (.tp [.nm 1, .nm 2]) (.tup [(.cst (.int 0)), (.cst (.int 1))])), (.forS (.nm 3) .seq [(.var 0)] [(.asg (.tp [(.nm 1), (.nm 2)]) (.call 13 [(.bin .add (.bin .mul (.var 1) (.idx (.var 3) (.cst (.int 1)))) (.bin .mul (.idx (.var 3) (.cst (.int 0))) (.var 2))), (.bin .mul (.var 2) (.idx (.var 3) (.cst (.int 1))))]))]), (.ret (.tup [(.var 1), (.var 2)]))] [.sh (.lst (qs.map fr)), .un, .un, .un]) = _
  have e1 : exec (callF ds (n + 1)) (.asg (.tp [.nm 1, .nm 2]) (.tup [(.cst (.int 0)), (.cst (.int 1))])) [.sh (.lst (qs.map fr)), .un, .un, .un] = .nx [.sh (.lst (qs.map fr)), .sh (.int (sumQ []).num), .sh (.int (sumQ []).den), .un] := by
    simp [sumQ]
  rw [execs_cons_, e1]
  simp only []
  rw [execs_cons_, exec_forS_]
  simp only [evs_cons_, evs_nil_, ev_var_, rd_, List.getElem?_cons_zero, bind_ok_, items_lst_, flOf_ok_]
  rw [hb, ey]
  simp [fr]

/-! ### fractions as values -/
@[simp] theorem fr_idx0 (q : Rat) : idxT (fr q) (.int 0) = .ok (.int q.num) := by simp [fr]
@[simp] theorem fr_idx1 (q : Rat) : idxT (fr q) (.int 1) = .ok (.int q.den) := by simp [fr]
@[simp] theorem fr_plain (q : Rat) (n : Nat) : (fr q).plain (n + 1) = true := by simp [fr]
@[simp] theorem fr_eqv (p q : Rat) : T.eqv (fr p) (fr q) = decide (p = q) := by
  unfold fr
  rw [Bool.eq_iff_iff]
  simp only [eqv_tt_, eqvs_cons_, eqvs_nil_, eqv_ii_, Bool.and_true, Bool.and_eq_true, beq_iff_eq, decide_eq_true_eq]
  exact ⟨fun h => Rat.ext h.1 (by omega), fun h => by rw [h]; exact ⟨rfl, rfl⟩⟩
theorem fr_int (i : Int) : fr (i : Rat) = .tup [.int i, .int 1] := rfl
theorem fr_neg (q : Rat) : T.tup [.int (0 - q.num), .int q.den] = fr (-q) := by simp [fr]
end
end Fz

/-! numbers drawn of the script -/
namespace Fz
open PySem
def scr (ns : List Int) : T := .lst (ns.map T.int)
theorem plains_ints (n : Nat) : ∀ ns : List Int, T.plains (ns.map T.int) n = true
  | [] => by simp
  | x :: xs => by simp [plains_ints n xs]
theorem at_nn {xs : List T} {i : Nat} {t : T} (h : xs[i]? = some t) : atT xs (i : Int) = .ok t := by
  have hl : i < xs.length := (List.getElem?_eq_some_iff.mp h).1
  unfold atT
  rw [if_pos (by omega), if_pos (by omega)]
  simp [h]
def cellZ (ns : List Int) (k : Nat) : Int := if k < ns.length then ns.getD k 0 else if ns = [] then 0 else ns.getD (k % ns.length) 0 * 31 + k
section
variable {ds : List (Nat × Def)}
theorem mulOk_r {i j : Int} (h : j.natAbs < 2 ^ 63) : mulOk i j = true := by
  unfold mulOk
  simp only [Bool.or_eq_true, decide_eq_true_eq]
  exact .inr h
theorem mulOk_l {i j : Int} (h : i.natAbs < 2 ^ 63) : mulOk i j = true := by
  unfold mulOk
  simp only [Bool.or_eq_true, decide_eq_true_eq]
  exact .inl (.inr h)
theorem eqvs_nil_r (ns : List Int) : T.eqvs (ns.map T.int) [] = decide (ns = []) := by
  cases ns <;> simp
theorem cell_ok (h : ds.lookup 7 = some D__law_cell) (n : Nat) (ns : List Int) (k : Nat) : callF ds (n + 1) 7 [scr ns, .int k] = .ok (.int (cellZ ns k)) := by
  rw [call_at h rfl]
  have pl := plains_ints 59 ns
  have l1 : (ns.map T.int).length = ns.length := List.length_map ..
  show finF (execs (callF ds n) [(.ifS (.cmp .lt (.var 1) (.len (.var 0))) [(.ret (.idx (.var 0) (.var 1)))] []), (.ifS (.cmp .eq (.var 0) (.lst [])) [(.ret (.cst (.int 0)))] []), (.ret (.bin .add (.bin .mul (.idx (.var 0) (.bin .mod (.var 1) (.len (.var 0)))) (.cst (.int 31))) (.var 1)))] [.sh (scr ns), .sh (.int k)]) = _
  have e1 : exec (callF ds n) (.ifS (.cmp .lt (.var 1) (.len (.var 0))) [(.ret (.idx (.var 0) (.var 1)))] []) [.sh (scr ns), .sh (.int k)] = if k < ns.length then .rt (.int (cellZ ns k)) else .nx [.sh (scr ns), .sh (.int k)] := by
    unfold scr
    by_cases h1 : k < ns.length
    · have e : atT (ns.map T.int) (k : Int) = .ok (.int ns[k]) := at_nn (by simp [h1])
      simp [h1, e, cellZ]
    · simp [h1]
  rw [execs_cons_, e1]
  by_cases h1 : k < ns.length
  · rw [if_pos h1]; rfl
  rw [if_neg h1]
  simp only []
  have e2 : exec (callF ds n) (.ifS (.cmp .eq (.var 0) (.lst [])) [(.ret (.cst (.int 0)))] []) [.sh (scr ns), .sh (.int k)] = if ns = [] then .rt (.int 0) else .nx [.sh (scr ns), .sh (.int k)] := by
    unfold scr
    simp [pl, eqvs_nil_r]
  rw [execs_cons_, e2]
  by_cases h2 : ns = []
  · subst h2; simp [cellZ]
  · rw [if_neg h2]
    have hp : 0 < ns.length := List.length_pos_iff.mpr h2
    have hm : k % ns.length < ns.length := Nat.mod_lt _ hp
    have hz : (ns.length : Int) ≠ 0 := by omega
    have e : atT (ns.map T.int) ((k : Int).fmod (ns.length : Int)) = .ok (.int (ns.getD (k % ns.length) 0)) := by
      have : (k : Int).fmod (ns.length : Int) = ((k % ns.length : Nat) : Int) := by
        rw [Int.fmod_eq_emod_of_nonneg _ (by omega)]; rfl
      rw [this]
      refine at_nn ?_
      rw [List.getElem?_map, List.getElem?_eq_getElem hm]
      simp [List.getD, List.getElem?_eq_getElem hm]
    have m31 : mulOk (ns.getD (k % ns.length) 0) 31 = true := mulOk_r (by decide)
    have ec : cellZ ns k = ns.getD (k % ns.length) 0 * 31 + k := by unfold cellZ; rw [if_neg h1, if_neg h2]
    rw [ec]
    generalize ns.getD (k % ns.length) 0 = v at e m31
    unfold scr
    simp [l1, hz, e, m31, h2]
def drawnZ (ns : List Int) (k : Nat) : Int := ((cellZ ns k + 6151 * ((k : Int) + 1)) * 40692).fmod 2147483399
def rawZ (ns : List Int) (k : Nat) : Int := (drawnZ ns k * drawnZ ns k + (drawnZ ns k).fdiv 31).fmod 2147483629
/-- a number drawn, below many -/
def pickZ (ns : List Int) (k many : Nat) : Nat := ((rawZ ns k).fmod many).toNat
theorem pick_lt (ns : List Int) (k : Nat) {many : Nat} (hm : 0 < many) : pickZ ns k many < many := by
  unfold pickZ
  have h1 := Int.fmod_nonneg_of_pos (rawZ ns k) (b := (many : Int)) (by omega)
  have h2 := Int.fmod_lt_of_pos (rawZ ns k) (b := (many : Int)) (by omega)
  omega
theorem pick_ok (h : ds.lookup 7 = some D__law_cell) (h2 : ds.lookup 8 = some D__law_pick) (n : Nat) (ns : List Int) (k : Nat) {many : Nat} (hm : 0 < many) : callF ds (n + 2) 8 [scr ns, .int k, .int many] = .ok (.int (pickZ ns k many)) := by
  rw [call_at h2 rfl]
  have c := cell_ok h n ns k
  have d1 : 0 ≤ drawnZ ns k := Int.fmod_nonneg_of_pos _ (by decide)
  have d2 : drawnZ ns k < 2147483399 := Int.fmod_lt_of_pos _ (by decide)
  have m1 : mulOk 6151 ((k : Int) + 1) = true := mulOk_l (by decide)
  have m2 : mulOk (cellZ ns k + 6151 * ((k : Int) + 1)) 40692 = true := mulOk_r (by decide)
  have m3 : mulOk (drawnZ ns k) (drawnZ ns k) = true := mulOk_r (by omega)
  have m4 : divOk 31 = true := by decide
  have hz : many ≠ 0 := by omega
  have e : ((pickZ ns k many : Nat) : Int) = (rawZ ns k).fmod many := by
    unfold pickZ
    exact Int.toNat_of_nonneg (Int.fmod_nonneg_of_pos _ (by omega))
  rw [e]
  show finF (execs (callF ds (n + 1)) _ [.sh (scr ns), .sh (.int k), .sh (.int many), .un]) = _
  have e1 : exec (callF ds (n + 1)) (.asg (.nm 3) (.bin .mod (.bin .mul (.bin .add (.call 7 [(.var 0), (.var 1)]) (.bin .mul (.cst (.int 6151)) (.bin .add (.var 1) (.cst (.int 1))))) (.cst (.int 40692))) (.cst (.int 2147483399)))) [.sh (scr ns), .sh (.int k), .sh (.int many), .un] = .nx [.sh (scr ns), .sh (.int k), .sh (.int many), .sh (.int (drawnZ ns k))] := by
    simp [c, m1, m2, drawnZ]
  show finF (execs (callF ds (n + 1)) [(.asg (.nm 3) (.bin .mod (.bin .mul (.bin .add (.call 7 [(.var 0), (.var 1)]) (.bin .mul (.cst (.int 6151)) (.bin .add (.var 1) (.cst (.int 1))))) (.cst (.int 40692))) (.cst (.int 2147483399)))), (.ret (.bin .mod (.bin .mod (.bin .add (.bin .mul (.var 3) (.var 3)) (.bin .fdiv (.var 3) (.cst (.int 31)))) (.cst (.int 2147483629))) (.var 2)))] [.sh (scr ns), .sh (.int k), .sh (.int many), .un]) = _
  rw [execs_cons_, e1]
  simp [m3, m4, hz, rawZ]
theorem pick_at (h : ds.lookup 7 = some D__law_cell) (h2 : ds.lookup 8 = some D__law_pick) (n : Nat) (ns : List Int) {i m : Int} {k many : Nat} (hi : i = k) (hm : 0 < many) (hm2 : m = many) : callF ds (n + 2) 8 [scr ns, .int i, .int m] = .ok (.int (pickZ ns k many)) := by
  subst hi hm2
  exact pick_ok h h2 n ns k hm
end
end Fz

/-! comprehensions and loops, in plain words -/
namespace Fz
open PySem
section
variable {F : Fns} {ds : List (Nat × Def)}
theorem compL_map {f : T → Res (Option T)} {g : T → T} : ∀ {xs : List T}, (∀ x ∈ xs, f x = .ok (some (g x))) → compL f xs = .ok (xs.map g)
  | [], _ => rfl
  | x :: xs, h => by
    rw [compL, h x (List.mem_cons_self ..), compL_map fun y hy => h y (List.mem_cons_of_mem _ hy)]
    rfl
theorem compL_filterMap {f : T → Res (Option T)} {g : T → Option T} : ∀ {xs : List T}, (∀ x ∈ xs, f x = .ok (g x)) → compL f xs = .ok (xs.filterMap g)
  | [], _ => rfl
  | x :: xs, h => by
    rw [compL, h x (List.mem_cons_self ..), compL_filterMap fun y hy => h y (List.mem_cons_of_mem _ hy), List.filterMap_cons]
    cases g x <;> rfl
theorem rngT_map : ∀ (n : Nat) (lo : Int), rngT lo n = (List.range n).map fun i => T.int (lo + (i : Nat))
  | 0, _ => rfl
  | n + 1, lo => by
    rw [rngT, rngT_map n (lo + 1), List.range_succ_eq_map, List.map_cons, List.map_map]
    congr 1
    · simp
    · refine List.map_congr_left fun i _ => ?_
      show T.int _ = T.int _
      congr 1
      simp only [Function.comp, Nat.succ_eq_add_one]
      omega
theorem compL_range {f : T → Res (Option T)} {g : Nat → T} (m : Nat) (h : ∀ i < m, f (.int (i : Nat)) = .ok (some (g i))) : compL f (rngT 0 m) = .ok ((List.range m).map g) := by
  rw [rngT_map]
  have key : ∀ l : List Nat, (∀ i ∈ l, i < m) → compL f (l.map fun i => T.int (0 + (i : Nat))) = .ok (l.map g) := by
    intro l
    induction l with
    | nil => intro _; rfl
    | cons i l ih =>
      intro hl
      rw [List.map_cons, compL, ih fun j hj => hl j (List.mem_cons_of_mem _ hj), Int.zero_add, h i (hl i (List.mem_cons_self ..))]
      rfl
  exact key _ fun i hi => List.mem_range.mp hi
theorem at_range {g : Nat → T} {m i : Nat} (h : i < m) : atT ((List.range m).map g) (i : Int) = .ok (g i) := at_nn (by simp [h])
/-- a loop whose turns all go on -/
theorem forF_inv {b : Cells → T → Fl} (P : Cells → Prop) : ∀ (xs : List T) (env : Cells), P env → (∀ x ∈ xs, ∀ e, P e → ∃ e', b e x = .nx e' ∧ P e') → ∃ e', forF b xs env = .nx e' ∧ P e'
  | [], env, h, _ => ⟨env, rfl, h⟩
  | x :: xs, env, h, hb => by
    obtain ⟨e1, h1, h2⟩ := hb x (List.mem_cons_self ..) env h
    obtain ⟨e2, h3, h4⟩ := forF_inv P xs e1 h2 fun y hy => hb y (List.mem_cons_of_mem _ hy)
    exact ⟨e2, by rw [forF, h1]; exact h3, h4⟩
theorem items_rng1 (n : Nat) (h : n ≤ 1000000) : itemsT .rng1 [.int n] = .ok (rngT 0 n) := by
  have e : ((n : Int).toNat) = n := by omega
  show (if (n : Int) ≤ ((SZ : Nat) : Int) ∧ -((SZ : Nat) : Int) ≤ n then Res.ok (rngT 0 (n : Int).toNat) else .no) = _
  rw [if_pos (by have : ((SZ : Nat) : Int) = 1000000 := rfl; omega), e]
theorem items_rng2 (a n : Nat) (h : a ≤ 1000000 ∧ n ≤ 1000000) : itemsT .rng2 [.int a, .int n] = .ok (rngT a (n - a)) := by
  have e : (((n : Int) - (a : Int)).toNat) = n - a := by omega
  show (if (a : Int) ≤ ((SZ : Nat) : Int) ∧ -((SZ : Nat) : Int) ≤ a ∧ (n : Int) ≤ ((SZ : Nat) : Int) ∧ -((SZ : Nat) : Int) ≤ n then Res.ok (rngT a ((n : Int) - a).toNat) else .no) = _
  rw [if_pos (by have : ((SZ : Nat) : Int) = 1000000 := rfl; omega), e]
theorem at_last {xs : List T} {t : T} (h : xs.getLast? = some t) : atT xs (-1) = .ok t := by
  have hl : xs ≠ [] := fun z => by rw [z] at h; cases h
  have hp : 0 < xs.length := List.length_pos_iff.mpr hl
  unfold atT
  rw [if_neg (by decide), if_pos (by omega)]
  have : ((-1 : Int) + xs.length).toNat = xs.length - 1 := by omega
  rw [this]
  rw [List.getLast?_eq_getElem?] at h
  simp [h]
end
end Fz

/-! the body of the law: printed by gen.py -/
namespace Fz
open PySem
def I_law_k51 : Nat := 160
def D_law_k51 : Def := ⟨1, 10, [(.asg (.nm 1) (.bin .add (.cst (.int 1)) (.call 8 [(.var 0), (.cst (.int 0)), (.cst (.int 12))]))), (.asg (.tp [(.nm 2), (.nm 3)]) (.tup [(.bin .add (.cst (.int 1)) (.call 8 [(.var 0), (.cst (.int 1)), (.cst (.int 9))])), (.bin .add (.cst (.int 1)) (.call 8 [(.var 0), (.cst (.int 2)), (.cst (.int 9))]))])), (.ifS (.cmp .eq (.call 8 [(.var 0), (.cst (.int 3)), (.cst (.int 4))]) (.cst (.int 0))) [(.asg (.nm 3) (.var 2))] []), (.asg (.nm 4) (.comp (.call 158 [(.var 1), (.var 5), (.var 2), (.var 3)]) (.nm 5) .rng1 [(.bin .add (.var 1) (.cst (.int 1)))] [] [5])), (.asg (.nm 6) (.comp (.call 159 [(.var 1), (.var 5), (.var 2), (.var 3)]) (.nm 5) .rng1 [(.bin .add (.var 1) (.cst (.int 1)))] [] [5])), (.ifS (.bor (.cmp .ne (.idx (.var 4) (.cst (.int 0))) (.tup [(.cst (.int 0)), (.cst (.int 1))])) (.bor (.cmp .ne (.idx (.var 4) (.neg (.cst (.int 1)))) (.tup [(.cst (.int 1)), (.cst (.int 1))])) (.bor (.cmp .ne (.idx (.var 6) (.cst (.int 0))) (.tup [(.cst (.int 0)), (.cst (.int 1))])) (.cmp .ne (.idx (.var 6) (.neg (.cst (.int 1)))) (.tup [(.cst (.int 0)), (.cst (.int 1))]))))) [(.ret (.cst (.bl false)))] []), (.forS (.nm 5) .rng2 [(.cst (.int 1)), (.var 1)] [(.asg (.nm 7) (.lst [(.call 15 [(.tup [(.var 2), (.bin .add (.var 2) (.var 3))]), (.idx (.var 4) (.bin .add (.var 5) (.cst (.int 1))))]), (.call 15 [(.tup [(.var 3), (.bin .add (.var 2) (.var 3))]), (.idx (.var 4) (.bin .sub (.var 5) (.cst (.int 1))))])])), (.ifS (.cmp .ne (.call 14 [(.var 7)]) (.idx (.var 4) (.var 5))) [(.ret (.cst (.bl false)))] []), (.asg (.nm 7) (.lst [(.call 15 [(.tup [(.var 2), (.bin .add (.var 2) (.var 3))]), (.idx (.var 6) (.bin .add (.var 5) (.cst (.int 1))))]), (.call 15 [(.tup [(.var 3), (.bin .add (.var 2) (.var 3))]), (.idx (.var 6) (.bin .sub (.var 5) (.cst (.int 1))))])])), (.ifS (.cmp .ne (.call 14 [(.bin .add (.var 7) (.lst [(.tup [(.cst (.int 1)), (.cst (.int 1))])]))]) (.idx (.var 6) (.var 5))) [(.ret (.cst (.bl false)))] []), (.asg (.nm 8) (.call 158 [(.var 1), (.bin .sub (.var 1) (.var 5)), (.var 3), (.var 2)])), (.ifS (.bor (.cmp .ne (.call 14 [(.lst [(.idx (.var 4) (.var 5)), (.var 8)])]) (.tup [(.cst (.int 1)), (.cst (.int 1))])) (.cmp .ne (.call 159 [(.var 1), (.bin .sub (.var 1) (.var 5)), (.var 3), (.var 2)]) (.idx (.var 6) (.var 5)))) [(.ret (.cst (.bl false)))] []), (.asg (.nm 9) (.lst [(.call 13 [(.var 5), (.var 1)]), (.tup [(.bin .mul (.var 5) (.bin .sub (.var 1) (.var 5))), (.cst (.int 1))])])), (.ifS (.band (.cmp .eq (.var 2) (.var 3)) (.cmp .ne (.lst [(.idx (.var 4) (.var 5)), (.idx (.var 6) (.var 5))]) (.var 9))) [(.ret (.cst (.bl false)))] []), (.ifS (.call 43 [(.call 158 [(.var 1), (.var 5), (.bin .add (.var 2) (.cst (.int 1))), (.var 3)]), (.idx (.var 4) (.var 5))]) [(.ret (.cst (.bl false)))] [])]), (.ret (.cmp .eq (.call 158 [(.var 1), (.bin .fdiv (.var 1) (.cst (.int 2))), (.bin .mul (.cst (.int 2)) (.var 2)), (.bin .mul (.cst (.int 2)) (.var 3))]) (.idx (.var 4) (.bin .fdiv (.var 1) (.cst (.int 2))))))]⟩
end Fz

/-! law k51 -/
namespace Fz
open PySem
def S51_0 : S := (.asg (.nm 1) (.bin .add (.cst (.int 1)) (.call 8 [(.var 0), (.cst (.int 0)), (.cst (.int 12))])))
def S51_1 : S := (.asg (.tp [(.nm 2), (.nm 3)]) (.tup [(.bin .add (.cst (.int 1)) (.call 8 [(.var 0), (.cst (.int 1)), (.cst (.int 9))])), (.bin .add (.cst (.int 1)) (.call 8 [(.var 0), (.cst (.int 2)), (.cst (.int 9))]))]))
def S51_2 : S := (.ifS (.cmp .eq (.call 8 [(.var 0), (.cst (.int 3)), (.cst (.int 4))]) (.cst (.int 0))) [(.asg (.nm 3) (.var 2))] [])
def S51_3 : S := (.asg (.nm 4) (.comp (.call 158 [(.var 1), (.var 5), (.var 2), (.var 3)]) (.nm 5) .rng1 [(.bin .add (.var 1) (.cst (.int 1)))] [] [5]))
def S51_4 : S := (.asg (.nm 6) (.comp (.call 159 [(.var 1), (.var 5), (.var 2), (.var 3)]) (.nm 5) .rng1 [(.bin .add (.var 1) (.cst (.int 1)))] [] [5]))
def S51_5 : S := (.ifS (.bor (.cmp .ne (.idx (.var 4) (.cst (.int 0))) (.tup [(.cst (.int 0)), (.cst (.int 1))])) (.bor (.cmp .ne (.idx (.var 4) (.neg (.cst (.int 1)))) (.tup [(.cst (.int 1)), (.cst (.int 1))])) (.bor (.cmp .ne (.idx (.var 6) (.cst (.int 0))) (.tup [(.cst (.int 0)), (.cst (.int 1))])) (.cmp .ne (.idx (.var 6) (.neg (.cst (.int 1)))) (.tup [(.cst (.int 0)), (.cst (.int 1))]))))) [(.ret (.cst (.bl false)))] [])
def S51_7 : S := (.ret (.cmp .eq (.call 158 [(.var 1), (.bin .fdiv (.var 1) (.cst (.int 2))), (.bin .mul (.cst (.int 2)) (.var 2)), (.bin .mul (.cst (.int 2)) (.var 3))]) (.idx (.var 4) (.bin .fdiv (.var 1) (.cst (.int 2))))))
def B51_0 : S := (.asg (.nm 7) (.lst [(.call 15 [(.tup [(.var 2), (.bin .add (.var 2) (.var 3))]), (.idx (.var 4) (.bin .add (.var 5) (.cst (.int 1))))]), (.call 15 [(.tup [(.var 3), (.bin .add (.var 2) (.var 3))]), (.idx (.var 4) (.bin .sub (.var 5) (.cst (.int 1))))])]))
def B51_1 : S := (.ifS (.cmp .ne (.call 14 [(.var 7)]) (.idx (.var 4) (.var 5))) [(.ret (.cst (.bl false)))] [])
def B51_2 : S := (.asg (.nm 7) (.lst [(.call 15 [(.tup [(.var 2), (.bin .add (.var 2) (.var 3))]), (.idx (.var 6) (.bin .add (.var 5) (.cst (.int 1))))]), (.call 15 [(.tup [(.var 3), (.bin .add (.var 2) (.var 3))]), (.idx (.var 6) (.bin .sub (.var 5) (.cst (.int 1))))])]))
def B51_3 : S := (.ifS (.cmp .ne (.call 14 [(.bin .add (.var 7) (.lst [(.tup [(.cst (.int 1)), (.cst (.int 1))])]))]) (.idx (.var 6) (.var 5))) [(.ret (.cst (.bl false)))] [])
def B51_4 : S := (.asg (.nm 8) (.call 158 [(.var 1), (.bin .sub (.var 1) (.var 5)), (.var 3), (.var 2)]))
def B51_5 : S := (.ifS (.bor (.cmp .ne (.call 14 [(.lst [(.idx (.var 4) (.var 5)), (.var 8)])]) (.tup [(.cst (.int 1)), (.cst (.int 1))])) (.cmp .ne (.call 159 [(.var 1), (.bin .sub (.var 1) (.var 5)), (.var 3), (.var 2)]) (.idx (.var 6) (.var 5)))) [(.ret (.cst (.bl false)))] [])
def B51_6 : S := (.asg (.nm 9) (.lst [(.call 13 [(.var 5), (.var 1)]), (.tup [(.bin .mul (.var 5) (.bin .sub (.var 1) (.var 5))), (.cst (.int 1))])]))
def B51_7 : S := (.ifS (.band (.cmp .eq (.var 2) (.var 3)) (.cmp .ne (.lst [(.idx (.var 4) (.var 5)), (.idx (.var 6) (.var 5))]) (.var 9))) [(.ret (.cst (.bl false)))] [])
def B51_8 : S := (.ifS (.call 43 [(.call 158 [(.var 1), (.var 5), (.bin .add (.var 2) (.cst (.int 1))), (.var 3)]), (.idx (.var 4) (.var 5))]) [(.ret (.cst (.bl false)))] [])

structure D51 (ds : List (Nat × Def)) : Prop where
  a7 : ds.lookup 7 = some D__law_cell
  a8 : ds.lookup 8 = some D__law_pick
  a13 : ds.lookup 13 = some D__law_low
  a14 : ds.lookup 14 = some D__law_sum
  a15 : ds.lookup 15 = some D__law_prod
  a24 : ds.lookup 24 = some D_divisor
  a25 : ds.lookup 25 = some D_share
  a26 : ds.lookup 26 = some D_times
  a43 : ds.lookup 43 = some D_is_less
  a157 : ds.lookup 157 = some D_power
  a158 : ds.lookup 158 = some D_home_chance
  a159 : ds.lookup 159 = some D_steps_home
/-- the chance to come home, as a rational -/
def hcR (n s u d : Nat) : Rat := if u = d then Rat.divInt s n else Rat.divInt (((u : Int) ^ s - (d : Int) ^ s) * (u : Int) ^ (n - s)) ((u : Int) ^ n - (d : Int) ^ n)
def awR (n s u d : Nat) : Rat := ((n : Int) : Rat) * hcR n s u d
def stR (n s u d : Nat) : Rat := if u = d then (((s : Int) * ((n : Int) - s) : Int) : Rat) else Rat.divInt ((u : Int) + d) ((u : Int) - d) * Rat.divInt ((awR n s u d).num - s * (awR n s u d).den) (awR n s u d).den
section
variable {ds : List (Nat × Def)}
theorem power_ok (D : D51 ds) (n : Nat) (a : Int) (k : Nat) (ha : a.natAbs < 2 ^ 63) (hk : k ≤ 1000000) : callF ds (n + 1) 157 [.int a, .int k] = .ok (.int (a ^ k)) := by
  rw [call_at D.a157 rfl]
  show finF (execs (callF ds n) [(.asg (.nm 2) (.cst (.int 1))), (.forS (.nm 3) .rng1 [(.var 1)] [(.asg (.nm 2) (.bin .mul (.var 2) (.var 0)))]), (.ret (.var 2))] [.sh (.int a), .sh (.int k), .un, .un]) = _
  have loop : ∀ (m : Nat) (lo : Int) (j : Nat) (x : Cell), ∃ y, forF (forB (callF ds n) (.nm 3) [(.asg (.nm 2) (.bin .mul (.var 2) (.var 0)))]) (rngT lo m) [.sh (.int a), .sh (.int k), .sh (.int (a ^ j)), x] = .nx [.sh (.int a), .sh (.int k), .sh (.int (a ^ (j + m))), y] := by
    intro m
    induction m with
    | zero => intro lo j x; exact ⟨x, rfl⟩
    | succ m ih =>
      intro lo j x
      obtain ⟨y, hy⟩ := ih (lo + 1) (j + 1) (.sh (.int lo))
      refine ⟨y, ?_⟩
      have e : j + (m + 1) = j + 1 + m := by omega
      rw [rngT, forF, e, ← hy]
      simp [mulOk_r ha, Int.pow_succ]
  obtain ⟨y, hy⟩ := loop k 0 0 .un
  rw [execs_cons_]
  simp only [exec_asg_, ev_cst_, flOf_ok_, asg_nm_, List.set_cons_succ, List.set_cons_zero]
  rw [execs_cons_, exec_forS_]
  simp only [evs_cons_, evs_nil_, ev_var_, rd_, List.getElem?_cons_zero, List.getElem?_cons_succ, bind_ok_, items_rng1 k hk, flOf_ok_]
  rw [Int.pow_zero, Nat.zero_add] at hy
  rw [hy]
  simp
/-- the sizes, number by number -/
def sizes51 : Bool := (List.range 13).all fun n => n == 0 || (List.range 13).all fun s => decide (n < s) || (List.range 21).all fun u => u == 0 || (List.range 21).all fun d => d == 0 || u == d ||
  (decide ((u : Int) ^ n - (d : Int) ^ n ≠ 0) && decide (((u : Int) ^ n - (d : Int) ^ n).natAbs < 2 ^ 60) && decide (((u : Int) ^ s - (d : Int) ^ s).natAbs < 2 ^ 60) && decide (((u : Int) ^ (n - s)).natAbs < 2 ^ 60))
theorem sizes51_ok : sizes51 = true := by decide +kernel
theorem size51 {n s u d : Nat} (h1 : 1 ≤ n) (h2 : n ≤ 12) (h3 : s ≤ n) (h4 : 1 ≤ u) (h5 : u ≤ 20) (h6 : 1 ≤ d) (h7 : d ≤ 20) (h8 : u ≠ d) :
    (u : Int) ^ n - (d : Int) ^ n ≠ 0 ∧ ((u : Int) ^ n - (d : Int) ^ n).natAbs < 2 ^ 60 ∧ ((u : Int) ^ s - (d : Int) ^ s).natAbs < 2 ^ 60 ∧ ((u : Int) ^ (n - s)).natAbs < 2 ^ 60 := by
  have h := sizes51_ok
  unfold sizes51 at h
  simp only [List.all_eq_true, List.mem_range, Bool.or_eq_true, Bool.and_eq_true, beq_iff_eq, decide_eq_true_eq] at h
  rcases h n (by omega) with z | h
  · omega
  rcases h s (by omega) with z | h
  · omega
  rcases h u (by omega) with z | h
  · omega
  rcases h d (by omega) with (z | z) | h
  · omega
  · exact absurd z h8
  · exact ⟨h.1.1.1, h.1.1.2, h.1.2, h.2⟩
theorem p8000 {x k : Nat} (h : x < 2 ^ k) (hk : k ≤ 8000 := by decide) : x < 2 ^ 8000 := Nat.lt_of_lt_of_le h (Nat.pow_le_pow_right (by decide) hk)
theorem hc_sz {n s u d : Nat} (h1 : 1 ≤ n) (h2 : n ≤ 12) (h3 : s ≤ n) (h4 : 1 ≤ u) (h5 : u ≤ 20) (h6 : 1 ≤ d) (h7 : d ≤ 20) : Sz 120 (hcR n s u d) := by
  unfold hcR
  split
  · refine Sz.mk_divInt (by omega) ?_ ?_
    · exact Nat.lt_of_le_of_lt (by omega : (s : Int).natAbs ≤ 12) (Nat.lt_of_lt_of_le (by decide : 12 < 2 ^ 4) (Nat.pow_le_pow_right (by decide) (by decide)))
    · exact Nat.lt_of_le_of_lt (by omega : (n : Int).natAbs ≤ 12) (Nat.lt_of_lt_of_le (by decide : 12 < 2 ^ 4) (Nat.pow_le_pow_right (by decide) (by decide)))
  · rename_i h8
    obtain ⟨q1, q2, q3, q4⟩ := size51 h1 h2 h3 h4 h5 h6 h7 h8
    refine Sz.mk_divInt q1 ?_ (Nat.lt_of_lt_of_le q2 (Nat.pow_le_pow_right (by decide) (by decide)))
    rw [Int.natAbs_mul]
    exact mul_lt_pow q3 q4
theorem home_ok (D : D51 ds) (k : Nat) {n s u d : Nat} {n' s' u' d' : Int} (en : n' = n) (es : s' = s) (eu : u' = u) (ed : d' = d) (h1 : 1 ≤ n) (h2 : n ≤ 12) (h3 : s ≤ n) (h4 : 1 ≤ u) (h5 : u ≤ 20) (h6 : 1 ≤ d) (h7 : d ≤ 20) : callF ds (k + 3) 158 [.int n', .int s', .int u', .int d'] = .ok (fr (hcR n s u d)) := by
  subst en es eu ed
  rw [call_at D.a158 rfl]
  unfold hcR
  by_cases h8 : u = d
  · subst h8
    have sh := share_ok D.a24 D.a25 k (s : Int) (n : Int) ⟨by omega, p8000 (k := 4) (by omega)⟩
    simp [D_home_chance, sh]
  · obtain ⟨q1, q2, q3, q4⟩ := size51 h1 h2 h3 h4 h5 h6 h7 h8
    have sh := share_ok D.a24 D.a25 k (((u : Int) ^ s - (d : Int) ^ s) * (u : Int) ^ (n - s)) ((u : Int) ^ n - (d : Int) ^ n) ⟨q1, p8000 q2⟩
    have p1 := power_ok D (k + 1) (u : Int) n (by omega) (by omega)
    have p2 := power_ok D (k + 1) (d : Int) n (by omega) (by omega)
    have p3 := power_ok D (k + 1) (u : Int) s (by omega) (by omega)
    have p4 := power_ok D (k + 1) (d : Int) s (by omega) (by omega)
    have p5 := power_ok D (k + 1) (u : Int) (n - s) (by omega) (by omega)
    have e5 : ((n - s : Nat) : Int) = (n : Int) - s := by omega
    rw [e5] at p5
    have m := mulOk_of (p8000 q3) (p8000 q4)
    simp only [Nat.add_assoc, Nat.reduceAdd] at sh p1 p2 p3 p4 p5
    have hne : ((u : Int) == (d : Int)) = false := by simpa using fun z => h8 (by omega)
    simp [D_home_chance, h8, p1, p2, p3, p4, p5, m, sh, hne]
theorem steps_ok (D : D51 ds) (k : Nat) {n s u d : Nat} {n' s' u' d' : Int} (en : n' = n) (es : s' = s) (eu : u' = u) (ed : d' = d) (h1 : 1 ≤ n) (h2 : n ≤ 12) (h3 : s ≤ n) (h4 : 1 ≤ u) (h5 : u ≤ 20) (h6 : 1 ≤ d) (h7 : d ≤ 20) : callF ds (k + 4) 159 [.int n', .int s', .int u', .int d'] = .ok (fr (stR n s u d)) := by
  subst en es eu ed
  rw [call_at D.a159 rfl]
  have m0 : mulOk (s : Int) ((n : Int) - s) = true := mulOk_l (by omega)
  unfold stR
  by_cases h8 : u = d
  · subst h8
    rw [if_pos rfl]
    generalize hq : (((s : Int) * ((n : Int) - s) : Int) : Rat) = q
    have e : fr q = T.tup [.int ((s : Int) * ((n : Int) - s)), .int 1] := by rw [← hq]; rfl
    rw [e]
    simp [D_steps_home, m0]
  · have hc := home_ok D k (n := n) (s := s) (u := u) (d := d) rfl rfl rfl rfl h1 h2 h3 h4 h5 h6 h7
    have z1 := hc_sz h1 h2 h3 h4 h5 h6 h7
    have z0 : Sz 4 ((n : Int) : Rat) := ⟨by show (n : Int).natAbs < 2 ^ 4; omega, by show 1 < 2 ^ 4; decide⟩
    have t1 := times_ok D.a24 D.a25 D.a26 k (p := ((n : Int) : Rat)) (q := hcR n s u d) (z0.mono (by decide)) (z1.mono (by decide))
    have za : Sz 124 (awR n s u d) := z0.mul z1
    have ea : ((n : Int) : Rat) * hcR n s u d = awR n s u d := rfl
    rw [ea] at t1
    generalize awR n s u d = aw at t1 za
    have sh1 := share_ok D.a24 D.a25 (k + 1) ((u : Int) + d) ((u : Int) - d) ⟨by omega, p8000 (k := 6) (by omega)⟩
    have ad : (aw.den : Int).natAbs < 2 ^ 124 := by simpa using za.2
    have ma : mulOk (s : Int) (aw.den : Int) = true := mulOk_l (by omega)
    have sh2 := share_ok D.a24 D.a25 (k + 1) (aw.num - s * aw.den) aw.den ⟨den_ne aw, p8000 ad⟩
    have zs : ((s : Int) * aw.den).natAbs < 2 ^ 128 := by
      rw [Int.natAbs_mul]
      exact mul_lt_pow (i := 4) (by omega) ad
    have z3 : Sz 130 (Rat.divInt (aw.num - s * aw.den) aw.den) := by
      refine Sz.mk_divInt (den_ne aw) ?_ (Nat.lt_of_lt_of_le ad (Nat.pow_le_pow_right (by decide) (by decide)))
      have := za.1
      have p1 : (2 : Nat) ^ 124 ≤ 2 ^ 128 := Nat.pow_le_pow_right (by decide) (by decide)
      have p2 : (2 : Nat) ^ 130 = 4 * 2 ^ 128 := by rw [show 130 = 128 + 2 from rfl, Nat.pow_add, Nat.mul_comm]
      omega
    have z4 : Sz 6 (Rat.divInt ((u : Int) + d) ((u : Int) - d)) := Sz.mk_divInt (by omega) (by omega) (by omega)
    have t2 := times_ok D.a24 D.a25 D.a26 k (z4.mono (by decide)) (z3.mono (by decide))
    have hne : ((u : Int) == (d : Int)) = false := by simpa using fun z => h8 (by omega)
    have t1' : callF ds (k + 3) 26 [.tup [.int n, .int 1], fr (hcR n s u d)] = .ok (fr aw) := t1
    rw [if_neg h8]
    generalize Rat.divInt (aw.num - s * aw.den) aw.den = r2 at sh2 t2
    generalize Rat.divInt ((u : Int) + d) ((u : Int) - d) = r1 at sh1 t2
    simp only [Nat.add_assoc, Nat.reduceAdd] at sh1 sh2 t2 t1'
    simp [D_steps_home, h8, hc, t1', ma, sh1, sh2, t2, hne]

/-- a pair that need not be in lowest terms, times a fraction -/
theorem prod_raw (h : ds.lookup 13 = some D__law_low) (h2 : ds.lookup 15 = some D__law_prod) (n : Nat) {a b : Int} {q : Rat} (hb : b ≠ 0) (ha : a.natAbs < 2 ^ 100) (hb2 : b.natAbs < 2 ^ 100) (hq : Ok1 q) : callF ds (n + 2) 15 [.tup [.int a, .int b], fr q] = .ok (fr (Rat.divInt a b * q)) := by
  rw [call_at h2 rfl]
  have e : Rat.divInt a b * q = Rat.divInt (a * q.num) (b * q.den) := by
    conv => lhs; rw [← Rat.num_divInt_den q, Rat.divInt_mul_divInt]
  have m1 := mulOk_of (p8000 ha) hq.n
  have m2 := mulOk_of (p8000 hb2) hq.d
  have hz : (b * q.den).natAbs < 2 ^ 8000 := by
    rw [Int.natAbs_mul, Int.natAbs_natCast]
    exact Nat.lt_of_lt_of_le (mul_lt_pow hb2 hq.2) (Nat.pow_le_pow_right (by decide) (by decide))
  have s := low_ok h n (a * q.num) (b * q.den) (Int.mul_ne_zero hb (den_ne q)) hz
  rw [e]
  generalize Rat.divInt (a * q.num) (b * q.den) = r at s
  simp [D__law_prod, m1, m2, s]
/-- what the law asks, in plain words -/
def chk51 (n u d : Nat) : Bool :=
  decide (hcR n 0 u d = 0) && decide (hcR n n u d = 1) && decide (stR n 0 u d = 0) && decide (stR n n u d = 0) &&
  ((List.range n).all fun s => s == 0 ||
    (decide (Rat.divInt u (u + d : Nat) * hcR n (s + 1) u d + Rat.divInt d (u + d : Nat) * hcR n (s - 1) u d = hcR n s u d) &&
      decide (Rat.divInt u (u + d : Nat) * stR n (s + 1) u d + (Rat.divInt d (u + d : Nat) * stR n (s - 1) u d + 1) = stR n s u d) &&
      decide (hcR n s u d + hcR n (n - s) d u = 1) && decide (stR n (n - s) d u = stR n s u d) &&
      (u != d || (decide (hcR n s u d = Rat.divInt s n) && decide (stR n s u d = (((s : Int) * ((n : Int) - s) : Int) : Rat)))) &&
      !decide (hcR n s (u + 1) d < hcR n s u d))) &&
  decide (hcR n (n / 2) (2 * u) (2 * d) = hcR n (n / 2) u d)
def row51 (n : Nat) : Bool := (List.range 9).all fun u => (List.range 9).all fun d => chk51 (n + 1) (u + 1) (d + 1)
theorem row51_0 : row51 0 = true := by decide +kernel
theorem row51_1 : row51 1 = true := by decide +kernel
theorem row51_2 : row51 2 = true := by decide +kernel
theorem row51_3 : row51 3 = true := by decide +kernel
theorem row51_4 : row51 4 = true := by decide +kernel
theorem row51_5 : row51 5 = true := by decide +kernel
theorem row51_6 : row51 6 = true := by decide +kernel
theorem row51_7 : row51 7 = true := by decide +kernel
theorem row51_8 : row51 8 = true := by decide +kernel
theorem row51_9 : row51 9 = true := by decide +kernel
theorem row51_10 : row51 10 = true := by decide +kernel
theorem row51_11 : row51 11 = true := by decide +kernel
theorem all51 {n u d : Nat} (hn : n < 12) (hu : u < 9) (hd : d < 9) : chk51 (n + 1) (u + 1) (d + 1) = true := by
  have h : row51 n = true := by
    rcases n with _ | _ | _ | _ | _ | _ | _ | _ | _ | _ | _ | _ | n
    · exact row51_0
    · exact row51_1
    · exact row51_2
    · exact row51_3
    · exact row51_4
    · exact row51_5
    · exact row51_6
    · exact row51_7
    · exact row51_8
    · exact row51_9
    · exact row51_10
    · exact row51_11
    · omega
  unfold row51 at h
  simp only [List.all_eq_true, List.mem_range] at h
  exact h u hu d hd
/-- the facts as the law asks them -/
structure F51 (n u d : Nat) : Prop where
  c0 : hcR n 0 u d = 0
  cn : hcR n n u d = 1
  t0 : stR n 0 u d = 0
  tn : stR n n u d = 0
  st : ∀ s, 1 ≤ s → s < n → Rat.divInt u (u + d : Nat) * hcR n (s + 1) u d + Rat.divInt d (u + d : Nat) * hcR n (s - 1) u d = hcR n s u d ∧
      Rat.divInt u (u + d : Nat) * stR n (s + 1) u d + (Rat.divInt d (u + d : Nat) * stR n (s - 1) u d + 1) = stR n s u d ∧
      hcR n s u d + hcR n (n - s) d u = 1 ∧ stR n (n - s) d u = stR n s u d ∧
      (u = d → hcR n s u d = Rat.divInt s n ∧ stR n s u d = (((s : Int) * ((n : Int) - s) : Int) : Rat)) ∧ ¬ hcR n s (u + 1) d < hcR n s u d
  dbl : hcR n (n / 2) (2 * u) (2 * d) = hcR n (n / 2) u d
theorem f51 {n u d : Nat} (h : chk51 n u d = true) : F51 n u d := by
  unfold chk51 at h
  simp only [Bool.and_eq_true, decide_eq_true_eq, List.all_eq_true, List.mem_range, Bool.or_eq_true, beq_iff_eq, bne_iff_ne, Bool.not_eq_true', decide_eq_false_iff_not] at h
  obtain ⟨⟨⟨⟨⟨h1, h2⟩, h3⟩, h4⟩, h5⟩, h6⟩ := h
  refine ⟨h1, h2, h3, h4, fun s a b => ?_, h6⟩
  rcases h5 s b with z | ⟨⟨⟨⟨⟨q1, q2⟩, q3⟩, q4⟩, q5⟩, q6⟩
  · omega
  · exact ⟨q1, q2, q3, q4, fun e => (q5.elim (fun z => absurd e z) fun z => z), q6⟩
theorem st_sz {n s u d : Nat} (h1 : 1 ≤ n) (h2 : n ≤ 12) (h3 : s ≤ n) (h4 : 1 ≤ u) (h5 : u ≤ 20) (h6 : 1 ≤ d) (h7 : d ≤ 20) : Sz 140 (stR n s u d) := by
  unfold stR
  have b8 : ∀ {a : Nat}, a < 2 ^ 8 → a < 2 ^ 140 := fun h => Nat.lt_of_lt_of_le h (Nat.pow_le_pow_right (by decide) (by decide))
  split
  · refine ⟨?_, by show 1 < 2 ^ 140; exact b8 (by decide)⟩
    show ((s : Int) * ((n : Int) - s)).natAbs < 2 ^ 140
    rw [Int.natAbs_mul]
    refine b8 (Nat.lt_of_lt_of_le (mul_lt_pow (i := 4) (j := 4) (by omega) (by omega)) (by decide))
  · have z1 := hc_sz h1 h2 h3 h4 h5 h6 h7
    have z0 : Sz 4 ((n : Int) : Rat) := ⟨by show (n : Int).natAbs < 2 ^ 4; omega, by show 1 < 2 ^ 4; decide⟩
    have za : Sz 124 (awR n s u d) := z0.mul z1
    generalize awR n s u d = aw at za
    have ad : (aw.den : Int).natAbs < 2 ^ 124 := by simpa using za.2
    have zs : ((s : Int) * aw.den).natAbs < 2 ^ 128 := by
      rw [Int.natAbs_mul]
      exact mul_lt_pow (i := 4) (by omega) ad
    have z3 : Sz 130 (Rat.divInt (aw.num - s * aw.den) aw.den) := by
      refine Sz.mk_divInt (den_ne aw) ?_ (Nat.lt_of_lt_of_le ad (Nat.pow_le_pow_right (by decide) (by decide)))
      have := za.1
      have p1 : (2 : Nat) ^ 124 ≤ 2 ^ 128 := Nat.pow_le_pow_right (by decide) (by decide)
      have p2 : (2 : Nat) ^ 130 = 4 * 2 ^ 128 := by rw [show 130 = 128 + 2 from rfl, Nat.pow_add, Nat.mul_comm]
      omega
    have z4 : Sz 6 (Rat.divInt ((u : Int) + d) ((u : Int) - d)) := Sz.mk_divInt (by omega) (by omega) (by omega)
    exact (z4.mul z3).mono (by decide)
def hcL (n u d : Nat) : T := .lst ((List.range (n + 1)).map fun s => fr (hcR n s u d))
def stL (n u d : Nat) : T := .lst ((List.range (n + 1)).map fun s => fr (stR n s u d))
theorem turn51 (D : D51 ds) (k : Nat) {n u d s : Nat} (h1 : 1 ≤ n) (h2 : n ≤ 12) (h4 : 1 ≤ u) (h5 : u ≤ 9) (h6 : 1 ≤ d) (h7 : d ≤ 9) (f : F51 n u d) (hs1 : 1 ≤ s) (hs : s < n) (c0 x7 x8 x9 : Cell) : ∃ y7 y8 y9,
    execs (callF ds (k + 5)) [B51_0, B51_1, B51_2, B51_3, B51_4, B51_5, B51_6, B51_7, B51_8] [c0, .sh (.int n), .sh (.int u), .sh (.int d), .sh (hcL n u d), .sh (.int s), .sh (stL n u d), x7, x8, x9] =
      .nx [c0, .sh (.int n), .sh (.int u), .sh (.int d), .sh (hcL n u d), .sh (.int s), .sh (stL n u d), y7, y8, y9] := by
  obtain ⟨q1, q2, q3, q4, q5, q6⟩ := f.st s hs1 hs
  have o : ∀ {i u' d' : Nat}, i ≤ n → 1 ≤ u' → u' ≤ 20 → 1 ≤ d' → d' ≤ 20 → Ok1 (hcR n i u' d') := fun a b c' d' e => (hc_sz h1 h2 a b c' d' e).mono (by decide)
  have o' : ∀ {i u' d' : Nat}, i ≤ n → 1 ≤ u' → u' ≤ 20 → 1 ≤ d' → d' ≤ 20 → Ok1 (stR n i u' d') := fun a b c' d' e => (st_sz h1 h2 a b c' d' e).mono (by decide)
  have e1 : (s : Int) + 1 = ((s + 1 : Nat) : Int) := by omega
  have e2 : (s : Int) - 1 = ((s - 1 : Nat) : Int) := by omega
  have i0 : idxT (hcL n u d) (.int s) = .ok (fr (hcR n s u d)) := at_range (by omega)
  have i1 : idxT (hcL n u d) (.int ((s : Int) + 1)) = .ok (fr (hcR n (s + 1) u d)) := by rw [e1]; exact at_range (by omega)
  have i2 : idxT (hcL n u d) (.int ((s : Int) - 1)) = .ok (fr (hcR n (s - 1) u d)) := by rw [e2]; exact at_range (by omega)
  have j0 : idxT (stL n u d) (.int s) = .ok (fr (stR n s u d)) := at_range (by omega)
  have j1 : idxT (stL n u d) (.int ((s : Int) + 1)) = .ok (fr (stR n (s + 1) u d)) := by rw [e1]; exact at_range (by omega)
  have j2 : idxT (stL n u d) (.int ((s : Int) - 1)) = .ok (fr (stR n (s - 1) u d)) := by rw [e2]; exact at_range (by omega)
  have small : ∀ {z : Int}, z.natAbs < 2 ^ 8 → z.natAbs < 2 ^ 100 := fun h => Nat.lt_of_lt_of_le h (Nat.pow_le_pow_right (by decide) (by decide))
  have eud : ((u + d : Nat) : Int) = (u : Int) + d := by omega
  have pr : ∀ (a : Nat) (q : Rat), a ≤ 9 → Ok1 q → callF ds (k + 5) 15 [.tup [.int a, .int ((u : Int) + d)], fr q] = .ok (fr (Rat.divInt a (u + d : Nat) * q)) := fun a q ha hq => by
    rw [eud]
    exact prod_raw D.a13 D.a15 (k + 3) (by omega) (small (by omega)) (small (by omega)) hq
  have p1 := pr u _ h5 (o (i := s + 1) (u' := u) (d' := d) (by omega) h4 (by omega) h6 (by omega))
  have p2 := pr d _ h7 (o (i := s - 1) (u' := u) (d' := d) (by omega) h4 (by omega) h6 (by omega))
  have p3 := pr u _ h5 (o' (i := s + 1) (u' := u) (d' := d) (by omega) h4 (by omega) h6 (by omega))
  have p4 := pr d _ h7 (o' (i := s - 1) (u' := u) (d' := d) (by omega) h4 (by omega) h6 (by omega))
  have zp : ∀ (a : Nat), a ≤ 9 → Sz 8 (Rat.divInt a (u + d : Nat)) := fun a ha => Sz.mk_divInt (by omega) (by omega) (by omega)
  have zA : ∀ {i : Nat}, i ≤ n → Sz 160 (hcR n i u d) := fun h => (hc_sz h1 h2 h h4 (by omega) h6 (by omega)).mono (by decide)
  have zB : ∀ {i : Nat}, i ≤ n → Sz 160 (stR n i u d) := fun h => (st_sz h1 h2 h h4 (by omega) h6 (by omega)).mono (by decide)
  have z1 : Sz 168 (1 : Rat) := ⟨by show 1 < 2 ^ 168; exact Nat.lt_of_lt_of_le (by decide : 1 < 2 ^ 1) (Nat.pow_le_pow_right (by decide) (by decide)), by show 1 < 2 ^ 168; exact Nat.lt_of_lt_of_le (by decide : 1 < 2 ^ 1) (Nat.pow_le_pow_right (by decide) (by decide))⟩
  have su : ∀ qs : List Rat, (∀ q ∈ qs, Sz 168 q) → qs.length ≤ 3 → callF ds (k + 5) 14 [.lst (qs.map fr)] = .ok (fr (sumQ qs)) := fun qs h hl => sum_ok D.a13 D.a14 (k + 3) (j := 168) h (by omega) (by decide)
  have two : ∀ {a b : Rat}, Sz 168 a → Sz 168 b → callF ds (k + 5) 14 [.lst [fr a, fr b]] = .ok (fr (a + b)) := fun {a b} ha hb => by
    have := su [a, b] (fun q hq => by rcases List.mem_cons.mp hq with rfl | hq; exact ha; rcases List.mem_singleton.mp hq with rfl; exact hb) (by simp)
    simpa [sumQ, Rat.add_zero] using this
  have three : ∀ {a b : Rat}, Sz 168 a → Sz 168 b → callF ds (k + 5) 14 [.lst [fr a, fr b, .tup [.int 1, .int 1]]] = .ok (fr (a + (b + 1))) := fun {a b} ha hb => by
    have := su [a, b, 1] (fun q hq => by
      rcases List.mem_cons.mp hq with rfl | hq
      · exact ha
      · rcases List.mem_cons.mp hq with rfl | hq
        · exact hb
        · rcases List.mem_singleton.mp hq with rfl; exact z1) (by simp)
    have h : callF ds (k + 5) 14 [.lst [fr a, fr b, fr 1]] = .ok (fr (a + (b + 1))) := by simpa [sumQ, Rat.add_zero] using this
    exact h
  have t1 := two ((zp u h5).mul (zA (i := s + 1) (by omega))) ((zp d h7).mul (zA (i := s - 1) (by omega)))
  have t2 := three ((zp u h5).mul (zB (i := s + 1) (by omega))) ((zp d h7).mul (zB (i := s - 1) (by omega)))
  rw [q1] at t1
  rw [q2] at t2
  have hw := home_ok D (k + 2) (n := n) (s := n - s) (u := d) (d := u) (n' := n) (s' := (n : Int) - s) (u' := d) (d' := u) rfl (by omega) rfl rfl h1 h2 (by omega) h6 (by omega) h4 (by omega)
  have sw := steps_ok D (k + 1) (n := n) (s := n - s) (u := d) (d := u) (n' := n) (s' := (n : Int) - s) (u' := d) (d' := u) rfl (by omega) rfl rfl h1 h2 (by omega) h6 (by omega) h4 (by omega)
  have up := home_ok D (k + 2) (n := n) (s := s) (u := u + 1) (d := d) (n' := n) (s' := s) (u' := (u : Int) + 1) (d' := d) rfl rfl (by omega) rfl h1 h2 (by omega) (by omega) (by omega) h6 (by omega)
  have hz : Sz 168 (hcR n (n - s) d u) := (hc_sz h1 h2 (by omega) h6 (by omega) h4 (by omega)).mono (by decide)
  have t3 := two ((zA (i := s) (by omega)).mono (by decide)) hz
  rw [q3] at t3
  rw [q4] at sw
  have z11 : T.tup [.int 1, .int 1] = fr 1 := rfl
  have lw := low_ok D.a13 (k + 4) (s : Int) (n : Int) (by omega) (p8000 (k := 4) (by omega))
  have mm : mulOk (s : Int) ((n : Int) - s) = true := mulOk_l (by omega)
  have il := is_less_ok D.a43 (k + 4) (o (i := s) (u' := u + 1) (d' := d) (by omega) (by omega) (by omega) h6 (by omega)) (o (i := s) (u' := u) (d' := d) (by omega) h4 (by omega) h6 (by omega))
  rw [decide_eq_false q6] at il
  have ei : T.tup [.int ((s : Int) * ((n : Int) - s)), .int 1] = fr (((s : Int) * ((n : Int) - s) : Int) : Rat) := rfl
  have k1 : ∀ {x : T}, x.plain 60 = true → T.plain (.lst [x]) 60 = true ∨ True := fun _ => .inr trivial
  clear zp zA zB
  generalize Rat.divInt u (u + d : Nat) * hcR n (s + 1) u d = A at p1 t1
  generalize Rat.divInt d (u + d : Nat) * hcR n (s - 1) u d = B at p2 t1
  generalize Rat.divInt u (u + d : Nat) * stR n (s + 1) u d = A2 at p3 t2
  generalize Rat.divInt d (u + d : Nat) * stR n (s - 1) u d = B2 at p4 t2
  generalize Rat.divInt s n = L at lw q5
  have w0 : exec (callF ds (k + 5)) B51_0 [c0, .sh (.int n), .sh (.int u), .sh (.int d), .sh (hcL n u d), .sh (.int s), .sh (stL n u d), x7, x8, x9] = .nx [c0, .sh (.int n), .sh (.int u), .sh (.int d), .sh (hcL n u d), .sh (.int s), .sh (stL n u d), .sh (.lst [fr A, fr B]), x8, x9] := by
    simp [B51_0, i1, i2, p1, p2]
  have w1 : ∀ x7, x7 = .sh (.lst [fr A, fr B]) → exec (callF ds (k + 5)) B51_1 [c0, .sh (.int n), .sh (.int u), .sh (.int d), .sh (hcL n u d), .sh (.int s), .sh (stL n u d), x7, x8, x9] = .nx [c0, .sh (.int n), .sh (.int u), .sh (.int d), .sh (hcL n u d), .sh (.int s), .sh (stL n u d), x7, x8, x9] := fun x7 e => by
    subst e
    simp [B51_1, t1, i0]
  have w2 : ∀ x7, exec (callF ds (k + 5)) B51_2 [c0, .sh (.int n), .sh (.int u), .sh (.int d), .sh (hcL n u d), .sh (.int s), .sh (stL n u d), x7, x8, x9] = .nx [c0, .sh (.int n), .sh (.int u), .sh (.int d), .sh (hcL n u d), .sh (.int s), .sh (stL n u d), .sh (.lst [fr A2, fr B2]), x8, x9] := fun x7 => by
    simp [B51_2, j1, j2, p3, p4]
  have w3 : ∀ x7, x7 = .sh (.lst [fr A2, fr B2]) → exec (callF ds (k + 5)) B51_3 [c0, .sh (.int n), .sh (.int u), .sh (.int d), .sh (hcL n u d), .sh (.int s), .sh (stL n u d), x7, x8, x9] = .nx [c0, .sh (.int n), .sh (.int u), .sh (.int d), .sh (hcL n u d), .sh (.int s), .sh (stL n u d), x7, x8, x9] := fun x7 e => by
    subst e
    have h3 : (3 : Nat) ≤ SZ := by decide
    simp [B51_3, t2, j0, h3]
  have w4 : ∀ x7, exec (callF ds (k + 5)) B51_4 [c0, .sh (.int n), .sh (.int u), .sh (.int d), .sh (hcL n u d), .sh (.int s), .sh (stL n u d), x7, x8, x9] = .nx [c0, .sh (.int n), .sh (.int u), .sh (.int d), .sh (hcL n u d), .sh (.int s), .sh (stL n u d), x7, .sh (fr (hcR n (n - s) d u)), x9] := fun x7 => by
    simp [B51_4, hw]
  have w5 : ∀ x7, exec (callF ds (k + 5)) B51_5 [c0, .sh (.int n), .sh (.int u), .sh (.int d), .sh (hcL n u d), .sh (.int s), .sh (stL n u d), x7, .sh (fr (hcR n (n - s) d u)), x9] = .nx [c0, .sh (.int n), .sh (.int u), .sh (.int d), .sh (hcL n u d), .sh (.int s), .sh (stL n u d), x7, .sh (fr (hcR n (n - s) d u)), x9] := fun x7 => by
    simp [B51_5, i0, j0, t3, sw, z11]
  have w6 : ∀ x7 x8, exec (callF ds (k + 5)) B51_6 [c0, .sh (.int n), .sh (.int u), .sh (.int d), .sh (hcL n u d), .sh (.int s), .sh (stL n u d), x7, x8, x9] = .nx [c0, .sh (.int n), .sh (.int u), .sh (.int d), .sh (hcL n u d), .sh (.int s), .sh (stL n u d), x7, x8, .sh (.lst [fr L, .tup [.int ((s : Int) * ((n : Int) - s)), .int 1]])] := fun x7 x8 => by
    simp [B51_6, lw, mm]
  have w7 : ∀ x7 x8, exec (callF ds (k + 5)) B51_7 [c0, .sh (.int n), .sh (.int u), .sh (.int d), .sh (hcL n u d), .sh (.int s), .sh (stL n u d), x7, x8, .sh (.lst [fr L, .tup [.int ((s : Int) * ((n : Int) - s)), .int 1]])] = .nx [c0, .sh (.int n), .sh (.int u), .sh (.int d), .sh (hcL n u d), .sh (.int s), .sh (stL n u d), x7, x8, .sh (.lst [fr L, .tup [.int ((s : Int) * ((n : Int) - s)), .int 1]])] := fun x7 x8 => by
    by_cases hud : u = d
    · obtain ⟨g1, g2⟩ := q5 hud
      have g3 : fr (stR n s u d) = .tup [.int ((s : Int) * ((n : Int) - s)), .int 1] := by rw [g2]; rfl
      rw [g3] at j0
      rw [g1] at i0
      have hud' : (u : Int) = d := by omega
      simp [B51_7, i0, j0, hud']
    · have : ((u : Int) == (d : Int)) = false := by simpa using fun z => hud (by omega)
      simp [B51_7, this, hud]
  have w8 : ∀ x7 x8 x9, exec (callF ds (k + 5)) B51_8 [c0, .sh (.int n), .sh (.int u), .sh (.int d), .sh (hcL n u d), .sh (.int s), .sh (stL n u d), x7, x8, x9] = .nx [c0, .sh (.int n), .sh (.int u), .sh (.int d), .sh (hcL n u d), .sh (.int s), .sh (stL n u d), x7, x8, x9] := fun x7 x8 x9 => by
    simp [B51_8, up, i0, il]
  refine ⟨.sh (.lst [fr A2, fr B2]), .sh (fr (hcR n (n - s) d u)), .sh (.lst [fr L, .tup [.int ((s : Int) * ((n : Int) - s)), .int 1]]), ?_⟩
  rw [execs_cons_, w0]; simp only []
  rw [execs_cons_, w1 _ rfl]; simp only []
  rw [execs_cons_, w2]; simp only []
  rw [execs_cons_, w3 _ rfl]; simp only []
  rw [execs_cons_, w4]; simp only []
  rw [execs_cons_, w5]; simp only []
  rw [execs_cons_, w6]; simp only []
  rw [execs_cons_, w7]; simp only []
  rw [execs_cons_, w8]; simp only []
  rw [execs_nil_]
def S51_6 : S := .forS (.nm 5) .rng2 [(.cst (.int 1)), (.var 1)] [B51_0, B51_1, B51_2, B51_3, B51_4, B51_5, B51_6, B51_7, B51_8]
theorem turnA {F : Fns} {f : Nat} {t : T} {n i u d : Int} {c0 a4 a5 a6 a7 a8 a9 : Cell} (h : F f [.int n, .int i, .int u, .int d] = .ok t) :
    turn1 F (.call f [(.var 1), (.var 5), (.var 2), (.var 3)]) (.nm 5) [] [5] [c0, .sh (.int n), .sh (.int u), .sh (.int d), a4, a5, a6, a7, a8, a9] (.int i) = .ok (some t) := by
  simp [turn1, wipeC, h]
theorem hq1 (D : D51 ds) (k : Nat) {n u d i : Nat} (h1 : 1 ≤ n) (h2 : n ≤ 12) (h4 : 1 ≤ u) (h5 : u ≤ 9) (h6 : 1 ≤ d) (h7 : d ≤ 9) (hi : i < n + 1) : callF ds (k + 5) 158 [.int n, .int i, .int u, .int d] = .ok (fr (hcR n i u d)) :=
  home_ok D (k + 2) (n := n) (s := i) (u := u) (d := d) rfl rfl rfl rfl h1 h2 (by omega) h4 (by omega) h6 (by omega)
theorem hq2 (D : D51 ds) (k : Nat) {n u d i : Nat} (h1 : 1 ≤ n) (h2 : n ≤ 12) (h4 : 1 ≤ u) (h5 : u ≤ 9) (h6 : 1 ≤ d) (h7 : d ≤ 9) (hi : i < n + 1) (c0 a4 : Cell) :
    turn1 (callF ds (k + 5)) (.call 158 [(.var 1), (.var 5), (.var 2), (.var 3)]) (.nm 5) [] [5] [c0, .sh (.int n), .sh (.int u), .sh (.int d), a4, .un, .un, .un, .un, .un] (.int i) = .ok (some (fr (hcR n i u d))) := turnA (hq1 D k h1 h2 h4 h5 h6 h7 hi)
theorem hq3 (D : D51 ds) (k : Nat) {n u d : Nat} (h1 : 1 ≤ n) (h2 : n ≤ 12) (h4 : 1 ≤ u) (h5 : u ≤ 9) (h6 : 1 ≤ d) (h7 : d ≤ 9) (c0 a4 : Cell) :
    compL (turn1 (callF ds (k + 5)) (.call 158 [(.var 1), (.var 5), (.var 2), (.var 3)]) (.nm 5) [] [5] [c0, .sh (.int n), .sh (.int u), .sh (.int d), a4, .un, .un, .un, .un, .un]) (rngT 0 (n + 1)) = .ok ((List.range (n + 1)).map fun s => fr (hcR n s u d)) :=
  compL_range (n + 1) fun i hi => hq2 D k h1 h2 h4 h5 h6 h7 hi c0 a4
theorem sq1 (D : D51 ds) (k : Nat) {n u d i : Nat} (h1 : 1 ≤ n) (h2 : n ≤ 12) (h4 : 1 ≤ u) (h5 : u ≤ 9) (h6 : 1 ≤ d) (h7 : d ≤ 9) (hi : i < n + 1) : callF ds (k + 5) 159 [.int n, .int i, .int u, .int d] = .ok (fr (stR n i u d)) :=
  steps_ok D (k + 1) (n := n) (s := i) (u := u) (d := d) rfl rfl rfl rfl h1 h2 (by omega) h4 (by omega) h6 (by omega)
theorem sq2 (D : D51 ds) (k : Nat) {n u d i : Nat} (h1 : 1 ≤ n) (h2 : n ≤ 12) (h4 : 1 ≤ u) (h5 : u ≤ 9) (h6 : 1 ≤ d) (h7 : d ≤ 9) (hi : i < n + 1) (c0 a4 : Cell) :
    turn1 (callF ds (k + 5)) (.call 159 [(.var 1), (.var 5), (.var 2), (.var 3)]) (.nm 5) [] [5] [c0, .sh (.int n), .sh (.int u), .sh (.int d), a4, .un, .un, .un, .un, .un] (.int i) = .ok (some (fr (stR n i u d))) := turnA (sq1 D k h1 h2 h4 h5 h6 h7 hi)
theorem sq3 (D : D51 ds) (k : Nat) {n u d : Nat} (h1 : 1 ≤ n) (h2 : n ≤ 12) (h4 : 1 ≤ u) (h5 : u ≤ 9) (h6 : 1 ≤ d) (h7 : d ≤ 9) (c0 a4 : Cell) :
    compL (turn1 (callF ds (k + 5)) (.call 159 [(.var 1), (.var 5), (.var 2), (.var 3)]) (.nm 5) [] [5] [c0, .sh (.int n), .sh (.int u), .sh (.int d), a4, .un, .un, .un, .un, .un]) (rngT 0 (n + 1)) = .ok ((List.range (n + 1)).map fun s => fr (stR n s u d)) :=
  compL_range (n + 1) fun i hi => sq2 D k h1 h2 h4 h5 h6 h7 hi c0 a4
theorem zA51 {F : Fns} {n f : Nat} {u d : Int} {c0 a4 : Cell} {L : List T} (r1 : itemsT .rng1 [.int ((n : Int) + 1)] = .ok (rngT 0 (n + 1)))
    (c : compL (turn1 F (.call f [(.var 1), (.var 5), (.var 2), (.var 3)]) (.nm 5) [] [5] [c0, .sh (.int n), .sh (.int u), .sh (.int d), a4, .un, .un, .un, .un, .un]) (rngT 0 (n + 1)) = .ok L) :
    ev F (.comp (.call f [(.var 1), (.var 5), (.var 2), (.var 3)]) (.nm 5) .rng1 [(.bin .add (.var 1) (.cst (.int 1)))] [] [5]) [c0, .sh (.int n), .sh (.int u), .sh (.int d), a4, .un, .un, .un, .un, .un] = .ok (.lst L) := by
  rw [ev_comp_]
  have e : evs F [(.bin .add (.var 1) (.cst (.int 1)))] [c0, .sh (.int n), .sh (.int u), .sh (.int d), a4, .un, .un, .un, .un, .un] = .ok [.int ((n : Int) + 1)] := by simp
  rw [e, bind_ok_, r1, bind_ok_, c, bind_ok_]
theorem rest51 (D : D51 ds) (k : Nat) {n u d : Nat} (h1 : 1 ≤ n) (h2 : n ≤ 12) (h4 : 1 ≤ u) (h5 : u ≤ 9) (h6 : 1 ≤ d) (h7 : d ≤ 9) (f : F51 n u d) (c0 : Cell) :
    execs (callF ds (k + 5)) [S51_3, S51_4, S51_5, S51_6, S51_7] [c0, .sh (.int n), .sh (.int u), .sh (.int d), .un, .un, .un, .un, .un, .un] = .rt (.bl true) := by
  have r1 : itemsT .rng1 [.int ((n : Int) + 1)] = .ok (rngT 0 (n + 1)) := by
    have : (n : Int) + 1 = ((n + 1 : Nat) : Int) := by omega
    rw [this]; exact items_rng1 _ (by omega)
  have w3 : exec (callF ds (k + 5)) S51_3 [c0, .sh (.int n), .sh (.int u), .sh (.int d), .un, .un, .un, .un, .un, .un] = .nx [c0, .sh (.int n), .sh (.int u), .sh (.int d), .sh (hcL n u d), .un, .un, .un, .un, .un] := by
    have c := hq3 D k h1 h2 h4 h5 h6 h7 c0 .un
    have v := zA51 r1 c
    unfold S51_3
    rw [exec_asg_, v]
    rfl
  have w4 : exec (callF ds (k + 5)) S51_4 [c0, .sh (.int n), .sh (.int u), .sh (.int d), .sh (hcL n u d), .un, .un, .un, .un, .un] = .nx [c0, .sh (.int n), .sh (.int u), .sh (.int d), .sh (hcL n u d), .un, .sh (stL n u d), .un, .un, .un] := by
    have c := sq3 D k h1 h2 h4 h5 h6 h7 c0 (.sh (hcL n u d))
    have v := zA51 r1 c
    unfold S51_4
    rw [exec_asg_, v]
    rfl
  have i0 : idxT (hcL n u d) (.int 0) = .ok (fr 0) := by
    have := at_range (g := fun s => fr (hcR n s u d)) (m := n + 1) (i := 0) (by omega)
    simp only [f.c0] at this
    exact this
  have iL : idxT (hcL n u d) (.int (-1)) = .ok (fr 1) := by
    have : (List.map (fun s => fr (hcR n s u d)) (List.range (n + 1))).getLast? = some (fr 1) := by
      rw [List.getLast?_eq_getElem?]
      simp [f.cn]
    exact at_last this
  have j0 : idxT (stL n u d) (.int 0) = .ok (fr 0) := by
    have := at_range (g := fun s => fr (stR n s u d)) (m := n + 1) (i := 0) (by omega)
    simp only [f.t0] at this
    exact this
  have jL : idxT (stL n u d) (.int (-1)) = .ok (fr 0) := by
    have : (List.map (fun s => fr (stR n s u d)) (List.range (n + 1))).getLast? = some (fr 0) := by
      rw [List.getLast?_eq_getElem?]
      simp [f.tn]
    exact at_last this
  have z0 : T.tup [.int 0, .int 1] = fr 0 := rfl
  have z1 : T.tup [.int 1, .int 1] = fr 1 := rfl
  have w5 : exec (callF ds (k + 5)) S51_5 [c0, .sh (.int n), .sh (.int u), .sh (.int d), .sh (hcL n u d), .un, .sh (stL n u d), .un, .un, .un] = .nx [c0, .sh (.int n), .sh (.int u), .sh (.int d), .sh (hcL n u d), .un, .sh (stL n u d), .un, .un, .un] := by
    simp [S51_5, i0, iL, j0, jL, z0, z1]
  have w6 : ∃ x5 x7 x8 x9, exec (callF ds (k + 5)) S51_6 [c0, .sh (.int n), .sh (.int u), .sh (.int d), .sh (hcL n u d), .un, .sh (stL n u d), .un, .un, .un] = .nx [c0, .sh (.int n), .sh (.int u), .sh (.int d), .sh (hcL n u d), x5, .sh (stL n u d), x7, x8, x9] := by
    obtain ⟨e', h, x5, x7, x8, x9, he⟩ := forF_inv (b := forB (callF ds (k + 5)) (.nm 5) [B51_0, B51_1, B51_2, B51_3, B51_4, B51_5, B51_6, B51_7, B51_8]) (fun e => ∃ x5 x7 x8 x9, e = [c0, .sh (.int n), .sh (.int u), .sh (.int d), .sh (hcL n u d), x5, .sh (stL n u d), x7, x8, x9]) (rngT 1 (n - 1)) [c0, .sh (.int n), .sh (.int u), .sh (.int d), .sh (hcL n u d), .un, .sh (stL n u d), .un, .un, .un] ⟨_, _, _, _, rfl⟩ (by
      rintro x hx e ⟨x5, x7, x8, x9, rfl⟩
      rw [rngT_map] at hx
      obtain ⟨i, hi, rfl⟩ := List.mem_map.mp hx
      have hi := List.mem_range.mp hi
      have es : (1 : Int) + (i : Nat) = ((1 + i : Nat) : Int) := by omega
      obtain ⟨y7, y8, y9, ht⟩ := turn51 D k (s := 1 + i) h1 h2 h4 h5 h6 h7 f (by omega) (by omega) c0 x7 x8 x9
      refine ⟨_, ?_, .sh (.int ((1 + i : Nat) : Int)), y7, y8, y9, rfl⟩
      rw [forB_, asg_nm_, es]
      simp only [List.set_cons_succ, List.set_cons_zero]
      exact ht)
    refine ⟨x5, x7, x8, x9, ?_⟩
    rw [← he, ← h]
    unfold S51_6
    rw [exec_forS_]
    have r2 : itemsT .rng2 [.int 1, .int n] = .ok (rngT 1 (n - 1)) := items_rng2 1 n ⟨by omega, by omega⟩
    simp only [evs_cons_, evs_nil_, ev_cst_, ev_var_, rd_, List.getElem?_cons_succ, List.getElem?_cons_zero, bind_ok_, r2, flOf_ok_]
  obtain ⟨x5, x7, x8, x9, w6⟩ := w6
  have dv : ((n : Int)).fdiv 2 = ((n / 2 : Nat) : Int) := by
    rw [Int.fdiv_eq_ediv_of_nonneg _ (by decide)]; rfl
  have hm := home_ok D (k + 2) (n := n) (s := n / 2) (u := 2 * u) (d := 2 * d) (n' := n) (s' := ((n / 2 : Nat) : Int)) (u' := 2 * (u : Int)) (d' := 2 * (d : Int)) rfl rfl (by omega) (by omega) h1 h2 (by omega) (by omega) (by omega) (by omega) (by omega)
  have i2 : idxT (hcL n u d) (.int ((n / 2 : Nat) : Int)) = .ok (fr (hcR n (n / 2) u d)) := at_range (by omega)
  rw [f.dbl] at hm
  have m1 : mulOk 2 (u : Int) = true := mulOk_l (by decide)
  have m2 : mulOk 2 (d : Int) = true := mulOk_l (by decide)
  have d2 : divOk 2 = true := by
    unfold divOk
    simp only [decide_eq_true_eq]
    exact ⟨by decide, p8000 (k := 2) (by decide)⟩
  have w7 : exec (callF ds (k + 5)) S51_7 [c0, .sh (.int n), .sh (.int u), .sh (.int d), .sh (hcL n u d), x5, .sh (stL n u d), x7, x8, x9] = .rt (.bl true) := by
    generalize ((n / 2 : Nat) : Int) = n2 at dv hm i2
    simp [S51_7, m1, m2, d2, dv, hm, i2]
  rw [execs_cons_, w3]; simp only []
  rw [execs_cons_, w4]; simp only []
  rw [execs_cons_, w5]; simp only []
  rw [execs_cons_, w6]; simp only []
  rw [execs_cons_, w7]
theorem law51 (D : D51 ds) (h : ds.lookup 160 = some D_law_k51) (k : Nat) (ns : List Int) : callF ds (k + 6) 160 [scr ns] = .ok (.bl true) := by
  rw [call_at h rfl]
  have eb : D_law_k51.body = [S51_0, S51_1, S51_2, S51_3, S51_4, S51_5, S51_6, S51_7] := rfl
  rw [eb]
  show finF (execs (callF ds (k + 5)) _ [.sh (scr ns), .un, .un, .un, .un, .un, .un, .un, .un, .un]) = _
  have p0 := pick_at D.a7 D.a8 (k + 3) ns (i := 0) (m := 12) (k := 0) (many := 12) (by omega) (by decide) rfl
  have p1 := pick_at D.a7 D.a8 (k + 3) ns (i := 1) (m := 9) (k := 1) (many := 9) (by omega) (by decide) rfl
  have p2 := pick_at D.a7 D.a8 (k + 3) ns (i := 2) (m := 9) (k := 2) (many := 9) (by omega) (by decide) rfl
  have p3 := pick_at D.a7 D.a8 (k + 3) ns (i := 3) (m := 4) (k := 3) (many := 4) (by omega) (by decide) rfl
  have l0 := pick_lt ns 0 (many := 12) (by decide)
  have l1 := pick_lt ns 1 (many := 9) (by decide)
  have l2 := pick_lt ns 2 (many := 9) (by decide)
  generalize pickZ ns 0 12 = a at p0 l0
  generalize pickZ ns 1 9 = b at p1 l1
  generalize pickZ ns 2 9 = e at p2 l2
  generalize pickZ ns 3 4 = g at p3
  have v0 : exec (callF ds (k + 5)) S51_0 [.sh (scr ns), .un, .un, .un, .un, .un, .un, .un, .un, .un] = .nx [.sh (scr ns), .sh (.int (1 + a)), .un, .un, .un, .un, .un, .un, .un, .un] := by
    simp [S51_0, p0]
  have v1 : exec (callF ds (k + 5)) S51_1 [.sh (scr ns), .sh (.int (1 + a)), .un, .un, .un, .un, .un, .un, .un, .un] = .nx [.sh (scr ns), .sh (.int (1 + a)), .sh (.int (1 + b)), .sh (.int (1 + e)), .un, .un, .un, .un, .un, .un] := by
    simp [S51_1, p1, p2]
  have v2 : ∃ e' < 9, exec (callF ds (k + 5)) S51_2 [.sh (scr ns), .sh (.int (1 + a)), .sh (.int (1 + b)), .sh (.int (1 + e)), .un, .un, .un, .un, .un, .un] = .nx [.sh (scr ns), .sh (.int (1 + a)), .sh (.int (1 + b)), .sh (.int (1 + (e' : Nat))), .un, .un, .un, .un, .un, .un] := by
    by_cases hg : g = 0
    · exact ⟨b, l1, by simp [S51_2, p3, hg]⟩
    · exact ⟨e, l2, by simp [S51_2, p3, hg]⟩
  obtain ⟨e', l3, v2⟩ := v2
  rw [execs_cons_, v0]; simp only []
  rw [execs_cons_, v1]; simp only []
  rw [execs_cons_, v2]; simp only []
  have x1 : (1 : Int) + a = ((a + 1 : Nat) : Int) := by omega
  have x2 : (1 : Int) + b = ((b + 1 : Nat) : Int) := by omega
  have x3 : (1 : Int) + e' = ((e' + 1 : Nat) : Int) := by omega
  rw [x1, x2, x3, rest51 D k (by omega) (by omega) (by omega) (by omega) (by omega) (by omega) (f51 (all51 l0 l1 l3))]
  rfl
end
end Fz

/-! the table of the law: printed by gen.py -/
namespace Fz
open PySem PySem.Spec L2
def top (i : Nat) : Stmt := PySem.Challenge.pw_fairstops_k51_whole_home.main.body.getD i (.Pass ⟨0, 0, 0, 0⟩)
def exs : List Str := []
def d_divisor : DefT := { id := 24, x := "divisor", N := ["one", "other"], ps := ["one", "other"], acc := [], st := top 1, d := D_divisor }
def d_share : DefT := { id := 25, x := "share", N := ["up", "down", "by"], ps := ["up", "down"], acc := [], st := top 2, d := D_share }
def d_times : DefT := { id := 26, x := "times", N := ["one", "other"], ps := ["one", "other"], acc := [], st := top 3, d := D_times }
def d_is_less : DefT := { id := 43, x := "is_less", N := ["one", "other"], ps := ["one", "other"], acc := [], st := top 4, d := D_is_less }
def d_power : DefT := { id := 157, x := "power", N := ["number", "many", "made", "again"], ps := ["number", "many"], acc := [], st := top 6, d := D_power }
def d_home_chance : DefT := { id := 158, x := "home_chance", N := ["many", "start", "up", "down", "top", "low"], ps := ["many", "start", "up", "down"], acc := [], st := top 7, d := D_home_chance }
def d_steps_home : DefT := { id := 159, x := "steps_home", N := ["many", "start", "up", "down", "away"], ps := ["many", "start", "up", "down"], acc := [], st := top 8, d := D_steps_home }
def d__law_cell : DefT := { id := 7, x := "_law_cell", N := ["_law_script", "_law_k"], ps := ["_law_script", "_law_k"], acc := [], st := top 10, d := D__law_cell }
def d__law_pick : DefT := { id := 8, x := "_law_pick", N := ["_law_script", "_law_k", "_law_many", "_law_drawn_here"], ps := ["_law_script", "_law_k", "_law_many"], acc := [], st := top 11, d := D__law_pick }
def d__law_low : DefT := { id := 13, x := "_law_low", N := ["_law_up", "_law_down", "_law_one", "_law_other"], ps := ["_law_up", "_law_down"], acc := [], st := top 16, d := D__law_low }
def d__law_sum : DefT := { id := 14, x := "_law_sum", N := ["_law_some", "_law_up", "_law_down", "_law_one"], ps := ["_law_some"], acc := [], st := top 17, d := D__law_sum }
def d__law_prod : DefT := { id := 15, x := "_law_prod", N := ["_law_one", "_law_other"], ps := ["_law_one", "_law_other"], acc := [], st := top 18, d := D__law_prod }
def d_law : DefT := { id := 160, x := "law", N := ["_law_script", "_law_many", "_law_up", "_law_down", "_law_chances", "_law_start", "_law_steps", "_law_parts", "_law_away", "_law_plain"], ps := ["_law_script"], acc := [], st := top 19, d := D_law_k51 }
def tab : List DefT := [d_divisor, d_share, d_times, d_is_less, d_power, d_home_chance, d_steps_home, d__law_cell, d__law_pick, d__law_low, d__law_sum, d__law_prod, d_law]
def mo : Mo := { tab := tab, gc := [], gx := nameIx exs 0, bl := ["abs", "len", "range"] }
theorem c_divisor : DefC mo d_divisor := ⟨⟨rfl, rfl, rfl, by decide +kernel, rfl, by decide +kernel, by decide +kernel⟩, by kernel_rfl, rfl, rfl, fun _ _ _ _ _ _ us hl => match us, hl with | [_, _], _ => rfl⟩
theorem c_share : DefC mo d_share := ⟨⟨rfl, rfl, rfl, by decide +kernel, rfl, by decide +kernel, by decide +kernel⟩, by kernel_rfl, rfl, rfl, fun _ _ _ _ _ _ us hl => match us, hl with | [_, _], _ => rfl⟩
theorem c_times : DefC mo d_times := ⟨⟨rfl, rfl, rfl, by decide +kernel, rfl, by decide +kernel, by decide +kernel⟩, by kernel_rfl, rfl, rfl, fun _ _ _ _ _ _ us hl => match us, hl with | [_, _], _ => rfl⟩
theorem c_is_less : DefC mo d_is_less := ⟨⟨rfl, rfl, rfl, by decide +kernel, rfl, by decide +kernel, by decide +kernel⟩, by kernel_rfl, rfl, rfl, fun _ _ _ _ _ _ us hl => match us, hl with | [_, _], _ => rfl⟩
theorem c_power : DefC mo d_power := ⟨⟨rfl, rfl, rfl, by decide +kernel, rfl, by decide +kernel, by decide +kernel⟩, by kernel_rfl, rfl, rfl, fun _ _ _ _ _ _ us hl => match us, hl with | [_, _], _ => rfl⟩
theorem c_home_chance : DefC mo d_home_chance := ⟨⟨rfl, rfl, rfl, by decide +kernel, rfl, by decide +kernel, by decide +kernel⟩, by kernel_rfl, rfl, rfl, fun _ _ _ _ _ _ us hl => match us, hl with | [_, _, _, _], _ => rfl⟩
theorem c_steps_home : DefC mo d_steps_home := ⟨⟨rfl, rfl, rfl, by decide +kernel, rfl, by decide +kernel, by decide +kernel⟩, by kernel_rfl, rfl, rfl, fun _ _ _ _ _ _ us hl => match us, hl with | [_, _, _, _], _ => rfl⟩
theorem c__law_cell : DefC mo d__law_cell := ⟨⟨rfl, rfl, rfl, by decide +kernel, rfl, by decide +kernel, by decide +kernel⟩, by kernel_rfl, rfl, rfl, fun _ _ _ _ _ _ us hl => match us, hl with | [_, _], _ => rfl⟩
theorem c__law_pick : DefC mo d__law_pick := ⟨⟨rfl, rfl, rfl, by decide +kernel, rfl, by decide +kernel, by decide +kernel⟩, by kernel_rfl, rfl, rfl, fun _ _ _ _ _ _ us hl => match us, hl with | [_, _, _], _ => rfl⟩
theorem c__law_low : DefC mo d__law_low := ⟨⟨rfl, rfl, rfl, by decide +kernel, rfl, by decide +kernel, by decide +kernel⟩, by kernel_rfl, rfl, rfl, fun _ _ _ _ _ _ us hl => match us, hl with | [_, _], _ => rfl⟩
theorem c__law_sum : DefC mo d__law_sum := ⟨⟨rfl, rfl, rfl, by decide +kernel, rfl, by decide +kernel, by decide +kernel⟩, by kernel_rfl, rfl, rfl, fun _ _ _ _ _ _ us hl => match us, hl with | [_], _ => rfl⟩
theorem c__law_prod : DefC mo d__law_prod := ⟨⟨rfl, rfl, rfl, by decide +kernel, rfl, by decide +kernel, by decide +kernel⟩, by kernel_rfl, rfl, rfl, fun _ _ _ _ _ _ us hl => match us, hl with | [_, _], _ => rfl⟩
theorem c_law : DefC mo d_law := ⟨⟨rfl, rfl, rfl, by decide +kernel, rfl, by decide +kernel, by decide +kernel⟩, by kernel_rfl, rfl, rfl, fun _ _ _ _ _ _ us hl => match us, hl with | [_], _ => rfl⟩
theorem chk : ∀ t ∈ mo.tab, DefC mo t := by
  intro t h
  simp only [mo, tab, List.mem_cons, List.not_mem_nil, or_false] at h
  rcases h with rfl | rfl | rfl | rfl | rfl | rfl | rfl | rfl | rfl | rfl | rfl | rfl | rfl
  · exact c_divisor
  · exact c_share
  · exact c_times
  · exact c_is_less
  · exact c_power
  · exact c_home_chance
  · exact c_steps_home
  · exact c__law_cell
  · exact c__law_pick
  · exact c__law_low
  · exact c__law_sum
  · exact c__law_prod
  · exact c_law
end Fz

namespace Fz
open PySem
theorem law_main (ns : List Int) (h : ns.length ≤ 63) : mo.F 12 d_law.id [.lst (ns.map T.int)] = .ok (.bl true) :=
  law51 (ds := dsOf mo.tab) ⟨rfl, rfl, rfl, rfl, rfl, rfl, rfl, rfl, rfl, rfl, rfl, rfl⟩ rfl 6 ns
end Fz

open PySem PySem.W PyProof.Rows
set_option maxRecDepth 100000 in
set_option maxHeartbeats 0 in
theorem PySem.Challenge.cw_fairstops_k51_whole_home_holds : PySem.Challenge.rw_fairstops_k51_whole_home.Holds := by
  w_on; o_law; k_head; (case hw => w_witness2)
  k_fill
  refine Fz.law_holds (l := PySem.Challenge.rw_fairstops_k51_whole_home) (M := Fz.mo) (t := Fz.d_law) (n := 11) (x := "_law_script") (xs := Fz.exs) rfl rfl ⟨rfl, by decide, by decide⟩ (fun w h Y => PySem.W.kIn_of Y) (by decide +kernel) (by simp [Fz.mo, Fz.tab]) rfl rfl rfl Fz.chk Fz.law_main ?F
  case F =>
    intro w
    refine' Fz.facts_mk ?h1 ?h2 ?h3 ?h4
    case' h1 => skip
    refine' Fz.FnsF.cons (Fz.fnF_mk ?a ?l ?c ?k) ?r1
    (case a => k_is); (case l => k_is); (case c => k_is); (case k => k_is)
    case' r1 => skip
    refine' Fz.FnsF.cons (Fz.fnF_mk ?a ?l ?c ?k) ?r2
    (case a => k_is); (case l => k_is); (case c => k_is); (case k => k_is)
    case' r2 => skip
    refine' Fz.FnsF.cons (Fz.fnF_mk ?a ?l ?c ?k) ?r3
    (case a => k_is); (case l => k_is); (case c => k_is); (case k => k_is)
    case' r3 => skip
    refine' Fz.FnsF.cons (Fz.fnF_mk ?a ?l ?c ?k) ?r4
    (case a => k_is); (case l => k_is); (case c => k_is); (case k => k_is)
    case' r4 => skip
    refine' Fz.FnsF.cons (Fz.fnF_mk ?a ?l ?c ?k) ?r5
    (case a => k_is); (case l => k_is); (case c => k_is); (case k => k_is)
    case' r5 => skip
    refine' Fz.FnsF.cons (Fz.fnF_mk ?a ?l ?c ?k) ?r6
    (case a => k_is); (case l => k_is); (case c => k_is); (case k => k_is)
    case' r6 => skip
    refine' Fz.FnsF.cons (Fz.fnF_mk ?a ?l ?c ?k) ?r7
    (case a => k_is); (case l => k_is); (case c => k_is); (case k => k_is)
    case' r7 => skip
    refine' Fz.FnsF.cons (Fz.fnF_mk ?a ?l ?c ?k) ?r8
    (case a => k_is); (case l => k_is); (case c => k_is); (case k => k_is)
    case' r8 => skip
    refine' Fz.FnsF.cons (Fz.fnF_mk ?a ?l ?c ?k) ?r9
    (case a => k_is); (case l => k_is); (case c => k_is); (case k => k_is)
    case' r9 => skip
    refine' Fz.FnsF.cons (Fz.fnF_mk ?a ?l ?c ?k) ?r10
    (case a => k_is); (case l => k_is); (case c => k_is); (case k => k_is)
    case' r10 => skip
    refine' Fz.FnsF.cons (Fz.fnF_mk ?a ?l ?c ?k) ?r11
    (case a => k_is); (case l => k_is); (case c => k_is); (case k => k_is)
    case' r11 => skip
    refine' Fz.FnsF.cons (Fz.fnF_mk ?a ?l ?c ?k) ?r12
    (case a => k_is); (case l => k_is); (case c => k_is); (case k => k_is)
    case' r12 => skip
    refine' Fz.FnsF.cons (Fz.fnF_mk ?a ?l ?c ?k) ?r13
    (case a => k_is); (case l => k_is); (case c => k_is); (case k => k_is)
    case' r13 => skip
    exact Fz.FnsF.nil
    case' h2 => skip
    exact Fz.ExsF.nil
    case' h3 => skip
    exact Fz.CstF.nil
    case' h4 => skip
    refine' Fz.NoF.cons ?a ?r14
    (case a => k_is)
    case' r14 => skip
    refine' Fz.NoF.cons ?a ?r15
    (case a => k_is)
    case' r15 => skip
    refine' Fz.NoF.cons ?a ?r16
    (case a => k_is)
    case' r16 => skip
    exact Fz.NoF.nil

