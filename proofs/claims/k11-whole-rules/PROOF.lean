import PyProof.Rows.All
import Wide.All
import OpenK.AllK
import Wide.FinOn
import HandS.ForMost
import HandS.Style
import HandS.Flow
import HandS.Wide
import HandS.TryOnly
import HandS.WordsExc
import HandS.Lambda
import HandS.Dict
import HandS.TupMul
import HandS.TupAny
import HandS.IsInst
import PyProof.P3In
import KE.SortData
import HandS.TupSets
import KE.KDictPairs
import KE.KDictKeyed
import HandS.Deep
import HandS.SetFor
import HandS.ExcOwn
import HandS.ExcIs
import KE.GoesNew
import HandS.Zip
import HandS.Exc
import HandS.Ends
import HandS.Words
import PySem.Challenge.RW_fairstops_k11_whole_rules
set_option Elab.async false
set_option linter.all false
set_option maxRecDepth 100000
set_option maxHeartbeats 4000000
/-! the evaluator: trees, expressions, statements, calls -/
namespace Fz
open PySem

/-- a value as a tree -/
inductive T where
  | non
  | bl (b : Bool)
  | int (i : Int)
  | str (x : Str)
  | tup (xs : List T)
  | lst (xs : List T)
  /-- a dict: its keys are tuples of whole numbers, or whole numbers -/
  | dct (tk : Bool) (kvs : List (T × T))
  | fn (f : Nat)
  | exc (c : Nat)
  deriving Inhabited

mutual
/-- == -/
def T.eqv : T → T → Bool
  | .non, .non => true
  | .bl a, .bl b => a == b
  | .bl a, .int j => (if a then 1 else 0) == j
  | .int i, .bl b => i == (if b then 1 else 0)
  | .int i, .int j => i == j
  | .str x, .str y => x == y
  | .lst xs, .lst ys => T.eqvs xs ys
  | .tup xs, .tup ys => T.eqvs xs ys
  | _, _ => false
def T.eqvs : List T → List T → Bool
  | [], [] => true
  | x :: xs, y :: ys => T.eqv x y && T.eqvs xs ys
  | _, _ => false
end
mutual
/-- data of no more than so many layers -/
def T.plain : T → Nat → Bool
  | .non, _ => true
  | .bl _, _ => true
  | .int _, _ => true
  | .str x, _ => PyData.strOk x
  | .tup xs, n => (match n with | 0 => false | m + 1 => T.plains xs m)
  | .lst xs, n => (match n with | 0 => false | m + 1 => T.plains xs m)
  | _, _ => false
def T.plains : List T → Nat → Bool
  | [], _ => true
  | x :: xs, n => T.plain x n && T.plains xs n
end

inductive Res (α : Type) where
  | ok (a : α)
  | ex (c : Nat)
  | no
def Res.bind {α β : Type} : Res α → (α → Res β) → Res β
  | .ok a, k => k a
  | .ex c, _ => .ex c
  | .no, _ => .no
/-- no exception let through -/
def Res.noex {α : Type} : Res α → Res α
  | .ok a => .ok a
  | _ => .no

inductive Bop where | add | sub | mul | fdiv | mod
  deriving DecidableEq
inductive Cop where | eq | ne | lt | le | gt | ge | is | isNot | inn | notIn
  deriving DecidableEq
/-- built-ins by values -/
inductive Blt where
  | abs | max2 | min2 | max1 | min1 | sum | all | any | list | tuple | int | str
  | isInt | isBool | isTuple | isStr | isList | isExc (cs ns : List Nat)
  | sorted | sortedSet | sortedItems | count | index | dict (tk : Bool)
  deriving DecidableEq
/-- what a loop walks -/
inductive IK where | seq | rng1 | rng2 | enum | zip
  deriving DecidableEq
inductive Tg where
  | nm (i : Nat)
  | tp (l : List Tg)

inductive E where
  | var (i : Nat)
  | cst (t : T)
  | bin (op : Bop) (a b : E)
  | neg (a : E)
  | cmp (op : Cop) (a b : E)
  | chain (o1 o2 : Cop) (a b d : E)
  | band (a b : E)
  | bor (a b : E)
  | not (a : E)
  | ite (t a b : E)
  | tup (es : List E)
  | lst (es : List E)
  | len (a : E)
  | idx (a i : E)
  /-- a place of a name's thing, which may be the frame's own -/
  | idxV (i : Nat) (k : E)
  | slc (a : E) (lo hi : List E)
  | rev (a : E)
  | call (f : Nat) (es : List E)
  /-- a def held as a value, one of these -/
  | callv (a : E) (es : List E) (fs : List Nat)
  | blt (b : Blt) (es : List E)
  | comp (elt : E) (tg : Tg) (ik : IK) (its cond : List E) (own : List Nat)
  | dnew (tk : Bool)
  /-- a list's method -/
  | mth (b : Blt) (a k : E)
  | get2 (a k z : E)

inductive S where
  | asg (tg : Tg) (e : E)
  | own (i : Nat) (e : E)
  | par (is : List Nat) (es : List E)
  | share (is : List Nat)
  | app (i : Nat) (e : E)
  | ext (i : Nat) (e : E)
  | setI (i : Nat) (k e : E)
  | expr (e : E)
  | ifS (t : E) (a b : List S)
  | whl (t : E) (b : List S)
  | forS (tg : Tg) (ik : IK) (its : List E) (b : List S)
  | ret (e : E)
  | retN
  | raise (c : Nat)
  | popTo (tg : Tg) (i : Nat)
  /-- try: b / except one of these as i: j = i -/
  | tryKeep (b : List S) (cs ns : List Nat) (i j : Nat)
  | pass

/-- a name's slot: nothing; a value that stands; a list (dict) of the frame's own, that may change -/
inductive Cell where
  | un
  | sh (t : T)
  | ow (t : T)
  deriving Inhabited

/-! ### operators -/
def mulOk (i j : Int) : Bool := decide (i.natAbs < 2 ^ 8000 ∧ j.natAbs < 2 ^ 8000) || decide (i.natAbs < 2 ^ 63) || decide (j.natAbs < 2 ^ 63)
def divOk (j : Int) : Bool := decide (j ≠ 0 ∧ j.natAbs < 2 ^ 8000)
/-- how long lists and texts may get here -/
abbrev SZ : Nat := 1000000
def binop : Bop → T → T → Res T
  | .add, .int i, .int j => .ok (.int (i + j))
  | .sub, .int i, .int j => .ok (.int (i - j))
  | .mul, .int i, .int j => if mulOk i j then .ok (.int (i * j)) else .no
  | .fdiv, .int i, .int j => if divOk j then .ok (.int (i.fdiv j)) else .no
  | .mod, .int i, .int j => if j = 0 then .no else .ok (.int (i.fmod j))
  | .add, .str x, .str y => if x.length + y.length ≤ SZ then .ok (.str (x ++ y)) else .no
  | .add, .tup xs, .tup ys => if xs.length + ys.length ≤ SZ then .ok (.tup (xs ++ ys)) else .no
  | .add, .lst xs, .lst ys => if xs.length + ys.length ≤ SZ then .ok (.lst (xs ++ ys)) else .no
  | .mul, .lst xs, .int k => if xs.length ≤ 1000 ∧ k.natAbs ≤ 1000 then .ok (.lst (List.replicate k.toNat xs).flatten) else .no
  | .mul, .tup xs, .int k => if xs ≠ [] ∧ xs.length ≤ 1000 ∧ 1 ≤ k ∧ k ≤ 1000 then .ok (.tup (List.replicate k.toNat xs).flatten) else .no
  | _, _, _ => .no
def negT : T → Res T
  | .int i => .ok (.int (-i))
  | _ => .no
def isSame : T → T → Res Bool
  | .non, .non => .ok true
  | .bl a, .non => .ok false
  | .int _, .non => .ok false
  | .str _, .non => .ok false
  | .tup _, .non => .ok false
  | .lst _, .non => .ok false
  | .exc _, .non => .ok false
  | .bl a, .bl b => .ok (decide (a = b))
  | _, _ => .no
/-- a thing looked for in things -/
def inT (a : T) (ys : List T) : Bool := ys.any fun y => T.eqv y a
def cmpT : Cop → T → T → Res T
  | .eq, a, b => if a.plain 60 && b.plain 60 then .ok (.bl (T.eqv a b)) else .no
  | .ne, a, b => if a.plain 60 && b.plain 60 then .ok (.bl (!T.eqv a b)) else .no
  | .lt, .int i, .int j => .ok (.bl (decide (i < j)))
  | .le, .int i, .int j => .ok (.bl (decide (i ≤ j)))
  | .gt, .int i, .int j => .ok (.bl (decide (j < i)))
  | .ge, .int i, .int j => .ok (.bl (decide (j ≤ i)))
  | .is, a, b => (isSame a b).bind fun k => .ok (.bl k)
  | .isNot, a, b => (isSame a b).bind fun k => .ok (.bl (!k))
  | .inn, a, .tup ys => if a.plain 60 && T.plains ys 60 then .ok (.bl (inT a ys)) else .no
  | .inn, a, .lst ys => if a.plain 60 && T.plains ys 60 then .ok (.bl (inT a ys)) else .no
  | .notIn, a, .tup ys => if a.plain 60 && T.plains ys 60 then .ok (.bl (!inT a ys)) else .no
  | .notIn, a, .lst ys => if a.plain 60 && T.plains ys 60 then .ok (.bl (!inT a ys)) else .no
  | .inn, .str x, .str y => .ok (.bl (!(Builtin.Str.occurrences y x 0 y.length 1).isEmpty))
  | .notIn, .str x, .str y => .ok (.bl (!(!(Builtin.Str.occurrences y x 0 y.length 1).isEmpty)))
  | _, _, _ => .no
def truT : T → Res Bool
  | .non => .ok false
  | .bl b => .ok b
  | .int i => .ok (i != 0)
  | .str x => if x.length ≤ SZ then .ok (x.length != 0) else .no
  | .tup xs => .ok (!xs.isEmpty)
  | .lst xs => .ok (!xs.isEmpty)
  | _ => .no
/-- the place that an index tells -/
def atT (xs : List T) (i : Int) : Res T :=
  match (if 0 ≤ i then (if i < xs.length then some i.toNat else none) else if -(xs.length : Int) ≤ i then some (i + xs.length).toNat else none) with
  | some j => (match xs[j]? with | some t => .ok t | none => .no)
  | none => .no
/-! ### dicts -/
def intKey : T → Bool
  | .int _ => true
  | _ => false
def keyOk : Bool → T → Bool
  | false, t => intKey t
  | true, .tup xs => xs.all intKey && decide (xs.length ≤ 60)
  | true, _ => false
def getD : List (T × T) → T → Option T
  | [], _ => none
  | p :: r, k => if T.eqv p.1 k then some p.2 else getD r k
def putD (kvs : List (T × T)) (k v : T) : List (T × T) := if kvs.any (fun p => T.eqv p.1 k) then kvs.map fun p => if T.eqv p.1 k then (p.1, v) else p else kvs ++ [(k, v)]
/-- pairs, put down one by one -/
def pairsD (tk : Bool) : List T → List (T × T) → Res (List (T × T))
  | [], m => .ok m
  | .tup [k, v] :: r, m => if keyOk tk k then pairsD tk r (putD m k v) else .no
  | _ :: _, _ => .no
def idxT : T → T → Res T
  | .tup xs, .int i => atT xs i
  | .lst xs, .int i => atT xs i
  | .dct tk kvs, k => if keyOk tk k then (match getD kvs k with | some t => .ok t | none => .no) else .no
  | .str x, .int i => (match L2.atI x.cps.toList i with | some d => if x.length ≤ SZ then .ok (.str ⟨#[d]⟩) else .no | none => .no)
  | _, _ => .no
def cutL (xs : List T) (lo hi : Option Int) : List T := (xs.drop (HT.sIx xs.length 0 lo)).take (HT.sIx xs.length xs.length hi - HT.sIx xs.length 0 lo)
def partT : List T → Res (Option Int)
  | [] => .ok none
  | [.int i] => .ok (some i)
  | _ => .no
def slcT (a : T) (lo hi : Option Int) : Res T :=
  match a with
  | .tup xs => .ok (.tup (cutL xs lo hi))
  | .lst xs => .ok (.lst (cutL xs lo hi))
  | .str x => if x.length ≤ SZ then .ok (.str (L2.cutS x lo hi)) else .no
  | _ => .no
def revT : T → Res T
  | .lst xs => .ok (.lst xs.reverse)
  | .tup xs => .ok (.tup xs.reverse)
  | _ => .no
def lenT : T → Res T
  | .lst xs => .ok (.int xs.length)
  | .tup xs => .ok (.int xs.length)
  | .str x => if x.length ≤ SZ then .ok (.int x.length) else .no
  | _ => .no
def intsT : List T → Option (List Int)
  | [] => some []
  | .int i :: r => (intsT r).map (i :: ·)
  | _ => none
def boolsT : List T → Option (List Bool)
  | [] => some []
  | .bl b :: r => (boolsT r).map (b :: ·)
  | _ => none
def maxI : List Int → Int → Int
  | [], m => m
  | x :: r, m => maxI r (if x > m then x else m)
def minI : List Int → Int → Int
  | [], m => m
  | x :: r, m => minI r (if x < m then x else m)
/-! ### order -/
mutual
/-- data of whole numbers, told as a row of them: rising by the row is rising by Python -/
def enc : T → List Int
  | .int i => [i]
  | .tup xs => encs xs
  | _ => []
def encs : List T → List Int
  | [] => [0]
  | x :: xs => 1 :: (enc x ++ encs xs)
end
def ltE (x y : T) : Bool := decide (enc x < enc y)
mutual
/-- whether two things may be asked for their order, place by place -/
def cmpb : T → T → Bool
  | .int _, .int _ => true
  | .tup xs, .tup ys => cmpbs xs ys
  | _, _ => false
def cmpbs : List T → List T → Bool
  | [], _ => true
  | _ :: _, [] => true
  | x :: xs, y :: ys => cmpb x y && cmpbs xs ys
end
mutual
/-- whole numbers, and tuples of such -/
def pureT : T → Nat → Bool
  | .int _, _ => true
  | .tup xs, n => (match n with | 0 => false | m + 1 => pureTs xs m)
  | _, _ => false
def pureTs : List T → Nat → Bool
  | [], _ => true
  | x :: xs, n => pureT x n && pureTs xs n
end
def insT (x : T) : List T → List T
  | [] => [x]
  | y :: ys => if ltE y x then y :: insT x ys else x :: y :: ys
def sortT : List T → List T
  | [] => []
  | x :: xs => insT x (sortT xs)
def canSort (xs : List T) : Bool := pureTs xs 20 && xs.all fun x => xs.all fun y => cmpb x y
def dedupT : List T → List T
  | [] => []
  | x :: xs => if inT x xs then dedupT xs else x :: dedupT xs
/-- what a set may be made of here -/
def canSet (xs : List T) : Bool := decide (xs.length < 60) && xs.all (keyOk true)
def idxOf (x : T) : List T → Nat → Option Nat
  | [], _ => none
  | y :: ys, k => if T.eqv y x then some k else idxOf x ys (k + 1)
def bltT : Blt → List T → Res T
  | .abs, [.int i] => .ok (.int (if i < 0 then -i else i))
  | .max2, [.int i, .int j] => .ok (.int (if j > i then j else i))
  | .min2, [.int i, .int j] => .ok (.int (if j < i then j else i))
  | .max1, [.lst xs] => (match intsT xs with | some (n :: ns) => .ok (.int (maxI ns n)) | _ => .no)
  | .min1, [.lst xs] => (match intsT xs with | some (n :: ns) => .ok (.int (minI ns n)) | _ => .no)
  | .sum, [.lst xs] => (match intsT xs with | some ns => .ok (.int ns.sum) | none => .no)
  | .all, [.lst xs] => (match boolsT xs with | some bs => .ok (.bl (bs.all id)) | none => .no)
  | .any, [.lst xs] => (match boolsT xs with | some bs => .ok (.bl (bs.any id)) | none => .no)
  | .list, [.lst xs] => .ok (.lst xs)
  | .list, [.tup xs] => .ok (.lst xs)
  | .sorted, [.lst xs] => if canSort xs then .ok (.lst (sortT xs)) else .no
  | .sorted, [.tup xs] => if canSort xs then .ok (.lst (sortT xs)) else .no
  | .sortedSet, [.lst xs] => if canSet xs && canSort xs then .ok (.lst (sortT (dedupT xs))) else .no
  | .sortedSet, [.tup xs] => if canSet xs && canSort xs then .ok (.lst (sortT (dedupT xs))) else .no
  | .sortedItems, [.dct _ kvs] => if canSort (kvs.map fun p => .tup [p.1, p.2]) then .ok (.lst (sortT (kvs.map fun p => .tup [p.1, p.2]))) else .no
  | .count, [.lst xs, t] => if T.plains xs 60 && t.plain 60 then .ok (.int (xs.filter fun y => T.eqv y t).length) else .no
  | .index, [.lst xs, t] => if T.plains xs 60 && t.plain 60 then (match idxOf t xs 0 with | some j => .ok (.int j) | none => .no) else .no
  | .dict tk, [.lst ps] => (pairsD tk ps []).bind fun m => .ok (.dct tk m)
  | .isExc cs ns, [.exc c] => if ns.contains c then .ok (.bl (cs.contains c)) else .no
  | .tuple, [.lst xs] => .ok (.tup xs)
  | .tuple, [.tup xs] => .ok (.tup xs)
  | .int, [.int i] => .ok (.int i)
  | .int, [.bl b] => .ok (.int (if b then 1 else 0))
  | .str, [.int i] => if i.natAbs < 2 ^ 1000 then .ok (.str (toString i)) else .no
  | .isInt, [t] => (match t with | .int _ => .ok (.bl true) | .bl _ => .ok (.bl true) | .exc _ => .no | .fn _ => .no | .dct _ _ => .no | _ => .ok (.bl false))
  | .isBool, [t] => (match t with | .bl _ => .ok (.bl true) | .exc _ => .no | .fn _ => .no | .dct _ _ => .no | _ => .ok (.bl false))
  | .isTuple, [t] => (match t with | .tup _ => .ok (.bl true) | .exc _ => .no | .fn _ => .no | .dct _ _ => .no | _ => .ok (.bl false))
  | .isList, [t] => (match t with | .lst _ => .ok (.bl true) | .exc _ => .no | .fn _ => .no | .dct _ _ => .no | _ => .ok (.bl false))
  | .isStr, [t] => (match t with | .str _ => .ok (.bl true) | .exc _ => .no | .fn _ => .no | .dct _ _ => .no | _ => .ok (.bl false))
  | _, _ => .no
def enumT : Nat → List T → List T
  | _, [] => []
  | k, x :: xs => .tup [.int k, x] :: enumT (k + 1) xs
def zipT : List T → List T → List T
  | x :: xs, y :: ys => .tup [x, y] :: zipT xs ys
  | _, _ => []
def seqOf : T → Option (List T)
  | .lst xs => some xs
  | .tup xs => some xs
  | _ => none
def rngT (lo : Int) : Nat → List T
  | 0 => []
  | n + 1 => .int lo :: rngT (lo + 1) n
/-- what is walked, item by item -/
def itemsT : IK → List T → Res (List T)
  | .seq, [.lst xs] => .ok xs
  | .seq, [.tup xs] => .ok xs
  | .rng1, [.int n] => if n.natAbs ≤ SZ then .ok (rngT 0 n.toNat) else .no
  | .rng2, [.int a, .int b] => if a.natAbs ≤ SZ ∧ b.natAbs ≤ SZ then .ok (rngT a (b - a).toNat) else .no
  | .enum, [a] => (match seqOf a with | some xs => .ok (enumT 0 xs) | none => .no)
  | .zip, [a, b] => (match seqOf a, seqOf b with | some xs, some ys => .ok (zipT xs ys) | _, _ => .no)
  | _, _ => .no

/-! ### slots -/
abbrev Cells := List Cell
def rd (env : Cells) (i : Nat) : Res T := match env[i]? with | some (.sh t) => .ok t | _ => .no
def rdAny (env : Cells) (i : Nat) : Res T := match env[i]? with | some (.sh t) => .ok t | some (.ow t) => .ok t | _ => .no
/-- a name by itself may be one of the frame's own here -/
def rdB (env : Cells) (a : E) (r : Res T) : Res T := match a with | .var i => rdAny env i | _ => r
mutual
def asgT : Tg → T → Cells → Option Cells
  | .nm i, t, env => some (env.set i (.sh t))
  | .tp l, t, env => (match seqOf t with | some xs => asgTs l xs env | none => none)
def asgTs : List Tg → List T → Cells → Option Cells
  | [], [], env => some env
  | g :: gs, t :: ts, env => (match asgT g t env with | some env' => asgTs gs ts env' | none => none)
  | _, _, _ => none
end
def wipeC (env : Cells) : List Nat → Cells
  | [] => env
  | v :: vs => (wipeC env vs).set v .un
def shareC (env : Cells) : List Nat → Cells
  | [] => env
  | i :: is => (match (shareC env is)[i]? with | some (.ow t) => (shareC env is).set i (.sh t) | _ => shareC env is)
def setAll (env : Cells) : List Nat → List T → Cells
  | i :: is, t :: ts => setAll (env.set i (.sh t)) is ts
  | _, _ => env
def compL (k : T → Res (Option T)) : List T → Res (List T)
  | [] => .ok []
  | x :: xs => (k x).bind fun o => (compL k xs).bind fun r => .ok (match o with | some t => t :: r | none => r)

/-! ### expressions -/
abbrev Fns := Nat → List T → Res T
mutual
def ev (F : Fns) : E → Cells → Res T
  | .var i, env => rd env i
  | .cst t, _ => .ok t
  | .bin op a b, env => (ev F a env).bind fun x => (ev F b env).bind fun y => binop op x y
  | .neg a, env => (ev F a env).bind negT
  | .cmp op a b, env => (rdB env a (ev F a env)).bind fun x => (rdB env b (ev F b env)).bind fun y => cmpT op x y
  | .chain o1 o2 a b d, env => (ev F a env).bind fun x => (ev F b env).bind fun y => (cmpT o1 x y).bind fun z =>
      (match z with | .bl true => (ev F d env).bind fun u => cmpT o2 y u | .bl false => .ok (.bl false) | _ => .no)
  | .band a b, env => (ev F a env).bind fun x => (truT x).bind fun k => if k then ev F b env else .ok x
  | .bor a b, env => (ev F a env).bind fun x => (truT x).bind fun k => if k then .ok x else ev F b env
  | .not a, env => (rdB env a (ev F a env)).bind fun x => (truT x).bind fun k => .ok (.bl (!k))
  | .ite t a b, env => (ev F t env).bind fun x => (truT x).bind fun k => if k then ev F a env else ev F b env
  | .tup es, env => (evs F es env).bind fun ts => .ok (.tup ts)
  | .lst es, env => (evs F es env).bind fun ts => .ok (.lst ts)
  | .len a, env => (rdB env a (ev F a env)).bind lenT
  | .idx a i, env => (ev F a env).bind fun x => (ev F i env).bind fun y => idxT x y
  | .idxV i k, env => (rdAny env i).bind fun x => (ev F k env).bind fun y => idxT x y
  | .slc a lo hi, env => (ev F a env).bind fun x => (evs F lo env).bind fun l => (partT l).bind fun lo' => (evs F hi env).bind fun h => (partT h).bind fun hi' => slcT x lo' hi'
  | .rev a, env => (ev F a env).bind revT
  | .call f es, env => (evs F es env).bind fun ts => F f ts
  | .callv a es fs, env => (ev F a env).bind fun x => (match x with | .fn f => if fs.contains f then (evs F es env).bind fun ts => F f ts else .no | _ => .no)
  | .dnew tk, _ => .ok (.dct tk [])
  | .mth b a k, env => (ev F a env).bind fun x => (match x with | .lst l => (ev F k env).bind fun y => bltT b [.lst l, y] | _ => .no)
  | .get2 a k z, env => (rdB env a (ev F a env)).bind fun x => (match x with
      | .dct tk kvs => (ev F k env).bind fun y => (ev F z env).bind fun u => if keyOk tk y then .ok ((getD kvs y).getD u) else .no
      | _ => .no)
  | .blt b es, env => (evs F es env).bind fun ts => bltT b ts
  | .comp elt tg ik its cond own, env => (evs F its env).bind fun as => (itemsT ik as).bind fun xs =>
      (compL (fun x => (match asgT tg x (wipeC env own) with
        | some env' => (evs F cond env').noex.bind fun cs => (match cs with
          | [] => (ev F elt env').noex.bind fun t => .ok (some t)
          | [b] => (truT b).bind fun k => if k then (ev F elt env').noex.bind fun t => .ok (some t) else .ok none
          | _ => .no)
        | none => .no)) xs).bind fun ts => .ok (.lst ts)
def evs (F : Fns) : List E → Cells → Res (List T)
  | [], _ => .ok []
  | e :: es, env => (ev F e env).bind fun t => (evs F es env).bind fun ts => .ok (t :: ts)
end

/-! ### statements -/
inductive Fl where
  | nx (env : Cells)
  | rt (t : T)
  | ex (c : Nat) (env : Cells)
  | no
def flOf {α : Type} (r : Res α) (env : Cells) (k : α → Fl) : Fl := match r with | .ok t => k t | .ex c => .ex c env | .no => .no
def whileF (t : Cells → Res Bool) (b : Cells → Fl) : Nat → Cells → Fl
  | 0, _ => .no
  | n + 1, env => flOf (t env) env fun k => if k then (match b env with | .nx env' => whileF t b n env' | r => r) else .nx env
def forF (b : Cells → T → Fl) : List T → Cells → Fl
  | [], env => .nx env
  | x :: xs, env => (match b env x with | .nx env' => forF b xs env' | r => r)
abbrev FUEL : Nat := 100000
mutual
def exec (F : Fns) : S → Cells → Fl
  | .asg tg e, env => flOf (ev F e env) env fun t => (match asgT tg t env with | some env' => .nx env' | none => .no)
  | .own i e, env => flOf (ev F e env) env fun t => .nx (env.set i (.ow t))
  | .par is es, env => flOf (evs F es env) env fun ts => .nx (setAll env is ts)
  | .share is, env => .nx (shareC env is)
  | .app i e, env => (match env[i]? with
      | some (.ow (.lst xs)) => flOf (ev F e env) env fun t => if xs.length < SZ then .nx (env.set i (.ow (.lst (xs ++ [t])))) else .no
      | _ => .no)
  | .ext i e, env => (match env[i]? with
      | some (.ow (.lst xs)) => flOf (ev F e env) env fun t => (match t with
        | .lst ys => if xs.length + ys.length ≤ SZ then .nx (env.set i (.ow (.lst (xs ++ ys)))) else .no
        | _ => .no)
      | _ => .no)
  | .setI i k e, env => flOf (ev F e env) env fun t => (match env[i]? with
      | some (.ow (.lst xs)) => flOf (ev F k env) env fun j => (match j with
        | .int n => if 0 ≤ n ∧ n < xs.length then .nx (env.set i (.ow (.lst (xs.set n.toNat t)))) else .no
        | _ => .no)
      | some (.ow (.dct tk kvs)) => flOf (ev F k env) env fun j => if keyOk tk j && decide (kvs.length < 1000) then .nx (env.set i (.ow (.dct tk (putD kvs j t)))) else .no
      | _ => .no)
  | .expr e, env => flOf (ev F e env) env fun _ => .nx env
  | .ifS t a b, env => flOf ((ev F t env).bind truT) env fun k => if k then execs F a env else execs F b env
  | .whl t b, env => whileF (fun env => (ev F t env).bind truT) (execs F b) FUEL env
  | .forS tg ik its b, env => flOf ((evs F its env).bind fun as => itemsT ik as) env fun xs =>
      forF (fun env x => (match asgT tg x env with | some env' => execs F b env' | none => .no)) xs env
  | .ret e, env => flOf (ev F e env) env fun t => .rt t
  | .retN, _ => .rt .non
  | .raise c, env => .ex c env
  | .popTo tg i, env => (match env[i]? with
      | some (.ow (.lst xs)) => (match xs.getLast? with
        | some t => (match asgT tg t (env.set i (.ow (.lst xs.dropLast))) with | some env' => .nx env' | none => .no)
        | none => .no)
      | _ => .no)
  | .tryKeep b cs ns i j, env => (match execs F b env with
      | .ex c env' => if ns.contains c then (if cs.contains c then .nx ((env'.set j (.sh (.exc c))).set i .un) else .ex c env') else .no
      | r => r)
  | .pass, env => .nx env
def execs (F : Fns) : List S → Cells → Fl
  | [], env => .nx env
  | s :: ss, env => (match exec F s env with | .nx env' => execs F ss env' | r => r)
end

/-! ### calls -/
structure Def where
  np : Nat
  nl : Nat
  body : List S
def startC (d : Def) (args : List T) : Cells := args.map .sh ++ List.replicate (d.nl - args.length) .un
def finF : Fl → Res T
  | .nx _ => .ok .non
  | .rt t => .ok t
  | .ex c _ => .ex c
  | .no => .no
def callF (defs : List (Nat × Def)) : Nat → Fns
  | 0, _, _ => .no
  | n + 1, f, args => (match defs.lookup f with
    | some d => if args.length = d.np then finF (execs (callF defs n) d.body (startC d args)) else .no
    | none => .no)
end Fz

/-! from the model's syntax to the evaluator's -/
namespace Fz
open PySem

structure TC where
  /-- the def's names by slot, parameters first -/
  N : List Str
  /-- own defs, constants, exception classes of the module -/
  gf : List (Str × Nat)
  gc : List (Str × T)
  gx : List (Str × Nat)
  /-- built-ins that the module does not shadow -/
  bl : List Str
  /-- slots whose lists are changed -/
  acc : List Nat
  /-- for a class of exceptions, those that stand under it -/
  gs : List (Str × List Nat)
  /-- the classes that an except names; all own ones -/
  gt : List (Str × List Nat)
  gn : List Nat
  /-- whether the def's dicts have tuples as keys -/
  tkd : Bool
  /-- the defs that are called as values -/
  fvs : List Nat

def ixOf (x : Str) : List Str → Nat → Option Nat
  | [], _ => none
  | y :: ys, k => if x = y then some k else ixOf x ys (k + 1)
def okName (x : Str) : Bool := !(x == ("__debug__" : Str)) && !(x == ("__classdict__" : Str)) && !(x == ("__name__" : Str))
def visB (sc : Scope) (x : Str) : Bool := match sc.names.lookup x with
  | some .local => true
  | some .cell => true
  | some .free => true
  | _ => false
def glB (sc : Scope) (x : Str) : Bool := match sc.names.lookup x with
  | some .globalImplicit => true
  | _ => false
/-- a name that may be stored to: so is the block's own scope -/
def locB (sc so : Scope) (x : Str) : Bool := match sc.names.lookup x, so.names.lookup x with
  | some .local, _ => true
  | some .cell, some .cell => true
  | _, _ => false
def trN (c : TC) (sc : Scope) (x : Str) : Option E :=
  if okName x then
    if visB sc x then (ixOf x c.N 0).map .var
    else if glB sc x then (match c.gc.lookup x with
      | some t => some (.cst t)
      | none => (match c.gf.lookup x with
        | some f => some (.cst (.fn f))
        | none => none))
    else none
  else none
def trC : Const → Option T
  | .none => some .non
  | .bool b => some (.bl b)
  | .int i => some (.int i)
  | .str x => some (.str x)
  | _ => none
def trOp : Operator → Option Bop
  | .Add => some .add
  | .Sub => some .sub
  | .Mult => some .mul
  | .FloorDiv => some .fdiv
  | .Mod => some .mod
  | _ => none
def trCop : CmpOp → Cop
  | .Eq => .eq
  | .NotEq => .ne
  | .Lt => .lt
  | .LtE => .le
  | .Gt => .gt
  | .GtE => .ge
  | .Is => .is
  | .IsNot => .isNot
  | .In => .inn
  | .NotIn => .notIn
/-- built-ins called by name -/
def trBlt (x : Str) (n : Nat) : Option Blt :=
  if x = "abs" ∧ n = 1 then some .abs
  else if x = "max" ∧ n = 2 then some .max2
  else if x = "min" ∧ n = 2 then some .min2
  else if x = "max" ∧ n = 1 then some .max1
  else if x = "min" ∧ n = 1 then some .min1
  else if x = "sum" ∧ n = 1 then some .sum
  else if x = "all" ∧ n = 1 then some .all
  else if x = "any" ∧ n = 1 then some .any
  else if x = "list" ∧ n = 1 then some .list
  else if x = "tuple" ∧ n = 1 then some .tuple
  else if x = "int" ∧ n = 1 then some .int
  else if x = "str" ∧ n = 1 then some .str
  else if x = "sorted" ∧ n = 1 then some .sorted
  else none
def trIsi (c : TC) (sc : Scope) (x : Str) : Option Blt :=
  if glB sc x && okName x then
    (match c.gs.lookup x with
      | some cs => some (.isExc cs c.gn)
      | none => if c.bl.contains x then
          if x = "int" then some .isInt else if x = "bool" then some .isBool else if x = "tuple" then some .isTuple else if x = "str" then some .isStr else if x = "list" then some .isList else none
        else none)
  else none
def okCop : CmpOp → Bool
  | .In => false
  | .NotIn => false
  | _ => true
def isSetE : Expr → Bool
  | .Set _ _ _ => true
  | _ => false
/-- a name's call: own def or built-in -/
def trCall (c : TC) (sc : Scope) (f : Str) (es : List E) : Option E :=
  if glB sc f && okName f then
    (match c.gf.lookup f with
      | some k => if es.isEmpty then none else some (.call k es)
      | none => if c.bl.contains f then
          (if f = "len" then (match es with | [a] => some (.len a) | _ => none)
           else (trBlt f es.length).map fun b => .blt b es)
        else none)
  else none
mutual
def trG (c : TC) (sc so : Scope) : Expr → Option Tg
  | .Name x _ => if locB sc so x then (ixOf x c.N 0).map .nm else none
  | .Tuple es _ _ => (trGs c sc so es).map .tp
  | _ => none
def trGs (c : TC) (sc so : Scope) : List Expr → Option (List Tg)
  | [] => some []
  | e :: es => (match trG c sc so e, trGs c sc so es with | some g, some gs => some (g :: gs) | _, _ => none)
end
mutual
def tgNames : Expr → List Str
  | .Name x _ => [x]
  | .Tuple es _ _ => tgNamess es
  | _ => []
def tgNamess : List Expr → List Str
  | [] => []
  | e :: es => tgNames e ++ tgNamess es
end
def ownOf (N : List Str) : List Str → Option (List (Str × Nat))
  | [] => some []
  | x :: xs => (match ixOf x N 0, ownOf N xs with | some i, some r => some ((x, i) :: r) | _, _ => none)
mutual
def tgIx : Tg → List Nat
  | .nm i => [i]
  | .tp l => tgIxs l
def tgIxs : List Tg → List Nat
  | [] => []
  | g :: gs => tgIx g ++ tgIxs gs
end
def isTup : Expr → Bool
  | .Tuple _ _ _ => true
  | _ => false
/-- the slot of a name whose list is changed -/
def accIx (c : TC) (sc : Scope) (w : Str) : Option Nat :=
  if visB sc w && okName w then (match ixOf w c.N 0 with | some j => if c.acc.contains j then some j else none | none => none) else none
mutual
def trE (c : TC) (sc : Scope) : Expr → Option E
  | .Constant k _ _ => (trC k).map .cst
  | .Name x _ => trN c sc x
  | .BinOp a op b _ => (match trOp op, trE c sc a, trE c sc b with | some o, some x, some y => some (.bin o x y) | _, _, _ => none)
  | .UnaryOp .Not a _ => (trE c sc a).map .not
  | .UnaryOp .USub a _ => (trE c sc a).map .neg
  | .BoolOp op vs _ => if 2 ≤ vs.length then trB c sc op vs else none
  | .IfExp t a b _ => (match trE c sc t, trE c sc a, trE c sc b with | some x, some y, some z => some (.ite x y z) | _, _, _ => none)
  | .Compare a [op] [b] _ => if okCop op || !isSetE b then (match trE c sc a, trE c sc b with | some x, some y => some (.cmp (trCop op) x y) | _, _ => none) else none
  | .Compare a [o1, o2] [b, d] _ => if okCop o1 && okCop o2 then (match trE c sc a, trE c sc b, trE c sc d with | some x, some y, some z => some (.chain (trCop o1) (trCop o2) x y z) | _, _, _ => none) else none
  | .Call (.Name f _) [a, .Name t _] [] _ => if f = "isinstance" ∧ c.bl.contains f ∧ glB sc f then
      (match trIsi c sc t, trE c sc a with | some b, some x => some (.blt b [x]) | _, _ => none)
    else (match trE c sc a, trN c sc t with | some x, some y => trCall c sc f [x, y] | _, _ => none)
  | .Call (.Name f _) [.Call (.Name h p2) [e] [] p3] [] _ => if f = "sorted" ∧ c.bl.contains f ∧ glB sc f ∧ h = "set" ∧ c.bl.contains h ∧ glB sc h then
      (trE c sc e).map fun x => .blt .sortedSet [x]
    else (match trE c sc (.Call (.Name h p2) [e] [] p3) with | some x => trCall c sc f [x] | none => none)
  | .Call (.Name f _) [.Call (.Attribute (.Name y _) m ap) [] [] p3] [] _ => if f = "sorted" ∧ c.bl.contains f ∧ glB sc f ∧ m = "items" ∧ (ap.endLine == p3.line) = true ∧ c.tkd = true ∧ c.tkd = false then
      (trN c sc y).map fun x => .blt .sortedItems [x]
    else none
  | .Call (.Name f _) args [] _ => (match trEs c sc args with
    | some es => if f = "dict" ∧ c.bl.contains f ∧ glB sc f ∧ c.tkd = true then (match es with | [x] => some (.blt (.dict true) [x]) | _ => none)
      else if visB sc f && okName f then (match es with | [] => none | _ => (ixOf f c.N 0).map fun i => .callv (.var i) es c.fvs)
      else trCall c sc f es
    | none => none)
  | .Call (.Subscript (.List ns lp) i sp) args [] _ => (match trEs c sc ns, trE c sc i, trEs c sc args with
    | some xs, some y, some es => if xs.length ≤ 1000 && !es.isEmpty then some (.callv (.idx (.lst xs) y) es c.fvs) else none
    | _, _, _ => none)
  | .Call (.Attribute (.Name w _) m ap) [a] [] cp => if (ap.endLine == cp.line) = true then (match trN c sc w, trE c sc a with
    | some x, some y => if m = "count" then some (.mth .count x y) else if m = "index" then some (.mth .index x y) else none
    | _, _ => none) else none
  | .Call (.Attribute (.Name w _) m ap) [a, b] [] cp => if (ap.endLine == cp.line) = true ∧ m = "get" ∧ visB sc w ∧ okName w then (match ixOf w c.N 0, trE c sc a, trE c sc b with
    | some i, some y, some z => some (.get2 (.var i) y z)
    | _, _, _ => none) else none
  | .Dict [] [] _ => some (.dnew c.tkd)
  | .Tuple es _ _ => if es.length ≤ 1000 then (trEs c sc es).map .tup else none
  | .List es _ => if es.length ≤ 1000 then (trEs c sc es).map .lst else none
  | .Subscript a (.Slice none none (some (.UnaryOp .USub (.Constant (.int 1) _ _) _)) _) _ => (trE c sc a).map .rev
  | .Subscript a (.Slice lo hi none _) _ => (match trE c sc a, trO c sc lo, trO c sc hi with | some x, some l, some h => some (.slc x l h) | _, _, _ => none)
  | .Subscript a (.Slice _ _ _ _) _ => none
  | .Subscript (.Name w wp) i _ => (match accIx c sc w with
    | some j => (trE c sc i).map fun y => .idxV j y
    | none => (match trN c sc w, trE c sc i with | some x, some y => some (.idx x y) | _, _ => none))
  | .Subscript a i _ => (match trE c sc a, trE c sc i with | some x, some y => some (.idx x y) | _, _ => none)
  | .ListComp elt [⟨tg, iter, ifs, as⟩] scope _ =>
      if as = 0 then
        (match ownOf c.N (tgNames tg) with
        | none => none
        | some own => if L2.blkC c.N sc scope own then
            (match (match trI c sc (isTup tg) iter with | some r => some r | none => (trE c sc iter).map fun x => (IK.seq, [x])), trG c (L2.relS scope sc) scope tg, trEs c (L2.relS scope sc) ifs, trE c (L2.relS scope sc) elt with
            | some (ik, its), some g, some cs, some x => if cs.length ≤ 1 && (tgIx g).all (fun i => (own.map (·.2)).contains i) then some (.comp x g ik its cs (own.map (·.2))) else none
            | _, _, _, _ => none)
          else none)
      else none
  | _ => none
def trB (c : TC) (sc : Scope) (op : BoolOp) : List Expr → Option E
  | [] => none
  | [a] => trE c sc a
  | a :: rest => (match trE c sc a, trB c sc op rest with
    | some x, some y => some (match op with | .And => .band x y | .Or => .bor x y)
    | _, _ => none)
def trEs (c : TC) (sc : Scope) : List Expr → Option (List E)
  | [] => some []
  | e :: es => (match trE c sc e, trEs c sc es with | some x, some r => some (x :: r) | _, _ => none)
def trO (c : TC) (sc : Scope) : Option Expr → Option (List E)
  | none => some []
  | some e => (trE c sc e).map fun x => [x]
/-- what is walked by a built-in; enumerate and zip want a target of several names -/
def trI (c : TC) (sc : Scope) (tup : Bool) : Expr → Option (IK × List E)
  | .Call (.Name f _) args [] _ =>
      if c.bl.contains f && glB sc f then
        (match trEs c sc args with
        | some [a] => if f = "range" then some (.rng1, [a]) else if f = "enumerate" ∧ tup = true then some (.enum, [a]) else none
        | some [a, b] => if f = "range" then some (.rng2, [a, b]) else if f = "zip" ∧ tup = true then some (.zip, [a, b]) else none
        | _ => none)
      else none
  | _ => none
end
end Fz

/-! statements, from the model's syntax to the evaluator's -/
namespace Fz
open PySem

mutual
/-- the slots that are read as values that go on -/
def keepV : E → List Nat
  | .var i => [i]
  | .cst _ => []
  | .bin _ a b => keepV a ++ keepV b
  | .neg a => keepV a
  | .cmp _ a b => (match a with | .var _ => [] | _ => keepV a) ++ (match b with | .var _ => [] | _ => keepV b)
  | .chain _ _ a b d => keepV a ++ keepV b ++ keepV d
  | .band a b => keepV a ++ keepV b
  | .bor a b => keepV a ++ keepV b
  | .not a => (match a with | .var _ => [] | _ => keepV a)
  | .ite t a b => keepV t ++ keepV a ++ keepV b
  | .tup es => keepVs es
  | .lst es => keepVs es
  | .len a => (match a with | .var _ => [] | _ => keepV a)
  | .idx a i => keepV a ++ keepV i
  | .idxV _ k => keepV k
  | .slc a lo hi => keepV a ++ keepVs lo ++ keepVs hi
  | .rev a => keepV a
  | .call _ es => keepVs es
  | .callv a es _ => keepV a ++ keepVs es
  | .blt _ es => keepVs es
  | .comp elt _ _ its cond _ => keepV elt ++ keepVs its ++ keepVs cond
  | .dnew _ => []
  | .mth _ a k => keepV a ++ keepV k
  | .get2 a k z => (match a with | .var _ => [] | _ => keepV a) ++ keepV k ++ keepV z
def keepVs : List E → List Nat
  | [] => []
  | e :: es => keepV e ++ keepVs es
end
def dedup : List Nat → List Nat
  | [] => []
  | i :: is => if is.contains i then dedup is else i :: dedup is
def shr (c : TC) (is : List Nat) (ss : List S) : List S :=
  match dedup (is.filter fun i => c.acc.contains i) with
  | [] => ss
  | l => .share l :: ss
/-- an expression that makes a list of its own -/
def freshE : E → Bool
  | .lst _ => true
  | .comp _ _ _ _ _ _ => true
  | .blt .list _ => true
  | .dnew _ => true
  | _ => false
def isComp : Expr → Bool
  | .ListComp _ _ _ _ => true
  | .SetComp _ _ _ _ => true
  | .DictComp _ _ _ _ _ => true
  | _ => false
/-- how a tuple of targets is stored: 0 from the left, 1 turned about, 2 not told -/
def swKind (sc : Scope) (ts vs : List Expr) : Nat :=
  if (!(ts.length == 2 || ts.length == 3) || vs.length != ts.length) = true then 0
  else if (vs.any fun | .Starred .. => true | _ => false) = true then 0
  else
    let line := (ts.head?.map (·.pos.line)).getD 0
    let names := ts.filterMap fun
      | .Name id pos => if sc.names.lookup id == some .local && pos.line == line then some id else none
      | _ => none
    if (names.length != ts.length || names.eraseDups.length != names.length) = true then 0
    else if vs.all (foldedForSure 8) = true then 0
    else if vs.all (constantsAlone 8) = true then 2
    else 1
mutual
def trS (c : TC) (sc : Scope) : Stmt → Option (List S)
  | .Pass _ => some [.pass]
  | .Expr (.Call (.Attribute (.Name x _) m ap) [a] [] cp) _ => if visB sc x && okName x && (ap.endLine == cp.line) then
      (match ixOf x c.N 0, trE c sc a with
      | some i, some e => if m = "append" then some (shr c (keepV e) [.app i e]) else if m = "extend" then some (shr c (keepV e) [.ext i e]) else none
      | _, _ => none)
      else none
  | .Expr e _ => if isComp e then none else (match trE c sc e with | some x => some (shr c (keepV x) [.expr x]) | none => none)
  | .Assign [tg] (.Call (.Attribute (.Name x _) m ap) [] [] cp) _ => if visB sc x && okName x && (ap.endLine == cp.line) && decide (m = "pop") then
      (match ixOf x c.N 0, trG c sc sc tg with
      | some i, some g => some [.popTo g i]
      | _, _ => none)
      else none
  | .Assign [.Name x _] e _ => if locB sc sc x then
      (match ixOf x c.N 0, trE c sc e with
      | some i, some e' => some (shr c (keepV e') [if c.acc.contains i && freshE e' then .own i e' else .asg (.nm i) e'])
      | _, _ => none)
      else none
  | .Assign [.Tuple ts _ _] (.Tuple vs _ _) _ =>
      (match trEs c sc vs, trGs c sc sc ts with
      | some es, some gs =>
        if swKind sc ts vs = 0 then (if vs.length ≤ 1000 then some (shr c (keepVs es) [.asg (.tp gs) (.tup es)]) else none)
        else (match ts, vs with
          | [.Name x px, .Name y py], [a, b] =>
            if sc.names.lookup x = some .local ∧ sc.names.lookup y = some .local ∧ (py.line == px.line) = true ∧ x ≠ y ∧ [a, b].all (foldedForSure 8) = false ∧ [a, b].all (constantsAlone 8) = false then
              (match ixOf x c.N 0, ixOf y c.N 0 with
              | some i, some j => some (shr c (keepVs es) [.par [i, j] es])
              | _, _ => none)
            else none
          | [.Name x px, .Name y py, .Name z pz], [a, b, d] =>
            if sc.names.lookup x = some .local ∧ sc.names.lookup y = some .local ∧ sc.names.lookup z = some .local ∧ (py.line == px.line) = true ∧ (pz.line == px.line) = true ∧ x ≠ y ∧ x ≠ z ∧ y ≠ z ∧ [a, b, d].all (foldedForSure 8) = false ∧ [a, b, d].all (constantsAlone 8) = false then
              (match ixOf x c.N 0, ixOf y c.N 0, ixOf z c.N 0 with
              | some i, some j, some l => some (shr c (keepVs es) [.par [i, j, l] es])
              | _, _, _ => none)
            else none
          | _, _ => none)
      | _, _ => none)
  | .Assign [.Tuple ts _ _] e _ => if isTup e then none else
      (match trE c sc e, trGs c sc sc ts with
      | some x, some gs => some (shr c (keepV x) [.asg (.tp gs) x])
      | _, _ => none)
  | .Assign [.Subscript (.Name x _) k _] e _ => if visB sc x && okName x then
      (match ixOf x c.N 0, trE c sc k, trE c sc e with
      | some i, some k', some e' => some (shr c (keepV k' ++ keepV e') [.setI i k' e'])
      | _, _, _ => none)
      else none
  | .If t a b _ => (match trE c sc t, trSs c sc a, trSs c sc b with
      | some x, some y, some z => some (shr c (keepV x) [.ifS x y z])
      | _, _, _ => none)
  | .While t b [] _ => (match trE c sc t, trSs c sc b with
      | some x, some y => some (shr c (keepV x) [.whl x y])
      | _, _ => none)
  | .For tg iter b [] _ =>
      (match (match trI c sc (isTup tg) iter with | some r => some r | none => (trE c sc iter).map fun x => (IK.seq, [x])), trG c sc sc tg, trSs c sc b with
      | some (ik, its), some g, some y => some (shr c (keepVs its) [.forS g ik its y])
      | _, _, _ => none)
  | .Return (some e) _ => (match trE c sc e with | some x => some (shr c (keepV x) [.ret x]) | none => none)
  | .Return none _ => some [.retN]
  | .Raise (some (.Call (.Name x _) [.Constant (.str _) _ _] [] _)) none _ => if glB sc x && okName x then
      (match c.gx.lookup x with | some k => some [.raise k] | none => none) else none
  | .Try body [.ExceptHandler (some (.Name x _)) (some n) [.Assign [.Name y _] (.Name z _) _] _] [] [] _ =>
      if z = n ∧ x ≠ "__debug__" ∧ glB sc x ∧ sc.names.lookup n = some .local ∧ sc.names.lookup y = some .local ∧ okName n ∧ n ≠ y then
        (match c.gt.lookup x, ixOf n c.N 0, ixOf y c.N 0, trSs c sc body with
        | some cs, some i, some j, some b => some [.tryKeep b cs c.gn i j]
        | _, _, _, _ => none)
      else none
  | _ => none
def trSs (c : TC) (sc : Scope) : List Stmt → Option (List S)
  | [] => some []
  | s :: ss => (match trS c sc s, trSs c sc ss with | some x, some y => some (x ++ y) | _, _ => none)
end
end Fz

/-! how a tree stands in the heap; the readings -/
namespace Fz
open PySem PySem.Spec L2
open PyProof.Rows hiding St

/-- what is fixed through a law -/
structure Su where
  P : Program
  w : World
  K : PySem.W.Frag
  mg : Str → Option Value
  base : Heap
  fA : Nat → Addr
  cA : Nat → Addr
  tb : List (Addr × Str)

/-- an error of the class at C, at a, held as a value -/
def ExH (C a : Addr) : HO := .ext fun h => ∃ (oe : Obj) (vs : Array Value), h.get? a = some oe ∧ Zc (.ref C) none oe ∧ oe.data = .fields vs

/-- a list: told, or an object of the module -/
def La (K : PySem.W.Frag) (H : Hp) (a : Addr) (vs : List V) : Prop := Rd H a (.lst vs) ∨ ∃ (its : List Value) (n : Nat), K.lookup a = some { cls := .type "list", data := .seq its.toArray n } ∧ vs.length ≤ sizeLine ∧ Vals vs its
theorem La.sq {K : PySem.W.Frag} {H : Hp} {a : Addr} {vs : List V} (h : La K H a vs) : SqL K H a vs := by
  rcases h with h | ⟨its, n, h1, h2, h3⟩
  · exact .inl h
  · exact .inr ⟨_, its.toArray, n, h1, rfl, rfl, rfl, by rw [List.size_toArray, ← h3.length]; exact h2, by simpa using h3⟩
def keyX : T → Key
  | .int i => .inl i
  | _ => .inl 0
/-- a key, by its parts -/
def keyL : T → List Key
  | .int i => [.inl i]
  | .tup xs => xs.map keyX
  | _ => []
/-- a dict: its keys are tuples, or no tuples -/
def dctO (tk : Bool) (L : List (List Key × V)) : HO := if tk then .dT L else .dK (L.map fun p => (p.1.headD (.inl 0), p.2))
theorem dctO_nt (tk : Bool) (L : List (List Key × V)) : ¬ match dctO tk L with | .tbl _ => True | _ => False := by
  cases tk <;> exact fun z => z
variable {S : Su}
mutual
def Rep (S : Su) (H : Hp) : T → V → Prop
  | .non, v => v = .non
  | .bl b, v => v = .bl b
  | .int i, v => v = .int i
  | .str x, v => v = .str x
  | .tup ts, v => ∃ a vs, v = .ref a ∧ H a = some (.tup vs) ∧ ts.length ≤ sizeLine ∧ Reps S H ts vs
  | .lst ts, v => ∃ a vs, v = .ref a ∧ La S.K H a vs ∧ ts.length ≤ sizeLine ∧ Reps S H ts vs
  | .dct tk kvs, v => ∃ a L, v = .ref a ∧ H a = some (dctO tk L) ∧ kvs.length ≤ sizeLine ∧ RepD S H tk kvs L
  | .fn f, v => v = .ref (S.fA f)
  | .exc c, v => ∃ a, v = .ref a ∧ H a = some (ExH (S.cA c) a)
def Reps (S : Su) (H : Hp) : List T → List V → Prop
  | [], vs => vs = []
  | t :: ts, vs => ∃ v r, vs = v :: r ∧ Rep S H t v ∧ Reps S H ts r
def RepD (S : Su) (H : Hp) (tk : Bool) : List (T × T) → List (List Key × V) → Prop
  | [], L => L = []
  | (k, t) :: r, L => ∃ v R, L = (keyL k, v) :: R ∧ keyOk tk k = true ∧ Rep S H t v ∧ RepD S H tk r R
end

def Sub (F H : Hp) : Prop := ∀ a o, F a = some o → H a = some o
/-! ### how heaps go on -/
def isTbl : HO → Prop
  | .tbl _ => True
  | _ => False
/-- all stands but the tables, which stay tables -/
def Ext (H H' : Hp) : Prop := ∀ b o, H b = some o → H' b = some o ∨ (isTbl o ∧ ∃ ps, H' b = some (.tbl ps))
theorem Ext.refl (H : Hp) : Ext H H := fun _ _ h => .inl h
theorem Ext.trans {A B C : Hp} (x : Ext A B) (y : Ext B C) : Ext A C := fun b o h => by
  rcases x b o h with h1 | ⟨h1, ps, h2⟩
  · exact y b o h1
  · rcases y b _ h2 with h3 | ⟨_, h3⟩
    · exact .inr ⟨h1, ps, h3⟩
    · exact .inr ⟨h1, h3⟩
theorem Ext.of {A B : Hp} (h : Sub A B) : Ext A B := fun b o e => .inl (h b o e)
theorem Ext.ne {A B : Hp} (x : Ext A B) {b : Addr} (h : A b ≠ none) : B b ≠ none := fun z => by
  cases e : A b with
  | none => exact h e
  | some o =>
    rcases x b o e with h1 | ⟨_, ps, h1⟩
    · rw [z] at h1; cases h1
    · rw [z] at h1; cases h1
theorem Ext.none {A B : Hp} (x : Ext A B) {b : Addr} (h : B b = none) : A b = none := by
  cases e : A b with
  | none => rfl
  | some o => exact absurd h (x.ne (by rw [e]; simp))
theorem Sub.refl (H : Hp) : Sub H H := fun _ _ h => h
theorem Sub.trans {A B C : Hp} (x : Sub A B) (y : Sub B C) : Sub A C := fun a o h => y a o (x a o h)
theorem Sub.rd {F H : Hp} {a : Addr} {u : HO} (h : Sub F H) (r : Rd F a u) : Rd H a u := by
  rcases r with r | ⟨o, r⟩
  · exact .inl (h _ _ r)
  · exact .inr ⟨o, h _ _ r⟩
theorem Sub.sqL {F H : Hp} {a : Addr} {xs : List V} (h : Sub F H) (r : SqL S.K F a xs) : SqL S.K H a xs := by
  rcases r with r | r
  · exact .inl (h.rd r)
  · exact .inr r
theorem Sub.sqT {F H : Hp} {a : Addr} {xs : List V} (h : Sub F H) (r : SqT S.K F a xs) : SqT S.K H a xs := by
  rcases r with r | r
  · exact .inl (h.rd r)
  · exact .inr r
theorem Ext.at {A B : Hp} (x : Ext A B) {b : Addr} {o : HO} (h : A b = some o) (n : ¬ isTbl o) : B b = some o := by
  rcases x b o h with e | ⟨z, _⟩
  · exact e
  · exact absurd z n
theorem Ext.rdL {F H : Hp} {a : Addr} {xs : List V} (h : Ext F H) (r : Rd F a (.lst xs)) : Rd H a (.lst xs) := by
  rcases r with r | ⟨o, r⟩
  · exact .inl (h.at r fun z => z)
  · exact .inr ⟨o, h.at r fun z => z⟩
theorem Sub.la {K : PySem.W.Frag} {F H : Hp} {a : Addr} {xs : List V} (h : Sub F H) (r : La K F a xs) : La K H a xs := by
  rcases r with r | r
  · exact .inl (h.rd r)
  · exact .inr r
theorem Ext.la {K : PySem.W.Frag} {F H : Hp} {a : Addr} {xs : List V} (h : Ext F H) (r : La K F a xs) : La K H a xs := by
  rcases r with r | r
  · exact .inl (h.rdL r)
  · exact .inr r
theorem Ext.sqT {F H : Hp} {a : Addr} {xs : List V} (h : Ext F H) (r : SqT S.K F a xs) : SqT S.K H a xs := by
  rcases r with (r | ⟨o, r⟩) | r
  · exact .inl (.inl (h.at r fun z => z))
  · exact .inl (.inr ⟨o, h.at r fun z => z⟩)
  · exact .inr r
mutual
theorem Rep.ext {F H : Hp} (h : Ext F H) : ∀ {t : T} {v : V}, Rep S F t v → Rep S H t v
  | .non, _, r => r
  | .bl _, _, r => r
  | .int _, _, r => r
  | .str _, _, r => r
  | .tup ts, _, r => by
    obtain ⟨a, vs, e, q, l, rs⟩ := r
    exact ⟨a, vs, e, h.at q fun z => z, l, Reps.ext h rs⟩
  | .lst ts, _, r => by
    obtain ⟨a, vs, e, q, l, rs⟩ := r
    exact ⟨a, vs, e, h.la q, l, Reps.ext h rs⟩
  | .dct tk kvs, _, r => by
    obtain ⟨a, L, e, q, l, rs⟩ := r
    exact ⟨a, L, e, h.at q (dctO_nt tk L), l, RepD.ext h rs⟩
  | .fn _, _, r => r
  | .exc c, _, r => by
    obtain ⟨a, e, q⟩ := r
    exact ⟨a, e, h.at q fun z => z⟩
theorem Reps.ext {F H : Hp} (h : Ext F H) : ∀ {ts : List T} {vs : List V}, Reps S F ts vs → Reps S H ts vs
  | [], _, r => r
  | t :: ts, _, r => by
    obtain ⟨v, s, e, r1, r2⟩ := r
    exact ⟨v, s, e, Rep.ext h r1, Reps.ext h r2⟩
theorem RepD.ext {F H : Hp} (h : Ext F H) {tk : Bool} : ∀ {kvs : List (T × T)} {L : List (List Key × V)}, RepD S F tk kvs L → RepD S H tk kvs L
  | [], _, r => r
  | (k, t) :: r, _, q => by
    obtain ⟨v, R, e, hk, r1, r2⟩ := q
    exact ⟨v, R, e, hk, Rep.ext h r1, RepD.ext h r2⟩
end
theorem Rep.mono {F H : Hp} (h : Sub F H) {t : T} {v : V} (r : Rep S F t v) : Rep S H t v := r.ext (.of h)
theorem RepD.mono {F H : Hp} (h : Sub F H) {tk : Bool} {kvs : List (T × T)} {L : List (List Key × V)} (r : RepD S F tk kvs L) : RepD S H tk kvs L := r.ext (.of h)
theorem RepD.length {H : Hp} {tk : Bool} : ∀ {kvs : List (T × T)} {L : List (List Key × V)}, RepD S H tk kvs L → kvs.length = L.length
  | [], _, r => by rw [show _ = ([] : List (List Key × V)) from r]; rfl
  | (k, t) :: r, _, q => by
    obtain ⟨v, R, rfl, _, _, r2⟩ := q
    rw [List.length_cons, List.length_cons, RepD.length r2]
theorem Reps.mono {F H : Hp} (h : Sub F H) {ts : List T} {vs : List V} (r : Reps S F ts vs) : Reps S H ts vs := r.ext (.of h)
theorem Reps.length {H : Hp} : ∀ {ts : List T} {vs : List V}, Reps S H ts vs → ts.length = vs.length
  | [], _, r => by rw [show _ = ([] : List V) from r]; rfl
  | t :: ts, _, r => by
    obtain ⟨v, s, rfl, _, r2⟩ := r
    rw [List.length_cons, List.length_cons, Reps.length r2]
theorem Reps.get {H : Hp} : ∀ {ts : List T} {vs : List V} {i : Nat} {t : T}, Reps S H ts vs → ts[i]? = some t → ∃ v, vs[i]? = some v ∧ Rep S H t v
  | [], _, _, _, _, e => by simp at e
  | t :: ts, _, 0, u, r, e => by
    obtain ⟨v, s, rfl, r1, _⟩ := r
    have e' : t = u := by simpa using e
    exact ⟨v, rfl, e' ▸ r1⟩
  | t :: ts, _, i + 1, u, r, e => by
    obtain ⟨v, s, rfl, _, r2⟩ := r
    obtain ⟨v', h1, h2⟩ := Reps.get (i := i) r2 (by simpa using e)
    exact ⟨v', by simpa using h1, h2⟩
theorem Reps.append {H : Hp} : ∀ {ts us : List T} {vs ws : List V}, Reps S H ts vs → Reps S H us ws → Reps S H (ts ++ us) (vs ++ ws)
  | [], _, _, _, r, q => by rw [show _ = ([] : List V) from r]; exact q
  | t :: ts, _, _, _, r, q => by
    obtain ⟨v, s, rfl, r1, r2⟩ := r
    exact ⟨v, _, rfl, r1, Reps.append r2 q⟩
theorem Reps.one {H : Hp} {t : T} {v : V} (r : Rep S H t v) : Reps S H [t] [v] := ⟨v, [], rfl, r, rfl⟩
theorem Reps.drop {H : Hp} : ∀ (n : Nat) {ts : List T} {vs : List V}, Reps S H ts vs → Reps S H (ts.drop n) (vs.drop n)
  | 0, _, _, r => r
  | _ + 1, [], _, r => by rw [show _ = ([] : List V) from r]; rfl
  | n + 1, t :: ts, _, r => by
    obtain ⟨v, s, rfl, _, r2⟩ := r
    exact Reps.drop n r2
theorem Reps.take {H : Hp} : ∀ (n : Nat) {ts : List T} {vs : List V}, Reps S H ts vs → Reps S H (ts.take n) (vs.take n)
  | 0, _, _, r => rfl
  | _ + 1, [], _, r => by rw [show _ = ([] : List V) from r]; rfl
  | n + 1, t :: ts, _, r => by
    obtain ⟨v, s, rfl, r1, r2⟩ := r
    exact ⟨v, _, rfl, r1, Reps.take n r2⟩
theorem Reps.rev {H : Hp} : ∀ {ts : List T} {vs : List V}, Reps S H ts vs → Reps S H ts.reverse vs.reverse
  | [], _, r => by rw [show _ = ([] : List V) from r]; rfl
  | t :: ts, _, r => by
    obtain ⟨v, s, rfl, r1, r2⟩ := r
    rw [List.reverse_cons, List.reverse_cons]
    exact (Reps.rev r2).append (.one r1)
theorem Reps.set {H : Hp} : ∀ {ts : List T} {vs : List V} (n : Nat) {t : T} {v : V}, Reps S H ts vs → Rep S H t v → Reps S H (ts.set n t) (vs.set n v)
  | [], _, _, _, _, r, _ => by rw [show _ = ([] : List V) from r]; rfl
  | t :: ts, _, 0, _, _, r, q => by
    obtain ⟨v, s, rfl, r1, r2⟩ := r
    exact ⟨_, _, rfl, q, r2⟩
  | t :: ts, _, n + 1, _, _, r, q => by
    obtain ⟨v, s, rfl, r1, r2⟩ := r
    exact ⟨_, _, rfl, r1, Reps.set n r2 q⟩
theorem Reps.two {H : Hp} {t u : T} {v w : V} (r : Rep S H t v) (q : Rep S H u w) : Reps S H [t, u] [v, w] := ⟨v, _, rfl, r, .one q⟩
theorem Reps.flat {H : Hp} {ts : List T} {vs : List V} (r : Reps S H ts vs) : ∀ n : Nat, Reps S H (List.replicate n ts).flatten (List.replicate n vs).flatten
  | 0 => rfl
  | n + 1 => by
    rw [List.replicate_succ, List.replicate_succ, List.flatten_cons, List.flatten_cons]
    exact r.append (r.flat n)

/-- F: what stands for good; H: all that is tracked -/
structure Ok (S : Su) (F H : Hp) : Prop where
  sub : Sub F H
  nt : ∀ a o, F a = some o → ¬ isTbl o
  tab : LamX.Tabs S.tb H
structure Step (S : Su) (F H F' H' : Hp) : Prop where
  ff : Sub F F'
  hh : Ext H H'
  no : ∀ a, H a ≠ none → F a = none → F' a = none
  ok : Ok S F' H'
theorem Step.refl {F H : Hp} (o : Ok S F H) : Step S F H F H := ⟨.refl _, .refl _, fun _ _ h => h, o⟩
theorem Step.trans {F H F1 H1 F2 H2 : Hp} (x : Step S F H F1 H1) (y : Step S F1 H1 F2 H2) : Step S F H F2 H2 :=
  ⟨x.ff.trans y.ff, x.hh.trans y.hh, fun a h1 h2 => y.no a (x.hh.ne h1) (x.no a h1 h2), y.ok⟩
theorem sub_upd {H : Hp} {p : Addr} {o : HO} (h : H p = none) : Sub H (upd H p o) := fun a u e => by
  rw [upd_ne (ne_of_none e h)]
  exact e
theorem Sub.none {F H : Hp} (h : Sub F H) {p : Addr} (e : H p = none) : F p = none := by
  cases q : F p with
  | none => rfl
  | some o => rw [h p o q] at e; cases e
theorem sub_upd2 {F H : Hp} {p : Addr} {o : HO} (h : Sub F H) (e : F p = none) : Sub (upd F p o) (upd H p o) := fun a u q => by
  by_cases ha : a = p
  · subst ha
    rw [upd_same] at q ⊢
    exact q
  · rw [upd_ne ha] at q ⊢
    exact h a u q
theorem sub_updR {F H : Hp} {p : Addr} {o : HO} (h : Sub F H) (e : F p = none) : Sub F (upd H p o) := fun a u q => by
  rw [upd_ne (ne_of_none q e)]
  exact h a u q
/-- a new object, for good -/
theorem Step.new {F H : Hp} {p : Addr} {o : HO} (k : Ok S F H) (h : H p = none) (ho : ¬ isTbl o) : Step S F H (upd F p o) (upd H p o) where
  ff := sub_upd (k.sub.none h)
  hh := .of (sub_upd h)
  no := fun a h1 h2 => by rw [upd_ne (fun z => h1 (by rw [z]; exact h))]; exact h2
  ok := ⟨sub_upd2 k.sub (k.sub.none h), fun a u e => by
    by_cases ha : a = p
    · subst ha; rw [upd_same] at e; cases e; exact ho
    · rw [upd_ne ha] at e; exact k.nt a u e, k.tab.ext fun b u e => sub_upd h b u e⟩
/-- a new object, of the frame's own -/
theorem Step.newR {F H : Hp} {p : Addr} {o : HO} (k : Ok S F H) (h : H p = none) : Step S F H F (upd H p o) where
  ff := .refl _
  hh := .of (sub_upd h)
  no := fun _ _ h => h
  ok := ⟨sub_updR k.sub (k.sub.none h), k.nt, k.tab.ext fun b u e => sub_upd h b u e⟩

/-! ### slots -/
/-- a thing of the frame's own at a -/
def Own (S : Su) (F H : Hp) (a : Addr) : T → Prop
  | .lst ts => ∃ vs, H a = some (.lst vs) ∧ ts.length ≤ sizeLine ∧ Reps S F ts vs
  | .dct tk kvs => ∃ L, H a = some (dctO tk L) ∧ kvs.length ≤ sizeLine ∧ RepD S F tk kvs L
  | _ => False
theorem Own.mono {F H F' H' : Hp} {a : Addr} (hf : Sub F F') (hh : H a = H' a) : ∀ {t : T}, Own S F H a t → Own S F' H' a t
  | .lst ts, ⟨vs, h1, h2, h3⟩ => ⟨vs, by rw [← hh]; exact h1, h2, h3.mono hf⟩
  | .dct _ _, ⟨L, h1, h2, h3⟩ => ⟨L, by rw [← hh]; exact h1, h2, h3.mono hf⟩
  | .non, h => h
  | .bl _, h => h
  | .int _, h => h
  | .str _, h => h
  | .tup _, h => h
  | .fn _, h => h
  | .exc _, h => h
theorem Own.there {F H : Hp} {a : Addr} : ∀ {t : T}, Own S F H a t → ∃ o, H a = some o ∧ ¬ isTbl o
  | .lst ts, ⟨vs, h1, _⟩ => ⟨_, h1, fun z => z⟩
  | .dct tk _, ⟨L, h1, _⟩ => ⟨_, h1, dctO_nt tk L⟩
  | .non, h => h.elim
  | .bl _, h => h.elim
  | .int _, h => h.elim
  | .str _, h => h.elim
  | .tup _, h => h.elim
  | .fn _, h => h.elim
  | .exc _, h => h.elim
/-- what may be of the frame's own -/
def isOw (t : T) : Prop := (∃ ts, t = .lst ts) ∨ ∃ tk kvs, t = .dct tk kvs
theorem Own.is {F H : Hp} {a : Addr} : ∀ {t : T}, Own S F H a t → isOw t
  | .lst ts, _ => .inl ⟨_, rfl⟩
  | .dct _ _, _ => .inr ⟨_, _, rfl⟩
  | .non, h => h.elim
  | .bl _, h => h.elim
  | .int _, h => h.elim
  | .str _, h => h.elim
  | .tup _, h => h.elim
  | .fn _, h => h.elim
  | .exc _, h => h.elim
/-- a thing of the frame's own, for good -/
theorem Own.frz {F H : Hp} {a : Addr} (hF : F a = none) : ∀ {t : T}, Own S F H a t → ∃ o, H a = some o ∧ ¬ isTbl o ∧ Rep S (upd F a o) t (.ref a) ∧ Sub F (upd F a o) := by
  have m : ∀ o, Sub F (upd F a o) := fun o b u e => by
    rw [upd_ne (fun z => by rw [z, hF] at e; cases e)]
    exact e
  intro t h
  cases t with
  | lst ts => obtain ⟨vs, h1, h2, h3⟩ := h; exact ⟨_, h1, fun z => z, ⟨a, vs, rfl, .inl (.inl upd_same), h2, h3.mono (m _)⟩, m _⟩
  | dct tk kvs => obtain ⟨L, h1, h2, h3⟩ := h; exact ⟨_, h1, dctO_nt tk L, ⟨a, L, rfl, upd_same, h2, h3.mono (m _)⟩, m _⟩
  | _ => exact h.elim
def CellOk (S : Su) (F H : Hp) (σ : St) (i : Nat) : Cell → Prop
  | .un => True
  | .sh t => ∃ v, σ[i]? = some (some v) ∧ Rep S F t v
  | .ow t => ∃ a, σ[i]? = some (some (.ref a)) ∧ F a = none ∧ Own S F H a t
structure EnvOk (S : Su) (F H : Hp) (σ : St) (env : Cells) : Prop where
  len : σ.length = env.length
  slot : ∀ i c, env[i]? = some c → CellOk S F H σ i c
theorem CellOk.step {F H F' H' : Hp} {σ : St} {i : Nat} (s : Step S F H F' H') : ∀ {c : Cell}, CellOk S F H σ i c → CellOk S F' H' σ i c
  | .un, _ => trivial
  | .sh t, ⟨v, h1, h2⟩ => ⟨v, h1, h2.mono s.ff⟩
  | .ow t, ⟨a, h1, h2, h3⟩ => by
    obtain ⟨o, e, ho⟩ := h3.there
    have e' : H' a = some o := by
      rcases s.hh a o e with q | ⟨q, _⟩
      · exact q
      · exact absurd q ho
    exact ⟨a, h1, s.no a (by rw [e]; simp) h2, h3.mono s.ff (e.trans e'.symm)⟩
theorem EnvOk.step {F H F' H' : Hp} {σ : St} {env : Cells} (e : EnvOk S F H σ env) (s : Step S F H F' H') : EnvOk S F' H' σ env := ⟨e.len, fun i c h => (e.slot i c h).step s⟩

/-! ### readings of expressions -/
/-- what is wanted behind an evaluation -/
def Post (S : Su) (W : WX) (F H : Hp) (σ : St) (r : Res T) (Q : VK) : Prop :=
  match r with
  | .ok t => ∀ v F' H', Step S F H F' H' → Rep S F' t v → Q v H'
  | .ex c => ∀ F' H', Step S F H F' H' → W (.ref (S.cA c)) none σ H'
  | .no => False
def PostA (S : Su) (W : WX) (F H : Hp) (σ : St) (r : Res (List T)) (Q : List V → Hp → Prop) : Prop :=
  match r with
  | .ok ts => ∀ vs F' H', Step S F H F' H' → Reps S F' ts vs → Q vs H'
  | .ex c => ∀ F' H', Step S F H F' H' → W (.ref (S.cA c)) none σ H'
  | .no => False
def PostT (S : Su) (W : WX) (F H : Hp) (σ : St) (r : Res Bool) (Q : Bool → Hp → Prop) : Prop :=
  match r with
  | .ok b => ∀ F' H', Step S F H F' H' → Q b H'
  | .ex c => ∀ F' H', Step S F H F' H' → W (.ref (S.cA c)) none σ H'
  | .no => False
/-- behind an evaluation in general: P is told of the value and the heaps -/
def PostG {α : Type} (S : Su) (W : WX) (F H : Hp) (σ : St) (r : Res α) (k : α → Hp → Hp → Prop) : Prop :=
  match r with
  | .ok a => ∀ F' H', Step S F H F' H' → k a F' H'
  | .ex c => ∀ F' H', Step S F H F' H' → W (.ref (S.cA c)) none σ H'
  | .no => False
/-- at a state: heaps and slots as told -/
def At (S : Su) (σ : St) (H : Hp) (k : Hp → Cells → Prop) : Prop := ∃ F env, Ok S F H ∧ EnvOk S F H σ env ∧ k F env
def dE (S : Su) (W : WX) (f : Cells → Res T) : TE := fun σ H Q => At S σ H fun F env => PostG S W F H σ (f env) fun t F' H' => ∀ v, Rep S F' t v → Q v H'
def dA (S : Su) (W : WX) (f : Cells → Res (List T)) : TA := fun σ H Q => At S σ H fun F env => PostG S W F H σ (f env) fun ts F' H' => ∀ vs, Reps S F' ts vs → Q vs H'
def dT (S : Su) (W : WX) (f : Cells → Res Bool) : TT := fun σ H Q => At S σ H fun F env => PostG S W F H σ (f env) fun b F' H' => Q b H'
/-- the value may be one of the frame's own: told as it stands in H' -/
def dB (S : Su) (W : WX) (f : Cells → Res T) : TE := fun σ H Q => At S σ H fun F env => PostG S W F H σ (f env) fun t F' H' => ∀ v, Rep S H' t v → Q v H'
/-- a new thing of the frame's own -/
def dN (S : Su) (W : WX) (f : Cells → Res T) : TE := fun σ H Q => At S σ H fun F env => PostG S W F H σ (f env) fun t F' H' => ∀ a, H a = none → F' a = none → Own S F' H' a t → Q (.ref a) H'

section
variable {W : WX} {F H F1 H1 : Hp} {σ : St} {env : Cells}
theorem PostG.step {α : Type} {r : Res α} {k : α → Hp → Hp → Prop} (s : Step S F H F1 H1) (p : PostG S W F H σ r k) : PostG S W F1 H1 σ r k := by
  cases r with
  | ok a => exact fun F' H' s' => p F' H' (s.trans s')
  | ex c => exact fun F' H' s' => p F' H' (s.trans s')
  | no => exact p
theorem PostG.imp {α : Type} {r : Res α} {k k' : α → Hp → Hp → Prop} (p : PostG S W F H σ r k) (h : ∀ a F' H', Step S F H F' H' → k a F' H' → k' a F' H') : PostG S W F H σ r k' := by
  cases r with
  | ok a => exact fun F' H' s' => h a F' H' s' (p F' H' s')
  | ex c => exact p
  | no => exact p
/-- one evaluation, then another -/
theorem PostG.split {α β : Type} {r : Res α} {g : α → Res β} {k : β → Hp → Hp → Prop} (p : PostG S W F H σ (r.bind g) k) :
    PostG S W F H σ r fun a F' H' => PostG S W F' H' σ (g a) k := by
  cases r with
  | ok a => exact fun F' H' s => PostG.step s p
  | ex c => exact p
  | no => exact p
theorem PostG.no_ex {α : Type} {r : Res α} {k : α → Hp → Hp → Prop} (p : PostG S W F H σ r.noex k) {W' : WX} {σ' : St} : PostG S W' F H σ' r.noex k := by
  cases r with
  | ok a => exact p
  | ex c => exact p
  | no => exact p
theorem PostG.of_noex {α : Type} {r : Res α} {k : α → Hp → Hp → Prop} (p : PostG S W F H σ r.noex k) : PostG S W F H σ r k := by
  cases r with
  | ok a => exact p
  | ex c => exact (show False from p).elim
  | no => exact p
/-- a value that is told at once -/
theorem PostG.ok' {α : Type} {a : α} {k : α → Hp → Hp → Prop} (o : Ok S F H) (p : PostG S W F H σ (.ok a) k) : k a F H := p F H (.refl o)
end

/-! ### rules for weaker readings -/
theorem _root_.L2.PE.imp {X : Cx} {e : Expr} {t t' : TE} (h : PE X e t) (i : ∀ σ H Q, t' σ H Q → t σ H Q) : PE X e t' := ⟨fun pins s σ H Q I q => h.run pins s σ H Q I (i σ H Q q)⟩
theorem _root_.L2.PT.imp {X : Cx} {e : Expr} {t t' : TT} (h : PT X e t) (i : ∀ σ H Q, t' σ H Q → t σ H Q) : PT X e t' := ⟨fun pins s σ H Q I q => h.run pins s σ H Q I (i σ H Q q)⟩
theorem _root_.L2.PW.imp {X : Cx} {e : Expr} {t t' : TT} (h : PW X e t) (i : ∀ σ H Q, t' σ H Q → t σ H Q) : PW X e t' := ⟨fun wh pins s σ H Q I q => h.run wh pins s σ H Q I (i σ H Q q)⟩
theorem _root_.L2.PA.imp {X : Cx} {es : List Expr} {t t' : TA} (h : PA X es t) (i : ∀ σ H Q, t' σ H Q → t σ H Q) : PA X es t' := ⟨fun pos pins s σ H Q I q => h.run pos pins s σ H Q I (i σ H Q q)⟩
theorem _root_.L2.PS.imp {X : Cx} {st : Stmt} {t t' : TS} (h : PS X st t) (i : ∀ D σ H, t' D σ H → t D σ H) : PS X st t' := ⟨fun pins s σ H D I q => h.run pins s σ H D I (i D σ H q)⟩
theorem _root_.L2.PSs.imp {X : Cx} {st : List Stmt} {t t' : TS} (h : PSs X st t) (i : ∀ D σ H, t' D σ H → t D σ H) : PSs X st t' := ⟨fun pins s σ H D I q => h.run pins s σ H D I (i D σ H q)⟩
end Fz

/-! lists and tuples so many times -/
namespace Fz
open PySem PySem.Spec L2
open PyProof.Rows hiding St

section
variable {X : Cx} {pins : List (Addr × Obj)} {σ : St} {H : Hp} {s : Shared}
theorem _root_.L2.Inv.lstR {a : Addr} {xs : List V} (I : Inv X pins σ H s) (r : La X.K H a xs) :
    xs.length ≤ sizeLine ∧ ∃ (its : List Value) (n : Nat), Vals xs its ∧ xs.length = its.length ∧ s.heap.get? a = some { cls := .type "list", data := .seq its.toArray n } := by
  rcases r with r | ⟨its, n, h1, h2, h3⟩
  · have key : ObjOk X.prog X.w H s.heap a (.lst xs) := by
      rcases r with r | ⟨o, r⟩
      · exact I.hok _ _ r
      · exact (I.hok _ _ r).2
    obtain ⟨z, its, n, r1, e⟩ := key
    exact ⟨z, its, n, r1, r1.length, e⟩
  · exact ⟨h2, its, n, h3, h3.length, I.kIn _ _ h1⟩
/-- a list that is told, so many times -/
def rRepL (K : PySem.W.Frag) : R2 := fun x y H Q => ∃ l k xs, x = .ref l ∧ y = .int k ∧ La K H l xs ∧ k.natAbs ≤ 1000 ∧ xs.length ≤ 1000 ∧ ∀ p, H p = none → Q (.ref p) (upd H p (.lst (List.replicate k.toNat xs).flatten))
theorem len_repL {α : Type} (xs : List α) {k : Int} (h1 : k.natAbs ≤ 1000) (h2 : xs.length ≤ 1000) : (List.replicate k.toNat xs).flatten.length ≤ sizeLine := by
  rw [PyProof.Rows.lm_len_rep_flat, sizeLine_eq]
  have := Nat.mul_le_mul (show k.toNat ≤ 1000 by omega) h2
  omega
theorem op_repL : OpR X (binaryOp .Mult) (rRepL X.K) := by
  intro pins s σ H x y v u Q I rx ry h
  obtain ⟨l, k, xs, rfl, rfl, hl, h1, h2, q⟩ := h
  cases rx
  obtain ⟨t, rfl⟩ := ry
  obtain ⟨z, its, n, r, hn, e⟩ := I.lstR hl
  have m := Nat.mul_le_mul h2 (show k.toNat ≤ 1000 by omega)
  have sz : its.toArray.size * k.toNat ≤ 1000000 := by rw [List.size_toArray, ← hn]; omega
  have a1 : ¬ its.toArray.size * k.toNat > (2 ^ 63 - 1) / 8 := by omega
  have a2 : ¬ (!Builtin.List.listFitsIndex k) = true := by rw [fitsIndex_both (by omega) (by omega)]; decide
  have a3 : ¬ Builtin.List.listTooLong (its.toArray.size * k.toNat) = true := by rw [notLongL (by rw [sizeLine_eq]; omega)]; decide
  have new : List.foldl (fun x1 x2 => x1 ++ x2) #[] (List.replicate (if its.toArray.isEmpty = true then 0 else k.toNat) its.toArray) = (List.replicate k.toNat its).flatten.toArray := by
    rw [size_rep]
    cases its with
    | nil => simp
    | cons a r => simp
  have M := AutoListH.list___mul___list_int_3 l its.toArray n k t a2 a1 a3
  rw [new] at M
  have M2 := int___rmul___int_list k t l its.toArray n
  refine wpAny_binaryOp_repeat_ref (T := "list") (U := "int") (by decide) ⟨_, e, rfl⟩ (typeIs_int · k t) noFill_list_mul F.fills_int_mul F.slot_int_rmul repeat_list F.slot_int_index.lookup ?_
  refine call_meets F.slot_int_rmul (typeIs_int s k t) F.entry_int_rmul (F.args_int_rmul_2 _ _) M2 ⟨e, rfl, ⟨_, e, rfl⟩, ?_⟩
  refine call_meets F.slot_list_mul ⟨_, e, rfl⟩ F.entry_list_mul (F.args_list_mul_2 _ _) M ⟨e, ?_⟩
  exact ⟨.ref _, _, I.lnew (t' := s.toks) (r.rep k.toNat) (len_repL xs h1 h2), rfl, q _ I.fresh⟩

theorem tuple_mulS (l : Addr) (items : Array Value) (n : Nat) (dd : Option Addr) (sl : Array (Option Value)) (u : Tok) :
    Meets (Builtin.«tuple.__mul__» ⟨[.ref l, .int 1 u], []⟩) (fun _ R s => s.heap.get? l = some { cls := .type "tuple", dict := dd, data := .seq items n, slots := sl } ∧ R (.ok (.ret (.ref l))) s) :=
  .of_wp fun prog w A R s h => by
    obtain ⟨hp, g, d, tk, os⟩ := s
    obtain ⟨hl, h⟩ := h
    have f1 := AutoSeq1.idx_int
    wp_walk using wpAny_loadPart' hl
    repeat (first
      | (refine wpAny_ite_false (by decide) ?_; wp_walk using wpAny_loadPart' hl)
      | (refine wpAny_ite_true (by simp) ?_; wp_walk using wpAny_loadPart' hl))
    exact ⟨_, rfl, h⟩
/-- a tuple once -/
def rOnceT (K : PySem.W.Frag) : R2 := fun x y H Q => ∃ l xs, x = .ref l ∧ y = .int 1 ∧ SqT K H l xs ∧ Q (.ref l) H
theorem op_onceT : OpR X (binaryOp .Mult) (rOnceT X.K) := by
  intro pins s σ H x y v u Q I rx ry h
  obtain ⟨l, xs, rfl, rfl, hT, q⟩ := h
  cases rx
  obtain ⟨t, rfl⟩ := ry
  obtain ⟨its, r, ⟨⟨cls, dd, data, sl⟩, ho, hc, n, hd⟩, hs⟩ := I.tuple hT
  simp only at hc hd
  subst hc hd
  refine wpAny_binaryOp_repeat_ref (T := "tuple") (U := "int") (by decide) ⟨_, ho, rfl⟩ (typeIs_int · 1 t) noFill_tuple_mul F.fills_int_mul F.slot_int_rmul repeat_tuple F.slot_int_index.lookup ?_
  refine call_meets F.slot_int_rmul (typeIs_int s 1 t) F.entry_int_rmul (F.args_int_rmul_2 _ _) (int_rmul_tuple 1 t l its.toArray n dd sl) ⟨ho, rfl, ⟨_, ho, rfl⟩, ?_⟩
  refine call_meets F.slot_tuple_mul ⟨_, ho, rfl⟩ F.entry_tuple_mul (F.args_tuple_mul_2 _ _) (tuple_mulS l its.toArray n dd sl t) ⟨ho, ?_⟩
  exact ⟨.ref l, H, I, rfl, q⟩
end
end Fz

/-! the operators, by values -/
namespace Fz
open PySem PySem.Spec L2
open PyProof.Rows hiding St

variable {S : Su}
/-- a two-place operation as the evaluator has it: what stands for good is told by F -/
def rOf (S : Su) (g : T → T → Res T) : R2 := fun x y H Q => ∃ F a b t, Ok S F H ∧ Rep S F a x ∧ Rep S F b y ∧ g a b = .ok t ∧ ∀ v F' H', Step S F H F' H' → Rep S F' t v → Q v H'
def r1Of (S : Su) (g : T → Res T) : V → Hp → VK → Prop := fun x H Q => ∃ F a t, Ok S F H ∧ Rep S F a x ∧ g a = .ok t ∧ ∀ v F' H', Step S F H F' H' → Rep S F' t v → Q v H'
def rBl (S : Su) (g : List T → Res T) : List V → Hp → VK → Prop := fun vs H Q => ∃ E ts t, Ok S E H ∧ Reps S E ts vs ∧ g ts = .ok t ∧ ∀ v F' H', Step S E H F' H' → Rep S F' t v → Q v H'
/-- a comparison -/
def rCo (S : Su) (g : T → T → Res T) : R2 := fun x y H Q => ∃ a b k, Rep S H a x ∧ Rep S H b y ∧ g a b = .ok (.bl k) ∧ Q (.bl k) H


theorem sizeM {n : Nat} (h : n ≤ SZ) : n ≤ sizeLine := Nat.le_trans h (by decide)
/-- a value that was there -/
theorem Post.there {F H : Hp} {t : T} {v : V} {Q : VK} (o : Ok S F H) (r : Rep S F t v) (h : ∀ v F' H', Step S F H F' H' → Rep S F' t v → Q v H') : Q v H := h v F H (.refl o) r
/-- a new tuple, a new list, for good -/
theorem Post.tup {F H : Hp} {ts : List T} {vs : List V} {Q : VK} (o : Ok S F H) (r : Reps S F ts vs) (l : ts.length ≤ sizeLine) (h : ∀ v F' H', Step S F H F' H' → Rep S F' (.tup ts) v → Q v H') : ∀ p, H p = none → Q (.ref p) (upd H p (.tup vs)) := fun p hp =>
  h (.ref p) (upd F p (.tup vs)) _ (.new o hp fun z => z) ⟨p, vs, rfl, upd_same, l, r.mono (sub_upd (o.sub.none hp))⟩
theorem Post.lst {F H : Hp} {ts : List T} {vs : List V} {Q : VK} (o : Ok S F H) (r : Reps S F ts vs) (l : ts.length ≤ sizeLine) (h : ∀ v F' H', Step S F H F' H' → Rep S F' (.lst ts) v → Q v H') : ∀ p, H p = none → Q (.ref p) (upd H p (.lst vs)) := fun p hp =>
  h (.ref p) (upd F p (.lst vs)) _ (.new o hp fun z => z) ⟨p, vs, rfl, .inl (.inl upd_same), l, r.mono (sub_upd (o.sub.none hp))⟩

theorem mulOk_W {i j : Int} (h : mulOk i j = true) : CMulW i j ∨ CMul i j := by
  unfold mulOk at h
  simp only [Bool.or_eq_true, decide_eq_true_eq] at h
  rcases h with (⟨h1, h2⟩ | h) | h
  · exact .inl (wide_mul h1 h2 (by decide) (by decide) (by decide))
  · refine .inr (.inl ?_)
    have : (2 : Nat) ^ 63 < 2 ^ 64 := by decide
    have e : ((2 : Int) ^ 64) = ((2 ^ 64 : Nat) : Int) := by decide
    omega
  · refine .inr (.inr ?_)
    have : (2 : Nat) ^ 63 < 2 ^ 64 := by decide
    have e : ((2 : Int) ^ 64) = ((2 ^ 64 : Nat) : Int) := by decide
    omega

section
variable {X : Cx}
theorem o_add (hK : X.K = S.K) : OpR X (binaryOp .Add) (rOf S (binop .add)) := by
  intro pins s σ H x y v u Q I rx ry h
  obtain ⟨F, a, b, t, o, ra, rb, e, q⟩ := h
  cases a with
  | int i =>
    cases b with
    | int j =>
      cases e
      exact op_add pins s σ H x y v u Q I rx ry ⟨i, j, ra, rb, q _ F H (.refl o) rfl⟩
    | _ => cases e
  | str i =>
    cases b with
    | str j =>
      simp only [binop] at e
      split at e
      · rename_i hz
        cases e
        exact op_add_str pins s σ H x y v u Q I rx ry ⟨i, j, ra, rb, sizeM hz, q _ F H (.refl o) rfl⟩
      · cases e
    | _ => cases e
  | tup xs =>
    cases b with
    | tup ys =>
      simp only [binop] at e
      split at e
      · rename_i hz
        cases e
        obtain ⟨p1, vs, e1, q1, l1, r1⟩ := ra
        obtain ⟨p2, ws, e2, q2, l2, r2⟩ := rb
        have n1 := r1.length
        have n2 := r2.length
        refine op_catA pins s σ H x y v u Q I rx ry ⟨p1, p2, vs, ws, e1, e2, hK ▸ o.sub.sqT (.inl (.inl q1)), hK ▸ o.sub.sqT (.inl (.inl q2)), by rw [← n1, ← n2]; exact sizeM hz, fun z => ?_, fun _ z => ?_, fun _ _ => ?_⟩
        · have z' : xs = [] := List.length_eq_zero_iff.mp (by rw [n1, z]; rfl)
          subst z'
          exact q _ F H (.refl o) ⟨p2, ws, rfl, q2, l2, r2⟩
        · have z' : ys = [] := List.length_eq_zero_iff.mp (by rw [n2, z]; rfl)
          subst z'
          rw [List.append_nil] at q
          exact q _ F H (.refl o) ⟨p1, vs, rfl, q1, l1, r1⟩
        · exact Post.tup o (r1.append r2) (by rw [List.length_append]; exact sizeM hz) q
      · cases e
    | _ => cases e
  | lst xs =>
    cases b with
    | lst ys =>
      simp only [binop] at e
      split at e
      · rename_i hz
        cases e
        obtain ⟨p1, vs, rfl, q1, l1, r1⟩ := ra
        obtain ⟨p2, ws, rfl, q2, l2, r2⟩ := rb
        cases rx
        cases ry
        obtain ⟨z1, its, n, k1, hl, e1⟩ := I.lstR (hK ▸ o.sub.la q1)
        obtain ⟨z2, its2, n2, k2, hl2, e2⟩ := I.lstR (hK ▸ o.sub.la q2)
        have m1 := r1.length
        have m2 := r2.length
        have hz' := sizeM hz
        refine PySem.P.add_list e1 e2 ?_ (by simp only [List.size_toArray]; omega)
        rw [List.append_toArray]
        exact ⟨.ref _, _, I.lnew (t' := s.toks) (k1.append k2) (by rw [List.length_append]; omega), rfl, Post.lst o (r1.append r2) (by rw [List.length_append]; exact hz') q _ I.fresh⟩
      · cases e
    | _ => cases e
  | _ => cases e
theorem o_sub : OpR X (binaryOp .Sub) (rOf S (binop .sub)) := by
  intro pins s σ H x y v u Q I rx ry h
  obtain ⟨F, a, b, t, o, ra, rb, e, q⟩ := h
  cases a <;> cases b <;> first | cases e; done | skip
  cases e
  exact op_sub pins s σ H x y v u Q I rx ry ⟨_, _, ra, rb, q _ F H (.refl o) rfl⟩
/-- any divisor of a size -/
def CDivA (_ j : Int) : Prop := j ≠ 0 ∧ j.natAbs.log2 < 9000
theorem op_fdivA : OpR X (binaryOp .FloorDiv) (rI CDivA fun i j => .int (i.fdiv j)) := opI fun _ _ _ _ _ _ _ hc q => floordiv_int hc.1 q (.inl (PyProof.noPylong_of_log2 hc.2))
theorem o_fdiv : OpR X (binaryOp .FloorDiv) (rOf S (binop .fdiv)) := by
  intro pins s σ H x y v u Q I rx ry h
  obtain ⟨F, a, b, t, o, ra, rb, e, q⟩ := h
  cases a <;> cases b <;> first | cases e; done | skip
  rename_i i j
  simp only [binop] at e
  split at e
  · rename_i hz
    cases e
    unfold divOk at hz
    simp only [decide_eq_true_eq] at hz
    exact op_fdivA pins s σ H x y v u Q I rx ry ⟨_, _, ra, rb, ⟨hz.1, Nat.lt_of_lt_of_le (PySem.Flt.log2_lt_of (by decide) hz.2) (by decide)⟩, q _ F H (.refl o) rfl⟩
  · cases e
theorem o_mod : OpR X (binaryOp .Mod) (rOf S (binop .mod)) := by
  intro pins s σ H x y v u Q I rx ry h
  obtain ⟨F, a, b, t, o, ra, rb, e, q⟩ := h
  cases a <;> cases b <;> first | cases e; done | skip
  simp only [binop] at e
  split at e
  · cases e
  · rename_i hz
    cases e
    exact op_modN pins s σ H x y v u Q I rx ry ⟨_, _, ra, rb, hz, q _ F H (.refl o) rfl⟩
/-- a tuple so many times -/
theorem o_mul (hK : X.K = S.K) : OpR X (binaryOp .Mult) (rOf S (binop .mul)) := by
  intro pins s σ H x y v u Q I rx ry h
  obtain ⟨F, a, b, t, o, ra, rb, e, q⟩ := h
  cases a with
  | int i =>
    cases b with
    | int j =>
      simp only [binop] at e
      split at e
      · rename_i hz
        cases e
        rcases mulOk_W hz with hz | hz
        · exact op_mulW pins s σ H x y v u Q I rx ry ⟨_, _, ra, rb, hz, q _ F H (.refl o) rfl⟩
        · exact op_mul pins s σ H x y v u Q I rx ry ⟨_, _, ra, rb, hz, q _ F H (.refl o) rfl⟩
      · cases e
    | _ => cases e
  | lst xs =>
    cases b with
    | int j =>
      simp only [binop] at e
      split at e
      · rename_i hz
        cases e
        obtain ⟨p1, vs, e1, q1, l1, r1⟩ := ra
        have n1 := r1.length
        exact op_repL pins s σ H x y v u Q I rx ry ⟨p1, j, vs, e1, rb, hK ▸ o.sub.la q1, hz.2, by omega, Post.lst o (r1.flat _) (len_repL xs hz.2 hz.1) q⟩
      · cases e
    | _ => cases e
  | tup xs =>
    cases b with
    | int j =>
      simp only [binop] at e
      split at e
      · rename_i hz
        cases e
        obtain ⟨p1, vs, e1, q1, l1, r1⟩ := ra
        have n1 := r1.length
        obtain ⟨z1, z2, z3, z4⟩ := hz
        by_cases hj : j = 1
        · subst hj
          refine op_onceT pins s σ H x y v u Q I rx ry ⟨p1, vs, e1, rb, hK ▸ o.sub.sqT (.inl (.inl q1)), q _ F H (.refl o) ?_⟩
          have e2 : (List.replicate (Int.toNat 1) xs).flatten = xs := by simp
          rw [e2]
          exact ⟨p1, vs, rfl, q1, l1, r1⟩
        · exact op_repT pins s σ H x y v u Q I rx ry ⟨p1, j, vs, e1, rb, hK ▸ o.sub.sqT (.inl (.inl q1)), fun z => z1 (List.length_eq_zero_iff.mp (by rw [n1, z]; rfl)), by omega, z4, by omega, Post.tup o (r1.flat _) (len_repL xs (by omega) z2) q⟩
      · cases e
    | _ => cases e
  | _ => cases b <;> cases e
/-! ### comparisons -/
mutual
def datT : T → PyData
  | .non => .none
  | .bl b => .bool b
  | .int i => .int i
  | .str x => .str x
  | .tup xs => .tuple (datTs xs)
  | .lst xs => .list (datTs xs)
  | _ => .none
def datTs : List T → List PyData
  | [] => []
  | x :: xs => datT x :: datTs xs
end
mutual
theorem Rep.dp {H : Hp} : ∀ (t : T) (n : Nat) {v : V}, t.plain n = true → Rep S H t v → Dp S.K H v (datT t)
  | .non, _, _, _, r => by rw [show _ = V.non from r]; exact .non
  | .bl b, _, _, _, r => by rw [show _ = V.bl b from r]; exact .bl b
  | .int i, _, _, _, r => by rw [show _ = V.int i from r]; exact .int i
  | .str x, _, _, _, r => by rw [show _ = V.str x from r]; exact .str x
  | .tup xs, 0, _, h, _ => by simp [T.plain] at h
  | .tup xs, n + 1, _, h, r => by
    obtain ⟨a, vs, rfl, q, _, rs⟩ := r
    exact .tup (.inl (.inl q)) (Reps.dp xs n (by simpa [T.plain] using h) rs)
  | .lst xs, 0, _, h, _ => by simp [T.plain] at h
  | .lst xs, n + 1, _, h, r => by
    obtain ⟨a, vs, rfl, q, _, rs⟩ := r
    exact .lst q.sq (Reps.dp xs n (by simpa [T.plain] using h) rs)
  | .dct _ _, _, _, h, _ => by simp [T.plain] at h
  | .fn _, _, _, h, _ => by simp [T.plain] at h
  | .exc _, _, _, h, _ => by simp [T.plain] at h
theorem Reps.dp {H : Hp} : ∀ (ts : List T) (n : Nat) {vs : List V}, T.plains ts n = true → Reps S H ts vs → DpAll S.K H vs (datTs ts)
  | [], _, _, _, r => by rw [show _ = ([] : List V) from r]; exact .nil
  | t :: ts, n, _, h, r => by
    obtain ⟨v, w, rfl, r1, r2⟩ := r
    have h' : t.plain n = true ∧ T.plains ts n = true := by simpa [T.plains] using h
    exact .cons (Rep.dp t n h'.1 r1) (Reps.dp ts n h'.2 r2)
end
mutual
theorem lay_of : ∀ (t : T) (n : Nat), t.plain n = true → (datT t).canLay0 = true ∧ (datT t).depth ≤ n + 1
  | .non, _, _ => ⟨rfl, by simp [datT, PyData.depth]⟩
  | .bl b, _, _ => ⟨rfl, by simp [datT, PyData.depth]⟩
  | .int i, _, _ => ⟨rfl, by simp [datT, PyData.depth]⟩
  | .str x, _, h => ⟨h, by simp [datT, PyData.depth]⟩
  | .tup xs, 0, h => by simp [T.plain] at h
  | .tup xs, n + 1, h => by
    have := lay_ofs xs n (by simpa [T.plain] using h)
    exact ⟨this.1, by simp only [datT, PyData.depth]; omega⟩
  | .lst xs, 0, h => by simp [T.plain] at h
  | .lst xs, n + 1, h => by
    have := lay_ofs xs n (by simpa [T.plain] using h)
    exact ⟨this.1, by simp only [datT, PyData.depth]; omega⟩
  | .dct _ _, _, h => by simp [T.plain] at h
  | .fn _, _, h => by simp [T.plain] at h
  | .exc _, _, h => by simp [T.plain] at h
theorem lay_ofs : ∀ (ts : List T) (n : Nat), T.plains ts n = true → PyData.canLayAll0 (datTs ts) = true ∧ PyData.depthAll (datTs ts) ≤ n + 1
  | [], _, _ => ⟨rfl, by simp [datTs, PyData.depthAll]⟩
  | t :: ts, n, h => by
    have h' : t.plain n = true ∧ T.plains ts n = true := by simpa [T.plains] using h
    have h1 := lay_of t n h'.1
    have h2 := lay_ofs ts n h'.2
    exact ⟨by simp [datTs, PyData.canLayAll0, h1.1, h2.1], by simp only [datTs, PyData.depthAll]; omega⟩
end
mutual
theorem eqv_of : ∀ (a b : T) (n m : Nat), a.plain n = true → b.plain m = true → PyData.eqv (datT a) (datT b) = T.eqv a b
  | .non, b, _, _, _, hb => by cases b <;> first | rfl | simp [T.plain] at hb
  | .bl _, b, _, _, _, hb => by cases b <;> first | rfl | simp [T.plain] at hb
  | .int _, b, _, _, _, hb => by cases b <;> first | rfl | simp [T.plain] at hb
  | .str _, b, _, _, _, hb => by cases b <;> first | rfl | simp [T.plain] at hb
  | .tup xs, .tup ys, 0, _, h, _ => by simp [T.plain] at h
  | .tup xs, .tup ys, _, 0, _, h => by simp [T.plain] at h
  | .tup xs, .tup ys, n + 1, m + 1, ha, hb => by
    simp only [datT, PyData.eqv, T.eqv]
    exact eqvs_of xs ys n m (by simpa [T.plain] using ha) (by simpa [T.plain] using hb)
  | .lst xs, .lst ys, 0, _, h, _ => by simp [T.plain] at h
  | .lst xs, .lst ys, _, 0, _, h => by simp [T.plain] at h
  | .lst xs, .lst ys, n + 1, m + 1, ha, hb => by
    simp only [datT, PyData.eqv, T.eqv]
    exact eqvs_of xs ys n m (by simpa [T.plain] using ha) (by simpa [T.plain] using hb)
  | .tup xs, .non, _, _, _, _ => rfl
  | .tup xs, .bl _, _, _, _, _ => rfl
  | .tup xs, .int _, _, _, _, _ => rfl
  | .tup xs, .str _, _, _, _, _ => rfl
  | .tup xs, .lst _, _, _, _, _ => rfl
  | .tup xs, .dct _ _, _, _, _, h => by simp [T.plain] at h
  | .tup xs, .fn _, _, _, _, h => by simp [T.plain] at h
  | .tup xs, .exc _, _, _, _, h => by simp [T.plain] at h
  | .lst xs, .non, _, _, _, _ => rfl
  | .lst xs, .bl _, _, _, _, _ => rfl
  | .lst xs, .int _, _, _, _, _ => rfl
  | .lst xs, .str _, _, _, _, _ => rfl
  | .lst xs, .tup _, _, _, _, _ => rfl
  | .lst xs, .dct _ _, _, _, _, h => by simp [T.plain] at h
  | .lst xs, .fn _, _, _, _, h => by simp [T.plain] at h
  | .lst xs, .exc _, _, _, _, h => by simp [T.plain] at h
  | .dct _ _, _, _, _, h, _ => by simp [T.plain] at h
  | .fn _, _, _, _, h, _ => by simp [T.plain] at h
  | .exc _, _, _, _, h, _ => by simp [T.plain] at h
theorem eqvs_of : ∀ (xs ys : List T) (n m : Nat), T.plains xs n = true → T.plains ys m = true → PyData.eqvAll (datTs xs) (datTs ys) = T.eqvs xs ys
  | [], [], _, _, _, _ => rfl
  | [], _ :: _, _, _, _, _ => rfl
  | _ :: _, [], _, _, _, _ => rfl
  | x :: xs, y :: ys, n, m, ha, hb => by
    have ha' : x.plain n = true ∧ T.plains xs n = true := by simpa [T.plains] using ha
    have hb' : y.plain m = true ∧ T.plains ys m = true := by simpa [T.plains] using hb
    simp only [datTs, PyData.eqvAll, T.eqvs, eqv_of x y n m ha'.1 hb'.1, eqvs_of xs ys n m ha'.2 hb'.2]
end
theorem shaped_of {t : T} (h : t.plain 60 = true) : SeqAt.shaped (datT t) = true := by
  obtain ⟨h1, h2⟩ := lay_of t 60 h
  unfold SeqAt.shaped
  rw [h1, Bool.true_and, decide_eq_true_eq]
  omega
theorem c_eq {k : Nat} (hK : X.K = S.K) (hr : Room k X.A) : OpR X (compareOp .Eq) (rCo S (cmpT .eq)) := by
  intro pins s σ H x y v u Q I rx ry h
  obtain ⟨a, b, t, ra, rb, e, q⟩ := h
  simp only [cmpT] at e
  split at e
  · rename_i hp
    rw [Bool.and_eq_true] at hp
    cases e
    exact op_eqD hr.units pins s σ H x y v u Q I rx ry ⟨datT a, datT b, hK ▸ ra.dp a 60 hp.1, hK ▸ rb.dp b 60 hp.2, shaped_of hp.1, shaped_of hp.2, by rw [eqv_of a b 60 60 hp.1 hp.2]; exact q⟩
  · cases e
theorem c_ne {k : Nat} (hK : X.K = S.K) (hr : Room k X.A) : OpR X (compareOp .NotEq) (rCo S (cmpT .ne)) := by
  intro pins s σ H x y v u Q I rx ry h
  obtain ⟨a, b, t, ra, rb, e, q⟩ := h
  simp only [cmpT] at e
  split at e
  · rename_i hp
    rw [Bool.and_eq_true] at hp
    cases e
    exact op_neD hr.units pins s σ H x y v u Q I rx ry ⟨datT a, datT b, hK ▸ ra.dp a 60 hp.1, hK ▸ rb.dp b 60 hp.2, shaped_of hp.1, shaped_of hp.2, by rw [eqv_of a b 60 60 hp.1 hp.2]; exact q⟩
  · cases e
theorem plains_depth {xs : List T} {n : Nat} (h : T.plains xs n = true) : PyData.canLayAll0 (datTs xs) = true ∧ PyData.depthAll (datTs xs) ≤ n + 1 := lay_ofs xs n h
theorem any_datTs {a : T} (ha : a.plain 60 = true) : ∀ (ys : List T), T.plains ys 60 = true → ((datTs ys).any fun z => PyData.eqv z (datT a)) = inT a ys
  | [], _ => rfl
  | y :: ys, h => by
    have h' : y.plain 60 = true ∧ T.plains ys 60 = true := by simpa [T.plains] using h
    unfold inT
    rw [datTs, List.any_cons, List.any_cons, eqv_of y a 60 60 h'.1 ha, any_datTs ha ys h'.2]
    rfl
theorem in_room {k : Nat} (hr : Room k X.A) {a : T} {ys : List T} (ha : a.plain 60 = true) : X.A.units + 1 + min (PyData.depthAll (datTs ys)) (datT a).depth < cLine := by
  have h1 := (lay_of a 60 ha).2
  have h2 := hr.units
  have h3 := Nat.min_le_right (PyData.depthAll (datTs ys)) (datT a).depth
  omega
theorem c_in {k : Nat} (hK : X.K = S.K) (hr : Room k X.A) : OpR X (compareOp .In) (rCo S (cmpT .inn)) := by
  intro pins s σ H x y v u Q I rx ry h
  obtain ⟨a, b, t, ra, rb, e, q⟩ := h
  cases b with
  | tup ys =>
    simp only [cmpT] at e
    split at e
    · rename_i hp
      rw [Bool.and_eq_true] at hp
      cases e
      obtain ⟨as, r1⟩ := Dp.reads I _ x v (hK ▸ ra.dp a 60 hp.1) rx
      obtain ⟨bs, r2⟩ := Dp.reads I _ y u (hK ▸ rb.dp (.tup ys) 61 (by simpa [T.plain] using hp.2)) ry
      exact SeqAt.in_tuple_reads r2 r1 (lay_ofs ys 60 hp.2).1 (lay_of a 60 hp.1).1 (in_room hr hp.1) ⟨.bl _, H, I, rfl, by rw [any_datTs hp.1 ys hp.2]; exact q⟩
    · cases e
  | lst ys =>
    simp only [cmpT] at e
    split at e
    · rename_i hp
      rw [Bool.and_eq_true] at hp
      cases e
      obtain ⟨as, r1⟩ := Dp.reads I _ x v (hK ▸ ra.dp a 60 hp.1) rx
      obtain ⟨bs, r2⟩ := Dp.reads I _ y u (hK ▸ rb.dp (.lst ys) 61 (by simpa [T.plain] using hp.2)) ry
      exact SeqAt.in_list_reads r2 r1 (lay_ofs ys 60 hp.2).1 (lay_of a 60 hp.1).1 (in_room hr hp.1) ⟨.bl _, H, I, rfl, by rw [any_datTs hp.1 ys hp.2]; exact q⟩
    · cases e
  | str j =>
    cases a <;> first | cases e; done | skip
    cases e
    exact op_in_str pins s σ H x y v u Q I rx ry ⟨_, _, ra, rb, q⟩
  | _ => cases a <;> cases e
theorem c_notIn {k : Nat} (hK : X.K = S.K) (hr : Room k X.A) : OpR X (compareOp .NotIn) (rCo S (cmpT .notIn)) := by
  intro pins s σ H x y v u Q I rx ry h
  obtain ⟨a, b, t, ra, rb, e, q⟩ := h
  cases b with
  | tup ys =>
    simp only [cmpT] at e
    split at e
    · rename_i hp
      rw [Bool.and_eq_true] at hp
      cases e
      obtain ⟨as, r1⟩ := Dp.reads I _ x v (hK ▸ ra.dp a 60 hp.1) rx
      obtain ⟨bs, r2⟩ := Dp.reads I _ y u (hK ▸ rb.dp (.tup ys) 61 (by simpa [T.plain] using hp.2)) ry
      exact SeqAt.notIn_tuple_reads r2 r1 (lay_ofs ys 60 hp.2).1 (lay_of a 60 hp.1).1 (in_room hr hp.1) ⟨.bl _, H, I, rfl, by rw [any_datTs hp.1 ys hp.2]; exact q⟩
    · cases e
  | lst ys =>
    simp only [cmpT] at e
    split at e
    · rename_i hp
      rw [Bool.and_eq_true] at hp
      cases e
      obtain ⟨as, r1⟩ := Dp.reads I _ x v (hK ▸ ra.dp a 60 hp.1) rx
      obtain ⟨bs, r2⟩ := Dp.reads I _ y u (hK ▸ rb.dp (.lst ys) 61 (by simpa [T.plain] using hp.2)) ry
      exact SeqAt.notIn_list_reads r2 r1 (lay_ofs ys 60 hp.2).1 (lay_of a 60 hp.1).1 (in_room hr hp.1) ⟨.bl _, H, I, rfl, by rw [any_datTs hp.1 ys hp.2]; exact q⟩
    · cases e
  | str j =>
    cases a <;> first | cases e; done | skip
    cases e
    exact op_notin_str pins s σ H x y v u Q I rx ry ⟨_, _, ra, rb, q⟩
  | _ => cases a <;> cases e
theorem c_lt : OpR X (compareOp .Lt) (rCo S (cmpT .lt)) := by
  intro pins s σ H x y v u Q I rx ry h
  obtain ⟨a, b, t, ra, rb, e, q⟩ := h
  cases a <;> cases b <;> first | cases e; done | skip
  cases e
  exact op_lt pins s σ H x y v u Q I rx ry ⟨_, _, ra, rb, q⟩
theorem c_le : OpR X (compareOp .LtE) (rCo S (cmpT .le)) := by
  intro pins s σ H x y v u Q I rx ry h
  obtain ⟨a, b, t, ra, rb, e, q⟩ := h
  cases a <;> cases b <;> first | cases e; done | skip
  cases e
  exact op_le pins s σ H x y v u Q I rx ry ⟨_, _, ra, rb, q⟩
theorem c_gt : OpR X (compareOp .Gt) (rCo S (cmpT .gt)) := by
  intro pins s σ H x y v u Q I rx ry h
  obtain ⟨a, b, t, ra, rb, e, q⟩ := h
  cases a <;> cases b <;> first | cases e; done | skip
  cases e
  exact op_gt pins s σ H x y v u Q I rx ry ⟨_, _, ra, rb, q⟩
theorem c_ge : OpR X (compareOp .GtE) (rCo S (cmpT .ge)) := by
  intro pins s σ H x y v u Q I rx ry h
  obtain ⟨a, b, t, ra, rb, e, q⟩ := h
  cases a <;> cases b <;> first | cases e; done | skip
  cases e
  exact op_ge pins s σ H x y v u Q I rx ry ⟨_, _, ra, rb, q⟩
theorem Rep.isN {H : Hp} {a : T} {x : V} {k : Bool} (r : Rep S H a x) (e : isSame a .non = .ok k) : decide (x = .non) = k := by
  cases a with
  | non => cases e; rw [show x = _ from r]; rfl
  | bl _ => cases e; rw [show x = _ from r]; rfl
  | int _ => cases e; rw [show x = _ from r]; rfl
  | str _ => cases e; rw [show x = _ from r]; rfl
  | tup _ => cases e; obtain ⟨_, _, rfl, _⟩ := r; rfl
  | lst _ => cases e; obtain ⟨_, _, rfl, _⟩ := r; rfl
  | exc _ => cases e; obtain ⟨_, rfl, _⟩ := r; rfl
  | _ => cases e
theorem c_is : OpR X (compareOp .Is) (rCo S (cmpT .is)) := by
  intro pins s σ H x y v u Q I rx ry h
  obtain ⟨a, b, t, ra, rb, e, q⟩ := h
  cases b with
  | non =>
    cases e1 : isSame a .non with
    | ok k =>
      simp only [cmpT, e1, Res.bind] at e
      cases e
      exact op_isN pins s σ H x y v u Q I rx ry ⟨rb, by rw [ra.isN e1]; exact q⟩
    | ex c => simp only [cmpT, e1, Res.bind] at e; cases e
    | no => simp only [cmpT, e1, Res.bind] at e; cases e
  | bl j =>
    cases a <;> first | cases e; done | skip
    cases e
    exact op_isBl pins s σ H x y v u Q I rx ry ⟨_, _, ra, rb, q⟩
  | _ => cases a <;> cases e
theorem c_isNot : OpR X (compareOp .IsNot) (rCo S (cmpT .isNot)) := by
  intro pins s σ H x y v u Q I rx ry h
  obtain ⟨a, b, t, ra, rb, e, q⟩ := h
  cases b with
  | non =>
    cases e1 : isSame a .non with
    | ok k =>
      simp only [cmpT, e1, Res.bind] at e
      cases e
      exact op_notN pins s σ H x y v u Q I rx ry ⟨rb, by rw [ra.isN e1]; exact q⟩
    | ex c => simp only [cmpT, e1, Res.bind] at e; cases e
    | no => simp only [cmpT, e1, Res.bind] at e; cases e
  | bl j =>
    cases a <;> first | cases e; done | skip
    cases e
    exact op_notBl pins s σ H x y v u Q I rx ry ⟨_, _, ra, rb, q⟩
  | _ => cases a <;> cases e
end
end Fz

/-! dicts: what is found, what is put down -/
namespace Fz
open PySem PySem.Spec L2
open PyProof.Rows hiding St

variable {S : Su}
/-! ### keys -/
theorem intKey_of {t : T} (h : intKey t = true) : ∃ i, t = .int i := by
  cases t <;> first | exact ⟨_, rfl⟩ | cases h
theorem eqvs_ints : ∀ {xs ys : List T}, xs.all intKey = true → ys.all intKey = true → T.eqvs xs ys = decide ((keyL (.tup xs)) = (keyL (.tup ys)))
  | [], [], _, _ => by simp [T.eqvs, keyL]
  | [], _ :: _, _, _ => by simp [T.eqvs, keyL]
  | _ :: _, [], _, _ => by simp [T.eqvs, keyL]
  | x :: xs, y :: ys, h1, h2 => by
    rw [List.all_cons, Bool.and_eq_true] at h1 h2
    obtain ⟨i, rfl⟩ := intKey_of h1.1
    obtain ⟨j, rfl⟩ := intKey_of h2.1
    have ih := eqvs_ints h1.2 h2.2
    have ih' : T.eqvs xs ys = true ↔ xs.map keyX = ys.map keyX := by rw [ih]; exact decide_eq_true_iff
    rw [Bool.eq_iff_iff, decide_eq_true_iff]
    simp only [T.eqvs, T.eqv, Bool.and_eq_true, ih', keyL, List.map_cons, keyX, List.cons.injEq, beq_iff_eq, Sum.inl.injEq]
theorem keyOk_tup {k : T} (h : keyOk true k = true) : ∃ xs, k = .tup xs ∧ xs.all intKey = true := by
  cases k <;> first | (cases h; done) | skip
  rw [keyOk, Bool.and_eq_true] at h
  exact ⟨_, rfl, h.1⟩
theorem eqv_key {tk : Bool} {a b : T} (ha : keyOk tk a = true) (hb : keyOk tk b = true) : T.eqv a b = decide (keyL a = keyL b) := by
  cases tk with
  | false =>
    obtain ⟨i, rfl⟩ := intKey_of ha
    obtain ⟨j, rfl⟩ := intKey_of hb
    simp only [T.eqv, keyL]
    rw [Bool.eq_iff_iff]
    simp
  | true =>
    obtain ⟨xs, rfl, hx⟩ := keyOk_tup ha
    obtain ⟨ys, rfl, hy⟩ := keyOk_tup hb
    rw [T.eqv]
    exact eqvs_ints hx hy
theorem keyL_vals {H : Hp} : ∀ {xs : List T} {vs : List V}, xs.all intKey = true → Reps S H xs vs → vs = (keyL (.tup xs)).map kV
  | [], vs, _, r => by rw [show vs = [] from r]; rfl
  | x :: xs, _, h, r => by
    rw [List.all_cons, Bool.and_eq_true] at h
    obtain ⟨i, rfl⟩ := intKey_of h.1
    obtain ⟨v, w, rfl, r1, r2⟩ := r
    rw [show v = V.int i from r1, keyL_vals h.2 r2]
    rfl
/-! ### what is found -/
def hdK (p : List Key × V) : Key × V := (p.1.headD (.inl 0), p.2)
theorem getD_of {F : Hp} {tk : Bool} {k : T} (hk : keyOk tk k = true) : ∀ {kvs : List (T × T)} {L : List (List Key × V)}, RepD S F tk kvs L →
    (∃ o, valV L (keyL k) = o ∧ (match getD kvs k with | some t => ∃ v, o = some v ∧ Rep S F t v | none => o = none))
  | [], L, r => by rw [show L = [] from r]; exact ⟨_, rfl, rfl⟩
  | (u, t) :: r, _, q => by
    obtain ⟨v, R, rfl, hu, r1, r2⟩ := q
    unfold getD
    have e := eqv_key hu hk
    by_cases h : keyL u = keyL k
    · rw [e, decide_eq_true h]
      exact ⟨_, valV_pos h, v, rfl, r1⟩
    · rw [e, decide_eq_false h]
      rw [valV_neg h]
      exact getD_of hk r2
theorem valV_hd {F : Hp} {k : T} (hk : keyOk false k = true) : ∀ {kvs : List (T × T)} {L : List (List Key × V)}, RepD S F false kvs L → valV (L.map fun p => (p.1.headD (.inl 0), p.2)) ((keyL k).headD (.inl 0)) = valV L (keyL k)
  | [], L, r => by rw [show L = [] from r]; rfl
  | (u, t) :: r, _, q => by
    obtain ⟨v, R, rfl, hu, r1, r2⟩ := q
    have ih := valV_hd hk r2
    obtain ⟨i, rfl⟩ := intKey_of hk
    obtain ⟨j, rfl⟩ := intKey_of hu
    by_cases h : j = i
    · subst h
      rw [List.map_cons, valV_pos rfl, valV_pos rfl]
    · have h1 : ¬ (Sum.inl j : Key) = .inl i := fun z => h (by cases z; rfl)
      rw [List.map_cons, valV_neg (p := (keyL (.int j), v)) (k := keyL (.int i)) (fun z => h1 (by simpa [keyL] using z)), ← ih]
      exact valV_neg h1
theorem dget_of {H F : Hp} {a : Addr} {tk : Bool} {kvs : List (T × T)} {L : List (List Key × V)} {k : T} {y : V} (ha : H a = some (dctO tk L)) (r : RepD S F tk kvs L) (hk : keyOk tk k = true) (rk : Rep S H k y) :
    ∃ o, DGet H a y o ∧ (match getD kvs k with | some t => ∃ v, o = some v ∧ Rep S F t v | none => o = none) := by
  obtain ⟨o, h1, h2⟩ := getD_of hk r
  refine ⟨o, ?_, h2⟩
  cases tk with
  | false =>
    have e := valV_hd hk r
    obtain ⟨i, rfl⟩ := intKey_of hk
    rw [show y = V.int i from rk]
    exact .inl ⟨_, .inl i, .inl ha, rfl, by rw [← h1, ← e]; rfl⟩
  | true =>
    obtain ⟨xs, rfl, hx⟩ := keyOk_tup hk
    obtain ⟨b, vs, rfl, hb, _, rs⟩ := rk
    exact .inr ⟨L, keyL (.tup xs), b, .inl ha, rfl, by rw [hb, keyL_vals hx rs], h1.symm⟩
/-! ### what is put down -/
theorem any_key {F : Hp} {tk : Bool} {k : T} (hk : keyOk tk k = true) : ∀ {kvs : List (T × T)} {L : List (List Key × V)}, RepD S F tk kvs L → (kvs.any fun p => T.eqv p.1 k) = L.any fun p => decide (p.1 = keyL k)
  | [], L, r => by rw [show L = [] from r]; rfl
  | (u, t) :: r, _, q => by
    obtain ⟨v, R, rfl, hu, r1, r2⟩ := q
    rw [List.any_cons, List.any_cons, any_key hk r2, eqv_key hu hk]
theorem RepD.snoc {F : Hp} {tk : Bool} {k t : T} {v : V} (hk : keyOk tk k = true) (rt : Rep S F t v) : ∀ {kvs : List (T × T)} {L : List (List Key × V)}, RepD S F tk kvs L → RepD S F tk (kvs ++ [(k, t)]) (L ++ [(keyL k, v)])
  | [], L, r => by rw [show L = [] from r]; exact ⟨v, [], rfl, hk, rt, rfl⟩
  | (u, w) :: r, _, q => by
    obtain ⟨z, R, rfl, hu, r1, r2⟩ := q
    exact ⟨z, _, rfl, hu, r1, r2.snoc hk rt⟩
theorem RepD.repl {F : Hp} {tk : Bool} {k t : T} {v : V} (hk : keyOk tk k = true) (rt : Rep S F t v) : ∀ {kvs : List (T × T)} {L : List (List Key × V)}, RepD S F tk kvs L → RepD S F tk (kvs.map fun p => if T.eqv p.1 k then (p.1, t) else p) (L.map fun p => if p.1 = keyL k then (p.1, v) else p)
  | [], L, r => by rw [show L = [] from r]; rfl
  | (u, w) :: r, _, q => by
    obtain ⟨z, R, rfl, hu, r1, r2⟩ := q
    have e := eqv_key hu hk
    rw [List.map_cons, List.map_cons]
    by_cases h : keyL u = keyL k
    · have e' : T.eqv u k = true := by rw [e, decide_eq_true h]
      simp only [e', h, if_true]
      exact ⟨v, _, by rw [h], hu, rt, r2.repl hk rt⟩
    · have e' : T.eqv u k = false := by rw [e, decide_eq_false h]
      simp only [e', h, if_false, Bool.false_eq_true]
      exact ⟨z, _, rfl, hu, r1, r2.repl hk rt⟩
theorem RepD.put {F : Hp} {tk : Bool} {k t : T} {v : V} {kvs : List (T × T)} {L : List (List Key × V)} (r : RepD S F tk kvs L) (hk : keyOk tk k = true) (rt : Rep S F t v) : RepD S F tk (putD kvs k t) (putK L (keyL k) v) := by
  unfold putD putK
  rw [any_key hk r]
  split
  · exact r.repl hk rt
  · exact r.snoc hk rt
theorem RepD.hd {F : Hp} {k : T} (hk : keyOk false k = true) {v : V} {kvs : List (T × T)} {L : List (List Key × V)} (r : RepD S F false kvs L) : (putK L (keyL k) v).map (fun p => (p.1.headD (.inl 0), p.2)) = putK (L.map fun p => (p.1.headD (.inl 0), p.2)) ((keyL k).headD (.inl 0)) v := by
  obtain ⟨i, rfl⟩ := intKey_of hk
  have key : ∀ {kvs : List (T × T)} {L : List (List Key × V)}, RepD S F false kvs L → ∀ p ∈ L, ∃ j, p.1 = [.inl j] := by
    intro kvs
    induction kvs with
    | nil => intro L r p hp; rw [show L = [] from r] at hp; cases hp
    | cons q kvs ih =>
      intro L r p hp
      obtain ⟨u, w⟩ := q
      obtain ⟨z, R, rfl, hu, r1, r2⟩ := r
      rcases List.mem_cons.mp hp with rfl | hp
      · obtain ⟨j, rfl⟩ := intKey_of hu
        exact ⟨j, rfl⟩
      · exact ih r2 p hp
  have key := key r
  have ee : ∀ p ∈ L, (decide (p.1 = keyL (.int i))) = decide (p.1.headD (.inl 0) = (keyL (.int i)).headD (.inl 0)) := fun p hp => by
    obtain ⟨j, e⟩ := key p hp
    rw [e]
    rw [Bool.eq_iff_iff]
    simp [keyL]
  have ea : (L.any fun kv => decide (kv.1 = keyL (.int i))) = (L.map fun p => (p.1.headD (.inl 0), p.2)).any fun kv => decide (kv.1 = (keyL (.int i)).headD (.inl 0)) := by
    rw [List.any_map]
    rw [Bool.eq_iff_iff, List.any_eq_true, List.any_eq_true]
    exact ⟨fun ⟨p, h1, h2⟩ => ⟨p, h1, by rw [ee p h1] at h2; exact h2⟩, fun ⟨p, h1, h2⟩ => ⟨p, h1, by rw [ee p h1]; exact h2⟩⟩
  unfold putK
  rw [← ea]
  split
  · rw [List.map_map, List.map_map]
    refine List.map_congr_left fun p hp => ?_
    have e := ee p hp
    simp only [Function.comp]
    by_cases h : p.1 = keyL (.int i)
    · rw [if_pos h, if_pos (by rw [h])]
    · rw [if_neg h, if_neg (fun z => by rw [decide_eq_false h, decide_eq_true z] at e; cases e)]
  · rw [List.map_append]; rfl
theorem putD_len (kvs : List (T × T)) (k t : T) : (putD kvs k t).length ≤ kvs.length + 1 := by
  unfold putD
  split
  · rw [List.length_map]; omega
  · rw [List.length_append]; simp
theorem dput_of {H F : Hp} {a : Addr} {tk : Bool} {kvs : List (T × T)} {L : List (List Key × V)} {k t : T} {y v : V} (ha : H a = some (dctO tk L)) (r : RepD S F tk kvs L) (hk : keyOk tk k = true) (rk : Rep S H k y) (rt : Rep S F t v) (hl : kvs.length < sizeLine) :
    DPut H a y v (upd H a (dctO tk (putK L (keyL k) v))) := by
  have l := r.length
  cases tk with
  | false =>
    have e := r.hd hk (v := v)
    obtain ⟨i, rfl⟩ := intKey_of hk
    rw [show y = V.int i from rk]
    exact .inl ⟨_, .inl i, ha, rfl, by rw [List.length_map]; omega, by
      show upd H a (.dK _) = _
      rw [e]; rfl⟩
  | true =>
    obtain ⟨xs, rfl, hx⟩ := keyOk_tup hk
    obtain ⟨b, vs, rfl, hb, _, rs⟩ := rk
    exact .inr ⟨L, keyL (.tup xs), b, ha, rfl, by rw [hb, keyL_vals hx rs], by omega, rfl⟩
theorem isD_of {H : Hp} {a : Addr} {tk : Bool} {L : List (List Key × V)} (ha : H a = some (dctO tk L)) : IsD H a := by
  cases tk with
  | false => exact .inl ⟨_, .inl ha⟩
  | true => exact .inr ⟨_, .inl ha⟩
section
variable {X : Cx}
/-- d[k] -/
def rDGet : R2 := fun x y H Q => ∃ a v, x = .ref a ∧ DGet H a y (some v) ∧ Q v H
theorem ix_dct (hu : X.A.units + 1 < cLine) : IxR X rDGet := by
  intro va sl pins s σ H x y v u Q I rx ry h hs
  obtain ⟨a, z, rfl, g, q⟩ := h
  cases rx
  exact tail_any (dict_typeIs I g) PySem.F.slot_dict_getitem.lookup (d_getItem hu I g ry fun w' s3 I3 rw' => ⟨z, H, I3, rw', q⟩) hs
end
end Fz

/-! order: rows of whole numbers; sorted -/
namespace Fz
open PySem PySem.Spec L2 PySem.W
open PyProof.Rows hiding St

/-! ### the model's rows are ours -/
theorem lexI : ∀ (l m : List Int), PyProof.Rows.lexLt itemOrd (l.map Sum.inl) (m.map Sum.inl) = decide (l < m)
  | [], [] => by simp [PyProof.Rows.lexLt]
  | [], y :: ys => by simp [PyProof.Rows.lexLt]
  | x :: xs, [] => by simp [PyProof.Rows.lexLt]
  | x :: xs, y :: ys => by
    rw [List.map_cons, List.map_cons, PyProof.Rows.lexLt, lexI xs ys]
    show (decide (x < y) || (!decide (y < x) && decide (xs < ys))) = _
    rw [Bool.eq_iff_iff]
    simp only [Bool.or_eq_true, Bool.and_eq_true, decide_eq_true_eq, Bool.not_eq_true', decide_eq_false_iff_not, List.cons_lt_cons_iff]
    constructor
    · rintro (h | ⟨h1, h2⟩)
      · exact .inl h
      · rcases Int.lt_or_le x y with h | h
        · exact .inl h
        · exact .inr ⟨by omega, h2⟩
    · rintro (h | ⟨h1, h2⟩)
      · exact .inl h
      · exact .inr ⟨by omega, h2⟩
mutual
theorem toks_enc : ∀ (t : T) (n : Nat), pureT t n = true → keyToks (datT t) = (enc t).map Sum.inl
  | .int i, _, _ => by simp [datT, keyToks, enc]
  | .tup xs, 0, h => by simp [pureT] at h
  | .tup xs, n + 1, h => by
    simp only [datT, keyToks, enc]
    exact toks_encs xs n (by simpa [pureT] using h)
  | .non, _, h => by simp [pureT] at h
  | .bl _, _, h => by simp [pureT] at h
  | .str _, _, h => by simp [pureT] at h
  | .lst _, _, h => by simp [pureT] at h
  | .dct _ _, _, h => by simp [pureT] at h
  | .fn _, _, h => by simp [pureT] at h
  | .exc _, _, h => by simp [pureT] at h
theorem toks_encs : ∀ (ts : List T) (n : Nat), pureTs ts n = true → keyToksAll (datTs ts) = (encs ts).map Sum.inl
  | [], _, _ => by simp [datTs, keyToksAll, encs]
  | t :: ts, n, h => by
    have h' : pureT t n = true ∧ pureTs ts n = true := by simpa [pureTs] using h
    simp only [datTs, keyToksAll, encs, List.map_cons, List.map_append]
    rw [toks_enc t n h'.1, toks_encs ts n h'.2]
end
mutual
theorem alike_cmpb : ∀ (a b : T) (n m : Nat), pureT a n = true → pureT b m = true → alike (datT a) (datT b) = cmpb a b
  | .int i, .int j, _, _, _, _ => by simp [datT, alike, cmpb]
  | .int i, .tup ys, _, _, _, _ => by simp [datT, alike, cmpb]
  | .tup xs, .int j, _, _, _, _ => by simp [datT, alike, cmpb]
  | .tup xs, .tup ys, 0, _, h, _ => by simp [pureT] at h
  | .tup xs, .tup ys, _, 0, _, h => by simp [pureT] at h
  | .tup xs, .tup ys, n + 1, m + 1, h, h' => by
    simp only [datT, alike, cmpb]
    exact alike_cmpbs xs ys n m (by simpa [pureT] using h) (by simpa [pureT] using h')
  | .non, _, _, _, h, _ => by simp [pureT] at h
  | .bl _, _, _, _, h, _ => by simp [pureT] at h
  | .str _, _, _, _, h, _ => by simp [pureT] at h
  | .lst _, _, _, _, h, _ => by simp [pureT] at h
  | .dct _ _, _, _, _, h, _ => by simp [pureT] at h
  | .fn _, _, _, _, h, _ => by simp [pureT] at h
  | .exc _, _, _, _, h, _ => by simp [pureT] at h
  | _, .non, _, _, _, h => by simp [pureT] at h
  | _, .bl _, _, _, _, h => by simp [pureT] at h
  | _, .str _, _, _, _, h => by simp [pureT] at h
  | _, .lst _, _, _, _, h => by simp [pureT] at h
  | _, .dct _ _, _, _, _, h => by simp [pureT] at h
  | _, .fn _, _, _, _, h => by simp [pureT] at h
  | _, .exc _, _, _, _, h => by simp [pureT] at h
theorem alike_cmpbs : ∀ (xs ys : List T) (n m : Nat), pureTs xs n = true → pureTs ys m = true → alikeAll (datTs xs) (datTs ys) = cmpbs xs ys
  | [], ys, _, _, _, _ => by cases ys <;> simp [datTs, alikeAll, cmpbs]
  | _ :: _, [], _, _, _, _ => by simp [datTs, alikeAll, cmpbs]
  | x :: xs, y :: ys, n, m, h, h' => by
    have h1 : pureT x n = true ∧ pureTs xs n = true := by simpa [pureTs] using h
    have h2 : pureT y m = true ∧ pureTs ys m = true := by simpa [pureTs] using h'
    simp only [datTs, alikeAll, cmpbs]
    rw [alike_cmpb x y n m h1.1 h2.1, alike_cmpbs xs ys n m h1.2 h2.2]
end
mutual
theorem pure_plain : ∀ (t : T) (n : Nat), pureT t n = true → t.plain n = true
  | .int i, _, _ => by simp [T.plain]
  | .tup xs, 0, h => by simp [pureT] at h
  | .tup xs, n + 1, h => by
    simp only [T.plain]
    exact pures_plain xs n (by simpa [pureT] using h)
  | .non, _, h => by simp [pureT] at h
  | .bl _, _, h => by simp [pureT] at h
  | .str _, _, h => by simp [pureT] at h
  | .lst _, _, h => by simp [pureT] at h
  | .dct _ _, _, h => by simp [pureT] at h
  | .fn _, _, h => by simp [pureT] at h
  | .exc _, _, h => by simp [pureT] at h
theorem pures_plain : ∀ (ts : List T) (n : Nat), pureTs ts n = true → T.plains ts n = true
  | [], _, _ => by simp [T.plains]
  | t :: ts, n, h => by
    have h' : pureT t n = true ∧ pureTs ts n = true := by simpa [pureTs] using h
    simp only [T.plains, pure_plain t n h'.1, pures_plain ts n h'.2, Bool.and_self]
end
mutual
theorem eqv_pure : ∀ (a b : T) (n m : Nat), pureT a n = true → pureT b m = true → (T.eqv a b = true ↔ a = b)
  | .int i, .int j, _, _, _, _ => by simp [T.eqv]
  | .int i, .tup ys, _, _, _, _ => by simp [T.eqv]
  | .tup xs, .int j, _, _, _, _ => by simp [T.eqv]
  | .tup xs, .tup ys, 0, _, h, _ => by simp [pureT] at h
  | .tup xs, .tup ys, _, 0, _, h => by simp [pureT] at h
  | .tup xs, .tup ys, n + 1, m + 1, h, h' => by
    simp only [T.eqv, T.tup.injEq]
    exact eqvs_pure xs ys n m (by simpa [pureT] using h) (by simpa [pureT] using h')
  | .non, _, _, _, h, _ => by simp [pureT] at h
  | .bl _, _, _, _, h, _ => by simp [pureT] at h
  | .str _, _, _, _, h, _ => by simp [pureT] at h
  | .lst _, _, _, _, h, _ => by simp [pureT] at h
  | .dct _ _, _, _, _, h, _ => by simp [pureT] at h
  | .fn _, _, _, _, h, _ => by simp [pureT] at h
  | .exc _, _, _, _, h, _ => by simp [pureT] at h
  | _, .non, _, _, _, h => by simp [pureT] at h
  | _, .bl _, _, _, _, h => by simp [pureT] at h
  | _, .str _, _, _, _, h => by simp [pureT] at h
  | _, .lst _, _, _, _, h => by simp [pureT] at h
  | _, .dct _ _, _, _, _, h => by simp [pureT] at h
  | _, .fn _, _, _, _, h => by simp [pureT] at h
  | _, .exc _, _, _, _, h => by simp [pureT] at h
theorem eqvs_pure : ∀ (xs ys : List T) (n m : Nat), pureTs xs n = true → pureTs ys m = true → (T.eqvs xs ys = true ↔ xs = ys)
  | [], [], _, _, _, _ => by simp [T.eqvs]
  | [], _ :: _, _, _, _, _ => by simp [T.eqvs]
  | _ :: _, [], _, _, _, _ => by simp [T.eqvs]
  | x :: xs, y :: ys, n, m, h, h' => by
    have h1 : pureT x n = true ∧ pureTs xs n = true := by simpa [pureTs] using h
    have h2 : pureT y m = true ∧ pureTs ys m = true := by simpa [pureTs] using h'
    simp only [T.eqvs, Bool.and_eq_true, eqv_pure x y n m h1.1 h2.1, eqvs_pure xs ys n m h1.2 h2.2, List.cons.injEq]
end
/-- of things that may be asked for their order, one row is one thing -/
theorem enc_inj {a b : T} {n : Nat} (ha : pureT a n = true) (hb : pureT b n = true) (hc : cmpb a b = true) (e : enc a = enc b) : a = b := by
  rw [← eqv_pure a b n n ha hb, ← eqv_of a b n n (pure_plain a n ha) (pure_plain b n hb)]
  cases q : PyData.eqv (datT a) (datT b) with
  | true => rfl
  | false =>
    have k := (toks_eqv (datT a) (datT b) (by rw [alike_cmpb a b n n ha hb]; exact hc)).2 q
    rw [toks_enc a n ha, toks_enc b n hb, e] at k
    have k1 := k [.inl 0] [.inl 1]
    have k2 := k [.inl 1] [.inl 0]
    rw [lex_pre] at k1 k2
    rw [← k2] at k1
    simp [PyProof.Rows.lexLt, itemLt] at k1
end Fz

/-! sorted of a list, a tuple, a set; set of a tuple of tuples -/
namespace L2
open PySem PySem.Spec PyProof.Rows
abbrev fzSet0 (w : World) : Obj := { cls := .type "set", dict := none, data := .set #[] 0 (.fresh 0 0 (!w.params.followText "set-order")) }
section
variable {P : Program} {w : World} {A : Around} {E : Value → Shared → Prop} {s : Shared}
/-- set(t), t a tuple of tuples of ints -/
theorem fz_set_tup {l : Addr} {its : Array Value} (ks : List (Addr × List Int)) {Q : Value → Shared → Prop} (hh : A.handled = none) (hl : s.heap.IsTuple l its) (hit : its.toList = ks.map fun p => Value.ref p.1)
    (hk : ∀ p ∈ ks, IsT P w s.heap p.2 p.1) (hfew : ks.length < 64) (hu : A.units + 3 < cLine)
    (h : ∀ (h' : Heap) (tk : Nat) L es ep t, SetTR P w h' s.heap.objs.size L es ep t → Got ks ks.length L → (∀ b o, s.heap.get? b = some o → h'.get? b = some o) → Q (.ref s.heap.objs.size) { s with heap := h', toks := tk }) :
    wpAny (model P w) A (call (.type "set") [.ref l]) Q E s := by
  have hn : its.size = ks.length := by rw [← Array.length_toList, hit, List.length_map]
  obtain ⟨c, tl, hmro⟩ := F.called_set.mro
  have q1 := F.called_set.made
  have q2 := F.called_set.sub
  have q3 := F.called_set.notType
  have q4 := F.called_set.canCreate
  have q5 := F.typeCall_set_1 (.ref l)
  refine wpAny_call (codeAny_of_tree ?_)
  show wpAny _ _ (callAny (.type "set") _) _ _ _
  refine wpAny_pure ⟨Code.quiet_builtin _ (by decide +kernel), codeAny_builtin F.entry_type_call ?_⟩
  rw [Around.under_plain (weight_type_call_type "set" [.ref l] []) rfl]
  repeat (any_goals (first | assumption | wp_step))
  refine codeAny_mono (code_set_led1 (.ref l) (E := E) (Q₁ := fun r s1 => r = .ref s.heap.objs.size ∧ s1 = { s with heap := s.heap.push (fzSet0 w) }) ⟨rfl, rfl⟩) fun r s1 hr => ?_
  cases r with
  | error e => exact hr
  | ok fl =>
    cases fl with
    | ret r =>
      obtain ⟨rfl, rfl⟩ := hr
      have hS : (s.heap.push (fzSet0 w)).get? s.heap.objs.size = some (fzSet0 w) := Heap.get?_push_size _ rfl
      have hT : Shared.TypeIs { s with heap := s.heap.push (fzSet0 w) } (.ref s.heap.objs.size) "set" := ⟨_, hS, rfl⟩
      have q6 := F.called_set.init.lookup
      have q7 := F.called_set.init.bind (.ref s.heap.objs.size)
      repeat (any_goals (first | assumption | wp_step))
      refine codeAny_mono (codeAny_call_builtin (R := wants (fun r s2 => r = .none ∧ ∃ h' tk L es ep t, s2 = { s with heap := h', toks := tk } ∧ SetTR P w h' s.heap.objs.size L es ep t ∧ Got ks ks.length L ∧
          (∀ b o, s.heap.get? b = some o → h'.get? b = some o)) E) F.called_set.init.plain F.entry_set_init (check_set_init_1 hT ?_)) fun r2 s2 hr2 => ?_
      · obtain ⟨⟨cl, od, da, osl⟩, hol, hcl, nl, hdl⟩ := hl
        simp only at hcl hdl
        subst hcl hdl
        have hol' : (s.heap.push (fzSet0 w)).get? l = some { cls := .type "tuple", dict := od, data := .seq its nl, slots := osl } := Heap.get?_push_of_some _ hol
        have hl1 : (s.heap.push (fzSet0 w)).IsTuple l its := ⟨_, hol', rfl, nl, rfl⟩
        have s1 := F.sub_tuple_set
        have s2 := F.sub_tuple_frozenset
        have s3 : (Value.type "tuple" == Value.type "dict") = false := by decide
        unfold Builtin.«set.__init__» noKeywords Builtin.Frozenset.updateFrom
        generalize hPI : pyIter = PI
        wp_walk
        subst hPI
        refine wpAny_pyIter_tuple hl1 ?_
        refine wpAny_bind (wpAny_runValue ?_)
        have lt := Heap.lt_size hol
        have sz : (s.heap.push (fzSet0 w)).objs.size = s.heap.objs.size + 1 := Heap.size_push ..
        have hneI : l ≠ (s.heap.push (fzSet0 w)).objs.size := by rw [sz]; exact Nat.ne_of_lt (Nat.lt_succ_of_lt lt)
        have nf : s.heap.objs.size ∉ [(s.heap.push (fzSet0 w)).objs.size, l] := by
          rw [sz]
          simp only [List.mem_cons, List.not_mem_nil, or_false, not_or]
          exact ⟨Nat.ne_of_lt (Nat.lt_succ_self _), Nat.ne_of_gt lt⟩
        have hv : ∀ (i : Nat) (v : Value), its[i]? = some v → ∃ p, ks[i]? = some p ∧ v = .ref p.1 := fun i v e => by
          rw [← Array.getElem?_toList, hit, List.getElem?_map] at e
          cases z : ks[i]? with
          | none => rw [z] at e; cases e
          | some p => rw [z] at e; exact ⟨p, rfl, (Option.some.inj e).symm⟩
        have gone : ∀ b, s.heap.objs.size ≤ b → s.heap.get? b = none := fun b hb => by
          cases z : s.heap.get? b with
          | none => rfl
          | some o => exact absurd (Nat.lt_of_lt_of_le (Heap.lt_size z) hb) (Nat.lt_irrefl _)
        refine set_update_tups ((Walks.tuple (by simp [hh]) _ l hneI its).toS) s.heap.objs.size nf ks hn hfew hv s.heap hk (gone _ (Nat.le_refl _)) (fun b hb => gone b (by rw [List.mem_singleton.mp hb, sz]; exact Nat.le_succ _)) hu (its.size - 0) 0 _ (by omega) (Nat.zero_le _)
          ⟨⟨_, Heap.get?_push_size _ rfl, rfl, rfl⟩, hl1.push _⟩ (fun b o e => Heap.get?_push_of_some _ (Heap.get?_push_of_some _ e)) ?_ fun s' L es ep t hm hS' g' hkp => ?_
        · refine ⟨[], #[], 0, _, setTR_fresh ?_, Got.zero ks⟩
          exact Heap.get?_push_of_some _ hS
        · obtain ⟨h', g2, d', tk', os'⟩ := s'
          obtain rfl : g2 = s.gens := hm.gens
          obtain rfl : d' = s.drawn := hm.drawn
          obtain rfl : os' = s.os := hm.os
          rw [hn] at g'
          exact wpAny_pure (wpAny_pure ⟨rfl, h', tk', L, es, ep, t, rfl, hS', g', hkp⟩)
      · cases r2 with
        | error e => exact hr2
        | ok fl2 =>
          cases fl2 with
          | ret r =>
            obtain ⟨rfl, h', tk, L, es, ep, t, rfl, hS', g', hk'⟩ := hr2
            repeat (any_goals (first | assumption | wp_step))
            exact h _ _ _ _ _ _ hS' g' hk'
          | _ => exact hr2.elim
    | _ => exact hr.elim
end
end L2

/-! sorting tuples, some of them empty; sorted of whatever is gathered -/
namespace PySem.W
open PySem PySem.Spec PySem.Calls PySem.SeqAt
open PyProof.Rows
section
variable {prog : Program} {w : World} {A : Around} {E : Value → Shared → Prop} {s : Shared}
/-- tuple.__lt__ of two tuples of alike data -/
theorem fz_oneLt_tup {f : Bool} {xs ys : List PyData} {a b : Value} {as bs : List Addr} {Q : Bool → Shared → Prop} (ra : Reads s.heap a (.tuple xs) as) (rb : Reads s.heap b (.tuple ys) bs) (h : alike (.tuple xs) (.tuple ys) = true)
    (hu : A.units + min (PyData.tuple xs).depth (PyData.tuple ys).depth < cLine) (hq : Q (dataLt (.tuple xs) (.tuple ys)) s) : wpAny (model prog w) A (oneLt' f a b) Q E s := by
  cases f with
  | false => exact oneLt_alike (fun z => nomatch z) ra rb h (fun z => nomatch z) hu hq
  | true =>
    have al : alikeAll xs ys = true := by simpa [alike] using h
    rw [dataLt_tuple, ← firstLt_toks xs ys al] at hq
    cases ra with
    | @tuple l o vs n _ _ h1 h2 h3 h4 =>
      cases rb with
      | @tuple l' o' vs' n' _ _ k1 k2 k3 k4 =>
        obtain ⟨cl, od, da, osl⟩ := o
        obtain ⟨cl2, od2, da2, osl2⟩ := o'
        simp only at h2 h3 k2 k3
        subst h2 h3 k2 k3
        have n1 : vs.size = xs.length := by simpa using ReadsAll.length _ _ _ h4
        have n2 : vs'.size = ys.length := by simpa using ReadsAll.length _ _ _ k4
        rw [← n1, ← n2] at hq
        rw [oneLt'_eq]
        simp only [if_true]
        refine wpAny_bind (wpAny_cRoomFor (room_here hu) (wpAny_bind (wpAny_callSpecialIfBound?_slot (T := "tuple") ⟨_, h1, rfl⟩ F.slot_tuple_lt ?_)))
        refine call_meets F.slot_tuple_lt ⟨_, h1, rfl⟩ F.entry_tuple_lt (F.args_tuple_lt_2 _ _) (tuple_ltAt l l' vs vs' n n' od od2 osl osl2 (pairEq xs ys) (fun j => dataLt (xs.getD j .none) (ys.getD j .none))) ⟨h1, k1, fun j j1 j2 => ?_, fun j j1 j2 hj => ?_, ?_⟩
        · have := eqAt_alikeAll xs ys A.in1 s vs.toList vs'.toList _ _ h4 k4 al (room_in hu) j (by simpa using j1) (by simpa using j2)
          simpa using this
        · have := rcLt_alikeAll xs ys A.in1 s vs.toList vs'.toList _ _ h4 k4 al (room_in hu) j (by simpa using j1) (by simpa using j2) hj
          simpa using this
        · exact wpAny_truthy_bool hq
/-- the first items, where there are some -/
theorem fz_firsts : ∀ (vs : List Value) (ds : List PyData) {Q : List (Option Value) → Shared → Prop}, EachIs (fun v d => ∃ as, Reads s.heap v d as) vs ds → (∀ d ∈ ds, ∃ xs, d = .tuple xs) →
    (∀ fs : List (Option Value), (∀ (i : Nat) xs, ds[i]? = some (.tuple xs) → ∃ o : Option Value, fs[i]? = some o ∧ o.isSome = !xs.isEmpty) → Q fs s) → wpAny (model prog w) A (vs.mapM firstOfTuple') Q E s
  | [], _, Q, e, _, h => by rw [List.mapM_nil]; exact wpAny_pure (h [] fun i xs q => by cases e; simp at q)
  | v :: vs, _, Q, e, ht, h => by
    cases e with
    | @cons _ d _ ds hr e =>
      obtain ⟨as, r⟩ := hr
      obtain ⟨xs, rfl⟩ := ht d (List.mem_cons_self ..)
      cases r with
      | @tuple l o its n _ _ h1 h2 h3 h4 =>
        rw [List.mapM_cons]
        refine wpAny_bind ?_
        rw [kas_first_eq]
        refine wpAny_bind (Looks.here (show Looks (model prog w) s.heap (typeOf (.ref l)) o.cls from (Looks.ld h1).andThen .now) ?_)
        rw [h2, if_neg (by first | decide | simp)]
        refine wpAny_bind (listItems_at h1 h3 (wpAny_pure (wpAny_bind (fz_firsts vs ds e (fun d hd => ht d (List.mem_cons_of_mem _ hd)) fun fs l2 => wpAny_pure (h _ fun i ys hi => ?_)))))
        cases i with
        | zero =>
          have q3 : xs = ys := by simpa using hi
          subst q3
          have n0 : its.size = xs.length := by simpa using ReadsAll.length _ _ _ h4
          refine ⟨_, rfl, ?_⟩
          cases xs with
          | nil =>
            have : its = #[] := Array.eq_empty_of_size_eq_zero n0
            simp [this]
          | cons x r =>
            have : 0 < its.size := by rw [n0]; simp
            simp [this]
        | succ i => simpa using l2 i ys (by simpa using hi)
/-- how such keys are asked -/
def fzKind : List PyData → SortKind
  | .tuple [] :: _ => oneType'
  | _ => general'
theorem fz_kind_mix {vs : List Value} {ds : List PyData} (e : EachIs (fun v d => ∃ as, Reads s.heap v d as) vs ds) (ht : ∀ d ∈ ds, ∃ xs, d = .tuple xs) (hm : .tuple [] ∈ ds) {Q : SortKind → Shared → Prop} (h : Q (fzKind ds) s) : wpAny (model prog w) A (keyKind' vs.toArray) Q E s := by
  rw [keyKind'_eq, List.mapM_toArray, map_eq_pure_bind]
  refine wpAny_bind (wpAny_bind (fz_firsts vs ds e ht fun fs l2 => wpAny_pure ?_))
  obtain ⟨i, hi⟩ := List.getElem?_of_mem hm
  obtain ⟨o, q, qs⟩ := l2 i [] hi
  have na : ¬ (fs.toArray.all fun x => x.isSome) = true := by
    rw [List.all_toArray, List.all_eq_true]
    intro z
    have := z _ (List.mem_of_getElem? q)
    rw [qs] at this
    cases this
  rw [if_neg na]
  obtain ⟨d0, ds', rfl⟩ : ∃ d0 ds', ds = d0 :: ds' := by
    cases ds with
    | nil => cases hm
    | cons d0 ds' => exact ⟨_, _, rfl⟩
  obtain ⟨xs, rfl⟩ := ht d0 (List.mem_cons_self ..)
  obtain ⟨o0, q0, q0s⟩ := l2 0 xs rfl
  have hf : fs.toArray[0]?.bind id = o0 := by
    have : fs.toArray[0]? = some o0 := by simpa using q0
    rw [this]; rfl
  rw [hf, q0s]
  cases xs with
  | cons x r =>
    rw [if_pos (by simp)]
    exact wpAny_pure h
  | nil =>
    rw [if_neg (by simp), oneTypeOnly'_eq, List.mapM_toArray, map_eq_pure_bind]
    refine wpAny_bind (wpAny_bind (wpAny_bind (kas_mapM (r := Value.type "tuple") _ (fun v hv Q' hq => ?_) (wpAny_pure ?_))))
    · obtain ⟨d, hd, as, r⟩ := e.left v hv
      obtain ⟨xs, rfl⟩ := ht d hd
      exact (looks_reads (M := model prog w) r).here hq
    · obtain ⟨v0, vs', rfl⟩ : ∃ v0 vs', vs = v0 :: vs' := by
        cases e with
        | cons _ _ => exact ⟨_, _, rfl⟩
      have hall : ((List.map (fun _ => Value.type "tuple") (v0 :: vs')).toArray.all fun x => x == Value.type "tuple") = true := by
        simp only [List.all_toArray, List.all_map, List.all_eq_true]
        intro _ _
        exact beq_self_eq_true _
      have h0 : (List.map (fun _ => Value.type "tuple") (v0 :: vs')).toArray[0]? = some (Value.type "tuple") := by simp
      rw [h0]
      simp only [hall, if_true]
      exact wpAny_pure (wpAny_pure h)
/-- tuples that are alike, some of them empty -/
theorem fz_sorts {vs : List Value} {ds : List PyData} (e : EachIs (fun v d => ∃ as, Reads s.heap v d as) vs ds) (hal : AllAlike ds) (hk : (∀ d ∈ ds, ∃ xs, d = .tuple xs) ∨ ∀ d ∈ ds, d ≠ .none ∧ ∀ xs, d ≠ .tuple xs) (hu : ∀ d, d ∈ ds → A.units + d.depth < cLine) :
    SortsAt prog w A s (dataKind s.heap ds) vs := by
  rcases hk with ht | hn
  · by_cases hm : PyData.tuple [] ∈ ds
    · have key : ∀ kd : SortKind, (kd = general' ∨ kd = oneType') → PyProof.Rows.H.LtAt prog w A s (dataKind s.heap ds) kd := by
        intro kd hkd E x y a b Q ha hb hq
        obtain ⟨d, as, hd, ra, rfl⟩ := dataKind_inv ha
        obtain ⟨d', as', hd', rb, rfl⟩ := dataKind_inv hb
        obtain ⟨xs, rfl⟩ := ht d hd
        obtain ⟨ys, rfl⟩ := ht d' hd'
        have hr : A.units + min (PyData.tuple xs).depth (PyData.tuple ys).depth < cLine := Nat.lt_of_le_of_lt (Nat.add_le_add_left (Nat.min_le_left _ _) _) (hu _ hd)
        have hq' : Q (dataLt (.tuple xs) (.tuple ys)) s := hq
        rcases hkd with rfl | rfl
        · exact fz_oneLt_tup (f := false) ra rb (hal _ hd _ hd') hr hq'
        · exact fz_oneLt_tup (f := true) ra rb (hal _ hd _ hd') hr hq'
      refine ⟨fun v hv => ?_, fzKind ds, key _ ?_, fun h2 E Q hq => fz_kind_mix e ht hm hq⟩
      · obtain ⟨d, hd, as, r⟩ := e.left v hv
        exact ⟨_, dataKind_some hal hd r⟩
      · unfold fzKind
        split
        · exact .inr rfl
        · exact .inl rfl
    · refine SortsAt.data e hal (.inl fun d hd => ?_) hu
      obtain ⟨xs, rfl⟩ := ht d hd
      cases xs with
      | nil => exact absurd hd hm
      | cons x r => exact ⟨x, r, rfl⟩
  · exact SortsAt.data e hal (.inr hn) hu
end
end PySem.W

namespace L2
open PySem PySem.Spec PySem.W
open PyProof.Rows hiding St
section
variable {prog : Program} {w : World} {A : Around} {E : Value → Shared → Prop} {s : Shared}
/-- x is gathered into a list of which Pv holds -/
def FzCol (prog : Program) (w : World) (A : Around) (s : Shared) (x : Value) (Pv : List Value → Prop) : Prop :=
  ∀ (Q : List Value → Shared → Prop) (E : Value → Shared → Prop), (∀ vs s1, Pv vs → (∀ b o, s.heap.get? b = some o → s1.heap.get? b = some o) → s.heap.objs.size ≤ s1.heap.objs.size → s1.gens = s.gens → s1.os = s.os → Q vs s1) →
    wpAny (model prog w) A (collect x) Q E s
theorem fz_push_old {h : Heap} {o : Obj} {b : Addr} {u : Obj} {f : Obj → Obj} (e : h.get? b = some u) : ((h.push o).update h.objs.size f).get? b = some u := by
  rw [Heap.get?_update_ne _ _ _ _ (Nat.ne_of_lt (Heap.lt_size e))]
  exact Heap.get?_push_of_some _ e
theorem fz_col_list {l : Addr} {vs : List Value} (hl : s.heap.IsList l vs.toArray) (hz : vs.length ≤ sizeLine) : FzCol prog w A s (.ref l) (· = vs) := fun Q E h =>
  collect_list hl (h vs _ rfl (fun b o e => fz_push_old e) (by show _ ≤ ((s.heap.push _).update _ _).objs.size; rw [Heap.size_update, size_push']; exact Nat.le_succ _) rfl rfl) hz
theorem fz_col_tup {l : Addr} {vs : List Value} (hl : s.heap.IsTuple l vs.toArray) (hz : vs.length ≤ sizeLine) : FzCol prog w A s (.ref l) (· = vs) := fun Q E h => by
  have hQ := h vs { s with heap := (s.heap.push (seqObj "list" #[] 0)).update s.heap.objs.size (Obj.mapSeq (· ++ vs.toArray)) } rfl (fun b o e => fz_push_old e) (by show _ ≤ ((s.heap.push _).update _ _).objs.size; rw [Heap.size_update, size_push']; exact Nat.le_succ _) rfl rfl
  obtain ⟨o, ho, hc, n, hd⟩ := id hl
  unfold collect
  refine wpAny_bind (wpAny_runValue (codeAny_builtin entry_proto_collect' ?_))
  show wpAny _ _ (do again (.builtin "list.__iadd__" ⟨[← newList [], .ref l], []⟩)) _ _ s
  refine wpAny_bind (wpAny_newList (wpAny_pure ⟨Code.quiet_builtin _ (by decide +kernel), codeAny_builtin entry_list_iadd' ?_⟩))
  show wpAny _ _ (Builtin.List.listExtendWith (.ref s.heap.objs.size) (.ref l) (.ref s.heap.objs.size)) _ _ { s with heap := s.heap.push (seqObj "list" #[] 0) }
  unfold Builtin.List.listExtendWith
  have ho' : (s.heap.push (seqObj "list" #[] 0)).get? l = some o := Heap.get?_push_of_some _ ho
  refine wpAny_bind (wpAny_typeOf (T := "tuple") ⟨o, ho', hc⟩ ?_)
  have ht : (Value.type "tuple" == Value.type "tuple") = true := by rfl
  rw [if_pos (by rw [ht]; simp)]
  have at0 : (s.heap.push (seqObj "list" #[] 0)).get? s.heap.objs.size = some (seqObj "list" #[] 0) := Heap.get?_push_size _ rfl
  refine wpAny_bind (listItems_at ho' hd (wpAny_bind (listItems_at (xs := #[]) (n := 0) at0 rfl ?_)))
  rw [if_neg (by simp)]
  refine wpAny_bind (listUpdate_at (xs := #[]) (n := 0) at0 rfl ?_ (Nat.zero_le _) (by show (#[] ++ vs.toArray).size ≤ sizeLine + 1; simp only [Array.size_append, List.size_toArray, List.length_nil]; omega))
  refine wpAny_pure ?_
  show wpAny (model prog w) A (do
      let o ← load s.heap.objs.size
      match o.data with
      | .seq xs _ => pure xs.toList
      | _ => unsupported "internal:collect") Q E { s with heap := (s.heap.push (seqObj "list" #[] 0)).update s.heap.objs.size (Obj.mapSeq (· ++ vs.toArray)) }
  refine wpAny_bind (wpAny_load (get?_update_seq at0 _) ?_)
  show wpAny _ _ (pure ((#[] : Array Value) ++ vs.toArray).toList) Q E _
  rw [show ((#[] : Array Value) ++ vs.toArray).toList = vs by simp]
  exact wpAny_pure hQ
/-- sorted(x), by what x is gathered into -/
theorem fz_sorted {x : Value} {Pv : List Value → Prop} {R : List Value → Prop} {Q : Value → Shared → Prop} (hc : FzCol prog w A.in1 s x Pv) (hz : ∀ vs, Pv vs → vs.length ≤ sizeLine)
    (hs : ∀ vs (s2 : Shared), Pv vs → (∀ b o, s.heap.get? b = some o → s2.heap.get? b = some o) → ∃ κ, SortsAt prog w A.in1.in1 s2 κ vs ∧ R (sortVals κ false vs vs))
    (h : ∀ (s' : Shared) p out c, R out → (∀ b o, s.heap.get? b = some o → s'.heap.get? b = some o) → s.heap.objs.size ≤ p → s'.gens = s.gens → s'.os = s.os → s'.heap.get? p = some (seqObj "list" (List.toArray out) c) → Q (.ref p) s') :
    wpAny (model prog w) A (call (.builtin "sorted") [x]) Q E s := by
  refine Calls.call_function_entry kind_sorted plain_sorted entry_sorted (args_sorted1 _) ?_
  unfold Builtin.«sorted»
  refine wpAny_bind (m := checkCount "sorted" 1 1 _) (wpAny_pure ?_)
  refine wpAny_bind (hc _ _ fun vs s1 hp k1 hsz g1 o1 => wpAny_bind (wpAny_newList ?_ (hz vs hp)))
  have at1 : (s1.heap.push (seqObj "list" vs.toArray 0)).get? s1.heap.objs.size = some (seqObj "list" vs.toArray 0) := Heap.get?_push_size _ rfl
  have old : ∀ b o, s.heap.get? b = some o → (sortingHeap (s1.heap.push (seqObj "list" vs.toArray 0)) s1.heap.objs.size vs).get? b = some o := fun b o e => by
    have e1 := k1 b o e
    exact sortingHeap_old (Nat.ne_of_lt (Heap.lt_size e1)) (Heap.get?_push_of_some _ e1)
  obtain ⟨κ, S, r⟩ := hs vs { s1 with heap := sortingHeap (s1.heap.push (seqObj "list" vs.toArray 0)) s1.heap.objs.size vs } hp old
  obtain ⟨c, hcc⟩ := sortedHeap_at (vs := vs) (out := (sortVals κ false vs vs).toArray) at1
  refine wpAny_bind (wpAny_holding (wpAny_call_entry slot_list_sort ⟨_, at1, rfl⟩ entry_list_sort (list_sort_vals (s := { s1 with heap := s1.heap.push (seqObj "list" vs.toArray 0) }) at1 S (hz vs hp) ?_) (args_list_sort _)))
  refine ⟨_, rfl, wpAny_pure ⟨_, rfl, h _ s1.heap.objs.size _ c r (fun b o e => ?_) hsz g1 o1 hcc⟩⟩
  have e1 := k1 b o e
  have hlt := Heap.lt_size e1
  show (sortedHeap (s1.heap.push (seqObj "list" vs.toArray 0)) s1.heap.objs.size vs _).get? b = some o
  rw [sortedHeap_old (Nat.ne_of_lt hlt) (by rw [size_push']; exact Nat.lt_succ_of_lt hlt)]
  exact Heap.get?_push_of_some _ e1
end
end L2

/-! sorted, by values -/
namespace Fz
open PySem PySem.Spec L2 PySem.W
open PyProof.Rows hiding St

variable {S : Su}
/-! ### our sort is the model's -/
def leE (x y : T) : Bool := !ltE y x
theorem ltE_iff {x y : T} : ltE x y = true ↔ enc x < enc y := by unfold ltE; exact decide_eq_true_iff
theorem leE_iff {x y : T} : leE x y = true ↔ ¬ enc y < enc x := by unfold leE; rw [Bool.not_eq_true', ← Bool.not_eq_true, ltE_iff]
theorem ltL (a b : List Int) : a < b ∨ b ≤ a := by
  by_cases h : a < b
  · exact .inl h
  · exact .inr (List.not_lt.mp h)
theorem ltleL {a b c : List Int} (h : a < b) (h2 : b ≤ c) : a < c := by
  rcases ltL a c with q | q
  · exact q
  · exact absurd h (List.not_lt.mpr (List.le_trans h2 q))
theorem leE_total : TotalLe leE := by
  refine ⟨fun a b c h1 h2 => ?_, fun a b => ?_⟩
  · rw [leE_iff] at h1 h2 ⊢
    exact fun z => h1 (by
      rcases ltL (enc b) (enc a) with q | q
      · exact q
      · exact absurd (ltleL z q) h2)
  · rw [leE_iff, leE_iff]
    rcases ltL (enc b) (enc a) with q | q
    · exact .inr fun z => List.lt_irrefl _ (List.lt_trans q z)
    · exact .inl q
theorem insT_mem {x y : T} : ∀ {l : List T}, y ∈ insT x l ↔ y = x ∨ y ∈ l
  | [] => by simp [insT]
  | z :: l => by
    unfold insT
    split
    · rw [List.mem_cons, insT_mem, List.mem_cons]
      constructor
      · rintro (h | h | h) <;> simp [h]
      · rintro (h | h | h) <;> simp [h]
    · simp
theorem insT_perm (x : T) : ∀ l : List T, (insT x l).Perm (x :: l)
  | [] => .refl _
  | z :: l => by
    unfold insT
    split
    · exact ((insT_perm x l).cons z).trans (.swap ..)
    · exact .refl _
theorem sortT_perm : ∀ l : List T, (sortT l).Perm l
  | [] => .refl _
  | x :: l => (insT_perm x _).trans ((sortT_perm l).cons x)
theorem insT_sorted (x : T) : ∀ l : List T, l.Pairwise (fun a b => leE a b = true) → (insT x l).Pairwise fun a b => leE a b = true
  | [], _ => List.pairwise_singleton ..
  | z :: l, h => by
    unfold insT
    have h' := List.pairwise_cons.mp h
    split
    · rename_i hlt
      refine List.pairwise_cons.mpr ⟨fun y hy => ?_, insT_sorted x l h'.2⟩
      rcases insT_mem.mp hy with rfl | hy
      · rw [leE_iff]; exact fun z => List.lt_irrefl _ (List.lt_trans (ltE_iff.mp hlt) z)
      · exact h'.1 y hy
    · rename_i hlt
      refine List.pairwise_cons.mpr ⟨fun y hy => ?_, h⟩
      have k : leE x z = true := by unfold leE; simpa using hlt
      rcases List.mem_cons.mp hy with rfl | hy
      · exact k
      · exact leE_total.trans _ _ _ k (h'.1 y hy)
theorem sortT_sorted : ∀ l : List T, (sortT l).Pairwise fun a b => leE a b = true
  | [] => List.Pairwise.nil
  | x :: l => insT_sorted x _ (sortT_sorted l)
theorem insT_rank (c x : T) : ∀ l : List T, (insT x l).filter (sameRank leE c) = (x :: l).filter (sameRank leE c)
  | [] => rfl
  | z :: l => by
    unfold insT
    split
    · rename_i hlt
      rw [List.filter_cons, insT_rank c x l, List.filter_cons, List.filter_cons, List.filter_cons]
      by_cases h1 : sameRank leE c z = true
      · by_cases h2 : sameRank leE c x = true
        · exfalso
          unfold sameRank at h1 h2
          rw [Bool.and_eq_true] at h1 h2
          have := leE_total.trans _ _ _ h2.2 h1.1
          rw [leE_iff] at this
          exact this (ltE_iff.mp hlt)
        · rw [if_neg h2, if_pos h1, if_neg h2]
      · rw [if_neg h1, if_neg h1]
    · rfl
theorem sortT_eq : ∀ l : List T, sortT l = l.mergeSort leE := fun l => sort_unique leE_total (sortT_sorted l) fun c => by
  induction l with
  | nil => rfl
  | cons x l ih =>
    rw [sortT, insT_rank, List.filter_cons, List.filter_cons, ih]
theorem datTs_map : ∀ l : List T, datTs l = l.map datT
  | [] => rfl
  | x :: l => by rw [datTs, datTs_map l, List.map_cons]
theorem pureTs_mem {n : Nat} : ∀ {l : List T}, pureTs l n = true ↔ ∀ x ∈ l, pureT x n = true
  | [] => by simp [pureTs]
  | x :: l => by simp [pureTs, pureTs_mem]
theorem sort_model {l : List T} {n : Nat} (h : pureTs l n = true) : l.mergeSort (dataLe false datT) = sortT l := by
  rw [sortT_eq]
  refine sort_congr fun a ha b hb => ?_
  have p1 := pureTs_mem.mp h a ha
  have p2 := pureTs_mem.mp h b hb
  show (!PyProof.Rows.lexLt itemOrd (keyToks (datT b)) (keyToks (datT a))) = _
  rw [toks_enc a n p1, toks_enc b n p2, lexI]
  rfl
/-- one sorted list of the same things -/
theorem sortT_of_perm {l m : List T} {n : Nat} (p : l.Perm m) (h : pureTs m n = true) (hc : ∀ a ∈ m, ∀ b ∈ m, cmpb a b = true) : sortT l = sortT m := by
  have q : (sortT l).Perm (sortT m) := (sortT_perm l).trans (p.trans (sortT_perm m).symm)
  have s1 := sortT_sorted l
  have s2 := sortT_sorted m
  refine List.Perm.eq_of_pairwise (le := fun a b => leE a b = true) (fun a b ha hb h1 h2 => ?_) s1 s2 q
  have ha' : a ∈ m := p.mem_iff.mp ((sortT_perm l).mem_iff.mp ha)
  have hb' : b ∈ m := (sortT_perm m).mem_iff.mp hb
  rw [leE_iff] at h1 h2
  exact enc_inj (pureTs_mem.mp h a ha') (pureTs_mem.mp h b hb') (hc a ha' b hb') (List.le_antisymm h1 h2)
end Fz

/-! sorted(list), sorted(tuple), set(..), sorted(set), as rules -/
namespace Fz
open PySem PySem.Spec L2 PySem.W
open PyProof.Rows hiding St

variable {S : Su}
/-- a value of the machine that stands for a tree -/
def RvT (S : Su) (F : Hp) (v : Value) (t : T) : Prop := ∃ x : V, RelV x v ∧ Rep S F t x
theorem each_of {F : Hp} : ∀ {ts : List T} {vs : List V} {its : List Value}, Vals vs its → Reps S F ts vs → EachIs (RvT S F) its ts
  | [], vs, its, r, q => by
    rw [show vs = [] from q] at r
    cases r
    exact .nil
  | t :: ts, _, _, r, q => by
    obtain ⟨v, w, rfl, r1, r2⟩ := q
    cases r with
    | cons h hs => exact .cons ⟨v, h, r1⟩ (each_of hs r2)
theorem of_each {F : Hp} : ∀ {ts : List T} {its : List Value}, EachIs (RvT S F) its ts → ∃ vs : List V, Vals vs its ∧ Reps S F ts vs
  | [], _, .nil => ⟨[], .nil, rfl⟩
  | _, _, .cons ⟨v, h, r⟩ e => by
    obtain ⟨vs, h1, h2⟩ := of_each e
    exact ⟨v :: vs, .cons h h1, v, vs, rfl, r, h2⟩
theorem eachIs_and {α β : Type} {R R' : α → β → Prop} : ∀ {as : List α} {bs : List β}, EachIs R as bs → EachIs R' as bs → EachIs (fun a b => R a b ∧ R' a b) as bs
  | _, _, .nil, _ => .nil
  | _, _, .cons h t, .cons h' t' => .cons ⟨h, h'⟩ (eachIs_and t t')
theorem depth_pure {t : T} {n : Nat} (h : pureT t n = true) : (datT t).depth ≤ n + 1 := (lay_of t n (pure_plain t n h)).2
theorem canSort_of {xs : List T} (h : canSort xs = true) : pureTs xs 20 = true ∧ ∀ a ∈ xs, ∀ b ∈ xs, cmpb a b = true := by
  unfold canSort at h
  rw [Bool.and_eq_true] at h
  refine ⟨h.1, fun a ha b hb => ?_⟩
  have := List.all_eq_true.mp h.2 a ha
  exact List.all_eq_true.mp this b hb
/-- values that stand for such things can be sorted, and stand for the sorted ones -/
theorem fz_sortsT {prog : Program} {w : World} {A : Around} {s2 : Shared} {F : Hp} {its : List Value} {ts : List T} (e : EachIs (RvT S F) its ts) (er : EachIs (fun v t => ∃ as, Reads s2.heap v (datT t) as) its ts) (hp : pureTs ts 20 = true) (hc : ∀ a ∈ ts, ∀ b ∈ ts, cmpb a b = true) (hu : A.units + 30 < cLine) :
    ∃ κ, SortsAt prog w A s2 κ its ∧ EachIs (RvT S F) (sortVals κ false its its) (sortT ts) := by
  have al : AllAlike (ts.map datT) := fun d hd d' hd' => by
    obtain ⟨a, ha, rfl⟩ := List.mem_map.mp hd
    obtain ⟨b, hb, rfl⟩ := List.mem_map.mp hd'
    rw [alike_cmpb a b 20 20 (pureTs_mem.mp hp a ha) (pureTs_mem.mp hp b hb)]
    exact hc a ha b hb
  have er' : EachIs (fun v d => ∃ as, Reads s2.heap v d as) its (ts.map datT) := each_map (R := fun v d => ∃ as, Reads s2.heap v d as) datT er
  have hk : (∀ d ∈ ts.map datT, ∃ xs, d = .tuple xs) ∨ ∀ d ∈ ts.map datT, d ≠ .none ∧ ∀ xs, d ≠ .tuple xs := by
    cases ts with
    | nil => exact .inl fun d hd => by simp at hd
    | cons t0 ts =>
      have p0 := pureTs_mem.mp hp t0 (List.mem_cons_self ..)
      cases t0 with
      | tup xs =>
        refine .inl fun d hd => ?_
        obtain ⟨a, ha, rfl⟩ := List.mem_map.mp hd
        have := hc (.tup xs) (List.mem_cons_self ..) a ha
        cases a <;> first | (simp [cmpb] at this; done) | exact ⟨_, rfl⟩
      | int i =>
        refine .inr fun d hd => ?_
        obtain ⟨a, ha, rfl⟩ := List.mem_map.mp hd
        have := hc (.int i) (List.mem_cons_self ..) a ha
        cases a <;> first | (simp [cmpb] at this; done) | exact ⟨by simp [datT], fun xs => by simp [datT]⟩
      | _ => simp [pureT] at p0
  refine ⟨_, fz_sorts (prog := prog) (w := w) (A := A) er' al hk fun d hd => ?_, ?_⟩
  · obtain ⟨a, ha, rfl⟩ := List.mem_map.mp hd
    have := depth_pure (pureTs_mem.mp hp a ha)
    omega
  · have := sortVals_data (h' := s2.heap) (R := RvT S F) (enc := datT) false e er al
    rw [sort_model hp] at this
    exact this
theorem reads_of {X : Cx} {pins : List (Addr × Obj)} {σ : St} {H : Hp} {s : Shared} (I : Inv X pins σ H s) (hK : X.K = S.K) {F : Hp} (hs : Sub F H) {ts : List T} {its : List Value} (e : EachIs (RvT S F) its ts) (hp : pureTs ts 20 = true) :
    EachIs (fun v t => ∃ as, Reads s.heap v (datT t) as) its ts := by
  have hp' := pureTs_mem.mp hp
  clear hp
  induction e with
  | nil => exact .nil
  | @cons v t vs ts h e ih =>
    obtain ⟨x, r, q⟩ := h
    refine .cons ?_ (ih fun y hy => hp' y (List.mem_cons_of_mem _ hy))
    have q' := (q.mono hs).dp t 20 (pure_plain t 20 (hp' t (List.mem_cons_self ..)))
    exact Dp.reads I (datT t) x v (hK ▸ q') r
theorem reads_keep {h h' : Heap} (k : ∀ b o, h.get? b = some o → h'.get? b = some o) {ts : List T} {its : List Value} (e : EachIs (fun v t => ∃ as, Reads h v (datT t) as) its ts) : EachIs (fun v t => ∃ as, Reads h' v (datT t) as) its ts :=
  e.mono fun _ _ ⟨as, r⟩ => ⟨as, PyProof.Rows.Reads.keeps k r⟩
section
variable {X : Cx} {W : WX} {F : Fns} {c : TC} {sc so : Scope} {k : Nat}
/-- a state behind a call that laid a list -/
theorem laid_list {pins : List (Addr × Obj)} {σ : St} {H : Hp} {s s' : Shared} {p : Addr} {out : List Value} {n : Nat} {vs : List V} (I : Inv X pins σ H s) (hk : ∀ b o, s.heap.get? b = some o → s'.heap.get? b = some o) (hp : s.heap.objs.size ≤ p) (g : s'.gens = s.gens) (o : s'.os = s.os)
    (hg : s'.heap.get? p = some (seqObj "list" out.toArray n)) (hv : Vals vs out) (hl : vs.length ≤ sizeLine) : Inv X pins σ (upd H p (.lst vs)) s' := by
  have hn : H p = none := I.hok.fresh hp
  have J : Inv X pins σ (upd H p (.lst vs)) { s with heap := s'.heap, gens := s'.gens, drawn := s'.drawn, toks := s'.toks } :=
    I.call (ch := []) (Un.laid hk hp hn) (I.hok.laid hk hp ⟨hl, out, n, hv, hg⟩) (by rw [g]; exact I.bare) (fun _ z => nomatch z)
  have e : s' = { s with heap := s'.heap, gens := s'.gens, drawn := s'.drawn, toks := s'.toks } := by
    cases s'
    cases s
    cases o
    rfl
  rw [e]
  exact J
theorem sortT_len (xs : List T) : (sortT xs).length = xs.length := (sortT_perm xs).length_eq
theorem k_sorted (hK : X.K = S.K) (hr : Room k X.A) : CallR X (.builtin "sorted") (rBl S (bltT .sorted)) := by
  intro pins s σ H vs us Q I r h
  obtain ⟨E, ts, t, o, rs, e, q⟩ := h
  have hun := hr.units
  rcases ts with _ | ⟨a, _ | ⟨b, ts⟩⟩ <;> first | cases e; done | skip
  · have main : ∀ (xs : List T) (p : Addr) (ws : List V) (its : List Value), Reps S E xs ws → Vals ws its → canSort xs = true → its.length ≤ sizeLine → t = .lst (sortT xs) → us = [.ref p] → FzCol X.prog X.w X.A.in1 s (.ref p) (· = its) →
        wpAny (model X.prog X.w) X.A (call (.builtin "sorted") us) (EP X pins σ Q) X.xe s := by
      intro xs p ws its r2 rv hcs hl ht hu hcol
      subst ht hu
      obtain ⟨hp, hc⟩ := canSort_of hcs
      have e1 := each_of rv r2
      have er := reads_of I hK o.sub e1 hp
      refine fz_sorted (R := fun out => EachIs (RvT S E) out (sortT xs)) hcol (fun vs hv => by rw [hv]; exact hl) (fun vs s2 hv k2 => ?_) fun s' p' out n r' k2 hp' g o' hg => ?_
      · subst hv
        exact fz_sortsT e1 (reads_keep k2 er) hp hc (by show X.A.units + 1 + 1 + 30 < _; omega)
      · obtain ⟨vs', v1, v2⟩ := of_each r'
        have l1 := r2.length
        have l2 := v2.length
        have l3 := rv.length
        have hl' : vs'.length ≤ sizeLine := by rw [← l2, sortT_len]; omega
        exact ⟨.ref p', _, laid_list I k2 hp' g o' hg v1 hl', rfl, Post.lst o v2 (by rw [sortT_len]; omega) q p' (I.hok.fresh hp')⟩
    cases a <;> first | (cases e; done) | skip
    · rename_i xs
      simp only [bltT] at e
      split at e
      · rename_i hcs
        obtain ⟨v, w, rfl, ⟨p, ws, rfl, h1, l1, r2⟩, rfl⟩ := rs
        obtain ⟨its, rv, ⟨⟨cl, dd, da, sl⟩, ho, hcl, n, hd⟩, hz⟩ := I.tuple (hK ▸ o.sub.sqT (.inl (.inl h1)))
        have l2 := rv.length
        have l3 := r2.length
        exact main xs p ws its r2 rv hcs (by omega) (by cases e; rfl) (Vals.ref1 r) (fz_col_tup ⟨_, ho, hcl, n, hd⟩ (by omega))
      · cases e
    · rename_i xs
      simp only [bltT] at e
      split at e
      · rename_i hcs
        obtain ⟨v, w, rfl, ⟨p, ws, rfl, h1, l1, r2⟩, rfl⟩ := rs
        obtain ⟨z, its, n, rv, hn, ho⟩ := I.lstR (hK ▸ o.sub.la h1)
        exact main xs p ws its r2 rv hcs (by omega) (by cases e; rfl) (Vals.ref1 r) (fz_col_list ⟨_, ho, rfl, n, rfl⟩ (by omega))
      · cases e
  · cases a <;> cases e
end
end Fz

/-! dict(l) of a list of pairs whose keys are tuples -/
namespace Fz
open PySem PySem.Spec L2
open PyProof.Rows hiding St

section
variable {X : Cx}
/-- the pairs put down one by one -/
def mergeT (acc : List (List Key × V)) (L : List (List Key × V)) : List (List Key × V) := L.foldl (fun m p => putK m p.1 p.2) acc
theorem putK_len (m : List (List Key × V)) (k : List Key) (v : V) : (putK m k v).length ≤ m.length + 1 := by
  unfold putK
  split
  · rw [List.length_map]; omega
  · rw [List.length_append]; simp
theorem mergeT_len : ∀ (L acc : List (List Key × V)), (mergeT acc L).length ≤ acc.length + L.length
  | [], acc => by simp [mergeT]
  | p :: L, acc => by
    have h1 := mergeT_len L (putK acc p.1 p.2)
    have h2 := putK_len acc p.1 p.2
    rw [List.length_cons]
    show (mergeT (putK acc p.1 p.2) L).length ≤ _
    omega
theorem KT_merge {H : Hp} : ∀ {L : List (List Key × Addr × V)} {ps : List (List Key × Addr × Value)} {m : List (List Key × V)} {xs : List (List Key × Addr × Value)}, Paired (fun q p => q.1 = p.1 ∧ q.2.1 = p.2.1 ∧ H q.2.1 = some (.tup (q.1.map kV)) ∧ RelV q.2.2 p.2.2) L ps → KT H m xs → KT H (mergeT m (L.map fun q => (q.1, q.2.2))) (storedAllH xs ps)
  | _, _, m, xs, .nil, r => r
  | _, _, m, xs, .cons (a := q) (b := p) h t, r => by
    obtain ⟨h1, h2, h3, h4⟩ := h
    have := KT_merge t (r.put q.1 (b := q.2.1) h3 h4)
    rw [h1, h2] at this
    show KT H (mergeT (putK m q.1 q.2.2) _) (storedAllH (storedH xs p.1 p.2.1 p.2.2) _)
    rw [h1]
    exact this
theorem pairsT_of {pins : List (Addr × Obj)} {σ : St} {H : Hp} {s : Shared} (I : Inv X pins σ H s) : ∀ {ps : List Addr} {L : List (List Key × Addr × V)}, Paired (fun p q => SqT X.K H p [.ref q.2.1, q.2.2] ∧ H q.2.1 = some (.tup (q.1.map kV))) ps L →
    ∃ prs : List (List Key × Addr × Value), Paired (fun q p => q.1 = p.1 ∧ q.2.1 = p.2.1 ∧ H q.2.1 = some (.tup (q.1.map kV)) ∧ RelV q.2.2 p.2.2) L prs ∧ prs.length = ps.length ∧
      ∀ (j : Nat) (q : List Key × Addr × Value), prs[j]? = some q → ∃ b : Addr, ps[j]? = some b ∧ IsTup s.heap b #[.ref q.2.1, q.2.2] ∧ H q.2.1 = some (.tup (q.1.map kV))
  | _, _, .nil => ⟨[], .nil, rfl, fun j q e => by simp at e⟩
  | _, _, .cons (a := p) (b := kv) h t => by
    obtain ⟨prs, r, hl, hp⟩ := pairsT_of I t
    obtain ⟨its, rv, ht, _⟩ := I.tuple h.1
    obtain ⟨u, y, ei, ru, ry⟩ := vals2 rv
    subst ei
    cases ru
    refine ⟨(kv.1, kv.2.1, y) :: prs, .cons ⟨rfl, rfl, h.2, ry⟩ r, by rw [List.length_cons, List.length_cons, hl], fun j q e => ?_⟩
    cases j with
    | zero =>
      have e' : (kv.1, kv.2.1, y) = q := Option.some.inj e
      subst e'
      exact ⟨p, rfl, ht, h.2⟩
    | succ j =>
      obtain ⟨b, e1, e2, e3⟩ := hp j q (by simpa using e)
      exact ⟨b, by simpa using e1, e2, e3⟩
theorem call_dictT (hcalm : X.calm = true) (hu : X.A.units + 2 < cLine) : CallR X (.type "dict") (fun xs H Q => ∃ (a : Addr) (ps : List Addr) (L : List (List Key × Addr × V)), xs = [.ref a] ∧ SqL X.K H a (ps.map V.ref) ∧ Paired (fun p q => SqT X.K H p [.ref q.2.1, q.2.2] ∧ H q.2.1 = some (.tup (q.1.map kV))) ps L ∧
    ∀ p, H p = none → Q (.ref p) (upd H p (.dT (mergeT [] (L.map fun q => (q.1, q.2.2)))))) := by
  intro pins s σ H xs us Q I r q
  obtain ⟨a, ps, L, ex, hq, hp, q⟩ := q
  subst ex
  obtain ⟨u, eu, rx⟩ := vals1 r
  subst eu
  cases rx
  obtain ⟨its, rv, pl, hz⟩ := I.list hq
  have ei := refs_at rv
  subst ei
  rw [List.length_map] at hz
  obtain ⟨prs, rel, hl, hpr⟩ := pairsT_of I hp
  obtain ⟨o, n, ho, hc, hd, hdat⟩ := pl
  have pa := PairArg.list (prog := X.prog) (w := X.w) a (ps.map Value.ref).toArray (fun j => ps.getD j 0) (prs.map fun q => (.ref q.2.1, q.2.2))
  have hok : PlainSeq "list" s.heap a (ps.map Value.ref).toArray ∧ PairItems s.heap (ps.map Value.ref).toArray (fun j => ps.getD j 0) (prs.map fun q => (Value.ref q.2.1, q.2.2)) := by
    refine ⟨⟨o, n, ho, hc, hd, hdat⟩, by simp [hl], fun j k v e => ?_⟩
    rw [List.getElem?_map] at e
    cases e1 : prs[j]? with
    | none => rw [e1] at e; cases e
    | some q =>
      rw [e1] at e
      cases e
      obtain ⟨b, e2, e3, _⟩ := hpr j q e1
      have e4 : ps.getD j 0 = b := by simp [List.getD, e2]
      refine ⟨by simp [e2], .inl ?_⟩
      show s.heap.IsTuple (ps.getD j 0) _
      rw [e4]
      exact e3
  have hkey : ∀ x ∈ prs, H x.2.1 = some (.tup (x.1.map kV)) := fun x hx => by
    obtain ⟨j, hj⟩ := List.getElem?_of_mem hx
    exact (hpr j x hj).choose_spec.2.2
  refine call_dict_pairsH (knd := tupleKind (mixKind X.prog X.w)) (ps := prs) pa (I.ok.hd hcalm) (tupleKind_room_in1 (by show X.A.units + 1 + 1 < cLine; omega)) hok ⟨by simp, fun i key v e => ?_⟩ (fun h' hk x hx => ?_) (by rw [List.length_map, hl]; exact hz) fun h' tk hd' k => ?_
  · have e' : (prs.map fun q => (Value.ref q.2.1, q.2.2))[i]? = some (key, v) := e
    rw [List.getElem?_map] at e'
    cases e1 : prs[i]? with
    | none => rw [e1] at e'; cases e'
    | some q => rw [e1] at e'; cases e'; exact ⟨q.1, q.2.1, rfl, rfl⟩
  · exact tupleKind_stays.stays (fun b o vs n e _ => hk b o (Nat.ne_of_lt (Heap.lt_size e)) (by simp) e) (key_of I.hok (hkey x hx))
  · have hm : (s.heap.objs.size == sysModules) = false := beq_eq_false_iff_ne.mpr (Nat.ne_of_gt I.big)
    have hlen : (mergeT [] (L.map fun q => (q.1, q.2.2))).length ≤ sizeLine := by
      refine Nat.le_trans (mergeT_len _ []) ?_
      rw [List.length_nil, Nat.zero_add, List.length_map, rel.length, hl]
      exact hz
    obtain ⟨o', es, ep, d1, d2, d3, d4, _, d5⟩ := hd'
    have kt : KT H (mergeT [] (L.map fun q => (q.1, q.2.2))) (storedAllH [] prs) := KT_merge rel .nil
    have hn := I.hok.fresh (Nat.le_refl _)
    exact ⟨.ref s.heap.objs.size, upd H s.heap.objs.size (.dT (mergeT [] (L.map fun q => (q.1, q.2.2)))), I.laid (t' := tk) (fun b o e => k b o (by simp) e) (Nat.le_refl _) (show ObjOk X.prog X.w _ _ _ (.dT (mergeT [] (L.map fun q => (q.1, q.2.2)))) from
      ⟨hlen, hm, storedAllH [] prs, kt.keeps fun b ys e => by rw [upd_ne (fun z => by rw [z] at e; rw [hn] at e; cases e)]; exact e, o', es, ep, d1, d2, d3, d4, d5⟩), rfl, q _ hn⟩
variable {S : Su}
theorem pairsD_of {E : Hp} : ∀ {ts : List T} {ws : List V} {m m' : List (T × T)} {M : List (List Key × V)}, pairsD true ts m = .ok m' → Reps S E ts ws → RepD S E true m M →
    ∃ (ps : List Addr) (L : List (List Key × Addr × V)), ws = ps.map V.ref ∧ Paired (fun p q => E p = some (.tup [.ref q.2.1, q.2.2]) ∧ E q.2.1 = some (.tup (q.1.map kV))) ps L ∧ RepD S E true m' (mergeT M (L.map fun q => (q.1, q.2.2)))
  | [], ws, m, m', M, h, r, d => by
    rw [pairsD] at h
    cases h
    exact ⟨[], [], r, .nil, d⟩
  | t :: ts, ws, m, m', M, h, r, d => by
    unfold pairsD at h
    split at h
    · rename_i heq; cases heq
    · rename_i k v r' m2 e
      split at h
      · rename_i hk
        cases e
        obtain ⟨w1, ws', rfl, rx, rr⟩ := r
        obtain ⟨p, vs, rfl, hp, _, ⟨y, _, rfl, rk, ⟨z, _, rfl, rv, rfl⟩⟩⟩ := rx
        obtain ⟨xs, rfl, hx⟩ := keyOk_tup hk
        have rk' := rk
        obtain ⟨b, us, rfl, hb, _, ru⟩ := rk
        have hus := keyL_vals hx ru
        obtain ⟨ps, L, e1, e2, e3⟩ := pairsD_of h rr (d.put hk rv)
        exact ⟨p :: ps, (keyL (.tup xs), b, z) :: L, by rw [e1]; rfl, .cons ⟨hp, by rw [hb, hus]⟩ e2, e3⟩
      · cases h
    · cases h
theorem k_dict (hK : X.K = S.K) (hcalm : X.calm = true) (hu : X.A.units + 2 < cLine) : CallR X (.type "dict") (rBl S (bltT (.dict true))) := by
  intro pins s σ H vs us Q I r h
  obtain ⟨E, ts, t, o, rs, e, q⟩ := h
  rcases ts with _ | ⟨a, _ | ⟨b, ts⟩⟩ <;> first | cases e; done | skip
  · cases a <;> first | cases e; done | skip
    rename_i xs
    obtain ⟨v, w, rfl, ⟨p, ws, rfl, h1, l1, r2⟩, rfl⟩ := rs
    change (pairsD true xs []).bind (fun m => Res.ok (T.dct true m)) = .ok t at e
    cases e1 : pairsD true xs [] with
    | ex d => rw [e1] at e; cases e
    | no => rw [e1] at e; cases e
    | ok m =>
      rw [e1] at e
      cases e
      obtain ⟨ps, L, hw, hp, hd⟩ := pairsD_of (M := []) e1 r2 rfl
      subst hw
      have hlen : m.length ≤ sizeLine := by
        rw [hd.length]
        refine Nat.le_trans (mergeT_len _ []) ?_
        have h2 := hp.length
        have h3 := r2.length
        rw [List.length_map] at h3
        rw [List.length_nil, Nat.zero_add, List.length_map]
        omega
      refine call_dictT hcalm hu pins s σ H _ us Q I r ⟨p, ps, L, rfl, hK ▸ (o.sub.la h1).sq, L2.Paired.mapP hp fun p' q' z => ⟨hK ▸ o.sub.sqT (.inl (.inl z.1)), o.sub _ _ z.2⟩, fun a ha => ?_⟩
      exact q (.ref a) (upd E a (.dT (mergeT [] (L.map fun q => (q.1, q.2.2))))) _ (Step.new (o := HO.dT (mergeT [] (L.map fun q => (q.1, q.2.2)))) o ha (fun z => z)) ⟨a, _, rfl, upd_same, hlen, hd.mono (sub_upd (o.sub.none ha))⟩
  · cases a <;> cases e
end
end Fz

/-! expressions, construct by construct -/
namespace Fz
open PySem PySem.Spec L2
open PyProof.Rows hiding St

variable {S : Su}
/-- a context of the evaluator's -/
structure Good (S : Su) (c : TC) (k : Nat) (X : Cx) (sc so : Scope) : Prop where
  hP : X.prog = S.P
  hw : X.w = S.w
  hK : X.K = S.K
  hmg : X.mg = S.mg
  hb : X.base = S.base
  hN : X.N = c.N
  nd : X.N.Nodup
  sc : X.env.scope = sc
  calm : X.calm = true
  room : Room k X.A
  fn : ∀ x, so.names.lookup x = some .cell → X.fn x = true

theorem ixOf_get : ∀ {x : Str} {N : List Str} {k i : Nat}, ixOf x N k = some i → k ≤ i ∧ N[i - k]? = some x
  | _, [], _, _, h => by cases h
  | x, y :: ys, k, i, h => by
    unfold ixOf at h
    split at h
    · rename_i e
      cases h
      exact ⟨Nat.le_refl _, by rw [Nat.sub_self, e]; rfl⟩
    · obtain ⟨h1, h2⟩ := ixOf_get h
      refine ⟨by omega, ?_⟩
      rw [show i - k = (i - (k + 1)) + 1 by omega]
      exact h2
theorem ixOf_at {x : Str} {N : List Str} {i : Nat} (h : ixOf x N 0 = some i) : N[i]? = some x := (ixOf_get h).2
theorem visB_of {X : Cx} {x : Str} (h : visB X.env.scope x = true) : Vis X.env.scope x := by
  unfold visB at h
  split at h
  · exact .inl (by assumption)
  · exact .inr (.inl (by assumption))
  · exact .inr (.inr (by assumption))
  · cases h
theorem glB_of {X : Cx} {x : Str} (h : glB X.env.scope x = true) : Gl X x := by
  unfold glB at h
  split at h
  · assumption
  · cases h
theorem okName_of {x : Str} (h : okName x = true) : (x == ("__debug__" : Str)) = false ∧ (x == ("__classdict__" : Str)) = false ∧ x ≠ "__name__" := by
  unfold okName at h
  simp only [Bool.and_eq_true, Bool.not_eq_true'] at h
  exact ⟨h.1.1, h.1.2, fun e => by rw [e] at h; simp at h⟩

section
variable {X : Cx} {W : WX} {F : Fns} {c : TC} {sc so : Scope} {k : Nat}
theorem EnvOk.rd {F H : Hp} {σ : St} {env : Cells} {i : Nat} {t : T} (e : EnvOk S F H σ env) (h : rd env i = .ok t) : ∃ v, σ[i]? = some (some v) ∧ Rep S F t v := by
  unfold Fz.rd at h
  split at h
  · rename_i u q
    cases h
    exact e.slot i _ q
  · cases h
theorem EnvOk.rdAny {F H : Hp} {σ : St} {env : Cells} {i : Nat} {t : T} (o : Ok S F H) (e : EnvOk S F H σ env) (h : rdAny env i = .ok t) : ∃ v, σ[i]? = some (some v) ∧ Rep S H t v := by
  unfold Fz.rdAny at h
  split at h
  · rename_i u q
    cases h
    obtain ⟨v, h1, h2⟩ := e.slot i _ q
    exact ⟨v, h1, h2.mono o.sub⟩
  · rename_i u q
    cases h
    obtain ⟨a, h1, h2, h3⟩ := e.slot i _ q
    cases t with
    | lst ts =>
      obtain ⟨vs, g1, g2, g3⟩ := h3
      exact ⟨_, h1, a, vs, rfl, .inl (.inl g1), g2, g3.mono o.sub⟩
    | dct tk kvs =>
      obtain ⟨L, g1, g2, g3⟩ := h3
      exact ⟨_, h1, a, L, rfl, g1, g2, g3.mono o.sub⟩
    | _ => exact h3.elim
  · cases h
theorem rd_no {env : Cells} {i c : Nat} (h : rd env i = .ex c) : False := by
  unfold rd at h; split at h <;> cases h
theorem rdAny_no {env : Cells} {i c : Nat} (h : rdAny env i = .ex c) : False := by
  unfold rdAny at h; split at h <;> cases h

theorem e_var {i : Nat} {x : Str} {pos : Pos} (g : Good S c k X sc so) (hv : visB sc x = true) (hn : okName x = true) (hi : ixOf x c.N 0 = some i) : PE X (.Name x pos) (dE S W (ev F (.var i))) := by
  obtain ⟨n1, n2, _⟩ := okName_of hn
  refine L2.PE.imp (pe_var (i := i) (by rw [g.hN]; exact ixOf_at hi) (visB_of (by rw [g.sc]; exact hv)) n1 n2) fun σ H Q h => ?_
  obtain ⟨E, env, o, eo, p⟩ := h
  simp only [ev] at p
  cases e : rd env i with
  | ok t =>
    rw [e] at p
    obtain ⟨v, h1, h2⟩ := eo.rd e
    exact ⟨v, h1, p.ok' o v h2⟩
  | ex d => exact (rd_no e).elim
  | no => rw [e] at p; exact p.elim
theorem b_var {i : Nat} {x : Str} {pos : Pos} (g : Good S c k X sc so) (hv : visB sc x = true) (hn : okName x = true) (hi : ixOf x c.N 0 = some i) : PE X (.Name x pos) (dB S W (fun env => rdAny env i)) := by
  obtain ⟨n1, n2, _⟩ := okName_of hn
  refine L2.PE.imp (pe_var (i := i) (by rw [g.hN]; exact ixOf_at hi) (visB_of (by rw [g.sc]; exact hv)) n1 n2) fun σ H Q h => ?_
  obtain ⟨E, env, o, eo, p⟩ := h
  cases e : rdAny env i with
  | ok t =>
    simp only [e] at p
    obtain ⟨v, h1, h2⟩ := eo.rdAny o e
    exact ⟨v, h1, p.ok' o v h2⟩
  | ex d => exact (rdAny_no e).elim
  | no => simp only [e] at p; exact p.elim
/-- a value that goes on may be told as it stands -/
theorem dB_of {e : Expr} {f : Cells → Res T} (h : PE X e (dE S W f)) : PE X e (dB S W f) := by
  refine h.imp fun σ H Q q => ?_
  obtain ⟨E, env, o, eo, p⟩ := q
  exact ⟨E, env, o, eo, p.imp fun t F' H' s q v r => q v (r.mono s.ok.sub)⟩
/-- a constant, told in every heap -/
theorem e_cst {e : Expr} {t : T} {v : V} (h : PE X e (tC v)) (r : ∀ H, Rep S H t v) : PE X e (dE S W (ev F (.cst t))) := by
  refine h.imp fun σ H Q q => ?_
  obtain ⟨E, env, o, eo, p⟩ := q
  simp only [ev] at p
  exact p.ok' o v (r _)
theorem trC_ok {x : Const} {t : T} {j : Nat} {pos : Pos} (h : trC x = some t) : PE X (.Constant x j pos) (dE S W (ev F (.cst t))) := by
  cases x <;> first | cases h; done | skip
  · cases h; exact e_cst pe_non fun _ => rfl
  · cases h; exact e_cst pe_bl fun _ => rfl
  · cases h; exact e_cst pe_int fun _ => rfl
  · cases h; exact e_cst pe_str fun _ => rfl

/-! ### two and one places -/
theorem imp2 {f g : Cells → Res T} {h : T → T → Res T} (nx : ∀ x y c, h x y ≠ .ex c) {σ : St} {H : Hp} {Q : VK} (q : dE S W (fun env => (f env).bind fun x => (g env).bind fun y => h x y) σ H Q) :
    tOp (rOf S h) (dE S W f) (dE S W g) σ H Q := by
  obtain ⟨E, env, o, eo, p⟩ := q
  refine ⟨E, env, o, eo, (PostG.split p).imp fun x F1 H1 s1 p1 v rv => ⟨F1, env, s1.ok, eo.step s1, (PostG.split p1).imp fun y F2 H2 s2 p2 w rw => ?_⟩⟩
  cases e : h x y with
  | ok t =>
    rw [e] at p2
    exact ⟨F2, x, y, t, s2.ok, rv.mono s2.ff, rw, e, fun v F' H' s' r => p2 F' H' s' v r⟩
  | ex d => exact (nx _ _ _ e).elim
  | no => rw [e] at p2; exact p2.elim
theorem binop_nx (op : Bop) (x y : T) (d : Nat) : binop op x y ≠ .ex d := by
  unfold binop
  split <;> first | (intro h; cases h; done) | (split <;> intro h <;> cases h)
theorem e_bin {o' : Operator} {op : Bop} {a b : Expr} {x y : E} {pos : Pos} (g : Good S c k X sc so) (ho : trOp o' = some op) (ha : PE X a (dE S W (ev F x))) (hb : PE X b (dE S W (ev F y))) :
    PE X (.BinOp a o' b pos) (dE S W (ev F (.bin op x y))) := by
  have r : OpR X (binaryOp o') (rOf S (binop op)) := by
    cases o' <;> first | cases ho; done | skip
    · cases ho; exact o_add g.hK
    · cases ho; exact o_sub
    · cases ho; exact o_mul g.hK
    · cases ho; exact o_mod
    · cases ho; exact o_fdiv
  exact (pe_op r ha hb).imp fun σ H Q q => imp2 (binop_nx op) (by simpa only [dE, ev] using q)
theorem e_neg {a : Expr} {x : E} {pos : Pos} (ha : PE X a (dE S W (ev F x))) : PE X (.UnaryOp .USub a pos) (dE S W (ev F (.neg x))) := by
  refine (pe_un un_neg ha).imp fun σ H Q q => ?_
  obtain ⟨E, env, o, eo, p⟩ := q
  simp only [ev] at p
  refine ⟨E, env, o, eo, (PostG.split p).imp fun t F1 H1 s1 p1 v rv => ?_⟩
  cases t <;> first | exact p1.elim | skip
  exact ⟨_, rv, p1 F1 H1 (.refl s1.ok) _ rfl⟩

/-! ### comparisons, of names of the frame's own too -/
theorem impC {f g : Cells → Res T} {h : T → T → Res T} (nx : ∀ x y c, h x y ≠ .ex c) (hb : ∀ x y t, h x y = .ok t → ∃ b, t = .bl b) {σ : St} {H : Hp} {Q : VK} (q : dE S W (fun env => (f env).bind fun x => (g env).bind fun y => h x y) σ H Q) :
    tOp (rCo S h) (dB S W f) (dB S W g) σ H Q := by
  obtain ⟨E, env, o, eo, p⟩ := q
  refine ⟨E, env, o, eo, (PostG.split p).imp fun x F1 H1 s1 p1 v rv => ⟨F1, env, s1.ok, eo.step s1, (PostG.split p1).imp fun y F2 H2 s2 p2 w rw => ?_⟩⟩
  cases e : h x y with
  | ok t =>
    obtain ⟨b, rfl⟩ := hb _ _ _ e
    rw [e] at p2
    exact ⟨x, y, b, rv.ext s2.hh, rw, e, p2 F2 H2 (.refl s2.ok) _ rfl⟩
  | ex d => exact (nx _ _ _ e).elim
  | no => rw [e] at p2; exact p2.elim
end
end Fz

/-! set(..) of tuples of whole numbers, sorted(set) -/
namespace Fz
open PySem PySem.Spec L2 PySem.W
open PyProof.Rows hiding St

variable {S : Su}
def numT : T → Int
  | .int i => i
  | _ => 0
def numsT : T → List Int
  | .tup xs => xs.map numT
  | _ => []
theorem nums_back : ∀ {xs : List T}, xs.all intKey = true → (xs.map numT).map T.int = xs
  | [], _ => rfl
  | x :: xs, h => by
    rw [List.all_cons, Bool.and_eq_true] at h
    obtain ⟨i, rfl⟩ := intKey_of h.1
    rw [List.map_cons, List.map_cons, nums_back h.2]
    rfl
def tupI (ns : List Int) : T := .tup (ns.map T.int)
theorem tupI_nums {t : T} (h : keyOk true t = true) : tupI (numsT t) = t := by
  obtain ⟨xs, rfl, hx⟩ := keyOk_tup h
  show T.tup ((xs.map numT).map T.int) = _
  rw [nums_back hx]
theorem rep_tupI {F : Hp} {ns : List Int} {v : V} (r : Rep S F (tupI ns) v) : ∃ a, v = .ref a ∧ F a = some (.tup (ns.map V.int)) := by
  obtain ⟨a, vs, rfl, h, _, rs⟩ := r
  refine ⟨a, rfl, ?_⟩
  have : ∀ (ns : List Int) (vs : List V), Reps S F (ns.map T.int) vs → vs = ns.map V.int := by
    intro ns
    induction ns with
    | nil => intro vs r; exact r
    | cons n ns ih =>
      intro vs r
      obtain ⟨v, w, rfl, r1, r2⟩ := r
      rw [show v = V.int n from r1, ih w r2]
      rfl
  rw [h, this ns vs rs]
/-- the tuples at their places -/
theorem keys_at {F : Hp} : ∀ {xs : List T} {vs : List V}, xs.all (keyOk true) = true → Reps S F xs vs → ∃ ks : List (Addr × List Int), (ks.map fun p => V.ref p.1) = vs ∧ (∀ p ∈ ks, F p.1 = some (.tup (p.2.map V.int))) ∧ (ks.map fun p => tupI p.2) = xs
  | [], vs, _, r => ⟨[], by rw [show vs = [] from r]; rfl, fun p hp => (nomatch hp), rfl⟩
  | x :: xs, _, h, r => by
    rw [List.all_cons, Bool.and_eq_true] at h
    obtain ⟨v, w, rfl, r1, r2⟩ := r
    obtain ⟨ks, k1, k2, k3⟩ := keys_at h.2 r2
    rw [← tupI_nums h.1] at r1
    obtain ⟨a, rfl, ha⟩ := rep_tupI r1
    refine ⟨(a, numsT x) :: ks, by rw [List.map_cons, k1], fun p hp => ?_, by rw [List.map_cons, k3, tupI_nums h.1]⟩
    rcases List.mem_cons.mp hp with rfl | hp
    · exact ha
    · exact k2 p hp
theorem tupI_inj {a b : List Int} (h : tupI a = tupI b) : a = b := by
  have : a.map T.int = b.map T.int := by injection h
  have inj : ∀ x y : Int, T.int x = T.int y → x = y := fun x y e => by injection e
  exact (List.map_inj_right inj).mp this
theorem pure_tupI (ns : List Int) (n : Nat) : pureT (tupI ns) (n + 1) = true := by
  unfold tupI
  rw [pureT, pureTs_mem]
  intro x hx
  obtain ⟨i, _, rfl⟩ := List.mem_map.mp hx
  simp [pureT]
theorem pure_key {t : T} (h : keyOk true t = true) (n : Nat) : pureT t (n + 1) = true := by rw [← tupI_nums h]; exact pure_tupI _ n
theorem cmpbs_ints : ∀ (a b : List Int), cmpbs (a.map T.int) (b.map T.int) = true
  | [], b => by cases b <;> simp [cmpbs]
  | _ :: _, [] => by simp [cmpbs]
  | x :: a, y :: b => by
    rw [List.map_cons, List.map_cons, cmpbs, cmpbs_ints a b]
    simp [cmpb]
theorem cmpb_key {a b : T} (ha : keyOk true a = true) (hb : keyOk true b = true) : cmpb a b = true := by
  rw [← tupI_nums ha, ← tupI_nums hb]
  exact cmpbs_ints _ _
theorem inT_key {x : T} (hx : keyOk true x = true) : ∀ {xs : List T}, xs.all (keyOk true) = true → (inT x xs = true ↔ x ∈ xs)
  | [], _ => by simp [inT]
  | y :: xs, h => by
    rw [List.all_cons, Bool.and_eq_true] at h
    have ih := inT_key hx h.2
    unfold inT at ih ⊢
    rw [List.any_cons, Bool.or_eq_true, ih, eqv_pure y x 20 20 (pure_key h.1 19) (pure_key hx 19), List.mem_cons]
    exact ⟨fun z => z.imp Eq.symm id, fun z => z.imp Eq.symm id⟩
theorem dedupT_spec : ∀ {xs : List T}, xs.all (keyOk true) = true → (dedupT xs).Nodup ∧ ∀ x, x ∈ dedupT xs ↔ x ∈ xs
  | [], _ => ⟨List.nodup_nil, fun x => .rfl⟩
  | y :: xs, h => by
    rw [List.all_cons, Bool.and_eq_true] at h
    obtain ⟨h1, h2⟩ := dedupT_spec h.2
    have hi := inT_key h.1 h.2
    unfold dedupT
    split
    · rename_i hin
      refine ⟨h1, fun x => ?_⟩
      rw [h2, List.mem_cons]
      exact ⟨.inr, fun z => z.elim (fun e => e ▸ hi.mp hin) id⟩
    · rename_i hin
      refine ⟨List.nodup_cons.mpr ⟨fun z => hin (hi.mpr ((h2 y).mp z)), h1⟩, fun x => ?_⟩
      rw [List.mem_cons, List.mem_cons, h2]
/-- what a set holds -/
def SetKs (S : Su) (F : Hp) (xs : List T) (L : List (Addr × List Int)) : Prop := (∀ p ∈ L, F p.1 = some (.tup (p.2.map V.int))) ∧ (L.map fun p => tupI p.2).Perm (dedupT xs)
def rSetN (S : Su) : List V → Hp → VK → Prop := fun vs H Q => ∃ E t0 xs, Ok S E H ∧ Reps S E [t0] vs ∧ seqOf t0 = some xs ∧ canSet xs = true ∧ ∀ a L, H a = none → SetKs S E xs L → Q (.ref a) (upd H a (SetTO S.P S.w a L))
def rSortN (S : Su) : List V → Hp → VK → Prop := fun vs H Q => ∃ E a xs L, Ok S E H ∧ vs = [.ref a] ∧ H a = some (SetTO S.P S.w a L) ∧ SetKs S E xs L ∧ canSet xs = true ∧ ∀ v F' H', Step S E H F' H' → Rep S F' (.lst (sortT (dedupT xs))) v → Q v H'
theorem each_perm {α β : Type} {R : α → β → Prop} {as as' : List α} (p : as'.Perm as) : ∀ {bs : List β}, EachIs R as bs → ∃ bs' : List β, bs'.Perm bs ∧ EachIs R as' bs' := by
  induction p with
  | nil => intro bs e; exact ⟨bs, .refl _, e⟩
  | cons x p ih =>
    intro bs e
    cases e with
    | cons h e =>
      obtain ⟨bs', p', e'⟩ := ih e
      exact ⟨_, p'.cons _, .cons h e'⟩
  | swap x y l =>
    intro bs e
    cases e with
    | cons h e =>
      cases e with
      | cons h2 e => exact ⟨_, .swap .., .cons h2 (.cons h e)⟩
  | trans p1 p2 ih1 ih2 =>
    intro bs e
    obtain ⟨b1, q1, e1⟩ := ih2 e
    obtain ⟨b2, q2, e2⟩ := ih1 e1
    exact ⟨b2, q2.trans q1, e2⟩
section
variable {X : Cx} {W : WX} {F : Fns} {c : TC} {sc so : Scope} {k : Nat}
theorem k_set (g : Good S c k X sc so) : CallR X (.type "set") (rSetN S) := by
  intro pins s σ H vs us Q I r h
  obtain ⟨E, t0, xs, o, rs, e, hcs, q⟩ := h
  have hun := g.room.units
  unfold canSet at hcs
  rw [Bool.and_eq_true, decide_eq_true_eq] at hcs
  obtain ⟨hlt, hkey⟩ := hcs
  have main : ∀ (p : Addr) (ws : List V) (its : List Value), Reps S E xs ws → Vals ws its → us = [.ref p] → (s.heap.IsList p its.toArray ∨ s.heap.IsTuple p its.toArray) →
      wpAny (model X.prog X.w) X.A (call (.type "set") us) (EP X pins σ Q) X.xe s := by
    intro p ws its r2 rv hu hcol
    subst hu
    obtain ⟨ks, k1, k2, k3⟩ := keys_at hkey r2
    subst k1
    have hit : its = ks.map fun p => Value.ref p.1 := refs_of_vals rv
    have hkl : ks.length < 64 := by
      have := r2.length
      rw [List.length_map] at this
      omega
    have hty : ∀ p ∈ ks, IsT X.prog X.w s.heap p.2 p.1 := fun p hp => I.isT (.inl (.inl (o.sub _ _ (k2 p hp))))
    have fin : ∀ (h' : Heap) (tk : Nat) L es ep t, SetTR X.prog X.w h' s.heap.objs.size L es ep t → Got ks ks.length L → (∀ b u, s.heap.get? b = some u → h'.get? b = some u) →
        EP X pins σ Q (.ref s.heap.objs.size) { s with heap := h', toks := tk } := by
      intro h' tk L es ep t R gt kk
      have hn : H s.heap.objs.size = none := I.hok.fresh (Nat.le_refl _)
      refine ⟨.ref s.heap.objs.size, _, I.laid (t' := tk) kk (Nat.le_refl _) (setTO_new R.t0), rfl, ?_⟩
      rw [g.hP, g.hw]
      have hsub : ∀ p ∈ L, p ∈ ks := fun p hp => List.mem_of_mem_take (gt.sub p hp)
      have hall : ∀ p ∈ ks, p.2 ∈ L.map (·.2) := fun p hp => gt.all p (by rw [List.take_length]; exact hp)
      refine q _ L hn ⟨fun p hp => k2 p (hsub p hp), ?_⟩
      obtain ⟨d1, d2⟩ := dedupT_spec hkey
      have nd : (L.map fun p => tupI p.2).Nodup := by
        have := R.nd
        rw [show (L.map fun p => tupI p.2) = (L.map (·.2)).map tupI by rw [List.map_map]; rfl]
        exact List.pairwise_map.mpr (this.imp fun h z => h (tupI_inj z))
      refine (List.perm_ext_iff_of_nodup nd d1).mpr fun x => ?_
      rw [d2, ← k3]
      constructor
      · intro hx
        obtain ⟨p, hp, rfl⟩ := List.mem_map.mp hx
        exact List.mem_map.mpr ⟨p, hsub p hp, rfl⟩
      · intro hx
        obtain ⟨p, hp, rfl⟩ := List.mem_map.mp hx
        obtain ⟨p', hp', e'⟩ := List.mem_map.mp (hall p hp)
        exact List.mem_map.mpr ⟨p', hp', by rw [e']⟩
    rcases hcol with hcol | hcol
    · exact call_set_tups (P := X.prog) (w := X.w) ks (I.ok.hd g.calm) hcol (by rw [hit]) hty hkl (by omega) fin
    · exact fz_set_tup (P := X.prog) (w := X.w) ks (I.ok.hd g.calm) hcol (by rw [hit]) hty hkl (by omega) fin
  cases t0 <;> first | (cases e; done) | skip
  · cases e
    obtain ⟨v, w, rfl, ⟨p, ws, rfl, h1, l1, r2⟩, rfl⟩ := rs
    obtain ⟨its, rv, ⟨⟨cl, dd, da, sl⟩, ho, hcl, n, hd⟩, hz⟩ := I.tuple (g.hK ▸ o.sub.sqT (.inl (.inl h1)))
    exact main p ws its r2 rv (Vals.ref1 r) (.inr ⟨_, ho, hcl, n, hd⟩)
  · cases e
    obtain ⟨v, w, rfl, ⟨p, ws, rfl, h1, l1, r2⟩, rfl⟩ := rs
    obtain ⟨z, its, n, rv, hn, ho⟩ := I.lstR (g.hK ▸ o.sub.la h1)
    exact main p ws its r2 rv (Vals.ref1 r) (.inl ⟨_, ho, rfl, n, rfl⟩)
theorem k_sortedSet (g : Good S c k X sc so) : CallR X (.builtin "sorted") (rSortN S) := by
  intro pins s σ H vs us Q I r h
  obtain ⟨E, a, xs, L, o, rfl, ha, ⟨hk2, hpm⟩, hcs, q⟩ := h
  have hun := g.room.units
  unfold canSet at hcs
  rw [Bool.and_eq_true, decide_eq_true_eq] at hcs
  obtain ⟨hlt, hkey⟩ := hcs
  obtain ⟨d1, d2⟩ := dedupT_spec hkey
  rw [← g.hP, ← g.hw] at ha
  have R0 : SetT0 X.prog X.w s.heap a L := (I.hok a _ ha).1
  obtain ⟨es, ep, t, R⟩ := R0.full fun p hp => I.isT (.inl (.inl (o.sub _ _ (hk2 p hp))))
  rw [Vals.ref1 r]
  obtain ⟨ob, ho, hex, hd⟩ := R.ob
  have hsz := R.size
  have hfew := R.few
  have hes : es.toList.map (·.2) = L.map fun q => Value.ref q.1 := by
    rw [R.rows]
    unfold L2.rowsOf
    rw [List.map_map] <;> rfl
  have hcol : FzCol X.prog X.w X.A.in1 s (.ref a) fun out => out.Perm (L.map fun q => Value.ref q.1) := fun Q' E' hq => by
    refine collect_set (A := X.A.in1) (by show X.A.handled = none; exact I.ok.hd g.calm) ⟨ob, ho, hex.1, hd⟩ R.fits (by unfold scanBound; omega) R.tab.ris R.led fun s1 vs k1 hz g1 o1 pm => ?_
    rw [hes] at pm
    exact hq _ _ pm k1 hz g1 o1
  have keyed : ∀ t ∈ L.map fun p => tupI p.2, keyOk true t = true := fun t ht => by
    have := (d2 t).mp (hpm.mem_iff.mp ht)
    exact List.all_eq_true.mp hkey t this
  have eL : EachIs (RvT S E) (L.map fun q => Value.ref q.1) (L.map fun p => tupI p.2) := by
    have : ∀ L : List (Addr × List Int), (∀ p ∈ L, E p.1 = some (.tup (p.2.map V.int))) → (∀ p ∈ L, p.2.length ≤ 60) → EachIs (RvT S E) (L.map fun q => Value.ref q.1) (L.map fun p => tupI p.2) := by
      intro L
      induction L with
      | nil => intro _ _; exact .nil
      | cons p L ih =>
        intro h1 h2
        refine .cons ⟨.ref p.1, rfl, p.1, _, rfl, h1 p (List.mem_cons_self ..), ?_, ?_⟩ (ih (fun q hq => h1 q (List.mem_cons_of_mem _ hq)) fun q hq => h2 q (List.mem_cons_of_mem _ hq))
        · rw [List.length_map, sizeLine_eq]
          have := h2 p (List.mem_cons_self ..)
          omega
        · have : ∀ ns : List Int, Reps S E (ns.map T.int) (ns.map V.int) := by
            intro ns
            induction ns with
            | nil => rfl
            | cons n ns ih => exact ⟨_, _, rfl, rfl, ih⟩
          exact this _
    refine this L hk2 fun p hp => ?_
    have := keyed (tupI p.2) (List.mem_map.mpr ⟨p, hp, rfl⟩)
    unfold tupI keyOk at this
    rw [Bool.and_eq_true, decide_eq_true_eq, List.length_map] at this
    exact this.2
  have pall : ∀ ts' : List T, ts'.Perm (L.map fun p => tupI p.2) → pureTs ts' 20 = true ∧ (∀ a ∈ ts', ∀ b ∈ ts', cmpb a b = true) ∧ sortT ts' = sortT (dedupT xs) := fun ts' hp' => by
    have kk : ∀ t ∈ ts', keyOk true t = true := fun t ht => keyed t (hp'.mem_iff.mp ht)
    refine ⟨pureTs_mem.mpr fun t ht => pure_key (kk t ht) 19, fun a ha b hb => cmpb_key (kk a ha) (kk b hb), ?_⟩
    have kd : ∀ t ∈ dedupT xs, keyOk true t = true := fun t ht => List.all_eq_true.mp hkey t ((d2 t).mp ht)
    exact sortT_of_perm (n := 20) (hp'.trans hpm) (pureTs_mem.mpr fun t ht => pure_key (kd t ht) 19) fun a ha b hb => cmpb_key (kd a ha) (kd b hb)
  refine fz_sorted (R := fun out => EachIs (RvT S E) out (sortT (dedupT xs))) hcol (fun vs hv => by rw [hv.length_eq, List.length_map, sizeLine_eq]; omega) (fun vs s2 hv k2 => ?_) fun s' p' out n r' k2 hp' g' o' hg => ?_
  · obtain ⟨ts', p1, e1⟩ := each_perm hv eL
    obtain ⟨q1, q2, q3⟩ := pall ts' p1
    have er := reads_of I g.hK o.sub e1 q1
    have := fz_sortsT (prog := X.prog) (w := X.w) (A := X.A.in1.in1) e1 (reads_keep k2 er) q1 q2 (by show X.A.units + 1 + 1 + 30 < _; omega)
    rw [q3] at this
    exact this
  · obtain ⟨vs', v1, v2⟩ := of_each r'
    have l2 := v2.length
    have l3 : (sortT (dedupT xs)).length ≤ sizeLine := by
      rw [sortT_len, ← hpm.length_eq, List.length_map, sizeLine_eq]
      omega
    exact ⟨.ref p', _, laid_list I k2 hp' g' o' hg v1 (by omega), rfl, Post.lst o v2 l3 q p' (I.hok.fresh hp')⟩
end
end Fz

/-! list.count, list.index, by values; a call of whatever an expression gives -/
namespace Fz
open PySem PySem.Spec L2
open PyProof.Rows hiding St

variable {S : Su}
/-- a method's rule by its values, the receiver first -/
def rMt (S : Su) (g : List T → Res T) : V → List V → Hp → VK → Prop := fun x vs H Q => rBl S g (x :: vs) H Q
theorem idxOf_spec {x : T} : ∀ {ys : List T} {k j : Nat}, idxOf x ys k = some j → k ≤ j ∧ (∃ y, ys[j - k]? = some y ∧ T.eqv y x = true) ∧ ∀ m, m < j - k → ∀ z, ys[m]? = some z → T.eqv z x = false
  | [], _, _, h => by cases h
  | y :: ys, k, j, h => by
    unfold idxOf at h
    split at h
    · rename_i e
      cases h
      exact ⟨Nat.le_refl _, ⟨y, by simp, e⟩, fun m hm => by omega⟩
    · rename_i e
      obtain ⟨h1, ⟨z, h2, h3⟩, h4⟩ := idxOf_spec h
      have e1 : j - k = (j - (k + 1)) + 1 := by omega
      refine ⟨by omega, ⟨z, by rw [e1]; simpa using h2, h3⟩, fun m hm w hw => ?_⟩
      cases m with
      | zero =>
        have : y = w := by simpa using hw
        subst this
        simpa using e
      | succ m => exact h4 m (by omega) w (by simpa using hw)
theorem datTs_get : ∀ {l : List T} {i : Nat}, (datTs l)[i]? = (l[i]?).map datT
  | [], i => by simp [datTs]
  | x :: l, 0 => by simp [datTs]
  | x :: l, i + 1 => by simp [datTs, datTs_get]
theorem plains_get {n : Nat} : ∀ {l : List T} {i : Nat} {t : T}, T.plains l n = true → l[i]? = some t → t.plain n = true
  | [], _, _, _, h => by simp at h
  | x :: l, 0, t, hp, h => by
    have e : x = t := by simpa using h
    have : x.plain n = true ∧ T.plains l n = true := by simpa [T.plains] using hp
    exact e ▸ this.1
  | x :: l, i + 1, t, hp, h => by
    have : x.plain n = true ∧ T.plains l n = true := by simpa [T.plains] using hp
    exact plains_get this.2 (by simpa using h)
section
variable {X : Cx} {W : WX} {F : Fns} {c : TC} {sc so : Scope} {k : Nat}
theorem mt_index' (g : Good S c k X sc so) : MtR X "list.index" (rMt S (bltT .index)) := by
  intro pins s σ H x xs v us Q I rx rxs h
  obtain ⟨E, ts, t, o, rs, e, q⟩ := h
  have hun := g.room.un
  rcases ts with _ | ⟨a, _ | ⟨b, _ | ⟨d, ts⟩⟩⟩ <;> first | (cases e; done) | skip
  · cases a <;> cases e
  · cases a <;> first | (cases e; done) | skip
    rename_i l
    simp only [bltT] at e
    split at e
    · rename_i hp
      rw [Bool.and_eq_true] at hp
      split at e
      · rename_i j hj
        cases e
        obtain ⟨x', w, ex, ra, y, w2, ew, rb, rfl⟩ := rs
        cases ex
        cases ew
        obtain ⟨p, vs, rfl, h1, l1, r2⟩ := ra
        obtain ⟨_, ⟨z, h2, h3⟩, h4⟩ := idxOf_spec hj
        rw [Nat.sub_zero] at h2 h4
        have dl : Dp X.K H (.ref p) (.list (datTs l)) := g.hK ▸ (Rep.dp (S := S) (.lst l) 61 (by simpa [T.plain] using hp.1) ⟨p, vs, rfl, o.sub.la h1, l1, r2.mono o.sub⟩)
        refine mt_indexD (by omega) pins s σ H (.ref p) [y] v us Q I rx rxs ⟨p, y, datT b, datTs l, j, datT z, rfl, rfl, dl, g.hK ▸ ((rb.mono o.sub).dp b 60 hp.2), ?_, shaped_of hp.2, ?_, ?_, fun m z' hm hz' => ?_, q _ E H (.refl o) rfl⟩
        · have := lay_ofs l 60 hp.1
          unfold SeqAt.shaped
          rw [Bool.and_eq_true, decide_eq_true_eq]
          refine ⟨this.1, ?_⟩
          simp only [PyData.depth]
          omega
        · rw [datTs_get, h2]; rfl
        · rw [eqv_of z b 60 60 (plains_get hp.1 h2) hp.2]; exact h3
        · rw [datTs_get] at hz'
          cases e5 : l[m]? with
          | none => rw [e5] at hz'; cases hz'
          | some z2 =>
            rw [e5] at hz'
            cases hz'
            rw [eqv_of z2 b 60 60 (plains_get hp.1 e5) hp.2]
            exact h4 m hm z2 e5
      · cases e
    · cases e
  · cases a <;> cases e
theorem countP_filter {α : Type} (p : α → Bool) : ∀ l : List α, l.countP p = (l.filter p).length := fun l => by rw [List.countP_eq_length_filter]
theorem mt_count' (g : Good S c k X sc so) : MtR X "list.count" (rMt S (bltT .count)) := by
  intro pins s σ H x xs v us Q I rx rxs h
  obtain ⟨E, ts, t, o, rs, e, q⟩ := h
  have hun := g.room.un
  rcases ts with _ | ⟨a, _ | ⟨b, _ | ⟨d, ts⟩⟩⟩ <;> first | (cases e; done) | skip
  · cases a <;> cases e
  · cases a <;> first | (cases e; done) | skip
    rename_i l
    simp only [bltT] at e
    split at e
    · rename_i hp
      rw [Bool.and_eq_true] at hp
      cases e
      obtain ⟨x', w, ex, ra, y, w2, ew, rb, rfl⟩ := rs
      cases ex
      cases ew
      obtain ⟨p, vs, rfl, h1, l1, r2⟩ := ra
      cases rx
      obtain ⟨u, rfl, ru⟩ := rxs.one
      obtain ⟨z, its, n, rv, hn, ho⟩ := I.lstR (g.hK ▸ o.sub.la h1)
      obtain ⟨as, ra'⟩ := Dp.readsAll I _ vs its (g.hK ▸ (Reps.dp l 60 hp.1 (r2.mono o.sub))) rv
      obtain ⟨bs, rb'⟩ := Dp.reads I _ y u (g.hK ▸ ((rb.mono o.sub).dp b 60 hp.2)) ru
      have lay := lay_ofs l 60 hp.1
      have lb := lay_of b 60 hp.2
      have hr : X.A.units + 1 + min (PyData.depthAll (datTs l)) (datT b).depth < cLine := in_room g.room hp.2
      have ra2 : ReadsAll s.heap its.toArray.toList (datTs l) as := by simpa using ra'
      refine call_meets PySem.F.slot_list_count ⟨_, ho, rfl⟩ PySem.F.entry_list_count (PySem.F.args_list_count_2 _ _) (SeqAt.list_countAt p its.toArray n none #[] u fun y => PyData.eqv (SeqAt.readOf s.heap y) (datT b))
        ⟨ho, fun y hy => SeqAt.items_eqAt ra2 rb' lay.1 lb.1 hr y hy, ?_⟩
      have ec : its.toArray.toList.countP (fun y => PyData.eqv (SeqAt.readOf s.heap y) (datT b)) = (l.filter fun y => T.eqv y b).length := by
        have e1 := SeqAt.readsAll_map (datTs l) its as lay.1 ra'
        rw [← countP_filter]
        show its.countP _ = _
        have e2 : ∀ (l : List T), T.plains l 60 = true → (datTs l).countP (fun z => PyData.eqv z (datT b)) = l.countP fun y => T.eqv y b := by
          intro l
          induction l with
          | nil => intro _; rfl
          | cons y l ih =>
            intro h
            have h' : y.plain 60 = true ∧ T.plains l 60 = true := by simpa [T.plains] using h
            rw [datTs, List.countP_cons, List.countP_cons, ih h'.2, eqv_of y b 60 60 h'.1 hp.2]
        rw [← e2 l hp.1, ← e1, List.countP_map]
        rfl
      refine ⟨.int ((l.filter fun y => T.eqv y b).length : Nat), H, I.tok _, ⟨s.toks, ?_⟩, q _ E H (.refl o) rfl⟩
      show Value.int ((its.toArray.toList.countP _ : Nat) : Int) s.toks = _
      rw [ec]
    · cases e
  · cases a <;> cases e
end
theorem fz_eval_call_sub {a i : Expr} {sp pos : Pos} {args : List Expr} {env : Env} : eval (.Call (.Subscript a i sp) args [] pos) env = (do callWith pos (← eval (.Subscript a i sp) env) [] (backTo pos (starEach args env)) (backToKw pos (keywordEach [] env))) := by
  first | rfl | (rw [eval]) | (simp only [eval])
end Fz

/-! expressions, construct by construct: tests, displays, places, calls -/
namespace Fz
open PySem PySem.Spec L2
open PyProof.Rows hiding St

variable {S : Su}
section
variable {X : Cx} {W : WX} {F : Fns} {c : TC} {sc so : Scope} {k : Nat}
/-- an expression as the evaluator has it: as a value that goes on, as a value looked at, as a test -/
structure Tri (S : Su) (W : WX) (F : Fns) (X : Cx) (ex : Expr) (x : E) : Prop where
  e : PE X ex (dE S W (ev F x))
  b : PE X ex (dB S W fun env => rdB env x (ev F x env))
  t : PT X ex (dT S W fun env => (rdB env x (ev F x env)).bind truT)
theorem rdB_rd {env : Cells} {x : E} (h : ∀ i, x ≠ .var i) (r : Res T) : rdB env x r = r := by
  cases x <;> first | rfl | exact (h _ rfl).elim
theorem PostG.le {α : Type} {F H : Hp} {σ : St} {r r' : Res α} {q : α → Hp → Hp → Prop} (h : ∀ a, r = .ok a → r' = .ok a) (h2 : ∀ d, r = .ex d → r' = .ex d) (p : PostG S W F H σ r q) : PostG S W F H σ r' q := by
  cases r with
  | ok a => rw [h a rfl]; exact p
  | ex d => rw [h2 d rfl]; exact p
  | no => exact p.elim
theorem rdB_ge {env : Cells} {x : E} : (∀ a, ev F x env = .ok a → rdB env x (ev F x env) = .ok a) ∧ (∀ d, ev F x env = .ex d → rdB env x (ev F x env) = .ex d) := by
  cases x with
  | var i =>
    refine ⟨fun a h => ?_, fun d h => ?_⟩
    · simp only [ev] at h
      show rdAny env i = _
      unfold rd at h
      unfold rdAny
      split at h
      · rename_i e; rw [e]; exact h
      · cases h
    · simp only [ev] at h
      exact (rd_no h).elim
  | _ => exact ⟨fun a h => h, fun d h => h⟩
theorem bind_le {α β : Type} {r r' : Res α} (g : α → Res β) (h : ∀ a, r = .ok a → r' = .ok a) (h2 : ∀ d, r = .ex d → r' = .ex d) : (∀ b, r.bind g = .ok b → r'.bind g = .ok b) ∧ (∀ d, r.bind g = .ex d → r'.bind g = .ex d) := by
  cases r with
  | ok a => rw [h a rfl]; exact ⟨fun _ q => q, fun _ q => q⟩
  | ex d => rw [h2 d rfl]; exact ⟨fun _ q => q, fun _ q => q⟩
  | no => exact ⟨fun _ q => (nomatch q), fun _ q => (nomatch q)⟩
theorem Tri.tt {e : Expr} {x : E} (h : Tri S W F X e x) : PT X e (dT S W fun env => (ev F x env).bind truT) := h.t.imp fun σ H Q q => by
  obtain ⟨E, env, o, eo, p⟩ := q
  have z := bind_le truT (rdB_ge (F := F) (env := env) (x := x)).1 rdB_ge.2
  exact ⟨E, env, o, eo, p.le z.1 z.2⟩
theorem Rep.tru {H : Hp} {t : T} {x : V} {b : Bool} (r : Rep S H t x) (e : truT t = .ok b) : TruV S.K x H b := by
  cases t with
  | non => cases e; rw [show x = _ from r]; rfl
  | bl _ => cases e; rw [show x = _ from r]; rfl
  | int _ => cases e; rw [show x = _ from r]; rfl
  | str y =>
    simp only [truT] at e
    split at e
    · rename_i hz
      cases e
      rw [show x = _ from r]
      exact ⟨sizeM hz, by rw [Bool.eq_iff_iff]; simp only [bne_iff_ne, ne_eq]; omega⟩
    · cases e
  | tup ts =>
    cases e
    obtain ⟨a, vs, rfl, q, l, rs⟩ := r
    refine .inr (.inl ⟨vs, .inl (.inl q), ?_⟩)
    have := rs.length
    cases ts <;> cases vs <;> first | rfl | (simp at this)
  | lst ts =>
    cases e
    obtain ⟨a, vs, rfl, q, l, rs⟩ := r
    refine .inl ⟨vs, q.sq, ?_⟩
    have := rs.length
    cases ts <;> cases vs <;> first | rfl | (simp at this)
  | _ => cases e
theorem truT_nx (t : T) (d : Nat) : truT t ≠ .ex d := by
  cases t <;> first | (intro h; cases h; done) | (intro h; simp only [truT] at h; split at h <;> cases h)
/-- the test of an expression that has no form of its own as a test -/
theorem t_plain {e : Expr} {f : Cells → Res T} (hK : X.K = S.K) (h : PE X e (dB S W f)) (he : ∀ whole, isTrue e X.env whole = (do let v ← whole; standAt e.pos; holding [v] (PySem.truthy v))) : PT X e (dT S W fun env => (f env).bind truT) := by
  refine (pt_truth h he).imp fun σ H Q q => ?_
  obtain ⟨E, env, o, eo, p⟩ := q
  refine ⟨E, env, o, eo, (PostG.split p).imp fun t F1 H1 s1 p1 v rv => ?_⟩
  cases e1 : truT t with
  | ok b =>
    rw [e1] at p1
    exact ⟨b, hK ▸ rv.tru e1, p1 F1 H1 (.refl s1.ok)⟩
  | ex d => exact (truT_nx _ _ e1).elim
  | no => rw [e1] at p1; exact p1.elim
/-- an expression whose evaluator's form is no name -/
theorem Tri.of {e : Expr} {x : E} (hK : X.K = S.K) (h : PE X e (dE S W (ev F x))) (hv : ∀ i, x ≠ .var i) (he : ∀ whole, isTrue e X.env whole = (do let v ← whole; standAt e.pos; holding [v] (PySem.truthy v))) : Tri S W F X e x := by
  have hb : PE X e (dB S W fun env => rdB env x (ev F x env)) := by
    simp only [rdB_rd hv]
    exact dB_of h
  exact ⟨h, hb, t_plain hK hb he⟩
theorem Tri.of' {e : Expr} {x : E} (h : PE X e (dE S W (ev F x))) (hv : ∀ i, x ≠ .var i) (ht : PT X e (dT S W fun env => (ev F x env).bind truT)) : Tri S W F X e x := by
  refine ⟨h, ?_, ?_⟩
  · simp only [rdB_rd hv]
    exact dB_of h
  · simp only [rdB_rd hv]
    exact ht
theorem t_name {i : Nat} {x : Str} {pos : Pos} (g : Good S c k X sc so) (hv : visB sc x = true) (hn : okName x = true) (hi : ixOf x c.N 0 = some i) : Tri S W F X (.Name x pos) (.var i) :=
  ⟨e_var g hv hn hi, b_var g hv hn hi, t_plain g.hK (b_var g hv hn hi) fun _ => rfl⟩

/-! ### comparisons -/
theorem cmpT_nx (op : Cop) (x y : T) (d : Nat) : cmpT op x y ≠ .ex d := by
  have hs : ∀ a b d, isSame a b ≠ .ex d := fun a b d => by unfold isSame; split <;> (intro h; cases h)
  unfold cmpT
  split <;> first
    | (intro h; cases h; done)
    | (split <;> intro h <;> cases h; done)
    | (intro h; cases e : isSame x y with
        | ok a => rw [e] at h; cases h
        | ex d' => exact hs _ _ _ e
        | no => rw [e] at h; cases h)
theorem cmpT_bl (op : Cop) (x y t : T) (h : cmpT op x y = .ok t) : ∃ b, t = .bl b := by
  unfold cmpT at h
  split at h <;> first
    | (cases h; done)
    | (cases h; exact ⟨_, rfl⟩)
    | (split at h <;> first | (cases h; done) | (cases h; exact ⟨_, rfl⟩))
    | (cases e : isSame x y with
        | ok a => rw [e] at h; cases h; exact ⟨_, rfl⟩
        | ex d' => rw [e] at h; cases h
        | no => rw [e] at h; cases h)
theorem o_cmp {o : CmpOp} (g : Good S c k X sc so) : OpR X (compareOp o) (rCo S (cmpT (trCop o))) := by
  cases o with
  | Eq => exact c_eq g.hK g.room
  | NotEq => exact c_ne g.hK g.room
  | Lt => exact c_lt
  | LtE => exact c_le
  | Gt => exact c_gt
  | GtE => exact c_ge
  | Is => exact c_is
  | IsNot => exact c_isNot
  | In => exact c_in g.hK g.room
  | NotIn => exact c_notIn g.hK g.room
theorem bool_test {E H : Hp} {σ : St} {r : Res T} {Q : Bool → Hp → Prop} (hb : ∀ t, r = .ok t → ∃ b, t = .bl b) (p : PostG S W E H σ (r.bind truT) fun b F' H' => Q b H') :
    PostG S W E H σ r fun t F' H' => ∀ v, Rep S F' t v → ∃ b, v = .bl b ∧ Q b H' := by
  cases r with
  | ok t =>
    obtain ⟨b, rfl⟩ := hb t rfl
    exact fun F' H' s v r => ⟨b, r, p F' H' s⟩
  | ex d => exact p
  | no => exact p
theorem bind_bl {r r' : Res T} {h : T → T → Res T} (hb : ∀ x y t, h x y = .ok t → ∃ b, t = .bl b) (t : T) (e : (r.bind fun x => r'.bind fun y => h x y) = .ok t) : ∃ b, t = .bl b := by
  cases r with
  | ok x => cases r' with
    | ok y => exact hb _ _ _ e
    | ex d => cases e
    | no => cases e
  | ex d => cases e
  | no => cases e
theorem t_cmp {o : CmpOp} {a b : Expr} {x y : E} {pos : Pos} (g : Good S c k X sc so) (hm : behindInMarks o b = false) (ha : Tri S W F X a x) (hb : Tri S W F X b y) : Tri S W F X (.Compare a [o] [b] pos) (.cmp (trCop o) x y) := by
  refine .of' ((pe_cmpR (o_cmp g) ha.b hb.b hm).imp fun σ H Q q => impC (cmpT_nx _) (cmpT_bl _) (by simpa only [dE, ev] using q)) (fun _ => by intro h; cases h) ((pt_cmpR (o_cmp g) ha.b hb.b hm).imp fun σ H Q q => ?_)
  refine impC (f := fun env => rdB env x (ev F x env)) (g := fun env => rdB env y (ev F y env)) (W := W) (cmpT_nx _) (cmpT_bl _) ?_
  obtain ⟨E, env, o, eo, p⟩ := q
  refine ⟨E, env, o, eo, ?_⟩
  simp only [ev] at p
  exact bool_test (bind_bl (cmpT_bl _)) p

/-! ### displays -/
theorem evs_len {env : Cells} : ∀ {es : List E} {ts : List T}, evs F es env = .ok ts → ts.length = es.length
  | [], _, h => by simp only [evs] at h; cases h; rfl
  | e :: es, ts, h => by
    simp only [evs] at h
    cases e1 : ev F e env with
    | ok t =>
      rw [e1] at h
      cases e2 : evs F es env with
      | ok us =>
        simp only [e2, Res.bind] at h
        cases h
        rw [List.length_cons, List.length_cons, evs_len e2]
      | ex d => simp only [e2, Res.bind] at h; cases h
      | no => simp only [e2, Res.bind] at h; cases h
    | ex d => rw [e1] at h; cases h
    | no => rw [e1] at h; cases h
theorem a_nil : PA X [] (dA S W (evs F [])) := by
  refine pa_nil.imp fun σ H Q q => ?_
  obtain ⟨E, env, o, eo, p⟩ := q
  simp only [evs] at p
  exact p.ok' o [] rfl
theorem star_cons {e : Expr} {es : List Expr} {env : Env} (h : ∀ a p, e ≠ .Starred a p) : starEach (e :: es) env = (false, eval e env) :: starEach es env := by
  cases e <;> first | rfl | exact absurd rfl (h _ _)
theorem a_cons {e : Expr} {es : List Expr} {x : E} {xs : List E} (hn : ∀ a p, e ≠ .Starred a p) (h : PE X e (dE S W (ev F x))) (hs : PA X es (dA S W (evs F xs))) : PA X (e :: es) (dA S W (evs F (x :: xs))) := by
  refine (pa_cons h hs (star_cons hn)).imp fun σ H Q q => ?_
  obtain ⟨E, env, o, eo, p⟩ := q
  simp only [evs] at p
  refine ⟨E, env, o, eo, (PostG.split p).imp fun t F1 H1 s1 p1 v rv => ⟨F1, env, s1.ok, eo.step s1, (PostG.split p1).imp fun ts F2 H2 s2 p2 vs rs => ?_⟩⟩
  exact p2 F2 H2 (.refl s2.ok) (v :: vs) ⟨v, vs, rfl, rv.mono s2.ff, rs⟩
theorem PostG.eq {α : Type} {E H : Hp} {σ : St} {r : Res α} {k : α → Hp → Hp → Prop} (p : PostG S W E H σ r k) : PostG S W E H σ r fun a F' H' => r = .ok a ∧ k a F' H' := by
  cases r with
  | ok a => exact fun F' H' s => ⟨rfl, p F' H' s⟩
  | ex d => exact p
  | no => exact p
theorem e_tup {es : List Expr} {xs : List E} {j : Nat} {pos : Pos} (hl : xs.length ≤ 1000) (h : PA X es (dA S W (evs F xs))) : PE X (.Tuple es j pos) (dE S W (ev F (.tup xs))) := by
  refine (pe_tup h).imp fun σ H Q q => ?_
  obtain ⟨E, env, o, eo, p⟩ := q
  simp only [ev] at p
  refine ⟨E, env, o, eo, (PostG.split p).eq.imp fun ts F1 H1 s1 p1 vs rs => ?_⟩
  obtain ⟨e1, p1⟩ := p1
  have l1 := evs_len e1
  have l2 := rs.length
  have l3 : 1000 ≤ sizeLine := by decide
  exact ⟨by omega, Post.tup s1.ok rs (by omega) fun v F' H' s r => p1 F' H' s v r⟩
/-- a thing that is the frame's own goes on as well -/
theorem dN_of_dE {f : Cells → Res T} {σ : St} {H : Hp} {Q : VK} (q : dE S W f σ H Q) : dN S W f σ H Q := by
  obtain ⟨E, env, o, eo, p⟩ := q
  refine ⟨E, env, o, eo, ?_⟩
  cases e1 : f env with
  | ok t =>
    rw [e1] at p ⊢
    intro F' H' s a ha hF ow
    obtain ⟨u, h1, h2, h3, h4⟩ := ow.frz hF
    refine p (upd F' a u) H' ⟨s.ff.trans h4, s.hh, fun b hb hb' => ?_, ⟨fun b o e => ?_, fun b o e => ?_, s.ok.tab⟩⟩ _ h3
    · rw [upd_ne (fun z => hb (by rw [z]; exact ha))]
      exact s.no b hb hb'
    · by_cases z : b = a
      · subst z; rw [upd_same] at e; cases e; exact h1
      · rw [upd_ne z] at e; exact s.ok.sub b o e
    · by_cases z : b = a
      · subst z; rw [upd_same] at e; cases e; exact h2
      · rw [upd_ne z] at e; exact s.ok.nt b o e
  | ex d => rw [e1] at p ⊢; exact p
  | no => rw [e1] at p ⊢; exact p
theorem dE_of_dN {e : Expr} {f : Cells → Res T} (h : PE X e (dN S W f)) : PE X e (dE S W f) := h.imp fun σ H Q q => dN_of_dE q
/-- a new list, the frame's own -/
theorem Post.own {F H : Hp} {ts : List T} {vs : List V} {Q : VK} (o : Ok S F H) (r : Reps S F ts vs) (l : ts.length ≤ sizeLine) {H0 : Hp} (hx : Ext H0 H) (h : ∀ F' H', Step S F H F' H' → ∀ a, H0 a = none → F' a = none → Own S F' H' a (.lst ts) → Q (.ref a) H') : ∀ p, H p = none → Q (.ref p) (upd H p (.lst vs)) := fun p hp =>
  h F _ (.newR o hp) p (hx.none hp) (o.sub.none hp) ⟨vs, upd_same, l, r⟩
theorem n_lst {es : List Expr} {xs : List E} {pos : Pos} (hl : xs.length ≤ 1000) (h : PA X es (dA S W (evs F xs))) : PE X (.List es pos) (dN S W (ev F (.lst xs))) := by
  refine (pe_lst h).imp fun σ H Q q => ?_
  obtain ⟨E, env, o, eo, p⟩ := q
  simp only [ev] at p
  refine ⟨E, env, o, eo, (PostG.split p).eq.imp fun ts F1 H1 s1 p1 vs rs => ?_⟩
  obtain ⟨e1, p1⟩ := p1
  have l1 := evs_len e1
  have l2 := rs.length
  have l3 : 1000 ≤ sizeLine := by decide
  exact ⟨by omega, Post.own s1.ok rs (by omega) s1.hh fun F' H' s a ha hF ow => p1 F' H' s a ha hF ow⟩
/-! ### and, or, not, a if t else b -/
theorem t_not {a : Expr} {x : E} {pos : Pos} (g : Good S c k X sc so) (ha : Tri S W F X a x) : Tri S W F X (.UnaryOp .Not a pos) (.not x) := by
  refine .of' ((pe_notT ha.b).imp fun σ H Q q => ?_) (fun _ => by intro h; cases h) ((pt_not ha.t).imp fun σ H Q q => ?_)
  · obtain ⟨E, env, o, eo, p⟩ := q
    simp only [ev] at p
    refine ⟨E, env, o, eo, (PostG.split p).imp fun t F1 H1 s1 p1 v rv => ?_⟩
    cases e1 : truT t with
    | ok b =>
      rw [e1] at p1
      exact ⟨b, g.hK ▸ rv.tru e1, p1 F1 H1 (.refl s1.ok) _ rfl⟩
    | ex d => exact (truT_nx _ _ e1).elim
    | no => rw [e1] at p1; exact p1.elim
  · obtain ⟨E, env, o, eo, p⟩ := q
    refine ⟨E, env, o, eo, ?_⟩
    simp only [ev] at p
    cases e1 : rdB env x (ev F x env) with
    | ok t =>
      simp only [e1, Res.bind] at p ⊢
      cases e2 : truT t with
      | ok b => simp only [e2, Res.bind] at p ⊢; exact p
      | ex d => exact (truT_nx _ _ e2).elim
      | no => simp only [e2, Res.bind] at p; exact p.elim
    | ex d => simp only [e1, Res.bind] at p ⊢; exact p
    | no => simp only [e1, Res.bind] at p; exact p.elim
/-- several in a row: as a value, as a test whatever stands for the whole -/
structure Tw (S : Su) (W : WX) (F : Fns) (X : Cx) (ex : Expr) (x : E) : Prop where
  e : PE X ex (dE S W (ev F x))
  w : PW X ex (dT S W fun env => (ev F x env).bind truT)
theorem w_one {op : BoolOp} {a : Expr} {x : E} {pos : Pos} (ha : Tri S W F X a x) : Tw S W F X (.BoolOp op [a] pos) x := by
  refine ⟨pe_one ha.e, ?_⟩
  cases op with
  | And => exact pw_and1 ha.tt
  | Or => exact pw_or1 ha.tt
theorem w_cons {op : BoolOp} {a b : Expr} {rest : List Expr} {x y : E} {pos : Pos} (g : Good S c k X sc so) (ha : Tri S W F X a x) (hb : Tw S W F X (.BoolOp op (b :: rest) pos) y) :
    Tw S W F X (.BoolOp op (a :: b :: rest) pos) (match op with | .And => .band x y | .Or => .bor x y) := by
  cases op with
  | And =>
    refine ⟨(pe_andT ha.e hb.e).imp fun σ H Q q => ?_, (pw_and ha.tt hb.w).imp fun σ H Q q => ?_⟩
    · obtain ⟨E, env, o, eo, p⟩ := q
      simp only [ev] at p
      refine ⟨E, env, o, eo, (PostG.split p).imp fun t F1 H1 s1 p1 v rv => ?_⟩
      cases e1 : truT t with
      | ok b =>
        simp only [e1, Res.bind] at p1
        refine ⟨b, g.hK ▸ (rv.mono s1.ok.sub).tru e1, ?_⟩
        cases b with
        | true => exact ⟨F1, env, s1.ok, eo.step s1, p1⟩
        | false => exact p1 F1 H1 (.refl s1.ok) v rv
      | ex d => exact (truT_nx _ _ e1).elim
      | no => simp only [e1, Res.bind] at p1; exact p1.elim
    · obtain ⟨E, env, o, eo, p⟩ := q
      refine ⟨E, env, o, eo, ?_⟩
      simp only [ev] at p
      cases e1 : ev F x env with
      | ok t =>
        simp only [e1, Res.bind] at p ⊢
        cases e2 : truT t with
        | ok b =>
          simp only [e2, Res.bind] at p ⊢
          intro F1 H1 s1
          cases b with
          | true => exact ⟨F1, env, s1.ok, eo.step s1, PostG.step s1 p⟩
          | false =>
            simp only [Bool.false_eq_true, if_false, e2] at p
            exact p F1 H1 s1
        | ex d => exact (truT_nx _ _ e2).elim
        | no => simp only [e2, Res.bind] at p; exact p.elim
      | ex d => simp only [e1, Res.bind] at p ⊢; exact p
      | no => simp only [e1, Res.bind] at p; exact p.elim
  | Or =>
    refine ⟨(pe_orT ha.e hb.e).imp fun σ H Q q => ?_, (pw_or ha.tt hb.w).imp fun σ H Q q => ?_⟩
    · obtain ⟨E, env, o, eo, p⟩ := q
      simp only [ev] at p
      refine ⟨E, env, o, eo, (PostG.split p).imp fun t F1 H1 s1 p1 v rv => ?_⟩
      cases e1 : truT t with
      | ok b =>
        simp only [e1, Res.bind] at p1
        refine ⟨b, g.hK ▸ (rv.mono s1.ok.sub).tru e1, ?_⟩
        cases b with
        | true => exact p1 F1 H1 (.refl s1.ok) v rv
        | false => exact ⟨F1, env, s1.ok, eo.step s1, p1⟩
      | ex d => exact (truT_nx _ _ e1).elim
      | no => simp only [e1, Res.bind] at p1; exact p1.elim
    · obtain ⟨E, env, o, eo, p⟩ := q
      refine ⟨E, env, o, eo, ?_⟩
      simp only [ev] at p
      cases e1 : ev F x env with
      | ok t =>
        simp only [e1, Res.bind] at p ⊢
        cases e2 : truT t with
        | ok b =>
          simp only [e2, Res.bind] at p ⊢
          intro F1 H1 s1
          cases b with
          | true =>
            simp only [if_true, e2] at p
            exact p F1 H1 s1
          | false => exact ⟨F1, env, s1.ok, eo.step s1, PostG.step s1 p⟩
        | ex d => exact (truT_nx _ _ e2).elim
        | no => simp only [e2, Res.bind] at p; exact p.elim
      | ex d => simp only [e1, Res.bind] at p ⊢; exact p
      | no => simp only [e1, Res.bind] at p; exact p.elim
theorem Tw.tri {e : Expr} {x : E} (h : Tw S W F X e x) (hv : ∀ i, x ≠ .var i) : Tri S W F X e x := .of' h.e hv h.w.pt
end
end Fz

/-! expressions, construct by construct: places, slices, calls -/
namespace Fz
open PySem PySem.Spec L2
open PyProof.Rows hiding St

variable {S : Su}
section
variable {X : Cx} {W : WX} {F : Fns} {c : TC} {sc so : Scope} {k : Nat}
/-! ### places -/
theorem atT_get {H : Hp} {ts : List T} {vs : List V} {i : Int} {t : T} (r : Reps S H ts vs) (h : atT ts i = .ok t) : ∃ v, atI vs i = some v ∧ Rep S H t v := by
  have l := r.length
  unfold atT at h
  split at h
  · rename_i j e
    split at h
    · rename_i u e2
      cases h
      obtain ⟨v, h1, h2⟩ := r.get e2
      refine ⟨v, ?_, h2⟩
      unfold atI ixN
      rw [← l, e]
      exact h1
    · cases h
  · cases h
theorem idxT_nx (x y : T) (d : Nat) : idxT x y ≠ .ex d := by
  have ha : ∀ (xs : List T) i d, atT xs i ≠ .ex d := fun xs i d => by
    unfold atT
    split
    · split <;> (intro h; cases h)
    · intro h; cases h
  unfold idxT
  split <;> first
    | exact ha _ _ _
    | (intro h; cases h; done)
    | (split <;> first | (intro h; cases h; done) | (split <;> intro h <;> cases h))
theorem x_idx (hK : X.K = S.K) (hu : X.A.units + 1 < cLine) : IxR X (rOf S idxT) := by
  intro va sl pins s σ H x y v u Q I rx ry h hs
  obtain ⟨E, a, b, t, o, ra, rb, e, q⟩ := h
  cases a with
  | tup ts =>
    cases b with
    | int i =>
      obtain ⟨p, vs, rfl, h1, _, rs⟩ := ra
      obtain ⟨z, h2, h3⟩ := atT_get rs e
      exact ix_tup va sl pins s σ H _ y v u Q I rx ry ⟨p, vs, i, z, rfl, rb, hK ▸ o.sub.sqT (.inl (.inl h1)), h2, q z E H (.refl o) h3⟩ hs
    | _ => cases e
  | lst ts =>
    cases b with
    | int i =>
      obtain ⟨p, vs, rfl, h1, _, rs⟩ := ra
      obtain ⟨z, h2, h3⟩ := atT_get rs e
      exact ix_list va sl pins s σ H _ y v u Q I rx ry ⟨p, vs, i, z, rfl, rb, hK ▸ (o.sub.la h1).sq, h2, q z E H (.refl o) h3⟩ hs
    | _ => cases e
  | str z =>
    cases b with
    | int i =>
      simp only [idxT] at e
      split at e
      · rename_i d h2
        split at e
        · rename_i hz
          cases e
          exact ix_str va sl pins s σ H _ y v u Q I rx ry ⟨z, i, d, ra, rb, sizeM hz, h2, q _ E H (.refl o) rfl⟩ hs
        · cases e
      · cases e
    | _ => cases e
  | dct tk kvs =>
    simp only [idxT] at e
    split at e
    · rename_i hk
      split at e
      · rename_i t' ht
        cases e
        obtain ⟨p, L, rfl, h1, _, rd⟩ := ra
        obtain ⟨ov, g1, g2⟩ := dget_of (o.sub _ _ h1) rd hk (rb.mono o.sub)
        rw [ht] at g2
        obtain ⟨z, rfl, hz⟩ := g2
        exact ix_dct hu va sl pins s σ H _ y v u Q I rx ry ⟨p, z, rfl, g1, q z E H (.refl o) hz⟩ hs
      · cases e
    · cases e
  | _ => cases e
def isSl : Expr → Bool
  | .Slice _ _ _ _ => true
  | _ => false
theorem plainIx {b : Expr} (h : isSl b = false) : PlainIx b := by
  cases b <;> first | (intro o i; rfl) | cases h
theorem e_idx {a b : Expr} {x y : E} {pos : Pos} (hK : X.K = S.K) (hu : X.A.units + 1 < cLine) (hb' : isSl b = false) (ha : PE X a (dE S W (ev F x))) (hb : PE X b (dE S W (ev F y))) : PE X (.Subscript a b pos) (dE S W (ev F (.idx x y))) :=
  (pe_ix (x_idx hK hu) ha hb (plainIx hb')).imp fun σ H Q q => imp2 idxT_nx (by simpa only [dE, ev] using q)

/-! ### slices -/
def rSlc (S : Su) : V → Option Int → Option Int → Hp → VK → Prop := fun x lo hi H Q => ∃ E a t, Ok S E H ∧ Rep S E a x ∧ slcT a lo hi = .ok t ∧ ∀ v F' H', Step S E H F' H' → Rep S F' t v → Q v H'
theorem Reps.cut {H : Hp} {ts : List T} {vs : List V} (lo hi : Option Int) (r : Reps S H ts vs) : Reps S H (cutL ts lo hi) (cutV vs lo hi) := by
  unfold cutL cutV
  rw [r.length]
  exact (r.drop _).take _
theorem cutL_len (ts : List T) (lo hi : Option Int) : (cutL ts lo hi).length ≤ ts.length := by
  unfold cutL
  rw [List.length_take, List.length_drop]
  omega
theorem s_slc (hK : X.K = S.K) : SlR X (rSlc S) := by
  intro pins s σ H x v vl vu lo hi sl Q I rx hs pl pu h
  obtain ⟨E, a, t, o, ra, e, q⟩ := h
  cases a with
  | tup ts =>
    cases e
    obtain ⟨p, vs, rfl, h1, l1, rs⟩ := ra
    have lv := rs.length
    refine sl_tupA pins s σ H _ v vl vu lo hi sl Q I rx hs pl pu ⟨p, vs, rfl, hK ▸ o.sub.sqT (.inl (.inl h1)), fun z => ?_, fun z => ?_⟩
    · refine q _ E H (.refl o) ⟨p, vs, rfl, h1, Nat.le_trans (cutL_len ..) l1, ?_⟩
      have e1 : cutV vs lo hi = vs := by
        unfold cutV
        rw [z.1, z.2, List.drop_zero, Nat.sub_zero, List.take_length]
      have r1 := rs.cut lo hi
      rw [e1] at r1
      exact r1
    · exact Post.tup o (rs.cut lo hi) (Nat.le_trans (cutL_len ..) l1) q
  | lst ts =>
    cases e
    obtain ⟨p, vs, rfl, h1, l1, rs⟩ := ra
    exact sl_list pins s σ H _ v vl vu lo hi sl Q I rx hs pl pu ⟨p, vs, rfl, hK ▸ (o.sub.la h1).sq, Post.lst o (rs.cut lo hi) (Nat.le_trans (cutL_len ..) l1) q⟩
  | str z =>
    simp only [slcT] at e
    split at e
    · rename_i hz
      cases e
      exact sl_str pins s σ H _ v vl vu lo hi sl Q I rx hs pl pu ⟨z, ra, sizeM hz, q _ E H (.refl o) rfl⟩
    · cases e
  | _ => cases e
/-- a part of a slice -/
def dO (S : Su) (W : WX) (f : Cells → Res (List T)) : TO := fun σ H Q => At S σ H fun E env => PostG S W E H σ ((f env).bind partT) fun i F' H' => Q i H'
theorem o_none : PO X none (dO S W (evs F [])) := by
  refine ⟨fun pins s σ H Q I q => po_none.run pins s σ H Q I ?_⟩
  obtain ⟨E, env, o, eo, p⟩ := q
  simp only [evs] at p
  exact p.ok' o
theorem o_some {e : Expr} {x : E} (h : PE X e (dE S W (ev F x))) : PO X (some e) (dO S W (evs F [x])) := by
  refine ⟨fun pins s σ H Q I q => (po_some h).run pins s σ H Q I ?_⟩
  obtain ⟨E, env, o, eo, p⟩ := q
  simp only [evs] at p
  refine ⟨E, env, o, eo, ?_⟩
  cases e1 : ev F x env with
  | ok t =>
    simp only [e1, Res.bind] at p ⊢
    cases t <;> first | exact p.elim | skip
    exact fun F1 H1 s1 v rv => ⟨_, rv, p F1 H1 s1⟩
  | ex d => simp only [e1, Res.bind] at p ⊢; exact p
  | no => simp only [e1, Res.bind] at p; exact p.elim
theorem bind_assoc {α β γ : Type} (r : Res α) (g : α → Res β) (h : β → Res γ) : (r.bind g).bind h = r.bind fun a => (g a).bind h := by
  cases r <;> rfl
theorem e_slc {a : Expr} {lo hi : Option Expr} {x : E} {l h : List E} {p2 pos : Pos} (hK : X.K = S.K) (ha : PE X a (dE S W (ev F x))) (hl : PO X lo (dO S W (evs F l))) (hh : PO X hi (dO S W (evs F h))) :
    PE X (.Subscript a (.Slice lo hi none p2) pos) (dE S W (ev F (.slc x l h))) := by
  refine (pe_slice (s_slc hK) ha hl hh).imp fun σ H Q q => ?_
  obtain ⟨E, env, o, eo, p⟩ := q
  simp only [ev] at p
  refine ⟨E, env, o, eo, (PostG.split p).imp fun t F1 H1 s1 p1 v rv => ⟨F1, env, s1.ok, eo.step s1, ?_⟩⟩
  rw [← bind_assoc] at p1
  refine (PostG.split p1).imp fun i F2 H2 s2 p2 => ⟨F2, env, s2.ok, (eo.step s1).step s2, ?_⟩
  rw [← bind_assoc] at p2
  refine (PostG.split p2).imp fun j F3 H3 s3 p3 => ?_
  cases e1 : slcT t i j with
  | ok u =>
    rw [e1] at p3
    exact ⟨F3, t, u, s3.ok, rv.mono (s2.ff.trans s3.ff), e1, fun v F' H' s r => p3 F' H' s v r⟩
  | ex d =>
    unfold slcT at e1
    split at e1 <;> first | cases e1 | (split at e1 <;> cases e1)
  | no => rw [e1] at p3; exact p3.elim
theorem fm_congr {α β : Type} {f g : α → Option β} : ∀ {l : List α}, (∀ x ∈ l, f x = g x) → l.filterMap f = l.filterMap g
  | [], _ => rfl
  | x :: l, h => by
    rw [List.filterMap_cons, List.filterMap_cons, h x (List.mem_cons_self ..), fm_congr fun y hy => h y (List.mem_cons_of_mem _ hy)]
theorem rev_get (xs : Array Value) : ((List.range xs.size).filterMap fun (m : Nat) => xs[((xs.size : Int) - 1 + (m : Int) * (-1)).toNat]?).toArray = xs.toList.reverse.toArray := by
  congr 1
  have key : ∀ (n : Nat) (l : List Value), l.length = n → ((List.range n).filterMap fun (m : Nat) => l[((n : Int) - 1 + (m : Int) * (-1)).toNat]?) = l.reverse := by
    intro n
    induction n with
    | zero => intro l hl; rw [List.eq_nil_of_length_eq_zero hl]; rfl
    | succ n ih =>
      intro l hl
      obtain ⟨a, x, rfl⟩ : ∃ a x, l = a ++ [x] := by
        have hne : l ≠ [] := fun e => by rw [e] at hl; cases hl
        exact ⟨l.dropLast, l.getLast hne, (List.dropLast_concat_getLast hne).symm⟩
      have ha : a.length = n := by rw [List.length_append] at hl; simpa using hl
      rw [List.range_succ_eq_map, List.filterMap_cons]
      have e0 : (a ++ [x])[(((n + 1 : Nat) : Int) - 1 + ((0 : Nat) : Int) * (-1)).toNat]? = some x := by
        have : (((n + 1 : Nat) : Int) - 1 + ((0 : Nat) : Int) * (-1)).toNat = a.length := by omega
        rw [this]
        simp
      rw [e0, List.reverse_append, List.filterMap_map]
      show x :: _ = x :: a.reverse
      congr 1
      rw [← ih a ha]
      refine fm_congr fun m hm => ?_
      have hm' := List.mem_range.mp hm
      show (a ++ [x])[(((n + 1 : Nat) : Int) - 1 + ((m + 1 : Nat) : Int) * (-1)).toNat]? = a[((n : Int) - 1 + (m : Int) * (-1)).toNat]?
      have e1 : (((n + 1 : Nat) : Int) - 1 + ((m + 1 : Nat) : Int) * (-1)).toNat = ((n : Int) - 1 + (m : Int) * (-1)).toNat := by omega
      rw [e1]
      exact List.getElem?_append_left (by omega)
  have h := key xs.size xs.toList (by simp)
  rw [← h]
  refine fm_congr fun m hm => ?_
  rw [Array.getElem?_toList]
section
variable {prog : Program} {w : World} {A : Around} {E : Value → Shared → Prop} {s : Shared}
open HT in
theorem sliceApplied_rev {sl : Addr} {vl vu vs : Value} {n : Nat} {Q : Int × Int × Nat → Shared → Prop} (hs : s.heap.IsSliceOf sl vl vu vs) (pl : IsPart vl none) (pu : IsPart vu none) (ps : IsPart vs (some (-1)))
    (h : Q ((n : Int) - 1, -1, n) s) : wpAny (model prog w) A (Builtin.Slice.sliceApplied (.ref sl) (pure (n : Int))) Q E s := by
  obtain ⟨os, hos, hcs, hds⟩ := id hs
  unfold Builtin.Slice.sliceApplied Builtin.Slice.sliceFields
  refine wpAny_bind (wpAny_bind (wpAny_field hos hds (x := vl) rfl (wpAny_bind (wpAny_field hos hds (x := vu) rfl (wpAny_bind (wpAny_field hos hds (x := vs) rfl (wpAny_pure ?_)))))))
  refine wpAny_bind (slicePart_ ps ?_)
  show wpAny _ _ (if ((-1 : Int) == 0) = true then _ else _) _ _ s
  rw [if_neg (by decide)]
  refine wpAny_bind (slicePart_ pl (wpAny_bind (slicePart_ pu (wpAny_bind (wpAny_pure ?_)))))
  show wpAny _ _ (match Builtin.Slice.sliceAdjust none none (-1) (n : Int) with | (lo, hi) => pure (lo, (-1 : Int), Builtin.Slice.slicePlaces lo hi (-1))) _ _ s
  have e1 : Builtin.Slice.sliceAdjust none none (-1) (n : Int) = ((n : Int) - 1, -1) := rfl
  have e2 : Builtin.Slice.slicePlaces ((n : Int) - 1) (-1) (-1) = n := by
    unfold Builtin.Slice.slicePlaces
    rw [if_neg (by decide)]
    have e3 : -(-1 : Int) = 1 := rfl
    rw [e3, Int.ediv_one]
    split <;> omega
  rw [e1]
  show wpAny _ _ (pure ((n : Int) - 1, (-1 : Int), Builtin.Slice.slicePlaces ((n : Int) - 1) (-1) (-1))) _ _ s
  rw [e2]
  exact wpAny_pure h
open HT in
theorem getItem_tuple_rev {t sl : Addr} {items : Array Value} {vl vu vs : Value} {Q : Value → Shared → Prop} (ht : IsTup s.heap t items) (hs : s.heap.IsSliceOf sl vl vu vs) (pl : IsPart vl none) (pu : IsPart vu none) (ps : IsPart vs (some (-1)))
    (h : Q (.ref s.heap.objs.size) { s with heap := s.heap.push { cls := .type "tuple", data := .seq items.toList.reverse.toArray } })
    (hsz : items.size ≤ sizeLine) : wpAny (model prog w) A (getItem (.ref t) (.ref sl)) Q E s := by
  have htake : sizeOk (.seq items.toList.reverse.toArray) := by
    show items.toList.reverse.toArray.size ≤ sizeLine
    rw [List.size_toArray, List.length_reverse, Array.length_toList]
    exact hsz
  obtain ⟨os, hos, hcs, hds⟩ := id hs
  have hTs : s.TypeIs (.ref sl) "slice" := ⟨os, hos, hcs⟩
  unfold getItem
  try with_reducible refine wpAny_holding ?_
  first | refine wpAny_bind (wpAny_pure ?_) | skip
  refine wpAny_bind (wpAny_sequenceKey ht.typeIs (by decide) ?_)
  refine wpAny_bind (wpAny_callSpecial?_slot (name := Str.ofString "__getitem__") ht.typeIs PyProof.Rows.slot_tuple_getitem
    (wpAny_call_entry PyProof.Rows.slot_tuple_getitem ht.typeIs entry_tuple_getitem ?_ (args_tuple_getitem _ _)))
  show wpAny _ _ (Builtin.Tuple.tupleItemsOf (.ref t) >>= _) _ _ s
  refine wpAny_bind (tupleItemsOf_ ht ?_)
  refine wpAny_bind (wpAny_typeOf hTs ?_)
  rw [if_pos (by decide)]
  refine wpAny_bind (sliceApplied_rev hs pl pu ps ?_)
  show wpAny _ _ (if (((items.size : Int) - 1) == 0 && (-1 : Int) == 1 && items.size == items.size) = true then _ else _) _ _ s
  have hno : ¬ ((((items.size : Int) - 1) == 0 && (-1 : Int) == 1 && items.size == items.size) = true) := by
    intro q
    rw [Bool.and_eq_true, Bool.and_eq_true] at q
    exact absurd q.1.2 (by decide)
  rw [if_neg hno, rev_get]
  first
    | exact wpAny_bind (m := Builtin.Tuple.tupleExact _) (wpAny_newObj_type (wpAny_pure ⟨_, rfl, wpAny_pure h⟩) htake)
    | exact wpAny_bind (m := Builtin.Tuple.tupleExact _) (wpAny_newObj_type (wpAny_bind (wpAny_pure (wpAny_pure ⟨_, rfl, wpAny_pure h⟩))) htake)
    | exact wpAny_bind (wpAny_bind (m := Builtin.Tuple.tupleExact _) (wpAny_newObj_type (wpAny_pure (wpAny_pure ⟨_, rfl, wpAny_pure h⟩)) htake))
    | exact wpAny_bind (wpAny_bind (m := Builtin.Tuple.tupleExact _) (wpAny_newObj_type (wpAny_pure ⟨_, rfl, wpAny_pure h⟩) htake))
end
/-- a[::-1] of a list or a tuple -/
def tRevA (K : PySem.W.Frag) (te : TE) : TE := fun σ H Q => te σ H fun x H1 => ∃ a xs, x = .ref a ∧ ((SqL K H1 a xs ∧ ∀ p, H1 p = none → Q (.ref p) (upd H1 p (.lst xs.reverse))) ∨ (SqT K H1 a xs ∧ ∀ p, H1 p = none → Q (.ref p) (upd H1 p (.tup xs.reverse))))
theorem pe_revA2 {e : Expr} {te : TE} {k : Nat} {p1 p2 p3 pos : Pos} (he : PE X e te) : PE X (.Subscript e (.Slice none none (some (.UnaryOp .USub (.Constant (.int 1) k p1) p2)) p3) pos) (tRevA X.K te) := by
  refine ⟨fun pins s σ H Q I h => ?_⟩
  refine Subscript_ (thn (he.run pins s σ H _ I h) fun v s1 ⟨x, H1, I1, r1, q1⟩ => ?_)
  obtain ⟨a, xs, ex, q⟩ := q1
  subst ex
  cases r1
  have hst : PO X (some (.UnaryOp .USub (.Constant (.int 1) k p1) p2)) (tPart (tUn (rU fun i => .int (-i)) (tC (.int 1)))) := po_some (pe_un un_neg pe_int)
  refine wpAny_Slice (thn (po_none.run pins s1 σ H1 (fun o H2 => o = none ∧ H2 = H1) I1 ⟨rfl, rfl⟩) fun vl s2 ⟨l, H2, I2, pl, el, e2⟩ => ?_)
  subst el e2
  refine thn (po_none.run pins s2 σ H2 (fun o H3 => o = none ∧ H3 = H2) I2 ⟨rfl, rfl⟩) fun vu s3 ⟨u, H3, I3, pu, eu, e3⟩ => ?_
  subst eu e3
  refine thn (hst.run pins s3 σ H3 (fun o H4 => o = some (-1) ∧ H4 = H3) I3 ⟨1, rfl, -1, rfl, rfl, rfl⟩) fun vs s4 ⟨o, H4, I4, ps, eo, e4⟩ => ?_
  subst eo e4
  have I5 : Inv X pins σ H4 { s4 with heap := s4.heap.push { cls := .type "slice", data := .fields #[vl, vu, vs] } } := I4.kept (t' := s4.toks) fun b ob q => Heap.get?_push_of_some _ q
  show wpAny (model X.prog X.w) X.A (subscriptTail e (.Slice none none (some (.UnaryOp .USub (.Constant (.int 1) k p1) p2)) p3) (.ref a) (.ref s4.heap.objs.size)) (EP X pins σ Q) X.xe { s4 with heap := s4.heap.push { cls := .type "slice", data := .fields #[vl, vu, vs] } }
  rcases q with ⟨hx, q⟩ | ⟨hx, q⟩
  · obtain ⟨its, r, ht, hz⟩ := I5.list hx
    have hlen := r.length
    refine tail_any (ops := [.ref a, .ref s4.heap.objs.size]) ht.isList.typeIs (PySem.slot_list_getitem.lookup) ?_ (by with_unfolding_all rfl)
    refine wpAny_getItem_list_slice ht.isList (Heap.IsSliceOf.new _ vl vu vs) pl pu ps (by decide) ?_ (by rw [List.size_toArray]; omega)
    rw [PySem.W.krv_pick]
    refine ⟨.ref _, _, I5.laid (t' := s4.toks) (o := .lst xs.reverse) (fun b ob q => Heap.get?_push_of_some _ q) (Nat.le_refl _) ?_, rfl, q _ (I5.hok.fresh (Nat.le_refl _))⟩
    exact ⟨by rw [List.length_reverse]; exact hz, _, 0, r.reverse, Heap.get?_push_size _ rfl⟩
  · obtain ⟨its, r, ht, hz⟩ := I5.tuple hx
    have hlen := r.length
    refine tail_any (ops := [.ref a, .ref s4.heap.objs.size]) ht.typeIs (PyProof.Rows.slot_tuple_getitem.lookup) ?_ (by with_unfolding_all rfl)
    refine getItem_tuple_rev ht (Heap.IsSliceOf.new _ vl vu vs) pl pu ps ?_ (by rw [List.size_toArray]; omega)
    refine ⟨.ref _, _, I5.laid (t' := s4.toks) (o := .tup xs.reverse) (fun b ob q => Heap.get?_push_of_some _ q) (Nat.le_refl _) ?_, rfl, q _ (I5.hok.fresh (Nat.le_refl _))⟩
    exact ⟨by rw [List.length_reverse]; exact hz, _, r.reverse, IsTup.new _ _⟩
theorem e_rev {a : Expr} {x : E} {j : Nat} {p1 p2 p3 pos : Pos} (hK : X.K = S.K) (ha : PE X a (dE S W (ev F x))) : PE X (.Subscript a (.Slice none none (some (.UnaryOp .USub (.Constant (.int 1) j p1) p2)) p3) pos) (dE S W (ev F (.rev x))) := by
  refine (pe_revA2 ha).imp fun σ H Q q => ?_
  obtain ⟨E, env, o, eo, p⟩ := q
  simp only [ev] at p
  refine ⟨E, env, o, eo, (PostG.split p).imp fun t F1 H1 s1 p1 v rv => ?_⟩
  cases t <;> first | exact p1.elim | skip
  · obtain ⟨a, vs, rfl, h1, l1, rs⟩ := rv
    exact ⟨a, vs, rfl, .inr ⟨hK ▸ s1.ok.sub.sqT (.inl (.inl h1)), Post.tup s1.ok rs.rev (by rw [List.length_reverse]; exact l1) fun v F' H' s r => p1 F' H' s v r⟩⟩
  · obtain ⟨a, vs, rfl, h1, l1, rs⟩ := rv
    exact ⟨a, vs, rfl, .inl ⟨hK ▸ (s1.ok.sub.la h1).sq, Post.lst s1.ok rs.rev (by rw [List.length_reverse]; exact l1) fun v F' H' s r => p1 F' H' s v r⟩⟩

/-! ### len -/
theorem Rep.len {H : Hp} {t : T} {x : V} {n : Int} (r : Rep S H t x) (e : lenT t = .ok (.int n)) : ∃ m : Nat, n = m ∧ LenV S.K x H m := by
  cases t with
  | lst ts =>
    cases e
    obtain ⟨a, vs, rfl, q, l, rs⟩ := r
    exact ⟨_, rfl, .inl ⟨vs, q.sq, rs.length⟩⟩
  | tup ts =>
    cases e
    obtain ⟨a, vs, rfl, q, l, rs⟩ := r
    exact ⟨_, rfl, .inr ⟨vs, .inl (.inl q), rs.length⟩⟩
  | str y =>
    simp only [lenT] at e
    split at e
    · rename_i hz
      cases e
      rw [show x = _ from r]
      exact ⟨_, rfl, sizeM hz, rfl⟩
    · cases e
  | _ => cases e
theorem lenT_int {t u : T} (e : lenT t = .ok u) : ∃ n, u = .int n := by
  cases t <;> first | (cases e; done) | (cases e; exact ⟨_, rfl⟩) | skip
  simp only [lenT] at e
  split at e <;> first | (cases e; done) | (cases e; exact ⟨_, rfl⟩)
theorem lenT_nx (t : T) (d : Nat) : lenT t ≠ .ex d := by
  cases t <;> first | (intro h; cases h; done) | (intro h; simp only [lenT] at h; split at h <;> cases h)
theorem e_len {a : Expr} {x : E} {p pos : Pos} (g : Good S c k X sc so) (hs : ∀ b q, a ≠ .Starred b q) (hg : glB sc "len" = true) (hm : S.mg "len" = none) (ha : PE X a (dB S W fun env => rdB env x (ev F x env))) :
    PE X (.Call (.Name "len" p) [a] [] pos) (dE S W (ev F (.len x))) := by
  refine (pe_callB call_len (glB_of (by rw [g.sc]; exact hg)) (by rw [g.hmg]; exact hm) PySem.boot_len (pa_cons ha pa_nil (star_cons hs)) (by decide) (by decide) (star_cons hs) rfl).imp fun σ H Q q => ?_
  obtain ⟨E, env, o, eo, p⟩ := q
  simp only [ev] at p
  refine ⟨E, env, o, eo, (PostG.split p).imp fun t F1 H1 s1 p1 v rv => ?_⟩
  cases e1 : lenT t with
  | ok u =>
    obtain ⟨n, rfl⟩ := lenT_int e1
    rw [e1] at p1
    obtain ⟨m, rfl, h2⟩ := rv.len e1
    exact ⟨v, m, rfl, g.hK ▸ h2, p1 F1 H1 (.refl s1.ok) _ rfl⟩
  | ex d => exact (lenT_nx _ _ e1).elim
  | no => rw [e1] at p1; exact p1.elim

/-! ### calls of own defs -/
/-- a def's promise: what the evaluator's def answers -/
def spF (S : Su) (F : Fns) (f : Nat) (n : Nat) : Sp := fun vs H Q E => vs.length = n ∧ ∃ F0 ts, Ok S F0 H ∧ Reps S F0 ts vs ∧
  match F f ts with
  | .ok t => ∀ v F' H', Step S F0 H F' H' → Rep S F' t v → Q v H'
  | .ex d => ∀ F' H', Step S F0 H F' H' → E (.ref (S.cA d)) none H'
  | .no => False
structure FnAt (S : Su) (F : Fns) (k : Nat) (x : Str) (f : Nat) : Prop where
  ex : ∃ (fd : FuncData) (ps : List Str), S.mg x = some (.ref (S.fA f)) ∧ PySem.W.keepIn S.K (.ref (S.fA f)) = true ∧ Binds S.K fd ps [] ∧ (∀ ts, F f ts ≠ .no → ts.length = ps.length) ∧
    FnOk S.P S.w S.K S.mg S.base (L2.CX S.P S.w) k (S.fA f) fd ps (spF S F f ps.length)
/-- an own exception class -/
structure ExAt (S : Su) (x : Str) (k : Nat) : Prop where
  mg : S.mg x = some (.ref (S.cA k))
  kp : PySem.W.keepIn S.K (.ref (S.cA k)) = true
  fx : ∃ (B newId initId : String) (bmB : List Value), ExcBaseFacts B newId initId bmB ∧ PySem.W.excIn S.K (S.cA k) bmB newId = true
  sb : PySem.W.subIn S.K (.ref (S.cA k)) (.type "BaseException") = some true
  ty : PySem.W.typeIn S.K (.ref (S.cA k)) = some (.type "type")
/-- a class that isinstance asks for, of exceptions -/
structure IsX (S : Su) (x : Str) (cs ns : List Nat) : Prop where
  ex : ∃ (v : V) (cv : Value), RelV v cv ∧ (∀ u, RelV v u → u = cv) ∧ (S.mg x = some cv ∨ (S.mg x = none ∧ bootBuiltins x = some cv)) ∧ ∀ k, ns.contains k = true → PySem.W.kitOne S.K (.ref (S.cA k)) cv = some (cs.contains k)
/-- a class that an except clause names -/
structure TrX (S : Su) (x : Str) (cs ns : List Nat) : Prop where
  ex : ∃ C, S.mg x = some (.ref C) ∧ ∀ k, ns.contains k = true → PySem.W.exmOne S.K (.ref (S.cA k)) (.ref C) = some (cs.contains k)
/-- what the module has -/
structure Glob (S : Su) (c : TC) (F : Fns) (k : Nat) : Prop where
  own : ∀ x f, c.gf.lookup x = some f → FnAt S F k x f
  cst : ∀ x t, c.gc.lookup x = some t → ∃ v u, S.mg x = some u ∧ RelV v u ∧ ∀ H, Rep S H t v
  blt : ∀ x, c.bl.contains x = true → S.mg x = none
  exc : ∀ x k, c.gx.lookup x = some k → ExAt S x k
  val : ∀ f, c.fvs.contains f = true → ∃ x, FnAt S F k x f
  isx : ∀ x cs, c.gs.lookup x = some cs → IsX S x cs c.gn
  trx : ∀ x cs, c.gt.lookup x = some cs → TrX S x cs c.gn
  exc' : ∀ k, c.gn.contains k = true → ExcC S.K (S.cA k)
theorem backTo_plain {env : Env} {pos : Pos} : ∀ {es : List Expr}, (∀ e ∈ es, ∀ a p, e ≠ .Starred a p) → (backTo pos (starEach es env)).any (·.1) = false
  | [], _ => rfl
  | e :: es, h => by
    rw [star_cons (h e (List.mem_cons_self ..))]
    have := backTo_plain (pos := pos) (env := env) (es := es) fun e he => h e (List.mem_cons_of_mem _ he)
    simpa [backTo] using this
theorem e_call {f : Nat} {x : Str} {e : Expr} {es : List Expr} {xs : List E} {p pos : Pos} (g : Good S c k X sc so) (tk : Takes X W) (hF : FnAt S F k x f) (hg : glB sc x = true) (hn : okName x = true)
    (hs : ∀ e' ∈ e :: es, ∀ a p, e' ≠ .Starred a p) (ha : PA X (e :: es) (dA S W (evs F xs))) : PE X (.Call (.Name x p) (e :: es) [] pos) (dE S W (ev F (.call f xs))) := by
  obtain ⟨fd, ps, h1, h2, h3, h5, h4⟩ := hF.ex
  have h4' : FnOk X.prog X.w X.K X.mg X.base (L2.CX X.prog X.w) k (S.fA f) fd ps (spF S F f ps.length) := by
    rw [g.hP, g.hw, g.hK, g.hmg, g.hb]; exact h4
  refine (pe_callS (E := WE W) h4' g.room (glB_of (by rw [g.sc]; exact hg)) (by rw [g.hmg]; exact h1) (by rw [g.hK]; exact h2) (by rw [g.hK]; exact h3) (fun σ => passAt tk σ) ha (okName_of hn).1
    (star_cons (hs e (List.mem_cons_self ..))) (backTo_plain fun e' he => hs e' (List.mem_cons_of_mem _ he))).imp fun σ H Q q => ?_
  obtain ⟨E, env, o, eo, p⟩ := q
  simp only [ev] at p
  refine ⟨E, env, o, eo, (PostG.split p).imp fun ts F1 H1 s1 p1 vs rs => ⟨?_, F1, ts, s1.ok, rs, ?_⟩⟩
  · rw [← rs.length]
    exact h5 ts fun z => by rw [z] at p1; exact p1.elim
  · cases e1 : F f ts with
    | ok t => rw [e1] at p1; exact fun v F' H' s r => p1 F' H' s v r
    | ex d => rw [e1] at p1; exact p1
    | no => rw [e1] at p1; exact p1
theorem vis_var {i : Nat} {x : Str} {pos : Pos} (g : Good S c k X sc so) (hv : visB sc x = true) (hn : okName x = true) (hi : ixOf x c.N 0 = some i) : PE X (.Name x pos) (tVar i) := by
  obtain ⟨n1, n2, _⟩ := okName_of hn
  exact pe_var (i := i) (by rw [g.hN]; exact ixOf_at hi) (visB_of (by rw [g.sc]; exact hv)) n1 n2

/-! ### a place of a thing that may be the frame's own -/
def rIxV (S : Su) : R2 := fun x y H Q => ∃ E t b u, Ok S E H ∧ (Rep S E t x ∨ ∃ a, x = .ref a ∧ Own S E H a t) ∧ Rep S E b y ∧ idxT t b = .ok u ∧ ∀ v F' H', Step S E H F' H' → Rep S F' u v → Q v H'
theorem x_idxV (hK : X.K = S.K) (hu : X.A.units + 1 < cLine) : IxR X (rIxV S) := by
  intro va sl pins s σ H x y v u Q I rx ry h hs
  obtain ⟨E, t, b, w, o, ra, rb, e, q⟩ := h
  rcases ra with ra | ⟨a, rfl, ra⟩
  · exact x_idx hK hu va sl pins s σ H x y v u Q I rx ry ⟨E, t, b, w, o, ra, rb, e, q⟩ hs
  · cases t with
    | lst ts =>
      cases b with
      | int i =>
        obtain ⟨vs, h1, _, rs⟩ := ra
        obtain ⟨z, h2, h3⟩ := atT_get rs e
        exact ix_list va sl pins s σ H _ y v u Q I rx ry ⟨a, vs, i, z, rfl, rb, hK ▸ La.sq (.inl (.inl h1)), h2, q z E H (.refl o) h3⟩ hs
      | _ => cases e
    | dct tk kvs =>
      simp only [idxT] at e
      split at e
      · rename_i hk
        split at e
        · rename_i t' ht
          cases e
          obtain ⟨L, h1, _, rd⟩ := ra
          obtain ⟨ov, g1, g2⟩ := dget_of h1 rd hk (rb.mono o.sub)
          rw [ht] at g2
          obtain ⟨z, rfl, hz⟩ := g2
          exact ix_dct hu va sl pins s σ H _ y v u Q I rx ry ⟨a, z, rfl, g1, q z E H (.refl o) hz⟩ hs
        · cases e
      · cases e
    | _ => exact ra.elim
theorem e_idxV {i : Nat} {w : Str} {b : Expr} {y : E} {wp pos : Pos} (g : Good S c k X sc so) (hv : visB sc w = true) (hn : okName w = true) (hi : ixOf w c.N 0 = some i) (hb' : isSl b = false) (hb : PE X b (dE S W (ev F y))) :
    PE X (.Subscript (.Name w wp) b pos) (dE S W (ev F (.idxV i y))) := by
  refine (pe_ix (x_idxV g.hK (by have := g.room.un; omega)) (vis_var g hv hn hi) hb (plainIx hb')).imp fun σ H Q q => ?_
  obtain ⟨E, env, o, eo, p⟩ := q
  simp only [ev] at p
  cases e0 : rdAny env i with
  | ex d => exact (rdAny_no e0).elim
  | no => rw [e0] at p; exact p.elim
  | ok t =>
    rw [e0] at p
    simp only [Res.bind] at p
    unfold Fz.rdAny at e0
    split at e0
    · rename_i u q1
      cases e0
      obtain ⟨v, h1, h2⟩ := eo.slot i _ q1
      refine ⟨v, h1, E, env, o, eo, (PostG.split p).imp fun u F1 H1 s1 p1 vb rb => ?_⟩
      cases e1 : idxT t u with
      | ok z => rw [e1] at p1; exact ⟨F1, t, u, z, s1.ok, .inl (h2.mono s1.ff), rb, e1, fun v F' H' s' r => p1 F' H' s' v r⟩
      | ex d => exact (idxT_nx _ _ _ e1).elim
      | no => rw [e1] at p1; exact p1.elim
    · rename_i u q1
      cases e0
      obtain ⟨a, h1, h2, h3⟩ := eo.slot i _ q1
      refine ⟨.ref a, h1, E, env, o, eo, (PostG.split p).imp fun u F1 H1 s1 p1 vb rb => ?_⟩
      obtain ⟨a', h1', _, h3'⟩ := (eo.step s1).slot i _ q1
      have ea : a' = a := by rw [h1] at h1'; cases h1'; rfl
      subst ea
      cases e1 : idxT t u with
      | ok z => rw [e1] at p1; exact ⟨F1, t, u, z, s1.ok, .inr ⟨_, rfl, h3'⟩, rb, e1, fun v F' H' s' r => p1 F' H' s' v r⟩
      | ex d => exact (idxT_nx _ _ _ e1).elim
      | no => rw [e1] at p1; exact p1.elim
    · cases e0
/-! ### calls of defs that are held as values -/
/-- what a def held as a value answers -/
theorem run_val {f : Nat} {x : Str} {fe : Expr} {fx : E} {e : Expr} {es : List Expr} {xs : List E} {pos : Pos} {fs : List Nat} (g : Good S c k X sc so) (tk : Takes X W) (G : Glob S c F k) (hf : PE X fe (dE S W (ev F fx)))
    (hs : ∀ e' ∈ e :: es, ∀ a p, e' ≠ .Starred a p) (ha : PA X (e :: es) (dA S W (evs F xs)))
    (he : ∀ Q (s : Shared), wpAny (model X.prog X.w) X.A (eval fe X.env) (fun f s1 => wpAny (model X.prog X.w) X.A (callWith pos f [] (backTo pos (starEach (e :: es) X.env)) (backToKw pos (keywordEach [] X.env))) Q X.xe s1) X.xe s → wpAny (model X.prog X.w) X.A (eval (.Call fe (e :: es) [] pos) X.env) Q X.xe s) :
    PE X (.Call fe (e :: es) [] pos) (dE S W (ev F (.callv fx xs c.fvs))) := by
  refine ⟨fun pins s σ H Q I q => ?_⟩
  obtain ⟨E, env, o, eo, p⟩ := q
  simp only [ev] at p
  refine he _ _ (thn (hf.run pins s σ H (fun v H1 => ∃ i F1, v = .ref (S.fA i) ∧ Ok S F1 H1 ∧ EnvOk S F1 H1 σ env ∧ PostG S W F1 H1 σ (if c.fvs.contains i then (evs F xs env).bind fun ts => F i ts else .no) fun t F' H' => ∀ v, Rep S F' t v → Q v H') I
    ⟨E, env, o, eo, (PostG.split p).imp fun t F1 H1 s1 p1 v rv => ?_⟩) fun u s1 ⟨v, H1, I1, r1, i, F1, hv, o1, eo1, p1⟩ => ?_)
  · cases t <;> first | exact p1.elim | skip
    exact ⟨_, F1, rv, s1.ok, eo.step s1, p1⟩
  · subst hv
    cases r1
    split at p1
    · rename_i hc
      obtain ⟨x', hF⟩ := G.val i hc
      obtain ⟨fd, ps, h1, h2, h3, h5, h4⟩ := hF.ex
      have h4' : FnOk X.prog X.w X.K X.mg X.base (L2.CX X.prog X.w) k (S.fA i) fd ps (spF S F i ps.length) := by
        rw [g.hP, g.hw, g.hK, g.hmg, g.hb]; exact h4
      refine PySem.W.callWith_K (h₀ := X.base) I1.ok.mod.kin (by rw [g.hK]; exact h2) (thn (ha.run pos pins s1 σ H1 (fun vs H2 => vs.length = ps.length ∧ ∃ F2 ts, Ok S F2 H2 ∧ Reps S F2 ts vs ∧ PostG S W F2 H2 σ (F i ts) fun t F' H' => ∀ v, Rep S F' t v → Q v H') I1
        ⟨F1, env, o1, eo1, (PostG.split p1).imp fun ts F2 H2 s2 p2 vs rs => ⟨?_, F2, ts, s2.ok, rs, p2⟩⟩) fun us s2 ⟨vs, H2, I2, r2, hl, F2, ts, o2, rs, p2⟩ => ⟨I2.kIn, ?_⟩)
        (star_cons (hs e (List.mem_cons_self ..))) (backTo_plain fun e' he => hs e' (List.mem_cons_of_mem _ he))
      · rw [← rs.length]
        exact h5 ts fun z => by rw [z] at p2; exact p2.elim
      · refine run_fnS (E := WE W) h4' g.room (by rw [g.hK]; exact h3) (passAt tk σ) I2 r2 ⟨hl, F2, ts, o2, rs, ?_⟩
        cases e1 : F i ts with
        | ok t => rw [e1] at p2; exact fun v F' H' s r => p2 F' H' s v r
        | ex d => rw [e1] at p2; exact p2
        | no => rw [e1] at p2; exact p2
    · exact p1.elim
theorem e_callvN {y : Str} {fx : E} {e : Expr} {es : List Expr} {xs : List E} {p pos : Pos} (g : Good S c k X sc so) (tk : Takes X W) (G : Glob S c F k) (hf : PE X (.Name y p) (dE S W (ev F fx)))
    (hs : ∀ e' ∈ e :: es, ∀ a p, e' ≠ .Starred a p) (ha : PA X (e :: es) (dA S W (evs F xs))) : PE X (.Call (.Name y p) (e :: es) [] pos) (dE S W (ev F (.callv fx xs c.fvs))) :=
  run_val (f := 0) (x := y) (fs := []) g tk G hf hs ha fun Q s h => wpAny_Call_Name_kw h
theorem e_callvS {a i : Expr} {fx : E} {e : Expr} {es : List Expr} {xs : List E} {p pos : Pos} (g : Good S c k X sc so) (tk : Takes X W) (G : Glob S c F k) (hf : PE X (.Subscript a i p) (dE S W (ev F fx)))
    (hs : ∀ e' ∈ e :: es, ∀ a p, e' ≠ .Starred a p) (ha : PA X (e :: es) (dA S W (evs F xs))) : PE X (.Call (.Subscript a i p) (e :: es) [] pos) (dE S W (ev F (.callv fx xs c.fvs))) :=
  run_val (f := 0) (x := "") (fs := []) g tk G hf hs ha fun Q s h => by rw [fz_eval_call_sub]; exact wpAny_bind h

/-! ### dicts -/
theorem n_dnew {tk : Bool} {pos : Pos} : PE X (.Dict [] [] pos) (dN S W (ev F (.dnew tk))) := by
  have key : ∀ (H : Hp) (Q : VK) (E : Hp) (env : Cells) (σ : St), Ok S E H → (PostG S W E H σ (ev F (.dnew tk) env) fun t F' H' => ∀ a, H a = none → F' a = none → Own S F' H' a t → Q (.ref a) H') → ∀ p, H p = none → Q (.ref p) (upd H p (dctO tk [])) := by
    intro H Q E env σ o p a ha
    simp only [ev] at p
    exact p E _ (.newR o ha) a ha (o.sub.none ha) ⟨[], upd_same, Nat.zero_le _, rfl⟩
  cases tk with
  | false => exact pe_dnewK.imp fun σ H Q q => by obtain ⟨E, env, o, eo, p⟩ := q; exact key H Q E env σ o p
  | true => exact pe_dnewT.imp fun σ H Q q => by obtain ⟨E, env, o, eo, p⟩ := q; exact key H Q E env σ o p
/-- a dict that a name holds, the frame's own or going on -/
theorem EnvOk.dct {E H : Hp} {σ : St} {env : Cells} {i : Nat} {tk : Bool} {kvs : List (T × T)} (o : Ok S E H) (e : EnvOk S E H σ env) (h : Fz.rdAny env i = .ok (.dct tk kvs)) : ∃ a L, σ[i]? = some (some (.ref a)) ∧ H a = some (dctO tk L) ∧ RepD S E tk kvs L := by
  unfold Fz.rdAny at h
  split at h
  · rename_i u q
    cases h
    obtain ⟨v, h1, a, L, rfl, h2, _, h3⟩ := e.slot i _ q
    exact ⟨a, L, h1, o.sub _ _ h2, h3⟩
  · rename_i u q
    cases h
    obtain ⟨a, h1, h2, L, g1, g2, g3⟩ := e.slot i _ q
    exact ⟨a, L, h1, g1, g3⟩
  · cases h
theorem e_get2 {i : Nat} {w : Str} {ea eb : Expr} {y z : E} {wp ap cp : Pos} (g : Good S c k X sc so) (hv : visB sc w = true) (hn : okName w = true) (hi : ixOf w c.N 0 = some i) (hl : (ap.endLine == cp.line) = true)
    (hs1 : ∀ a p, ea ≠ .Starred a p) (hs2 : ∀ a p, eb ≠ .Starred a p) (ha : PE X ea (dE S W (ev F y))) (hb : PE X eb (dE S W (ev F z))) : PE X (.Call (.Attribute (.Name w wp) "get" ap) [ea, eb] [] cp) (dE S W (ev F (.get2 (.var i) y z))) := by
  have hun := g.room.un
  have st : starEach [ea, eb] X.env = [(false, eval ea X.env), (false, eval eb X.env)] := by rw [star_cons hs1, star_cons hs2]; rfl
  refine (pe_dget2 (by omega) (vis_var g hv hn hi) ha hb ⟨rfl, by rw [st]; rfl, hl, by rw [st]; rfl⟩).imp fun σ H Q q => ?_
  obtain ⟨E, env, o, eo, p⟩ := q
  simp only [ev] at p
  change PostG S W E H σ ((rdAny env i).bind _) _ at p
  cases e0 : rdAny env i with
  | ex d => exact (rdAny_no e0).elim
  | no => rw [e0] at p; exact p.elim
  | ok t =>
    rw [e0] at p
    simp only [Res.bind] at p
    cases t <;> first | exact p.elim | skip
    rename_i tk kvs
    obtain ⟨a, L, h1, h2, h3⟩ := eo.dct o e0
    refine ⟨.ref a, h1, a, rfl, isD_of h2, E, env, o, eo, (PostG.split p).imp fun u F1 H1 s1 p1 v rv => ⟨F1, env, s1.ok, eo.step s1, (PostG.split p1).imp fun u2 F2 H2 s2 p2 v2 rv2 => ?_⟩⟩
    split at p2
    · rename_i hk
      have s12 := s1.trans s2
      obtain ⟨ov, g1, g2⟩ := dget_of (s12.hh.at h2 (dctO_nt tk L)) (h3.mono s12.ff) hk ((rv.mono s2.ff).mono s2.ok.sub)
      refine ⟨ov, g1, p2 F2 H2 (.refl s2.ok) _ ?_⟩
      cases e5 : getD kvs u with
      | some t' =>
        rw [e5] at g2
        obtain ⟨w', rfl, hw⟩ := g2
        exact hw
      | none =>
        rw [e5] at g2
        subst g2
        exact rv2
    · exact p2.elim
end
end Fz

/-! built-ins, targets -/
namespace Fz
open PySem PySem.Spec L2
open PyProof.Rows hiding St

variable {S : Su}
theorem intsT_vals {H : Hp} : ∀ {ts : List T} {vs : List V} {ns : List Int}, Reps S H ts vs → intsT ts = some ns → vs = ns.map V.int
  | [], _, _, r, e => by cases e; exact r
  | t :: ts, _, _, r, e => by
    obtain ⟨v, w, rfl, r1, r2⟩ := r
    cases t <;> first | cases e; done | skip
    simp only [intsT] at e
    cases e1 : intsT ts with
    | none => rw [e1] at e; cases e
    | some ms =>
      rw [e1] at e
      cases e
      rw [intsT_vals r2 e1, show v = _ from r1]
      rfl
theorem boolsT_vals {H : Hp} : ∀ {ts : List T} {vs : List V} {ns : List Bool}, Reps S H ts vs → boolsT ts = some ns → vs = ns.map V.bl
  | [], _, _, r, e => by cases e; exact r
  | t :: ts, _, _, r, e => by
    obtain ⟨v, w, rfl, r1, r2⟩ := r
    cases t <;> first | cases e; done | skip
    simp only [boolsT] at e
    cases e1 : boolsT ts with
    | none => rw [e1] at e; cases e
    | some ms =>
      rw [e1] at e
      cases e
      rw [boolsT_vals r2 e1, show v = _ from r1]
      rfl
section
variable {X : Cx} {W : WX} {F : Fns} {c : TC} {sc so : Scope} {k : Nat}
theorem k_abs : CallR X (.builtin "abs") (rBl S (bltT .abs)) := by
  intro pins s σ H vs us Q I r h
  obtain ⟨E, ts, t, o, rs, e, q⟩ := h
  rcases ts with _ | ⟨a, _ | ⟨b, ts⟩⟩ <;> first | cases e; done | skip
  · cases a <;> first | cases e; done | skip
    cases e
    obtain ⟨v, w, rfl, r1, rfl⟩ := rs
    exact call_abs pins s σ H _ us Q I r ⟨_, by rw [show v = _ from r1], q _ E H (.refl o) rfl⟩
  · cases a <;> cases e
theorem k_max2 (hc : X.calm = true) : CallR X (.builtin "max") (rBl S (bltT .max2)) := by
  intro pins s σ H vs us Q I r h
  obtain ⟨E, ts, t, o, rs, e, q⟩ := h
  rcases ts with _ | ⟨a, _ | ⟨b, _ | ⟨d, ts⟩⟩⟩ <;> first | cases e; done | skip
  · cases a <;> cases e
  · cases a <;> cases b <;> first | cases e; done | skip
    cases e
    obtain ⟨v, w, rfl, r1, v2, w2, rfl, r2, rfl⟩ := rs
    exact call_max2 hc pins s σ H _ us Q I r ⟨_, _, by rw [show v = _ from r1, show v2 = _ from r2], q _ E H (.refl o) rfl⟩
  · cases a <;> cases b <;> cases e
theorem k_min2 (hc : X.calm = true) : CallR X (.builtin "min") (rBl S (bltT .min2)) := by
  intro pins s σ H vs us Q I r h
  obtain ⟨E, ts, t, o, rs, e, q⟩ := h
  rcases ts with _ | ⟨a, _ | ⟨b, _ | ⟨d, ts⟩⟩⟩ <;> first | cases e; done | skip
  · cases a <;> cases e
  · cases a <;> cases b <;> first | cases e; done | skip
    cases e
    obtain ⟨v, w, rfl, r1, v2, w2, rfl, r2, rfl⟩ := rs
    exact call_min2 hc pins s σ H _ us Q I r ⟨_, _, by rw [show v = _ from r1, show v2 = _ from r2], q _ E H (.refl o) rfl⟩
  · cases a <;> cases b <;> cases e
theorem maxI_spec : ∀ (ns : List Int) (m : Int), maxI ns m ∈ m :: ns ∧ ∀ y ∈ m :: ns, y ≤ maxI ns m
  | [], m => ⟨List.mem_singleton.mpr rfl, fun y h => by rw [List.mem_singleton.mp h]; exact Int.le_refl _⟩
  | x :: r, m => by
    unfold maxI
    obtain ⟨h1, h2⟩ := maxI_spec r (if x > m then x else m)
    generalize maxI r (if x > m then x else m) = z at h1 h2
    have h3 := h2 _ (List.mem_cons_self ..)
    refine ⟨?_, fun y hy => ?_⟩
    · rcases List.mem_cons.mp h1 with e | e
      · rw [e]
        split
        · simp
        · simp
      · simp [e]
    · rcases List.mem_cons.mp hy with rfl | hy
      · split at h3 <;> omega
      · rcases List.mem_cons.mp hy with rfl | hy
        · split at h3 <;> omega
        · exact h2 y (List.mem_cons_of_mem _ hy)
theorem k_max1 (hK : X.K = S.K) (hc : X.calm = true) : CallR X (.builtin "max") (rBl S (bltT .max1)) := by
  intro pins s σ H vs us Q I r h
  obtain ⟨E, ts, t, o, rs, e, q⟩ := h
  rcases ts with _ | ⟨a, _ | ⟨b, ts⟩⟩ <;> first | cases e; done | skip
  · cases a <;> first | cases e; done | skip
    rename_i xs
    simp only [bltT] at e
    split at e
    · rename_i n ns e1
      cases e
      obtain ⟨v, w, rfl, ⟨p, ws, rfl, h1, l1, r2⟩, rfl⟩ := rs
      obtain ⟨m1, m2⟩ := maxI_spec ns n
      refine cr_max hc pins s σ H _ us Q I r ⟨p, n :: ns, rfl, (by rw [← intsT_vals r2 e1]; exact hK ▸ (o.sub.la h1).sq), by simp, fun m hm hy => ?_⟩
      have : m = maxI ns n := Int.le_antisymm (m2 m hm) (hy _ m1)
      rw [this]
      exact q _ E H (.refl o) rfl
    · cases e
  · cases a <;> cases e
theorem minI_spec : ∀ (ns : List Int) (m : Int), minI ns m ∈ m :: ns ∧ ∀ y ∈ m :: ns, minI ns m ≤ y
  | [], m => ⟨List.mem_singleton.mpr rfl, fun y h => by rw [List.mem_singleton.mp h]; exact Int.le_refl _⟩
  | x :: r, m => by
    unfold minI
    obtain ⟨h1, h2⟩ := minI_spec r (if x < m then x else m)
    generalize minI r (if x < m then x else m) = z at h1 h2
    have h3 := h2 _ (List.mem_cons_self ..)
    refine ⟨?_, fun y hy => ?_⟩
    · rcases List.mem_cons.mp h1 with e | e
      · rw [e]
        split
        · simp
        · simp
      · simp [e]
    · rcases List.mem_cons.mp hy with rfl | hy
      · split at h3 <;> omega
      · rcases List.mem_cons.mp hy with rfl | hy
        · split at h3 <;> omega
        · exact h2 y (List.mem_cons_of_mem _ hy)
theorem k_min1 (hK : X.K = S.K) (hc : X.calm = true) : CallR X (.builtin "min") (rBl S (bltT .min1)) := by
  intro pins s σ H vs us Q I r h
  obtain ⟨E, ts, t, o, rs, e, q⟩ := h
  rcases ts with _ | ⟨a, _ | ⟨b, ts⟩⟩ <;> first | cases e; done | skip
  · cases a <;> first | cases e; done | skip
    rename_i xs
    simp only [bltT] at e
    split at e
    · rename_i n ns e1
      cases e
      obtain ⟨v, w, rfl, ⟨p, ws, rfl, h1, l1, r2⟩, rfl⟩ := rs
      obtain ⟨m1, m2⟩ := minI_spec ns n
      refine cr_min hc pins s σ H _ us Q I r ⟨p, n :: ns, rfl, (by rw [← intsT_vals r2 e1]; exact hK ▸ (o.sub.la h1).sq), by simp, fun m hm hy => ?_⟩
      have : m = minI ns n := Int.le_antisymm (hy _ m1) (m2 m hm)
      rw [this]
      exact q _ E H (.refl o) rfl
    · cases e
  · cases a <;> cases e
theorem k_sum (hK : X.K = S.K) (hc : X.calm = true) : CallR X (.builtin "sum") (rBl S (bltT .sum)) := by
  intro pins s σ H vs us Q I r h
  obtain ⟨E, ts, t, o, rs, e, q⟩ := h
  rcases ts with _ | ⟨a, _ | ⟨b, ts⟩⟩ <;> first | cases e; done | skip
  · cases a <;> first | cases e; done | skip
    rename_i xs
    simp only [bltT] at e
    cases e1 : intsT xs with
    | none => rw [e1] at e; cases e
    | some ns =>
      rw [e1] at e
      cases e
      obtain ⟨v, w, rfl, ⟨p, ws, rfl, h1, _, r2⟩, rfl⟩ := rs
      exact cr_sum hc pins s σ H _ us Q I r ⟨p, ns, rfl, (by rw [← intsT_vals r2 e1]; exact hK ▸ (o.sub.la h1).sq), q _ E H (.refl o) rfl⟩
  · cases a <;> cases e
theorem k_all (hK : X.K = S.K) (hc : X.calm = true) : CallR X (.builtin "all") (rBl S (bltT .all)) := by
  intro pins s σ H vs us Q I r h
  obtain ⟨E, ts, t, o, rs, e, q⟩ := h
  rcases ts with _ | ⟨a, _ | ⟨b, ts⟩⟩ <;> first | cases e; done | skip
  · cases a <;> first | cases e; done | skip
    rename_i xs
    simp only [bltT] at e
    cases e1 : boolsT xs with
    | none => rw [e1] at e; cases e
    | some ns =>
      rw [e1] at e
      cases e
      obtain ⟨v, w, rfl, ⟨p, ws, rfl, h1, _, r2⟩, rfl⟩ := rs
      exact cr_all hc pins s σ H _ us Q I r ⟨p, ns, rfl, (by rw [← boolsT_vals r2 e1]; exact hK ▸ (o.sub.la h1).sq), q _ E H (.refl o) rfl⟩
  · cases a <;> cases e
theorem k_any (hK : X.K = S.K) (hc : X.calm = true) : CallR X (.builtin "any") (rBl S (bltT .any)) := by
  intro pins s σ H vs us Q I r h
  obtain ⟨E, ts, t, o, rs, e, q⟩ := h
  rcases ts with _ | ⟨a, _ | ⟨b, ts⟩⟩ <;> first | cases e; done | skip
  · cases a <;> first | cases e; done | skip
    rename_i xs
    simp only [bltT] at e
    cases e1 : boolsT xs with
    | none => rw [e1] at e; cases e
    | some ns =>
      rw [e1] at e
      cases e
      obtain ⟨v, w, rfl, ⟨p, ws, rfl, h1, _, r2⟩, rfl⟩ := rs
      exact cr_any hc pins s σ H _ us Q I r ⟨p, ns, rfl, (by rw [← boolsT_vals r2 e1]; exact hK ▸ (o.sub.la h1).sq), q _ E H (.refl o) rfl⟩
  · cases a <;> cases e
theorem k_int : CallR X (.type "int") (rBl S (bltT .int)) := by
  intro pins s σ H vs us Q I r h
  obtain ⟨E, ts, t, o, rs, e, q⟩ := h
  rcases ts with _ | ⟨a, _ | ⟨b, ts⟩⟩ <;> first | cases e; done | skip
  · cases a <;> first | cases e; done | skip
    · cases e
      obtain ⟨v, w, rfl, r1, rfl⟩ := rs
      exact call_int1 pins s σ H _ us Q I r (.inr ⟨_, by rw [show v = _ from r1], q _ E H (.refl o) rfl⟩)
    · cases e
      obtain ⟨v, w, rfl, r1, rfl⟩ := rs
      exact call_int1 pins s σ H _ us Q I r (.inl ⟨_, by rw [show v = _ from r1], q _ E H (.refl o) rfl⟩)
  · cases a <;> cases e
theorem k_str : CallR X (.type "str") (rBl S (bltT .str)) := by
  intro pins s σ H vs us Q I r h
  obtain ⟨E, ts, t, o, rs, e, q⟩ := h
  rcases ts with _ | ⟨a, _ | ⟨b, ts⟩⟩ <;> first | cases e; done | skip
  · cases a <;> first | cases e; done | skip
    simp only [bltT] at e
    split at e
    · rename_i hz
      cases e
      obtain ⟨v, w, rfl, r1, rfl⟩ := rs
      exact call_str_int pins s σ H _ us Q I r ⟨_, by rw [show v = _ from r1], Nat.lt_trans (PySem.Flt.log2_lt_of (by decide) hz) (by decide), q _ E H (.refl o) rfl⟩
    · cases e
  · cases a <;> cases e
theorem k_tuple (hK : X.K = S.K) : CallR X (.type "tuple") (rBl S (bltT .tuple)) := by
  intro pins s σ H vs us Q I r h
  obtain ⟨E, ts, t, o, rs, e, q⟩ := h
  rcases ts with _ | ⟨a, _ | ⟨b, ts⟩⟩ <;> first | cases e; done | skip
  · cases a <;> first | cases e; done | skip
    · cases e
      obtain ⟨v, w, rfl, ⟨p, ws, rfl, h1, l1, r2⟩, rfl⟩ := rs
      exact call_tuple_of pins s σ H _ us Q I r ⟨p, ws, rfl, .inr ⟨hK ▸ o.sub.sqT (.inl (.inl h1)), q _ E H (.refl o) ⟨p, ws, rfl, h1, l1, r2⟩⟩⟩
    · cases e
      obtain ⟨v, w, rfl, ⟨p, ws, rfl, h1, l1, r2⟩, rfl⟩ := rs
      exact call_tuple_of pins s σ H _ us Q I r ⟨p, ws, rfl, .inl ⟨hK ▸ (o.sub.la h1).sq, Post.tup o r2 l1 q⟩⟩
  · cases a <;> cases e
/-- list(..): the frame's own, or going on -/
def rBn (S : Su) (g : List T → Res T) : List V → Hp → VK → Prop := fun vs H Q => ∃ E ts t, Ok S E H ∧ Reps S E ts vs ∧ g ts = .ok t ∧ ∀ F' H', Step S E H F' H' → ∀ a, H a = none → F' a = none → Own S F' H' a t → Q (.ref a) H'
theorem k_list (hK : X.K = S.K) : CallR X (.type "list") (rBn S (bltT .list)) := by
  intro pins s σ H vs us Q I r h
  obtain ⟨E, ts, t, o, rs, e, q⟩ := h
  rcases ts with _ | ⟨a, _ | ⟨b, ts⟩⟩ <;> first | cases e; done | skip
  · cases a <;> first | cases e; done | skip
    · cases e
      obtain ⟨v, w, rfl, ⟨p, ws, rfl, h1, l1, r2⟩, rfl⟩ := rs
      exact call_list_of pins s σ H _ us Q I r ⟨p, ws, rfl, .inr (hK ▸ o.sub.sqT (.inl (.inl h1))), Post.own o r2 l1 (.refl _) q⟩
    · cases e
      obtain ⟨v, w, rfl, ⟨p, ws, rfl, h1, l1, r2⟩, rfl⟩ := rs
      exact call_list_of pins s σ H _ us Q I r ⟨p, ws, rfl, .inl (hK ▸ (o.sub.la h1).sq), Post.own o r2 l1 (.refl _) q⟩
  · cases a <;> cases e
theorem pairsD_nx (tk : Bool) : ∀ (ps : List T) (m : List (T × T)) (d : Nat), pairsD tk ps m ≠ .ex d := by
  intro ps
  induction ps with
  | nil => intro m d h; cases h
  | cons p ps ih =>
    intro m d h
    unfold pairsD at h
    split at h
    · cases h
    · rename_i k v r m' e
      cases e
      split at h
      · exact ih _ _ h
      · cases h
    · cases h
theorem bltT_nx (b : Blt) (ts : List T) (d : Nat) : bltT b ts ≠ .ex d := by
  unfold bltT
  split <;> first
    | (intro h; cases h; done)
    | (split <;> first | (intro h; cases h; done) | (split <;> intro h <;> cases h; done))
    | (rename_i tk ps; intro h; cases e : pairsD tk ps [] with
        | ok m => rw [e] at h; cases h
        | ex d' => exact pairsD_nx _ _ _ _ e
        | no => rw [e] at h; cases h)
theorem impB {xs : List E} {b : Blt} {σ : St} {H : Hp} {Q : VK} (q : dE S W (ev F (.blt b xs)) σ H Q) : tCB (rBl S (bltT b)) (dA S W (evs F xs)) σ H Q := by
  obtain ⟨E, env, o, eo, p⟩ := q
  simp only [ev] at p
  refine ⟨E, env, o, eo, (PostG.split p).imp fun ts F1 H1 s1 p1 vs rs => ?_⟩
  cases e1 : bltT b ts with
  | ok u => rw [e1] at p1; exact ⟨F1, ts, u, s1.ok, rs, e1, fun v F' H' s r => p1 F' H' s v r⟩
  | ex d => exact (bltT_nx _ _ _ e1).elim
  | no => rw [e1] at p1; exact p1.elim
theorem impN {xs : List E} {b : Blt} {σ : St} {H : Hp} {Q : VK} (q : dN S W (ev F (.blt b xs)) σ H Q) : tCB (rBn S (bltT b)) (dA S W (evs F xs)) σ H Q := by
  obtain ⟨E, env, o, eo, p⟩ := q
  simp only [ev] at p
  refine ⟨E, env, o, eo, (PostG.split p).imp fun ts F1 H1 s1 p1 vs rs => ?_⟩
  cases e1 : bltT b ts with
  | ok u => rw [e1] at p1; exact ⟨F1, ts, u, s1.ok, rs, e1, fun F' H' s a ha hF ow => p1 F' H' s a (s1.hh.none ha) hF ow⟩
  | ex d => exact (bltT_nx _ _ _ e1).elim
  | no => rw [e1] at p1; exact p1.elim
theorem n_list {x : Str} {e : Expr} {es : List Expr} {xs : List E} {p pos : Pos} (g : Good S c k X sc so) (hx : x = "list") (hg : glB sc x = true) (hm : S.mg x = none) (hs : ∀ e' ∈ e :: es, ∀ a p, e' ≠ .Starred a p) (ha : PA X (e :: es) (dA S W (evs F xs))) :
    PE X (.Call (.Name x p) (e :: es) [] pos) (dN S W (ev F (.blt .list xs))) := by
  subst hx
  exact (pe_callTy (k_list g.hK) (glB_of (by rw [g.sc]; exact hg)) (by rw [g.hmg]; exact hm) PyProof.Rows.boot_list ha (by decide) (by decide) (star_cons (hs e (List.mem_cons_self ..))) (backTo_plain fun e' he => hs e' (List.mem_cons_of_mem _ he))).imp fun σ H Q q => impN q
theorem e_blt {x : Str} {b : Blt} {n : Nat} {e : Expr} {es : List Expr} {xs : List E} {p pos : Pos} (g : Good S c k X sc so) (hb : trBlt x n = some b) (hg : glB sc x = true) (hm : S.mg x = none) (hs : ∀ e' ∈ e :: es, ∀ a p, e' ≠ .Starred a p) (ha : PA X (e :: es) (dA S W (evs F xs))) :
    PE X (.Call (.Name x p) (e :: es) [] pos) (dE S W (ev F (.blt b xs))) := by
  have gl : Gl X x := glB_of (by rw [g.sc]; exact hg)
  have mg : X.mg x = none := by rw [g.hmg]; exact hm
  have s1 := star_cons (env := X.env) (es := es) (hs e (List.mem_cons_self ..))
  have s2 := backTo_plain (pos := pos) (env := X.env) fun e' he => hs e' (List.mem_cons_of_mem _ he)
  unfold trBlt at hb
  by_cases h : x = "abs" ∧ n = 1
  · rw [if_pos h] at hb
    cases hb
    obtain ⟨rfl, _⟩ := h
    exact (pe_callB k_abs gl mg PyProof.Rows.boot_abs ha (by decide) (by decide) s1 s2).imp fun σ H Q q => impB q
  rw [if_neg h] at hb
  clear h
  by_cases h : x = "max" ∧ n = 2
  · rw [if_pos h] at hb
    cases hb
    obtain ⟨rfl, _⟩ := h
    exact (pe_callB (k_max2 g.calm) gl mg PyProof.Rows.boot_max ha (by decide) (by decide) s1 s2).imp fun σ H Q q => impB q
  rw [if_neg h] at hb
  clear h
  by_cases h : x = "min" ∧ n = 2
  · rw [if_pos h] at hb
    cases hb
    obtain ⟨rfl, _⟩ := h
    exact (pe_callB (k_min2 g.calm) gl mg PyProof.Rows.boot_min ha (by decide) (by decide) s1 s2).imp fun σ H Q q => impB q
  rw [if_neg h] at hb
  clear h
  by_cases h : x = "max" ∧ n = 1
  · rw [if_pos h] at hb
    cases hb
    obtain ⟨rfl, _⟩ := h
    exact (pe_callB (k_max1 g.hK g.calm) gl mg PyProof.Rows.boot_max ha (by decide) (by decide) s1 s2).imp fun σ H Q q => impB q
  rw [if_neg h] at hb
  clear h
  by_cases h : x = "min" ∧ n = 1
  · rw [if_pos h] at hb
    cases hb
    obtain ⟨rfl, _⟩ := h
    exact (pe_callB (k_min1 g.hK g.calm) gl mg PyProof.Rows.boot_min ha (by decide) (by decide) s1 s2).imp fun σ H Q q => impB q
  rw [if_neg h] at hb
  clear h
  by_cases h : x = "sum" ∧ n = 1
  · rw [if_pos h] at hb
    cases hb
    obtain ⟨rfl, _⟩ := h
    exact (pe_callB (k_sum g.hK g.calm) gl mg PyProof.Rows.boot_sum ha (by decide) (by decide) s1 s2).imp fun σ H Q q => impB q
  rw [if_neg h] at hb
  clear h
  by_cases h : x = "all" ∧ n = 1
  · rw [if_pos h] at hb
    cases hb
    obtain ⟨rfl, _⟩ := h
    exact (pe_callB (k_all g.hK g.calm) gl mg PyProof.Rows.boot_all ha (by decide) (by decide) s1 s2).imp fun σ H Q q => impB q
  rw [if_neg h] at hb
  clear h
  by_cases h : x = "any" ∧ n = 1
  · rw [if_pos h] at hb
    cases hb
    obtain ⟨rfl, _⟩ := h
    exact (pe_callB (k_any g.hK g.calm) gl mg PyProof.Rows.boot_any ha (by decide) (by decide) s1 s2).imp fun σ H Q q => impB q
  rw [if_neg h] at hb
  clear h
  by_cases h : x = "list" ∧ n = 1
  · rw [if_pos h] at hb
    cases hb
    obtain ⟨rfl, _⟩ := h
    exact dE_of_dN (n_list g rfl hg hm hs ha)
  rw [if_neg h] at hb
  clear h
  by_cases h : x = "tuple" ∧ n = 1
  · rw [if_pos h] at hb
    cases hb
    obtain ⟨rfl, _⟩ := h
    exact (pe_callTy (k_tuple g.hK) gl mg PyProof.Rows.boot_tuple ha (by decide) (by decide) s1 s2).imp fun σ H Q q => impB q
  rw [if_neg h] at hb
  clear h
  by_cases h : x = "int" ∧ n = 1
  · rw [if_pos h] at hb
    cases hb
    obtain ⟨rfl, _⟩ := h
    exact (pe_callTy k_int gl mg PyProof.Rows.boot_int ha (by decide) (by decide) s1 s2).imp fun σ H Q q => impB q
  rw [if_neg h] at hb
  clear h
  by_cases h : x = "str" ∧ n = 1
  · rw [if_pos h] at hb
    cases hb
    obtain ⟨rfl, _⟩ := h
    exact (pe_callTy k_str gl mg PyProof.Rows.boot_str ha (by decide) (by decide) s1 s2).imp fun σ H Q q => impB q
  rw [if_neg h] at hb
  clear h
  by_cases h : x = "sorted" ∧ n = 1
  · rw [if_pos h] at hb
    cases hb
    obtain ⟨rfl, _⟩ := h
    exact (pe_callB (k_sorted g.hK g.room) gl mg (by decide +kernel) ha (by decide) (by decide) s1 s2).imp fun σ H Q q => impB q
  rw [if_neg h] at hb
  clear h
  cases hb
end
end Fz

/-! isinstance, targets, what is walked -/
namespace Fz
open PySem PySem.Spec L2
open PyProof.Rows hiding St

variable {S : Su}
section
variable {X : Cx} {W : WX} {F : Fns} {c : TC} {sc so : Scope} {k : Nat}
/-! ### isinstance against a built-in class -/
def tyT : T → Option String
  | .non => some "NoneType"
  | .bl _ => some "bool"
  | .int _ => some "int"
  | .str _ => some "str"
  | .tup _ => some "tuple"
  | .lst _ => some "list"
  | _ => none
theorem Rep.ty {H : Hp} {t : T} {v : V} {n : String} (r : Rep S H t v) (e : tyT t = some n) : TyX S.K H v (.type n) := by
  cases t with
  | non => cases e; rw [show v = _ from r]; exact .base .non
  | bl b => cases e; rw [show v = _ from r]; exact .base (.bl b)
  | int i => cases e; rw [show v = _ from r]; exact .base (.int i)
  | str x => cases e; rw [show v = _ from r]; exact .base (.str x)
  | tup ts =>
    cases e
    obtain ⟨a, vs, rfl, q, _⟩ := r
    exact .base (.tup q)
  | lst ts =>
    cases e
    obtain ⟨a, vs, rfl, q, _⟩ := r
    rcases q with (q | ⟨o, q⟩) | ⟨its, n, q, _⟩
    · exact .base (.lst q)
    · exact .base (.frz q)
    · exact .kList q rfl
  | _ => cases e
/-- the class that a built-in isinstance asks for -/
def isiCls : Blt → Option String
  | .isInt => some "int"
  | .isBool => some "bool"
  | .isTuple => some "tuple"
  | .isStr => some "str"
  | .isList => some "list"
  | _ => none
theorem isi_kit {b : Blt} {n : String} {t u : T} (hb : isiCls b = some n) (e : bltT b [t] = .ok u) : ∃ m r, tyT t = some m ∧ u = .bl r ∧ kitB m n = some r := by
  cases b <;> first | cases hb; done | skip
  all_goals
    cases hb
    cases t <;> first
      | (cases e; done)
      | (cases e; exact ⟨_, _, rfl, rfl, by decide +kernel⟩)
theorem e_isi {b : Blt} {n : String} {x : Str} {a : Expr} {y : E} {p p2 pos : Pos} (g : Good S c k X sc so) (hb : isiCls b = some n) (hx : bootBuiltins x = some (.type n)) (hn : okName x = true) (hgx : glB sc x = true) (hmx : S.mg x = none)
    (hg : glB sc "isinstance" = true) (hm : S.mg "isinstance" = none) (hs : ∀ b q, a ≠ .Starred b q) (ha : PE X a (dE S W (ev F y))) : PE X (.Call (.Name "isinstance" p) [a, .Name x p2] [] pos) (dE S W (ev F (.blt b [y]))) := by
  have hv : PE X (.Name x p2) (tC (.ty n)) := pe_bltn (glB_of (by rw [g.sc]; exact hgx)) (by rw [g.hmg]; exact hmx) hx rfl (okName_of hn).2.2 (okName_of hn).1
  refine (pe_callB call_isi (glB_of (by rw [g.sc]; exact hg)) (by rw [g.hmg]; exact hm) PyProof.Rows.boot_isinstance (pa_cons ha (pa_cons hv pa_nil (star_cons fun _ _ h => by cases h)) (star_cons hs)) (by decide) (by decide) (star_cons hs) rfl).imp fun σ H Q q => ?_
  obtain ⟨E, env, o, eo, p⟩ := q
  simp only [ev, evs, bind_assoc] at p
  refine ⟨E, env, o, eo, (PostG.split p).imp fun t F1 H1 s1 p1 v rv => ?_⟩
  simp only [Res.bind] at p1
  cases e1 : bltT b [t] with
  | ok u =>
    obtain ⟨m, r, h1, rfl, h2⟩ := isi_kit hb e1
    rw [e1] at p1
    exact ⟨v, .ty n, _, _, r, rfl, .ty n, g.hK ▸ (rv.mono s1.ok.sub).ty h1, kit_ty h2, p1 F1 H1 (.refl s1.ok) _ rfl⟩
  | ex d => exact (bltT_nx _ _ _ e1).elim
  | no => rw [e1] at p1; exact p1.elim

/-! ### isinstance of an error that is held -/
theorem call_isX {x : Str} {cs ns : List Nat} (g : Good S c k X sc so) (hx : ∀ k, ns.contains k = true → ExcC S.K (S.cA k)) {v : V} {cv : Value} (hcv : ∀ u, RelV v u → u = cv) (hk : ∀ k, ns.contains k = true → PySem.W.kitOne S.K (.ref (S.cA k)) cv = some (cs.contains k)) :
    CallR X (.builtin "isinstance") (fun vs H Q => ∃ a i, vs = [.ref a, v] ∧ H a = some (ExH (S.cA i) a) ∧ ns.contains i = true ∧ Q (.bl (cs.contains i)) H) := by
  intro pins s σ H xs us Q I r h
  obtain ⟨a, i, rfl, ha, hi, q⟩ := h
  cases r with
  | cons rx rr =>
    cases rr with
    | cons rt rr =>
      cases rr
      cases rx
      have ec := hcv _ rt
      subst ec
      obtain ⟨⟨oe, vs, hget, ⟨z1, z2⟩, hv⟩, _, _⟩ := I.hok a _ ha
      obtain ⟨oc, od, oda, osl⟩ := oe
      dsimp only at z1 z2 hv
      subst z1 z2 hv
      have C := hx i hi
      rw [← g.hK] at C
      have J : PySem.W.InstAt s.heap a ⟨.ref (S.cA i), none, .fields vs, osl⟩ (S.cA i) none := ⟨hget, rfl, rfl, trivial⟩
      exact PySem.W.kia_one (PySem.W.handS_kitx_exc C.hg C.hk C.hs C.hd C.ha C.hn C.ht C.hm) I.kIn J (g.hK ▸ hk i hi) (fun z => nomatch z) fun tk => ⟨.bl _, H, I.kept (t' := tk) fun _ _ z => z, rfl, q⟩
theorem e_isx {x : Str} {cs : List Nat} {a : Expr} {y : E} {p p2 pos : Pos} (g : Good S c k X sc so) (G : Glob S c F k) (hx : c.gs.lookup x = some cs) (hn : okName x = true) (hgx : glB sc x = true) (hg : glB sc "isinstance" = true) (hm : S.mg "isinstance" = none)
    (hs : ∀ b q, a ≠ .Starred b q) (ha : PE X a (dE S W (ev F y))) : PE X (.Call (.Name "isinstance" p) [a, .Name x p2] [] pos) (dE S W (ev F (.blt (.isExc cs c.gn) [y]))) := by
  obtain ⟨v, cv, hr, hcv, hmx, hk⟩ := (G.isx x cs hx).ex
  have hgl : Gl X x := glB_of (by rw [g.sc]; exact hgx)
  have hv : PE X (.Name x p2) (tC v) := by
    rcases hmx with h | ⟨h, hb⟩
    · exact pe_glob hgl (by rw [g.hmg]; exact h) hr (okName_of hn).1
    · exact pe_bltn hgl (by rw [g.hmg]; exact h) hb hr (okName_of hn).2.2 (okName_of hn).1
  refine (pe_callB (call_isX (x := x) g G.exc' hcv hk) (glB_of (by rw [g.sc]; exact hg)) (by rw [g.hmg]; exact hm) PyProof.Rows.boot_isinstance (pa_cons ha (pa_cons hv pa_nil (star_cons fun _ _ h => by cases h)) (star_cons hs)) (by decide) (by decide) (star_cons hs) rfl).imp fun σ H Q q => ?_
  obtain ⟨E, env, o, eo, p⟩ := q
  simp only [ev, evs, bind_assoc] at p
  refine ⟨E, env, o, eo, (PostG.split p).imp fun t F1 H1 s1 p1 v rv => ?_⟩
  simp only [Res.bind] at p1
  cases t <;> first | exact p1.elim | skip
  rename_i i
  simp only [bltT] at p1
  split at p1
  · rename_i hi
    obtain ⟨a, rfl, h1⟩ := rv
    exact ⟨a, i, rfl, s1.ok.sub _ _ h1, hi, p1 F1 H1 (.refl s1.ok) _ rfl⟩
  · exact p1.elim

/-! ### targets -/
/-- what is of the frame's own behind was so ahead, at the same place -/
def Less (σ : St) (env : Cells) (σ' : St) (env' : Cells) : Prop := ∀ (j : Nat) (t : T), env'[j]? = some (Cell.ow t) → env[j]? = some (Cell.ow t) ∧ σ'[j]? = σ[j]?
theorem Less.refl (σ : St) (env : Cells) : Less σ env σ env := fun _ _ h => ⟨h, rfl⟩
theorem Less.trans {σ σ1 σ2 : St} {env env1 env2 : Cells} (a : Less σ env σ1 env1) (b : Less σ1 env1 σ2 env2) : Less σ env σ2 env2 := fun j t h => by
  obtain ⟨h1, h2⟩ := b j t h
  obtain ⟨h3, h4⟩ := a j t h1
  exact ⟨h3, h2.trans h4⟩
/-- nothing changes but the slots ix -/
def Keep (ix : List Nat) (σ σ' : St) : Prop := σ'.length = σ.length ∧ ∀ j, j ∉ ix → σ'[j]? = σ[j]?
theorem Keep.refl (ix : List Nat) (σ : St) : Keep ix σ σ := ⟨rfl, fun _ _ => rfl⟩
theorem Keep.trans {ix jx : List Nat} {σ σ1 σ2 : St} (a : Keep ix σ σ1) (b : Keep jx σ1 σ2) : Keep (ix ++ jx) σ σ2 := ⟨b.1.trans a.1, fun j h => (b.2 j fun z => h (List.mem_append_right _ z)).trans (a.2 j fun z => h (List.mem_append_left _ z))⟩
def dG (S : Su) (g : Tg) : TG := fun v σ H Q => ∃ E env t env', Ok S E H ∧ EnvOk S E H σ env ∧ Rep S E t v ∧ asgT g t env = some env' ∧ ∀ σ', EnvOk S E H σ' env' → Less σ env σ' env' → Keep (tgIx g) σ σ' → Q σ' H
def dGs (S : Su) (gs : List Tg) : TGs := fun vs σ H Q => ∃ E env ts env', Ok S E H ∧ EnvOk S E H σ env ∧ Reps S E ts vs ∧ asgTs gs ts env = some env' ∧ ∀ σ', EnvOk S E H σ' env' → Less σ env σ' env' → Keep (tgIxs gs) σ σ' → Q σ' H
theorem EnvOk.set {E H : Hp} {σ : St} {env : Cells} {i : Nat} {t : T} {v : V} (e : EnvOk S E H σ env) (r : Rep S E t v) : EnvOk S E H (σ.set i (some v)) (env.set i (.sh t)) := by
  refine ⟨by rw [List.length_set, List.length_set]; exact e.len, fun j d h => ?_⟩
  by_cases hj : i = j
  · subst hj
    by_cases hl : i < env.length
    · rw [List.getElem?_set_self hl] at h
      cases h
      exact ⟨v, by rw [List.getElem?_set_self (by rw [e.len]; exact hl)], r⟩
    · rw [List.getElem?_eq_none (by simpa using hl)] at h
      cases h
  · rw [List.getElem?_set_ne hj] at h
    have q := e.slot j d h
    cases d with
    | un => trivial
    | sh u => obtain ⟨w, h1, h2⟩ := q; exact ⟨w, by rw [List.getElem?_set_ne hj]; exact h1, h2⟩
    | ow u => obtain ⟨a, h1, h2⟩ := q; exact ⟨a, by rw [List.getElem?_set_ne hj]; exact h1, h2⟩
theorem Less.set {σ : St} {env : Cells} {i : Nat} {t : T} {v : V} : Less σ env (σ.set i (some v)) (env.set i (.sh t)) := fun j u h => by
  by_cases hj : i = j
  · subst hj
    by_cases hl : i < env.length
    · rw [List.getElem?_set_self hl] at h; cases h
    · rw [List.getElem?_eq_none (by simpa using hl)] at h; cases h
  · rw [List.getElem?_set_ne hj] at h
    exact ⟨h, by rw [List.getElem?_set_ne hj]⟩
theorem locB_of {x : Str} (g : Good S c k X sc so) (h : locB sc so x = true) : Loc X.env.scope x ∧ (X.fn x = true ∨ X.env.scope.names.lookup x = some .local) := by
  rw [g.sc]
  unfold locB at h
  split at h
  · rename_i e
    exact ⟨.inl e, .inr e⟩
  · rename_i e1 e2
    exact ⟨.inr e1, .inl (g.fn x e2)⟩
  · cases h
theorem _root_.L2.PG.imp {X : Cx} {e : Expr} {t t' : TG} (h : PG X e t) (i : ∀ v σ H Q, t' v σ H Q → t v σ H Q) : PG X e t' := ⟨fun pins s σ H v u Q I r q => h.run pins s σ H v u Q I r (i v σ H Q q)⟩
theorem _root_.L2.PG.or {X : Cx} {e : Expr} {t t' : TG} (h : PG X e t) (h' : PG X e t') : PG X e (fun v σ H Q => t v σ H Q ∨ t' v σ H Q) := ⟨fun pins s σ H v u Q I r q => by
  rcases q with q | q
  · exact h.run pins s σ H v u Q I r q
  · exact h'.run pins s σ H v u Q I r q⟩
theorem _root_.L2.PGs.imp {X : Cx} {e : List Expr} {t t' : TGs} (h : PGs X e t) (i : ∀ v σ H Q, t' v σ H Q → t v σ H Q) : PGs X e t' := ⟨fun pins s σ H v u Q I r q => h.run pins s σ H v u Q I r (i v σ H Q q)⟩
theorem g_name {x : Str} {i : Nat} {pos : Pos} (g : Good S c k X sc so) (h : locB sc so x = true) (hi : ixOf x c.N 0 = some i) : PG X (.Name x pos) (dG S (.nm i)) := by
  obtain ⟨h1, h2⟩ := locB_of g h
  refine (pg_name g.nd (by rw [g.hN]; exact ixOf_at hi) h1 h2).imp fun v σ H Q q => ?_
  obtain ⟨E, env, t, env', o, eo, r, e, p⟩ := q
  cases e
  exact p _ (eo.set r) .set ⟨List.length_set .., fun j hj => List.getElem?_set_ne (fun z => hj (by rw [z]; exact List.mem_singleton.mpr rfl))⟩
theorem g_nil : PGs X [] (dGs S []) := by
  refine pgs_nil.imp fun vs σ H Q q => ?_
  obtain ⟨E, env, ts, env', o, eo, r, e, p⟩ := q
  cases ts with
  | nil => cases e; exact ⟨r, p σ eo (.refl _ _) (.refl _ _)⟩
  | cons t ts => cases e
theorem assignEach_cons {e : Expr} {es : List Expr} {env : Env} (h : ∀ a p, e ≠ .Starred a p) : assignEach (e :: es) env = (false, assign e env) :: assignEach es env := by
  cases e <;> first | rfl | exact absurd rfl (h _ _)
theorem g_cons {e : Expr} {es : List Expr} {x : Tg} {xs : List Tg} (hn : ∀ a p, e ≠ .Starred a p) (h : PG X e (dG S x)) (hs : PGs X es (dGs S xs)) : PGs X (e :: es) (dGs S (x :: xs)) := by
  refine (pgs_cons h hs (by rw [assignEach_cons hn]; rfl)).imp fun vs σ H Q q => ?_
  obtain ⟨E, env, ts, env', o, eo, r, e, p⟩ := q
  cases ts with
  | nil => cases e
  | cons t ts =>
    obtain ⟨v, w, rfl, r1, r2⟩ := r
    simp only [asgTs] at e
    cases e1 : asgT x t env with
    | none => rw [e1] at e; cases e
    | some env1 =>
      rw [e1] at e
      exact ⟨v, w, rfl, E, env, t, env1, o, eo, r1, e1, fun σ1 eo1 l1 k1 => ⟨E, env1, ts, env', o, eo1, r2, e, fun σ2 eo2 l2 k2 => p σ2 eo2 (l1.trans l2) (k1.trans k2)⟩⟩
theorem assignEach_plain {env : Env} : ∀ {es : List Expr}, (∀ e ∈ es, ∀ a p, e ≠ .Starred a p) → (assignEach es env).length = es.length ∧ (assignEach es env).findIdx? (·.1) = none
  | [], _ => ⟨rfl, rfl⟩
  | e :: es, h => by
    rw [assignEach_cons (h e (List.mem_cons_self ..))]
    obtain ⟨h1, h2⟩ := assignEach_plain (env := env) (es := es) fun e he => h e (List.mem_cons_of_mem _ he)
    exact ⟨by rw [List.length_cons, List.length_cons, h1], by rw [List.findIdx?_cons, h2]; rfl⟩
theorem asgTs_len : ∀ {gs : List Tg} {ts : List T} {env env' : Cells}, asgTs gs ts env = some env' → ts.length = gs.length
  | [], [], _, _, _ => rfl
  | [], _ :: _, _, _, h => by cases h
  | _ :: _, [], _, _, h => by cases h
  | g :: gs, t :: ts, env, env', h => by
    simp only [asgTs] at h
    split at h
    · rw [List.length_cons, List.length_cons, asgTs_len h]
    · cases h
theorem g_tup {es : List Expr} {xs : List Tg} {j : Nat} {pos : Pos} (g : Good S c k X sc so) (hn : ∀ e ∈ es, ∀ a p, e ≠ .Starred a p) (hl : es.length = xs.length) (h : PGs X es (dGs S xs)) : PG X (.Tuple es j pos) (dG S (.tp xs)) := by
  obtain ⟨h1, h2⟩ := assignEach_plain (env := X.env) hn
  refine ((pg_tup (n := xs.length) g.calm h (by rw [h1, hl]) h2).or (pg_lst (n := xs.length) g.calm h (by rw [h1, hl]) h2)).imp fun v σ H Q q => ?_
  obtain ⟨E, env, t, env', o, eo, r, e, p⟩ := q
  simp only [asgT] at e
  cases t with
  | tup ts =>
    obtain ⟨a, vs, rfl, q1, _, rs⟩ := r
    exact .inl ⟨a, vs, rfl, g.hK ▸ o.sub.sqT (.inl (.inl q1)), by rw [← rs.length]; exact asgTs_len e, E, env, ts, env', o, eo, rs, e, p⟩
  | lst ts =>
    obtain ⟨a, vs, rfl, q1, _, rs⟩ := r
    exact .inr ⟨a, vs, rfl, g.hK ▸ (o.sub.la q1).sq, by rw [← rs.length]; exact asgTs_len e, E, env, ts, env', o, eo, rs, e, p⟩
  | _ => cases e
mutual
theorem trG_ok (g : Good S c k X sc so) : ∀ (e : Expr) (x : Tg), trG c sc so e = some x → PG X e (dG S x) ∧ ∀ a p, e ≠ .Starred a p
  | .Name y pos, x, h => by
    simp only [trG] at h
    split at h
    · rename_i h1
      cases e1 : ixOf y c.N 0 with
      | none => rw [e1] at h; cases h
      | some i => rw [e1] at h; cases h; exact ⟨g_name g h1 e1, fun a p h => by cases h⟩
    · cases h
  | .Tuple es j pos, x, h => by
    simp only [trG] at h
    cases e1 : trGs c sc so es with
    | none => rw [e1] at h; cases h
    | some xs =>
      rw [e1] at h; cases h
      obtain ⟨h1, h2, h3⟩ := trGs_ok g es xs e1
      exact ⟨g_tup g h2 h3 h1, fun a p h => by cases h⟩
  | .BoolOp .., _, h => by simp [trG] at h
  | .NamedExpr .., _, h => by simp [trG] at h
  | .BinOp .., _, h => by simp [trG] at h
  | .UnaryOp .., _, h => by simp [trG] at h
  | .Lambda .., _, h => by simp [trG] at h
  | .IfExp .., _, h => by simp [trG] at h
  | .Dict .., _, h => by simp [trG] at h
  | .Set .., _, h => by simp [trG] at h
  | .ListComp .., _, h => by simp [trG] at h
  | .SetComp .., _, h => by simp [trG] at h
  | .DictComp .., _, h => by simp [trG] at h
  | .GeneratorExp .., _, h => by simp [trG] at h
  | .Await .., _, h => by simp [trG] at h
  | .Yield .., _, h => by simp [trG] at h
  | .YieldFrom .., _, h => by simp [trG] at h
  | .Compare .., _, h => by simp [trG] at h
  | .Call .., _, h => by simp [trG] at h
  | .FormattedValue .., _, h => by simp [trG] at h
  | .JoinedStr .., _, h => by simp [trG] at h
  | .Constant .., _, h => by simp [trG] at h
  | .Attribute .., _, h => by simp [trG] at h
  | .Subscript .., _, h => by simp [trG] at h
  | .Starred .., _, h => by simp [trG] at h
  | .List .., _, h => by simp [trG] at h
  | .Slice .., _, h => by simp [trG] at h
theorem trGs_ok (g : Good S c k X sc so) : ∀ (es : List Expr) (xs : List Tg), trGs c sc so es = some xs → PGs X es (dGs S xs) ∧ (∀ e ∈ es, ∀ a p, e ≠ .Starred a p) ∧ es.length = xs.length
  | [], xs, h => by
    simp only [trGs] at h; cases h
    exact ⟨g_nil, fun e he => (nomatch he), rfl⟩
  | e :: es, xs, h => by
    simp only [trGs] at h
    cases e1 : trG c sc so e with
    | none => simp only [e1] at h; cases h
    | some x =>
      cases e2 : trGs c sc so es with
      | none => simp only [e1, e2] at h; cases h
      | some ys =>
        simp only [e1, e2] at h
        cases h
        obtain ⟨h1, h2⟩ := trG_ok g e x e1
        obtain ⟨h3, h4, h5⟩ := trGs_ok g es ys e2
        refine ⟨g_cons h2 h1 h3, fun e' he => ?_, by rw [List.length_cons, List.length_cons, h5]⟩
        rcases List.mem_cons.mp he with rfl | he
        · exact h2
        · exact h4 e' he
end
end
end Fz

/-! enumerate and zip over lists and tuples in any mix -/
namespace PySem
open Sem (wp)
/-- enumerate(v): its two cells, whatever v begins -/
theorem fz_meets_enum {v : Value} {o : Obj} {G : Heap → Prop} (B : Begins v o G) :
    Meets (Builtin.«enumerate.__new__» ⟨[.type "enumerate", v], []⟩) (fun _ R s => G s.heap ∧
      R (.ok (.ret (.ref (s.heap.push o).objs.size))) { s with heap := (s.heap.push o).push { cls := .type "enumerate", data := .fields #[.none, .bool false, .ref s.heap.objs.size, rawInt 0, .none, .none] } }) := by
  refine .of_wp fun prog w A R s h => ?_
  obtain ⟨hp, g, d, tk, os⟩ := s
  obtain ⟨h1, h⟩ := h
  have sub := sub_enumerate
  have begin_ : ∀ {A' : Around} {E : Value → Shared → Prop} {Q : Value → Shared → Prop}, Q (.ref hp.objs.size) ⟨hp.push o, g, d, tk, os⟩ → wpAny (model prog w) A' (pyIter v) Q E ⟨hp, g, d, tk, os⟩ :=
    fun {A' E Q} q => B.iter prog w A' E ⟨hp, g, d, tk, os⟩ Q h1 q
  wp_walk using begin_
  refine wpAny_stack_any fun st => wpAny_pure ?_
  split
  · rename_i cl _ _ _ _ _
    cases (cl == Value.type "enumerate") <;> (wp_walk using begin_; exact ⟨_, rfl, h⟩)
  · wp_walk using begin_
    exact ⟨_, rfl, h⟩
section
variable {prog : Program} {w : World} {A : Around} {E : Value → Shared → Prop} {s : Shared}
theorem fz_enum_begins {v : Value} {o : Obj} {G : Heap → Prop} {Q : Value → Shared → Prop} (B : Begins v o G) (h1 : G s.heap)
    (h : ∀ h', IsEnum h' (s.heap.objs.size + 1) s.heap.objs.size 0 .none → h'.get? s.heap.objs.size = some o → (∀ b o, s.heap.get? b = some o → h'.get? b = some o) → Q (.ref (s.heap.objs.size + 1)) { s with heap := h' }) :
    wpAny (model prog w) A (call (.type "enumerate") [v]) Q E s := by
  refine callType_new F.called_enumerate (by decide) (F.typeCall_enumerate_1 _) (F.newCall_enumerate_1 _) (fun obj => F.args_object_init_2 obj _) F.entry_enumerate_new (fz_meets_enum B) ⟨h1, ?_⟩
  have hz : (s.heap.push o).objs.size = s.heap.objs.size + 1 := Heap.size_push ..
  show _ ∧ _
  rw [hz]
  have he : IsEnum ((s.heap.push o).push { cls := .type "enumerate", data := .fields #[.none, .bool false, .ref s.heap.objs.size, rawInt 0, .none, .none] }) (s.heap.objs.size + 1) s.heap.objs.size 0 .none := by
    have q := Heap.get?_push_size (s.heap.push o) (o := { cls := .type "enumerate", data := .fields #[.none, .bool false, .ref s.heap.objs.size, rawInt 0, .none, .none] }) rfl
    rw [hz] at q
    exact q
  exact ⟨⟨_, he, rfl⟩, h _ he (Heap.get?_push_of_some _ (Heap.get?_push_size _ B.free)) fun b u x => Heap.get?_push_of_some _ (Heap.get?_push_of_some _ x)⟩
end
end PySem

namespace Fz
open PySem PySem.Spec L2
open PyProof.Rows hiding St

/-! ### a list or a tuple that is walked: true a list, false a tuple -/
def SqK (K : PySem.W.Frag) (kd : Bool) (H : Hp) (a : Addr) (xs : List V) : Prop := if kd then SqL K H a xs else SqT K H a xs
def IsK (kd : Bool) (h : Heap) (a : Addr) (its : Array Value) : Prop := if kd then h.IsList a its else h.IsTuple a its
def ItrK (kd : Bool) (h : Heap) (it a : Addr) (i : Nat) : Prop := if kd then h.IsListIter it a i else h.IsTupleIter it a i
def objK (kd : Bool) (a : Addr) : Obj := if kd then { cls := .type "list_iterator", data := .fields #[.ref a, .int 0 0] } else { cls := .type "tuple_iterator", data := .fields #[.ref a, .int 0 0] }
theorem beginsK (kd : Bool) (a : Addr) (its : Array Value) : Begins (.ref a) (objK kd a) fun h => IsK kd h a its := by
  cases kd
  · exact begins_tuple a its
  · exact begins_list a its
theorem drawsK {prog : Program} {w : World} {A : Around} (hh : A.handled = none) (kd : Bool) (it a : Addr) (hne : a ≠ it) (its : Array Value) :
    Draws prog w A it [it, a] its.size (fun i v => its[i]? = some v) (fun i h => ItrK kd h it a i ∧ IsK kd h a its) := by
  cases kd
  · exact Draws.tuple hh it a hne its
  · exact Draws.list hh it a hne its
theorem ItrK.obj {kd : Bool} {h : Heap} {it a : Addr} {i : Nat} (x : ItrK kd h it a i) : ∃ o, h.get? it = some o ∧ ∀ v, o.data ≠ .cell v := by
  cases kd
  · obtain ⟨o, h1, h2, h3⟩ := x
    exact ⟨o, h1, fun v z => by rw [h3] at z; cases z⟩
  · obtain ⟨o, h1, h2, h3⟩ := x
    exact ⟨o, h1, fun v z => by rw [h3] at z; cases z⟩
theorem ItrK.at {kd : Bool} {h h' : Heap} {it a : Addr} {i : Nat} (x : ItrK kd h it a i) (k : ∀ o, h.get? it = some o → h'.get? it = some o) : ItrK kd h' it a i := by
  cases kd
  · obtain ⟨o, h1, h2⟩ := x
    exact ⟨o, k o h1, h2⟩
  · obtain ⟨o, h1, h2⟩ := x
    exact ⟨o, k o h1, h2⟩
theorem ItrK.begin {kd : Bool} {h : Heap} {it a : Addr} (x : h.get? it = some (objK kd a)) : ItrK kd h it a 0 := by
  cases kd
  · exact ⟨_, x, rfl, rfl⟩
  · exact ⟨_, x, rfl, rfl⟩
section
variable {X : Cx} {pins : List (Addr × Obj)} {σ : St} {H : Hp} {s : Shared} {kd : Bool} {a : Addr} {xs ys : List V}
theorem _root_.L2.Inv.seqK (I : Inv X pins σ H s) (h : SqK X.K kd H a xs) : ∃ its : List Value, Vals xs its ∧ IsK kd s.heap a its.toArray ∧ a < s.heap.objs.size := by
  cases kd
  · obtain ⟨its, r, p, _⟩ := I.tuple h
    exact ⟨its, r, p, p.lt⟩
  · obtain ⟨its, r, p, _⟩ := I.list h
    exact ⟨its, r, p.isList, p.lt⟩
theorem _root_.L2.Inv.seqK_inj (I : Inv X pins σ H s) (h : SqK X.K kd H a xs) (h' : SqK X.K kd H a ys) : xs = ys := by
  cases kd
  · exact I.tuple_inj h h'
  · exact I.list_inj h h'
end
theorem fp_ne {X : Cx} {pins : List (Addr × Obj)} {σ : St} {H : Hp} {s : Shared} {b : Addr} (I : Inv X pins σ H s) (n : H b = none) {kd : Bool} {a : Addr} {xs : List V} (q : SqK X.K kd H a xs) (hK : X.K.lookup b = none) : a ≠ b := by
  rintro rfl
  cases kd
  · rcases q with (q | ⟨o, q⟩) | ⟨o, _, _, q, _⟩
    · rw [n] at q; cases q
    · rw [n] at q; cases q
    · rw [hK] at q; cases q
  · rcases q with (q | ⟨o, q⟩) | ⟨o, _, _, q, _⟩
    · rw [n] at q; cases q
    · rw [n] at q; cases q
    · rw [hK] at q; cases q

/-! ### enumerate -/
def IteK (K : PySem.W.Frag) (kd : Bool) (a : Addr) : It :=
  ⟨fun i H => ∃ (xs : List V) (x : V), SqK K kd H a xs ∧ xs[i]? = some x,
   fun i H v H' => ∃ T x, v = .ref T ∧ H T = none ∧ H' = upd H T (.tup [.int (i : Nat), x]) ∧ ∀ xs, SqK K kd H a xs → xs[i]? = some x,
   fun i H => ∃ xs : List V, SqK K kd H a xs ∧ xs.length = i⟩
theorem turn_enumK {P : Program} {w : World} {K : PySem.W.Frag} {elts : List Expr} {kk : Nat} {tpos : Pos} (kd : Bool) (a e it : Addr) :
    Turn P w K (.Tuple elts kk tpos) (IteK K kd a) [e, it] e (fun i h => (∃ old, IsEnum h e it ((0 : Int) + (i : Int)) old) ∧ ItrK kd h it a i ∧ e ≠ it ∧ e ≠ a ∧ a ≠ it) where
  mem := by simp
  obj := fun i h st b hb => by
    obtain ⟨⟨old, he⟩, hit, _⟩ := st
    have e' : b = e ∨ b = it := by simpa using hb
    rcases e' with z | z
    · rw [z]; exact ⟨_, he, fun v q => nomatch q⟩
    · rw [z]; exact hit.obj
  keep := fun i h h' st k => by
    obtain ⟨⟨old, he⟩, hit, r⟩ := st
    exact ⟨⟨old, k e (by simp) _ he⟩, hit.at fun o q => k it (by simp) o q, r⟩
  item := by
    intro X hP hw hK hc i pins s σ H E I hf st hg
    subst hP hw hK
    obtain ⟨henum, hit, n1, n2, n3⟩ := st
    obtain ⟨xs, x, hq, hx⟩ := hg
    obtain ⟨its, rv, p, _⟩ := I.seqK hq
    obtain ⟨u, hu, ru⟩ := rv.get hx
    have hi : i < its.toArray.size := by
      rw [List.size_toArray]
      exact (List.getElem?_eq_some_iff.mp hu).1
    have D := drawsK (prog := X.prog) (w := X.w) (A := X.A.in1) (I.ok.hd hc) kd it a n3 its.toArray
    have G := GoesN.enumFrom (A := X.A) (elts := elts) (x1 := kk) (pos := tpos) 0 D e n1 (by simp [n1, n2]) (by simp)
    refine G.goes i s (fun v s2 => ∃ x H', Inv X pins σ H' s2 ∧ RelV x v ∧ (IteK X.K kd a).yld i H x H' ∧ ((∃ old, IsEnum s2.heap e it ((0 : Int) + ((i + 1 : Nat) : Int)) old) ∧ ItrK kd s2.heap it a (i + 1) ∧ e ≠ it ∧ e ≠ a ∧ a ≠ it) ∧ ∀ b ∈ [e, it], H' b = none) E hi ⟨henum, hit, p⟩ fun v h' tk hY hS hk _ => ?_
    obtain ⟨T, t, y, rfl, hnew, hy, hT⟩ := hY
    have ey : y = u := by
      rw [List.getElem?_toArray] at hy
      rw [hu] at hy
      exact (Option.some.inj hy).symm
    subst ey
    have new : ObjOk X.prog X.w (upd H T (.tup [.int (i : Nat), x])) h' T (.tup [.int (i : Nat), x]) :=
      ⟨by show 2 ≤ sizeLine; decide, [.int ((0 : Int) + (i : Int)) t, y], .cons ⟨t, by rw [Int.zero_add]⟩ (.cons ru .nil), hT⟩
    have I1 : Inv X pins σ (upd H T (.tup [.int (i : Nat), x])) { s with heap := h', toks := tk } := I.turnedNew (ch := [e, it]) hk hf hnew new
    refine ⟨.ref T, _, I1, rfl, ⟨T, x, rfl, I.hok.fresh hnew, rfl, fun ys hys => by rw [I.seqK_inj hys hq]; exact hx⟩, ⟨hS.1, hS.2.1, n1, n2, n3⟩, fun b hb => ?_⟩
    have hlt : b < s.heap.objs.size := by
      have e' : b = e ∨ b = it := by simpa using hb
      rcases e' with z | z
      · rw [z]; obtain ⟨_, q⟩ := henum; exact Heap.lt_size q
      · rw [z]; obtain ⟨_, q, _⟩ := hit.obj; exact Heap.lt_size q
    rw [upd_ne (Nat.ne_of_lt (Nat.lt_of_lt_of_le hlt hnew))]
    exact (hf b hb).1
  done := by
    intro X hP hw hK hc i pins s σ H E I hf st hg
    subst hP hw hK
    obtain ⟨henum, hit, n1, n2, n3⟩ := st
    obtain ⟨xs, hq, hx⟩ := hg
    obtain ⟨its, rv, p, _⟩ := I.seqK hq
    have hi : its.toArray.size = i := by rw [List.size_toArray, ← rv.length]; exact hx
    have D := drawsK (prog := X.prog) (w := X.w) (A := X.A.in1) (I.ok.hd hc) kd it a n3 its.toArray
    have G := GoesN.enumFrom (A := X.A) (elts := elts) (x1 := kk) (pos := tpos) 0 D e n1 (by simp [n1, n2]) (by simp)
    rw [hi] at G
    exact G.stops s (fun s1 => Inv X pins σ H s1) E ⟨henum, hit, p⟩ fun h' tk hk _ => I.turnedL (ch := [e, it]) hk hf
  self := fun A i s Q E st h => by
    obtain ⟨⟨_, he⟩, _⟩ := st
    exact wpAny_pyIter_enum he h
/-- what an enumerate over a list or a tuple asks -/
def iEnK (K : PySem.W.Frag) (kd : Bool) (ta : TA) : TI := fun σ H R => ta σ H fun vs H1 => ∃ a xs, vs = [.ref a] ∧ SqK K kd H1 a xs ∧ R (IteK K kd a) H1
theorem pi_enumK {X : Cx} {e : Expr} {ta : TA} {p pos tpos : Pos} {elts : List Expr} {kk : Nat} (kd : Bool) (hg : Gl X "enumerate") (hm : X.mg "enumerate" = none) (ha : PA X [e] ta) (hs : starEach [e] X.env = [(false, eval e X.env)]) :
    PI X (.Tuple elts kk tpos) (.Call (.Name "enumerate" p) [e] [] pos) (iEnK X.K kd ta) := by
  refine ⟨fun pins s σ H R I h => ?_⟩
  refine Call_ (ld_blt I hg hm boot_enumerate (PyProof.Rows.callWith_type1 (thn (ha.run pos pins s σ H _ I h) fun us s1 ⟨vs, H1, I1, r1, a, xs, ex, hq, q⟩ => ?_) hs rfl))
  subst ex
  cases r1 with
  | cons r rr =>
    cases rr
    cases r
    obtain ⟨its, rv, p', hlt⟩ := I1.seqK hq
    refine fz_enum_begins (beginsK kd a its.toArray) p' fun h' he hit hk => wpAny_pyIter_enum he ?_
    have I2 : Inv X pins σ H1 { s1 with heap := h' } := I1.kept (t' := s1.toks) hk
    refine ⟨s1.heap.objs.size + 1, [s1.heap.objs.size + 1, s1.heap.objs.size], _, _, H1, rfl, I2, turn_enumK kd a (s1.heap.objs.size + 1) s1.heap.objs.size, ⟨⟨.none, he⟩, .begin hit, Nat.succ_ne_self _, Nat.ne_of_gt (Nat.lt_succ_of_lt hlt), Nat.ne_of_lt hlt⟩, fun b hb => ?_, q⟩
    have hle : s1.heap.objs.size ≤ b := by
      have e' : b = s1.heap.objs.size + 1 ∨ b = s1.heap.objs.size := by simpa using hb
      rcases e' with z | z
      · rw [z]; exact Nat.le_succ _
      · rw [z]; exact Nat.le_refl _
    exact I1.fpOk hle (I1.hok.fresh hle)

/-! ### zip -/
def ItzK (K : PySem.W.Frag) (k1 k2 : Bool) (a b : Addr) : It :=
  ⟨fun i H => ∃ (xs ys : List V) (x y : V), SqK K k1 H a xs ∧ SqK K k2 H b ys ∧ xs[i]? = some x ∧ ys[i]? = some y,
   fun i H v H' => ∃ T x y, v = .ref T ∧ H T = none ∧ H' = upd H T (.tup [x, y]) ∧ (∀ xs, SqK K k1 H a xs → xs[i]? = some x) ∧ ∀ ys, SqK K k2 H b ys → ys[i]? = some y,
   fun i H => ∃ xs ys : List V, SqK K k1 H a xs ∧ SqK K k2 H b ys ∧ min xs.length ys.length = i⟩
theorem turn_zipK {P : Program} {w : World} {K : PySem.W.Frag} {elts : List Expr} {kk : Nat} {tpos : Pos} (k1 k2 : Bool) {a b z TI TO i1 i2 : Addr} (Z : ZipSep2 z TI TO i1 i2 [i1, a] [i2, b]) :
    Turn P w K (.Tuple elts kk tpos) (ItzK K k1 k2 a b) [z, TI, TO, i1, i2] z (fun i h => IsZip h z TI TO .none ∧ IsTupOf2 h TI (.ref i1) (.ref i2) ∧ (∃ x y, IsTupOf2 h TO x y) ∧ ItrK k1 h i1 a i ∧ ItrK k2 h i2 b i ∧ a ≠ i1 ∧ b ≠ i2) where
  mem := by simp
  obj := fun i h st c hc => by
    obtain ⟨hz, hTI, ⟨x, y, hTO⟩, h1, h2, _⟩ := st
    have e' : c = z ∨ c = TI ∨ c = TO ∨ c = i1 ∨ c = i2 := by simpa using hc
    rcases e' with q | q | q | q | q
    · rw [q]; exact ⟨_, hz, fun v q => nomatch q⟩
    · rw [q]; exact ⟨_, hTI, fun v q => nomatch q⟩
    · rw [q]; exact ⟨_, hTO, fun v q => nomatch q⟩
    · rw [q]; exact h1.obj
    · rw [q]; exact h2.obj
  keep := fun i h h' st k => by
    obtain ⟨hz, hTI, ⟨x, y, hTO⟩, h1, h2, r⟩ := st
    exact ⟨k z (by simp) _ hz, k TI (by simp) _ hTI, ⟨x, y, k TO (by simp) _ hTO⟩, h1.at fun o q => k i1 (by simp) o q, h2.at fun o q => k i2 (by simp) o q, r⟩
  item := by
    intro X hP hw hK hc i pins s σ H E I hf st hg
    subst hP hw hK
    obtain ⟨hz, hTI, hTO, h1, h2, n1, n2⟩ := st
    obtain ⟨xs, ys, x, y, hqx, hqy, hx, hy⟩ := hg
    obtain ⟨its, rv, p1, _⟩ := I.seqK hqx
    obtain ⟨its2, rv2, p2, _⟩ := I.seqK hqy
    obtain ⟨u, hu, ru⟩ := rv.get hx
    obtain ⟨u2, hu2, ru2⟩ := rv2.get hy
    have hi : i < min its.toArray.size its2.toArray.size := by
      have q1 := (List.getElem?_eq_some_iff.mp hu).1
      have q2 := (List.getElem?_eq_some_iff.mp hu2).1
      simp only [List.size_toArray]
      omega
    have D1 := drawsK (prog := X.prog) (w := X.w) (A := X.A.in1) (I.ok.hd hc) k1 i1 a n1 its.toArray
    have D2 := drawsK (prog := X.prog) (w := X.w) (A := X.A.in1) (I.ok.hd hc) k2 i2 b n2 its2.toArray
    have G := GoesN.zip2 (A := X.A) (elts := elts) (x1 := kk) (pos := tpos) Z D1 D2
    refine G.goes i s (fun v s2 => ∃ x H', Inv X pins σ H' s2 ∧ RelV x v ∧ (ItzK X.K k1 k2 a b).yld i H x H' ∧ (IsZip s2.heap z TI TO .none ∧ IsTupOf2 s2.heap TI (.ref i1) (.ref i2) ∧ (∃ x y, IsTupOf2 s2.heap TO x y) ∧ ItrK k1 s2.heap i1 a (i + 1) ∧ ItrK k2 s2.heap i2 b (i + 1) ∧ a ≠ i1 ∧ b ≠ i2) ∧ ∀ c ∈ [z, TI, TO, i1, i2], H' c = none) E hi ⟨hz, hTI, hTO, ⟨h1, p1⟩, ⟨h2, p2⟩⟩ fun v h' tk hY hS hk _ => ?_
    obtain ⟨T, y1, y2, rfl, hnew, hy1, hy2, hT⟩ := hY
    rw [List.getElem?_toArray, hu] at hy1
    rw [List.getElem?_toArray, hu2] at hy2
    have e1 := Option.some.inj hy1
    have e2 := Option.some.inj hy2
    subst e1 e2
    have new : ObjOk X.prog X.w (upd H T (.tup [x, y])) h' T (.tup [x, y]) := ⟨by show 2 ≤ sizeLine; decide, [u, u2], .cons ru (.cons ru2 .nil), hT⟩
    have I1 : Inv X pins σ (upd H T (.tup [x, y])) { s with heap := h', toks := tk } := I.turnedNew (ch := [z, TI, TO, i1, i2]) (fun c o hc' e => hk c o (fun m => hc' (by
      have m' : c = z ∨ c = TO ∨ c = i1 ∨ c = i2 := by simpa using m
      rcases m' with q | q | q | q <;> simp [q])) e) hf hnew new
    refine ⟨.ref T, _, I1, rfl, ⟨T, x, y, rfl, I.hok.fresh hnew, rfl, fun l hl => by rw [I.seqK_inj hl hqx]; exact hx, fun l hl => by rw [I.seqK_inj hl hqy]; exact hy⟩, ⟨hS.1, hS.2.1, hS.2.2.1, hS.2.2.2.1.1, hS.2.2.2.2.1, n1, n2⟩, fun c hcm => ?_⟩
    have hlt : c < s.heap.objs.size := by
      have e' : c = z ∨ c = TI ∨ c = TO ∨ c = i1 ∨ c = i2 := by simpa using hcm
      rcases e' with q | q | q | q | q
      · rw [q]; exact Heap.lt_size hz
      · rw [q]; exact Heap.lt_size hTI
      · rw [q]; obtain ⟨_, _, w⟩ := hTO; exact Heap.lt_size w
      · rw [q]; obtain ⟨_, w, _⟩ := h1.obj; exact Heap.lt_size w
      · rw [q]; obtain ⟨_, w, _⟩ := h2.obj; exact Heap.lt_size w
    rw [upd_ne (Nat.ne_of_lt (Nat.lt_of_lt_of_le hlt hnew))]
    exact (hf c hcm).1
  done := by
    intro X hP hw hK hc i pins s σ H E I hf st hg
    subst hP hw hK
    obtain ⟨hz, hTI, hTO, h1, h2, n1, n2⟩ := st
    obtain ⟨xs, ys, hqx, hqy, hend⟩ := hg
    obtain ⟨its, rv, p1, _⟩ := I.seqK hqx
    obtain ⟨its2, rv2, p2, _⟩ := I.seqK hqy
    have hi : min its.toArray.size its2.toArray.size = i := by simp only [List.size_toArray, ← rv.length, ← rv2.length]; exact hend
    have D1 := drawsK (prog := X.prog) (w := X.w) (A := X.A.in1) (I.ok.hd hc) k1 i1 a n1 its.toArray
    have D2 := drawsK (prog := X.prog) (w := X.w) (A := X.A.in1) (I.ok.hd hc) k2 i2 b n2 its2.toArray
    have G := GoesN.zip2 (A := X.A) (elts := elts) (x1 := kk) (pos := tpos) Z D1 D2
    rw [hi] at G
    exact G.stops s (fun s1 => Inv X pins σ H s1) E ⟨hz, hTI, hTO, ⟨h1, p1⟩, ⟨h2, p2⟩⟩ fun h' tk hk _ => I.turnedL (ch := [z, TI, TO, i1, i2]) (fun c o hc' e => hk c o (fun m => hc' (by
      have m' : c = z ∨ c = TO ∨ c = i1 ∨ c = i2 := by simpa using m
      rcases m' with q | q | q | q <;> simp [q])) e) hf
  self := fun A i s Q E st h => wpAny_pyIter_zip st.1 h
def iZiK (K : PySem.W.Frag) (k1 k2 : Bool) (ta : TA) : TI := fun σ H R => ta σ H fun vs H1 => ∃ a b xs ys, vs = [.ref a, .ref b] ∧ SqK K k1 H1 a xs ∧ SqK K k2 H1 b ys ∧ R (ItzK K k1 k2 a b) H1
theorem pi_zipK {X : Cx} {e e2 : Expr} {ta : TA} {p pos tpos : Pos} {elts : List Expr} {kk : Nat} (k1 k2 : Bool) (hg : Gl X "zip") (hm : X.mg "zip" = none) (ha : PA X [e, e2] ta)
    (hs : starEach [e, e2] X.env = (false, eval e X.env) :: starEach [e2] X.env) (hpl : (backTo pos (starEach [e2] X.env)).any (·.1) = false) :
    PI X (.Tuple elts kk tpos) (.Call (.Name "zip" p) [e, e2] [] pos) (iZiK X.K k1 k2 ta) := by
  refine ⟨fun pins s σ H R I h => ?_⟩
  refine Call_ (ld_blt I hg hm PyProof.Rows.boot_zip (PyProof.Rows.callWith_type1 (thn (ha.run pos pins s σ H _ I h) fun us s1 ⟨vs, H1, I1, r1, a, b, xs, ys, ex, hqx, hqy, q⟩ => ?_) hs hpl))
  subst ex
  cases r1 with
  | cons r rr =>
    cases rr with
    | cons r' rr =>
      cases rr
      cases r
      cases r'
      obtain ⟨its, rv, p1, la⟩ := I1.seqK hqx
      obtain ⟨its2, rv2, p2, lb⟩ := I1.seqK hqy
      refine zip_begins2 (beginsK k1 a its.toArray) (beginsK k2 b its2.toArray) p1 p2 fun h' hz hTI hTO h1 h2 hsz hk => wpAny_pyIter_zip hz ?_
      have I2 : Inv X pins σ H1 { s1 with heap := h' } := I1.kept (t' := s1.toks) hk
      have Z := zip_sep2 (N := s1.heap.objs.size) (fp1 := [a]) (fp2 := [b]) (fun c hc => by rw [List.mem_singleton.mp hc]; exact la) (fun c hc => by rw [List.mem_singleton.mp hc]; exact lb)
      refine ⟨s1.heap.objs.size + 4, [s1.heap.objs.size + 4, s1.heap.objs.size + 2, s1.heap.objs.size + 3, s1.heap.objs.size, s1.heap.objs.size + 1], _, _, H1, rfl, I2, turn_zipK k1 k2 Z, ⟨hz, hTI, ⟨_, _, hTO⟩, .begin h1, .begin h2, Nat.ne_of_lt la, Nat.ne_of_lt (Nat.lt_succ_of_lt lb)⟩, fun c hcm => ?_, q⟩
      have hle : s1.heap.objs.size ≤ c := by
        have e' : c = s1.heap.objs.size + 4 ∨ c = s1.heap.objs.size + 2 ∨ c = s1.heap.objs.size + 3 ∨ c = s1.heap.objs.size ∨ c = s1.heap.objs.size + 1 := by simpa using hcm
        rcases e' with z | z | z | z | z
        · rw [z]; exact Nat.le_add_right _ _
        · rw [z]; exact Nat.le_add_right _ _
        · rw [z]; exact Nat.le_add_right _ _
        · rw [z]; exact Nat.le_refl _
        · rw [z]; exact Nat.le_add_right _ _
      exact I1.fpOk hle (I1.hok.fresh hle)
end Fz

/-! what is walked, comprehensions; every expression -/
namespace Fz
open PySem PySem.Spec L2
open PyProof.Rows hiding St

variable {S : Su}
/-- a walk that tells just the items xs, which stand for good in E1 -/
structure WalkT (S : Su) (J : It) (E1 : Hp) (xs : List T) : Prop where
  len : xs.length ≤ sizeLine
  go : ∀ i H, i < xs.length → Sub E1 H → J.go i H
  stop : ∀ H, Sub E1 H → J.stop xs.length H
  yld : ∀ i H v H' E, i < xs.length → Ok S E H → Sub E1 E → J.yld i H v H' → ∃ E' t, xs[i]? = some t ∧ Step S E H E' H' ∧ Rep S E' t v
def dI (S : Su) (W : WX) (ik : IK) (f : Cells → Res (List T)) : TI := fun σ H R => At S σ H fun E env => PostG S W E H σ ((f env).bind (itemsT ik)) fun xs E' H' => ∀ J, WalkT S J E' xs → R J H'
theorem _root_.L2.PI.imp {X : Cx} {tg e : Expr} {t t' : TI} (h : PI X tg e t) (i : ∀ σ H Q, t' σ H Q → t σ H Q) : PI X tg e t' := ⟨fun pins s σ H Q I q => h.run pins s σ H Q I (i σ H Q q)⟩
theorem _root_.L2.PI.or {X : Cx} {tg e : Expr} {t t' : TI} (h : PI X tg e t) (h' : PI X tg e t') : PI X tg e (fun σ H Q => t σ H Q ∨ t' σ H Q) := ⟨fun pins s σ H Q I q => by
  rcases q with q | q
  · exact h.run pins s σ H Q I q
  · exact h'.run pins s σ H Q I q⟩
section
variable {X : Cx} {W : WX} {F : Fns} {c : TC} {sc so : Scope} {k : Nat}
theorem walkT_list {a : Addr} {vs : List V} {ts : List T} {E1 : Hp} (K : PySem.W.Frag) (l : ts.length ≤ sizeLine) (h : La K E1 a vs) (r : Reps S E1 ts vs) : WalkT S (Itl K a) E1 ts where
  len := l
  go := fun i H hi s => by
    obtain ⟨t, e⟩ : ∃ t, ts[i]? = some t := ⟨ts[i], by simp [hi]⟩
    obtain ⟨v, h1, _⟩ := r.get e
    exact ⟨vs, v, (s.la h).sq, h1⟩
  stop := fun H s => ⟨vs, (s.la h).sq, by rw [r.length]; exact Nat.le_refl _⟩
  yld := fun i H v H' E hi o s y => by
    obtain ⟨t, e⟩ : ∃ t, ts[i]? = some t := ⟨ts[i], by simp [hi]⟩
    obtain ⟨w, h1, h2⟩ := r.get e
    obtain ⟨e1, e2⟩ := y
    have e3 := e2 vs (o.sub.la (s.la h)).sq
    rw [h1] at e3
    cases e3
    rw [e1]
    exact ⟨E, t, e, .refl o, h2.mono s⟩
theorem walkT_tup {a : Addr} {vs : List V} {ts : List T} {E1 : Hp} (l : ts.length ≤ sizeLine) (h : SqT S.K E1 a vs) (r : Reps S E1 ts vs) : WalkT S (Itt S.K a) E1 ts where
  len := l
  go := fun i H hi s => by
    obtain ⟨t, e⟩ : ∃ t, ts[i]? = some t := ⟨ts[i], by simp [hi]⟩
    obtain ⟨v, h1, _⟩ := r.get e
    exact ⟨vs, v, s.sqT h, h1⟩
  stop := fun H s => ⟨vs, s.sqT h, by rw [r.length]; exact Nat.le_refl _⟩
  yld := fun i H v H' E hi o s y => by
    obtain ⟨t, e⟩ : ∃ t, ts[i]? = some t := ⟨ts[i], by simp [hi]⟩
    obtain ⟨w, h1, h2⟩ := r.get e
    obtain ⟨e1, e2⟩ := y
    have e3 := e2 vs (o.sub.sqT (s.sqT h))
    rw [h1] at e3
    cases e3
    rw [e1]
    exact ⟨E, t, e, .refl o, h2.mono s⟩
theorem rngT_len : ∀ (n : Nat) (lo : Int), (rngT lo n).length = n
  | 0, _ => rfl
  | n + 1, lo => by show (rngT (lo + 1) n).length + 1 = n + 1; rw [rngT_len n]
theorem rngT_get : ∀ (n : Nat) (lo : Int) (i : Nat), i < n → (rngT lo n)[i]? = some (.int (lo + i))
  | 0, _, _, h => absurd h (Nat.not_lt_zero _)
  | n + 1, lo, 0, _ => by show some (T.int lo) = _; simp
  | n + 1, lo, i + 1, h => by
    show (rngT (lo + 1) n)[i]? = _
    rw [rngT_get n (lo + 1) i (by omega)]
    have : lo + 1 + (i : Int) = lo + ((i + 1 : Nat) : Int) := by omega
    rw [this]
theorem walkT_rng {lo : Int} {n : Nat} {E1 : Hp} (l : n ≤ sizeLine) : WalkT S (Itr lo n) E1 (rngT lo n) where
  len := by rw [rngT_len]; exact l
  go := fun i H hi s => by rw [rngT_len] at hi; exact hi
  stop := fun H s => by rw [rngT_len]; exact Nat.le_refl n
  yld := fun i H v H' E hi o s y => by
    rw [rngT_len] at hi
    obtain ⟨e1, e2⟩ := y
    rw [e1]
    exact ⟨E, _, rngT_get n lo i hi, .refl o, e2⟩
/-! ### sources of two kinds -/
theorem Rep.seqK {E : Hp} {t : T} {v : V} {ts : List T} (r : Rep S E t v) (e : seqOf t = some ts) : ∃ kd a vs, v = .ref a ∧ SqK S.K kd E a vs ∧ Reps S E ts vs := by
  cases t with
  | tup us => cases e; obtain ⟨a, vs, rfl, q, _, rs⟩ := r; exact ⟨false, a, vs, rfl, .inl (.inl q), rs⟩
  | lst us => cases e; obtain ⟨a, vs, rfl, q, _, rs⟩ := r; exact ⟨true, a, vs, rfl, q.sq, rs⟩
  | _ => cases e
def kdOf : T → Bool
  | .lst _ => true
  | _ => false
theorem Rep.seqK' {E : Hp} {t : T} {v : V} {ts : List T} (r : Rep S E t v) (e : seqOf t = some ts) : ∃ a vs, v = .ref a ∧ SqK S.K (kdOf t) E a vs ∧ ts.length ≤ sizeLine ∧ Reps S E ts vs := by
  cases t with
  | tup us => cases e; obtain ⟨a, vs, rfl, q, l, rs⟩ := r; exact ⟨a, vs, rfl, .inl (.inl q), l, rs⟩
  | lst us => cases e; obtain ⟨a, vs, rfl, q, l, rs⟩ := r; exact ⟨a, vs, rfl, q.sq, l, rs⟩
  | _ => cases e
theorem Sub.sqK {F H : Hp} {kd : Bool} {a : Addr} {xs : List V} (h : Sub F H) (r : SqK S.K kd F a xs) : SqK S.K kd H a xs := by
  cases kd
  · exact h.sqT r
  · exact h.sqL r
theorem enumT_len : ∀ (ts : List T) (k : Nat), (enumT k ts).length = ts.length
  | [], _ => rfl
  | t :: ts, k => by show (enumT (k + 1) ts).length + 1 = _; rw [enumT_len ts]; rfl
theorem enumT_get : ∀ (ts : List T) (k i : Nat) (t : T), ts[i]? = some t → (enumT k ts)[i]? = some (.tup [.int (k + i : Nat), t])
  | [], _, _, _, h => by simp at h
  | u :: ts, k, 0, t, h => by
    have e : u = t := by simpa using h
    subst e
    rfl
  | u :: ts, k, i + 1, t, h => by
    show (enumT (k + 1) ts)[i]? = _
    rw [enumT_get ts (k + 1) i t (by simpa using h), show k + 1 + i = k + (i + 1) by omega]
theorem walkT_enum {kd : Bool} {a : Addr} {vs : List V} {ts : List T} {E1 : Hp} (l : ts.length ≤ sizeLine) (h : SqK S.K kd E1 a vs) (r : Reps S E1 ts vs) : WalkT S (IteK S.K kd a) E1 (enumT 0 ts) where
  len := by rw [enumT_len]; exact l
  go := fun i H hi s => by
    rw [enumT_len] at hi
    obtain ⟨t, e⟩ : ∃ t, ts[i]? = some t := ⟨ts[i], by simp [hi]⟩
    obtain ⟨v, h1, _⟩ := r.get e
    exact ⟨vs, v, s.sqK h, h1⟩
  stop := fun H s => ⟨vs, s.sqK h, by rw [enumT_len, r.length]⟩
  yld := fun i H v H' E hi o s y => by
    rw [enumT_len] at hi
    obtain ⟨t, e⟩ : ∃ t, ts[i]? = some t := ⟨ts[i], by simp [hi]⟩
    obtain ⟨w, h1, h2⟩ := r.get e
    obtain ⟨T0, x, rfl, hn, rfl, e2⟩ := y
    have e3 := e2 vs (o.sub.sqK (s.sqK h))
    rw [h1] at e3
    cases e3
    refine ⟨upd E T0 (.tup [.int (i : Nat), w]), .tup [.int ((0 + i : Nat) : Int), t], enumT_get ts 0 i t e, .new o hn fun z => z, ⟨T0, _, rfl, upd_same, by show 2 ≤ sizeLine; decide, .two ?_ ?_⟩⟩
    · rw [Nat.zero_add]; exact rfl
    · exact (h2.mono s).mono (sub_upd (o.sub.none hn))
theorem zipT_len : ∀ (ts us : List T), (zipT ts us).length = min ts.length us.length
  | [], us => by cases us <;> simp [zipT]
  | t :: ts, [] => by simp [zipT]
  | t :: ts, u :: us => by show (zipT ts us).length + 1 = _; rw [zipT_len ts us]; simp only [List.length_cons]; omega
theorem zipT_get : ∀ (ts us : List T) (i : Nat) (t u : T), ts[i]? = some t → us[i]? = some u → (zipT ts us)[i]? = some (.tup [t, u])
  | [], _, _, _, _, h, _ => by simp at h
  | _ :: _, [], _, _, _, _, h => by simp at h
  | a :: ts, b :: us, 0, t, u, h, h' => by
    have e : a = t := by simpa using h
    have e' : b = u := by simpa using h'
    subst e e'
    rfl
  | a :: ts, b :: us, i + 1, t, u, h, h' => zipT_get ts us i t u (by simpa using h) (by simpa using h')
theorem walkT_zip {k1 k2 : Bool} {a b : Addr} {vs ws : List V} {ts us : List T} {E1 : Hp} (l : ts.length ≤ sizeLine) (h : SqK S.K k1 E1 a vs) (r : Reps S E1 ts vs) (h' : SqK S.K k2 E1 b ws) (r' : Reps S E1 us ws) : WalkT S (ItzK S.K k1 k2 a b) E1 (zipT ts us) where
  len := by rw [zipT_len]; omega
  go := fun i H hi s => by
    rw [zipT_len] at hi
    obtain ⟨t, e⟩ : ∃ t, ts[i]? = some t := ⟨ts[i], by simp [show i < ts.length by omega]⟩
    obtain ⟨u, e'⟩ : ∃ t, us[i]? = some t := ⟨us[i], by simp [show i < us.length by omega]⟩
    obtain ⟨v, h1, _⟩ := r.get e
    obtain ⟨w, h2, _⟩ := r'.get e'
    exact ⟨vs, ws, v, w, s.sqK h, s.sqK h', h1, h2⟩
  stop := fun H s => ⟨vs, ws, s.sqK h, s.sqK h', by rw [zipT_len, r.length, r'.length]⟩
  yld := fun i H v H' E hi o s y => by
    rw [zipT_len] at hi
    obtain ⟨t, e⟩ : ∃ t, ts[i]? = some t := ⟨ts[i], by simp [show i < ts.length by omega]⟩
    obtain ⟨u, e'⟩ : ∃ t, us[i]? = some t := ⟨us[i], by simp [show i < us.length by omega]⟩
    obtain ⟨w, h1, h2⟩ := r.get e
    obtain ⟨w', h1', h2'⟩ := r'.get e'
    obtain ⟨T0, x, x', rfl, hn, rfl, e2, e3⟩ := y
    have q1 := e2 vs (o.sub.sqK (s.sqK h))
    rw [h1] at q1
    cases q1
    have q2 := e3 ws (o.sub.sqK (s.sqK h'))
    rw [h1'] at q2
    cases q2
    have m := sub_upd (o := .tup [w, w']) (o.sub.none hn)
    exact ⟨_, _, zipT_get ts us i t u e e', .new o hn fun z => z, ⟨T0, _, rfl, upd_same, by show 2 ≤ sizeLine; decide, .two ((h2.mono s).mono m) ((h2'.mono s).mono m)⟩⟩

theorem i_seq {tg e : Expr} {x : E} (hK : X.K = S.K) (h : PE X e (dE S W (ev F x))) : PI X tg e (dI S W .seq (evs F [x])) := by
  refine ((pi_list (tg := tg) h).or (pi_tup (tg := tg) h)).imp fun σ H R q => ?_
  obtain ⟨E, env, o, eo, p⟩ := q
  simp only [evs, bind_assoc] at p
  cases e1 : ev F x env with
  | ok t =>
    simp only [e1, Res.bind] at p
    cases t with
    | lst ts =>
      refine .inl ⟨E, env, o, eo, ?_⟩
      simp only [e1]
      intro F1 H1 s1 v ⟨a, vs, ea, q1, l1, rs⟩
      subst ea
      exact ⟨a, rfl, ⟨vs, hK ▸ (s1.ok.sub.la q1).sq⟩, p F1 H1 s1 _ (walkT_list _ l1 (hK ▸ q1) rs)⟩
    | tup ts =>
      refine .inr ⟨E, env, o, eo, ?_⟩
      simp only [e1]
      intro F1 H1 s1 v ⟨a, vs, ea, q1, l1, rs⟩
      subst ea
      exact ⟨a, rfl, ⟨vs, hK ▸ s1.ok.sub.sqT (.inl (.inl q1))⟩, p F1 H1 s1 _ (hK ▸ walkT_tup l1 (.inl (.inl q1)) rs)⟩
    | _ => exact p.elim
  | ex d => exact .inl ⟨E, env, o, eo, by simp only [e1, Res.bind] at p ⊢; exact p⟩
  | no => simp only [e1, Res.bind] at p; exact p.elim
theorem i_rng1 {tg a : Expr} {x : E} {p pos : Pos} (g : Good S c k X sc so) (hg : glB sc "range" = true) (hm : S.mg "range" = none) (hs : ∀ b q, a ≠ .Starred b q) (h : PA X [a] (dA S W (evs F [x]))) : PI X tg (.Call (.Name "range" p) [a] [] pos) (dI S W .rng1 (evs F [x])) := by
  refine (pi_range1 (glB_of (by rw [g.sc]; exact hg)) (by rw [g.hmg]; exact hm) h (star_cons hs)).imp fun σ H R q => ?_
  obtain ⟨E, env, o, eo, p⟩ := q
  refine ⟨E, env, o, eo, (PostG.split p).imp fun ts F1 H1 s1 p1 vs rs => ?_⟩
  rcases ts with _ | ⟨t, _ | ⟨t2, ts⟩⟩ <;> first | exact p1.elim | skip
  · cases t <;> first | exact p1.elim | skip
    rename_i n
    simp only [itemsT] at p1
    split at p1
    · rename_i hz
      obtain ⟨v, w, rfl, e1, rfl⟩ := rs
      have hq : SZ = 1000000 := rfl
      exact ⟨n, by rw [show v = _ from e1], by omega, by omega, p1 F1 H1 (.refl s1.ok) _ (walkT_rng (Nat.le_trans (m := 2000000) (by omega) (by decide)))⟩
    · exact p1.elim
  · cases t <;> exact p1.elim
theorem i_rng2 {tg a b : Expr} {x y : E} {p pos : Pos} (g : Good S c k X sc so) (hg : glB sc "range" = true) (hm : S.mg "range" = none) (hs : ∀ b q, a ≠ .Starred b q) (hs2 : ∀ b' q, b ≠ .Starred b' q) (h : PA X [a, b] (dA S W (evs F [x, y]))) : PI X tg (.Call (.Name "range" p) [a, b] [] pos) (dI S W .rng2 (evs F [x, y])) := by
  refine (pi_range2 (glB_of (by rw [g.sc]; exact hg)) (by rw [g.hmg]; exact hm) h (by rw [star_cons hs, star_cons hs2]; rfl) (star_cons hs2)).imp fun σ H R q => ?_
  obtain ⟨E, env, o, eo, p⟩ := q
  refine ⟨E, env, o, eo, (PostG.split p).imp fun ts F1 H1 s1 p1 vs rs => ?_⟩
  rcases ts with _ | ⟨t, _ | ⟨t2, _ | ⟨t3, ts⟩⟩⟩ <;> first | exact p1.elim | skip
  · cases t <;> exact p1.elim
  · cases t <;> cases t2 <;> first | exact p1.elim | skip
    rename_i m n
    simp only [itemsT] at p1
    split at p1
    · rename_i hz
      obtain ⟨v, w, rfl, e1, v2, w2, rfl, e2, rfl⟩ := rs
      have hq : SZ = 1000000 := rfl
      exact ⟨m, n, by rw [show v = _ from e1, show v2 = _ from e2], by omega, p1 F1 H1 (.refl s1.ok) _ (walkT_rng (Nat.le_trans (m := 2000000) (by omega) (by decide)))⟩
    · exact p1.elim
  · cases t <;> cases t2 <;> exact p1.elim
theorem i_enum {elts : List Expr} {kk : Nat} {tpos : Pos} {a : Expr} {x : E} {p pos : Pos} (g : Good S c k X sc so) (hg : glB sc "enumerate" = true) (hm : S.mg "enumerate" = none) (hs : ∀ b q, a ≠ .Starred b q) (h : PA X [a] (dA S W (evs F [x]))) : PI X (.Tuple elts kk tpos) (.Call (.Name "enumerate" p) [a] [] pos) (dI S W .enum (evs F [x])) := by
  have gl : Gl X "enumerate" := glB_of (by rw [g.sc]; exact hg)
  have mg : X.mg "enumerate" = none := by rw [g.hmg]; exact hm
  have r := fun kd => pi_enumK (p := p) (pos := pos) (tpos := tpos) (elts := elts) (kk := kk) kd gl mg h (star_cons hs)
  refine ((r true).or (r false)).imp fun σ H R q => ?_
  obtain ⟨E, env, o, eo, p⟩ := q
  simp only [evs, bind_assoc] at p
  cases e1 : ev F x env with
  | ok t =>
    simp only [e1, Res.bind, itemsT] at p
    cases e2 : seqOf t with
    | none => rw [e2] at p; exact p.elim
    | some us =>
      rw [e2] at p
      have fin : iEnK X.K (kdOf t) (dA S W (evs F [x])) σ H R := by
        refine ⟨E, env, o, eo, ?_⟩
        simp only [evs, e1, Res.bind]
        intro F1 H1 s1 vs rs
        obtain ⟨v, w, rfl, r1, rfl⟩ := rs
        obtain ⟨a, vs, rfl, q1, l1, r2⟩ := r1.seqK' e2
        exact ⟨a, vs, rfl, g.hK ▸ s1.ok.sub.sqK q1, g.hK ▸ p F1 H1 s1 _ (walkT_enum l1 q1 r2)⟩
      cases e3 : kdOf t with
      | true => rw [e3] at fin; exact .inl fin
      | false => rw [e3] at fin; exact .inr fin
  | ex d => exact .inl ⟨E, env, o, eo, by simp only [evs, e1, Res.bind] at p ⊢; exact p⟩
  | no => simp only [e1, Res.bind] at p; exact p.elim
theorem i_zip {elts : List Expr} {kk : Nat} {tpos : Pos} {a b : Expr} {x y : E} {p pos : Pos} (g : Good S c k X sc so) (hg : glB sc "zip" = true) (hm : S.mg "zip" = none) (hs : ∀ b q, a ≠ .Starred b q) (hs2 : ∀ b' q, b ≠ .Starred b' q) (h : PA X [a, b] (dA S W (evs F [x, y]))) : PI X (.Tuple elts kk tpos) (.Call (.Name "zip" p) [a, b] [] pos) (dI S W .zip (evs F [x, y])) := by
  have gl : Gl X "zip" := glB_of (by rw [g.sc]; exact hg)
  have mg : X.mg "zip" = none := by rw [g.hmg]; exact hm
  have r := fun k1 k2 => pi_zipK (p := p) (pos := pos) (tpos := tpos) (elts := elts) (kk := kk) k1 k2 gl mg h (star_cons hs) (backTo_plain fun e he => by rw [List.mem_singleton.mp he]; exact hs2)
  refine (((r true true).or (r true false)).or ((r false true).or (r false false))).imp fun σ H R q => ?_
  obtain ⟨E, env, o, eo, p⟩ := q
  cases e0 : evs F [x, y] env with
  | ok ts =>
    simp only [e0, Res.bind] at p
    rcases ts with _ | ⟨t, _ | ⟨t2, _ | ⟨t3, ts⟩⟩⟩ <;> first | exact p.elim | skip
    simp only [itemsT] at p
    cases e2 : seqOf t with
    | none => simp only [e2] at p; exact p.elim
    | some us =>
      cases e3 : seqOf t2 with
      | none => simp only [e2, e3] at p; exact p.elim
      | some us2 =>
        simp only [e2, e3] at p
        have fin : iZiK X.K (kdOf t) (kdOf t2) (dA S W (evs F [x, y])) σ H R := by
          refine ⟨E, env, o, eo, ?_⟩
          simp only [e0]
          intro F1 H1 s1 vs rs
          obtain ⟨v, w, rfl, r1, v2, w2, rfl, r2, rfl⟩ := rs
          obtain ⟨a, vs, rfl, q1, l1, m1⟩ := r1.seqK' e2
          obtain ⟨b, ws, rfl, q2, _, m2⟩ := r2.seqK' e3
          exact ⟨a, b, vs, ws, rfl, g.hK ▸ s1.ok.sub.sqK q1, g.hK ▸ s1.ok.sub.sqK q2, g.hK ▸ p F1 H1 s1 _ (walkT_zip l1 q1 m1 q2 m2)⟩
        cases e4 : kdOf t with
        | true => cases e5 : kdOf t2 with
          | true => rw [e4, e5] at fin; exact .inl (.inl fin)
          | false => rw [e4, e5] at fin; exact .inl (.inr fin)
        | false => cases e5 : kdOf t2 with
          | true => rw [e4, e5] at fin; exact .inr (.inl fin)
          | false => rw [e4, e5] at fin; exact .inr (.inr fin)
  | ex d => exact .inl (.inl ⟨E, env, o, eo, by simp only [e0, Res.bind] at p ⊢; exact p⟩)
  | no => simp only [e0, Res.bind] at p; exact p.elim
end
end Fz

/-! comprehensions -/
namespace Fz
open PySem PySem.Spec L2
open PyProof.Rows hiding St

variable {S : Su}
section
variable {X : Cx} {W : WX} {F : Fns} {c : TC} {sc so : Scope} {k : Nat}
theorem tabs_mut {T : List (Addr × Str)} {H : Hp} {D : Addr} {vs : List V} {o : HO} (t : LamX.Tabs T H) (h : H D = some (.lst vs)) : LamX.Tabs T (upd H D o) := fun p hp => by
  obtain ⟨ps, h1, h2, h3⟩ := t p hp
  have ne : ∀ b u, H b = some u → (∀ ws, u ≠ .lst ws) → b ≠ D := fun b u e n z => by
    rw [z, h] at e
    exact n vs (Option.some.inj e).symm
  refine ⟨ps, by rw [upd_ne (ne _ _ h1 fun _ z => by cases z)]; exact h1, h2, fun pos cv hc => ?_⟩
  obtain ⟨d, e1, e2⟩ := h3 pos cv hc
  exact ⟨d, e1, by rw [upd_ne (ne _ _ e2 fun _ z => by unfold LamX.CodeO at z; cases z)]; exact e2⟩
/-- a list of the frame's own, new since then, changes -/
theorem Step.mut {E1 H1 E H : Hp} {D : Addr} {vs : List V} {o : HO} (s : Step S E1 H1 E H) (h1 : H1 D = none) (h2 : E D = none) (h3 : H D = some (.lst vs)) : Step S E1 H1 E (upd H D o) where
  ff := s.ff
  hh := fun b u e => by
    have z : b ≠ D := fun z => by rw [z, h1] at e; cases e
    rw [upd_ne z]
    exact s.hh b u e
  no := s.no
  ok := ⟨sub_updR s.ok.sub h2, s.ok.nt, tabs_mut s.ok.tab h3⟩
theorem wipe_get (σ : St) : ∀ (vs : List Nat) (j : Nat), (wipe σ vs)[j]? = if j ∈ vs then (if j < σ.length then some none else none) else σ[j]?
  | [], j => by simp [wipe]
  | v :: vs, j => by
    have ih := wipe_get σ vs j
    have hl := wipe_length σ vs
    unfold wipe
    by_cases h : v = j
    · subst h
      rw [if_pos (List.mem_cons_self ..)]
      by_cases h2 : v < σ.length
      · rw [if_pos h2, List.getElem?_set_self (by rw [hl]; exact h2)]
      · rw [if_neg h2, List.getElem?_eq_none (by rw [List.length_set, hl]; omega)]
    · rw [List.getElem?_set_ne h, ih]
      by_cases h2 : j ∈ vs
      · rw [if_pos h2, if_pos (List.mem_cons_of_mem _ h2)]
      · rw [if_neg h2, if_neg (fun z => (List.mem_cons.mp z).elim (fun z => h z.symm) h2)]
theorem wipeC_len (env : Cells) : ∀ vs : List Nat, (wipeC env vs).length = env.length
  | [] => rfl
  | v :: vs => by unfold wipeC; rw [List.length_set, wipeC_len env vs]
theorem wipeC_get (env : Cells) : ∀ (vs : List Nat) (j : Nat) (d : Cell), (wipeC env vs)[j]? = some d → d = .un ∨ (j ∉ vs ∧ env[j]? = some d)
  | [], j, d, h => .inr ⟨by simp, h⟩
  | v :: vs, j, d, h => by
    unfold wipeC at h
    by_cases e : v = j
    · subst e
      by_cases h2 : v < (wipeC env vs).length
      · rw [List.getElem?_set_self h2] at h; exact .inl (Option.some.inj h).symm
      · rw [List.getElem?_eq_none (by rw [List.length_set]; omega)] at h; cases h
    · rw [List.getElem?_set_ne e] at h
      rcases wipeC_get env vs j d h with q | ⟨q1, q2⟩
      · exact .inl q
      · exact .inr ⟨fun z => (List.mem_cons.mp z).elim (fun z => e z.symm) q1, q2⟩
theorem EnvOk.wipe {E H : Hp} {σ : St} {env : Cells} (e : EnvOk S E H σ env) (vs : List Nat) : EnvOk S E H (wipe σ vs) (wipeC env vs) := by
  refine ⟨by rw [wipe_length, wipeC_len]; exact e.len, fun j d h => ?_⟩
  rcases wipeC_get env vs j d h with rfl | ⟨q1, q2⟩
  · trivial
  · have q := e.slot j d q2
    have r : (L2.wipe σ vs)[j]? = σ[j]? := by rw [wipe_get, if_neg q1]
    cases d with
    | un => trivial
    | sh u => obtain ⟨w, h1, h2⟩ := q; exact ⟨w, by rw [r]; exact h1, h2⟩
    | ow u => obtain ⟨a, h1, h2⟩ := q; exact ⟨a, by rw [r]; exact h1, h2⟩
theorem wipe_keep {σ σ' : St} {vs ix : List Nat} (h : Keep ix (wipe σ vs) σ') (hx : ∀ i ∈ ix, i ∈ vs) : wipe σ' vs = wipe σ vs := by
  refine List.ext_getElem? fun j => ?_
  have hl : σ'.length = σ.length := by rw [h.1, wipe_length]
  rw [wipe_get, wipe_get, hl]
  by_cases hj : j ∈ vs
  · rw [if_pos hj, if_pos hj]
  · rw [if_neg hj, if_neg hj, h.2 j fun z => hj (hx j z), wipe_get, if_neg hj]
theorem compL_nx {f : T → Res (Option T)} (h : ∀ x d, f x ≠ .ex d) : ∀ (xs : List T) (d : Nat), compL f xs ≠ .ex d
  | [], d, e => by cases e
  | x :: xs, d, e => by
    simp only [compL] at e
    cases e1 : f x with
    | ok o =>
      rw [e1] at e
      cases e2 : compL f xs with
      | ok r => simp only [e2, Res.bind] at e; cases e
      | ex d' => exact compL_nx h xs d' e2
      | no => simp only [e2, Res.bind] at e; cases e
    | ex d' => exact h _ _ e1
    | no => rw [e1] at e; cases e
theorem noex_nx {α : Type} (r : Res α) (d : Nat) : r.noex ≠ .ex d := by
  cases r <;> (intro h; cases h)
theorem bind_nx {α β : Type} {r : Res α} {g : α → Res β} (h1 : ∀ d, r ≠ .ex d) (h2 : ∀ a d, r = .ok a → g a ≠ .ex d) (d : Nat) : r.bind g ≠ .ex d := by
  cases r with
  | ok a => exact h2 a d rfl
  | ex d' => exact absurd rfl (h1 d')
  | no => intro h; cases h
/-- one turn of a comprehension, by the evaluator -/
def turnC (F : Fns) (elt : E) (tg : Tg) (cond : List E) (own : List Nat) (env : Cells) (x : T) : Res (Option T) :=
  match asgT tg x (wipeC env own) with
  | some env' => (evs F cond env').noex.bind fun cs => (match cs with
    | [] => (ev F elt env').noex.bind fun t => .ok (some t)
    | [b] => (truT b).bind fun k => if k then (ev F elt env').noex.bind fun t => .ok (some t) else .ok none
    | _ => .no)
  | none => .no
theorem turnC_nx {elt : E} {tg : Tg} {cond : List E} {own : List Nat} {env : Cells} (x : T) (d : Nat) : turnC F elt tg cond own env x ≠ .ex d := by
  unfold turnC
  split
  · refine bind_nx (noex_nx _) (fun cs d _ => ?_) d
    split
    · exact bind_nx (noex_nx _) (fun _ _ _ h => by cases h) d
    · refine bind_nx (truT_nx _) (fun k d _ => ?_) d
      split
      · exact bind_nx (noex_nx _) (fun _ _ _ h => by cases h) d
      · intro h; cases h
    · intro h; cases h
  · intro h; cases h
/-- no exception leaves a comprehension's block -/
abbrev W0 : WX := fun _ _ _ _ => False
/-- a clause's tests as read: none, or one -/
def dC (S : Su) (F : Fns) : List E → TT
  | [] => tYes
  | x :: _ => dT S W0 fun env => (ev F x env).bind truT
theorem imp_comp {elt : E} {tg : Tg} {ik : IK} {its cond : List E} {own : List Nat} (hcl : cond.length ≤ 1) (hx : ∀ i ∈ tgIx tg, i ∈ own) {σ : St} {H : Hp} {Q : VK} (q : dN S W (ev F (.comp elt tg ik its cond own)) σ H Q) :
    tLc (dI S W ik (evs F its)) (dG S tg) (dC S F cond) (dE S W0 (ev F elt)) own σ H Q := by
  obtain ⟨E, env, o, eo, p⟩ := q
  simp only [ev] at p
  rw [← bind_assoc] at p
  refine ⟨E, env, o, eo, (PostG.split p).imp fun xs E1 H1 s1 p1 J wk => ?_⟩
  replace p1 : PostG S W E1 H1 σ ((compL (turnC F elt tg cond own env) xs).bind fun ts => .ok (.lst ts)) fun t F' H' => ∀ a, H a = none → F' a = none → Own S F' H' a t → Q (.ref a) H' := p1
  have eo1 := eo.step s1
  cases e0 : compL (turnC F elt tg cond own env) xs with
  | ex d => exact (compL_nx turnC_nx _ _ e0).elim
  | no => rw [e0] at p1; exact p1.elim
  | ok ts =>
    rw [e0] at p1
    intro D hD
    have hE1D := s1.ok.sub.none hD
    refine ⟨fun i m H' => m = xs.length - i ∧ i ≤ xs.length ∧ ∃ E2 us vs rs, Step S E1 H1 E2 H' ∧ E2 D = none ∧ H' D = some (.lst vs) ∧ Reps S E2 us vs ∧ us.length ≤ i ∧ compL (turnC F elt tg cond own env) (xs.drop i) = .ok rs ∧ us ++ rs = ts,
      ⟨xs.length, by simp, Nat.zero_le _, E1, [], [], ts, .newR s1.ok hD, hE1D, upd_same, rfl, Nat.le_refl _, by rw [List.drop_zero]; exact e0, rfl⟩, ?_⟩
    rintro i m H' ⟨rfl, hi, E2, us, vs, rs, s2, hE2D, hHD, ru, hu, er, eu⟩
    by_cases hlt : i < xs.length
    · right
      have ed : xs.drop i = xs[i] :: xs.drop (i + 1) := List.drop_eq_getElem_cons hlt
      rw [ed] at er
      simp only [compL] at er
      cases et : turnC F elt tg cond own env xs[i] with
      | ex d => exact (turnC_nx _ _ et).elim
      | no => rw [et] at er; cases er
      | ok ot =>
        rw [et] at er
        cases e2 : compL (turnC F elt tg cond own env) (xs.drop (i + 1)) with
        | ex d => simp only [e2, Res.bind] at er; cases er
        | no => simp only [e2, Res.bind] at er; cases er
        | ok rs2 =>
          simp only [e2, Res.bind] at er
          refine ⟨wk.go i H' hlt fun a u e => s2.ok.sub a u (s2.ff a u e), fun H'' => i + 1 ≤ xs.length ∧ ∃ E2 us vs rs, Step S E1 H1 E2 H'' ∧ E2 D = none ∧ H'' D = some (.lst vs) ∧ Reps S E2 us vs ∧ us.length ≤ i + 1 ∧ compL (turnC F elt tg cond own env) (xs.drop (i + 1)) = .ok rs ∧ us ++ rs = ts,
            fun H'' n => ⟨xs.length - (i + 1), by omega, rfl, n⟩, fun x H2 y => ?_⟩
          obtain ⟨E3, t, ht, s3, rt⟩ := wk.yld i H' x H2 E2 hlt s2.ok s2.ff y
          have ht' : t = xs[i] := by
            rw [List.getElem?_eq_getElem hlt] at ht
            exact (Option.some.inj ht).symm
          subst ht'
          have s13 := s2.trans s3
          have hE3D : E3 D = none := s3.no D (by rw [hHD]; simp) hE2D
          have hH2D : H2 D = some (.lst vs) := s3.hh.at hHD fun z => z
          -- the turn's own evaluation
          unfold turnC at et
          cases ea : asgT tg xs[i] (wipeC env own) with
          | none => rw [ea] at et; cases et
          | some env' =>
            rw [ea] at et
            refine ⟨E3, wipeC env own, xs[i], env', s3.ok, (eo1.step s13).wipe own, rt, ea, fun σ' eo' _ kp => ⟨wipe_keep kp hx, ?_⟩⟩
            -- what an item that is kept asks
            have keepIt : ∀ {E4 H4 : Hp} {v : V} {u : T}, Step S E3 H2 E4 H4 → Rep S E4 u v → ot = some u → ∃ acc, H4 D = some (.lst acc) ∧ acc.length < sizeLine ∧
                (i + 1 ≤ xs.length ∧ ∃ E2 us vs rs, Step S E1 H1 E2 (upd H4 D (.lst (acc ++ [v]))) ∧ E2 D = none ∧ (upd H4 D (.lst (acc ++ [v]))) D = some (.lst vs) ∧ Reps S E2 us vs ∧ us.length ≤ i + 1 ∧ compL (turnC F elt tg cond own env) (xs.drop (i + 1)) = .ok rs ∧ us ++ rs = ts) := by
              intro E4 H4 v u s4 rv eo4
              subst eo4
              cases er
              have hH4D : H4 D = some (.lst vs) := s4.hh.at hH2D fun z => z
              have hE4D : E4 D = none := s4.no D (by rw [hH2D]; simp) hE3D
              have l1 := ru.length
              have l2 := wk.len
              refine ⟨vs, hH4D, by omega, hlt, E4, us ++ [u], _, rs2, (s13.trans s4).mut hD hE4D hH4D, hE4D, upd_same, ((ru.mono s3.ff).mono s4.ff).append (.one rv), by rw [List.length_append]; exact Nat.succ_le_succ hu, e2, by rw [List.append_assoc]; exact eu⟩
            have dropIt : ∀ {E4 H4 : Hp}, Step S E3 H2 E4 H4 → ot = none → i + 1 ≤ xs.length ∧ ∃ E2 us vs rs, Step S E1 H1 E2 H4 ∧ E2 D = none ∧ H4 D = some (.lst vs) ∧ Reps S E2 us vs ∧ us.length ≤ i + 1 ∧ compL (turnC F elt tg cond own env) (xs.drop (i + 1)) = .ok rs ∧ us ++ rs = ts := by
              intro E4 H4 s4 eo4
              subst eo4
              cases er
              exact ⟨hlt, E4, us, vs, rs2, s13.trans s4, s4.no D (by rw [hH2D]; simp) hE3D, s4.hh.at hH2D fun z => z, (ru.mono s3.ff).mono s4.ff, Nat.le_succ_of_le hu, e2, eu⟩
            rcases cond with _ | ⟨cx, _ | ⟨cy, cond⟩⟩
            · -- no test
              simp only [evs, Res.noex, Res.bind] at et
              cases ev1 : ev F elt env' with
              | ok u =>
                rw [ev1] at et
                cases et
                refine ⟨E3, env', s3.ok, eo', ?_⟩
                simp only [ev1]
                exact fun E4 H4 s4 v rv => keepIt s4 rv rfl
              | ex d => rw [ev1] at et; cases et
              | no => rw [ev1] at et; cases et
            · -- one test
              simp only [evs] at et
              cases ec : ev F cx env' with
              | ok b =>
                simp only [ec, Res.bind, Res.noex] at et
                cases eb : truT b with
                | ok kb =>
                  rw [eb] at et
                  refine ⟨E3, env', s3.ok, eo', ?_⟩
                  simp only [ec, Res.bind, eb]
                  intro E4 H4 s4
                  cases kb with
                  | true =>
                    simp only [if_true] at et ⊢
                    cases ev1 : ev F elt env' with
                    | ok u =>
                      rw [ev1] at et
                      cases et
                      refine ⟨E4, env', s4.ok, eo'.step s4, ?_⟩
                      simp only [ev1]
                      exact fun E5 H5 s5 v rv => keepIt (s4.trans s5) rv rfl
                    | ex d => rw [ev1] at et; cases et
                    | no => rw [ev1] at et; cases et
                  | false =>
                    cases et
                    exact dropIt s4 rfl
                | ex d => exact (truT_nx _ _ eb).elim
                | no => rw [eb] at et; cases et
              | ex d => simp only [ec, Res.bind, Res.noex] at et; cases et
              | no => simp only [ec, Res.bind, Res.noex] at et; cases et
            · simp at hcl
    · left
      have e : i = xs.length := by omega
      subst e
      rw [List.drop_length] at er
      cases er
      rw [List.append_nil] at eu
      subst eu
      exact ⟨wk.stop H' fun a u e => s2.ok.sub a u (s2.ff a u e), p1 E2 H' s2 D (s1.hh.none hD) hE2D ⟨vs, hHD, Nat.le_trans hu wk.len, ru⟩⟩
end
end Fz

/-! chains, a if t else b, comprehensions; every expression -/
namespace Fz
open PySem PySem.Spec L2
open PyProof.Rows hiding St

variable {S : Su}
section
variable {X : Cx} {W : WX} {F : Fns} {c : TC} {sc so : Scope} {k : Nat}
theorem bind_ok {α β : Type} {r : Res α} {g : α → Res β} {b : β} (h : r.bind g = .ok b) : ∃ a, r = .ok a ∧ g a = .ok b := by
  cases r with
  | ok a => exact ⟨a, rfl, h⟩
  | ex d => cases h
  | no => cases h
theorem nomark2 {o1 o2 : CmpOp} (b d : Expr) (h2 : o2 ≠ .In ∧ o2 ≠ .NotIn) : lastMarks [o1, o2] [b, d] = false := by
  show behindInMarks o2 d = false
  exact nobehind d h2.1 h2.2
theorem imp_chain {o1 o2 : Cop} {x y z : E} {σ : St} {H : Hp} {Q : VK} (q : dE S W (ev F (.chain o1 o2 x y z)) σ H Q) :
    tChain (rCo S (cmpT o1)) (rCo S (cmpT o2)) (dE S W (ev F x)) (dE S W (ev F y)) (dE S W (ev F z)) σ H Q := by
  obtain ⟨E, env, o, eo, p⟩ := q
  simp only [ev] at p
  refine ⟨E, env, o, eo, (PostG.split p).imp fun t1 F1 H1 s1 p1 v rv => ⟨F1, env, s1.ok, eo.step s1, (PostG.split p1).imp fun t2 F2 H2 s2 p2 w rw => ?_⟩⟩
  cases e : cmpT o1 t1 t2 with
  | ok t =>
    obtain ⟨b, rfl⟩ := cmpT_bl _ _ _ _ e
    rw [e] at p2
    refine ⟨t1, t2, b, (rv.mono s2.ff).mono s2.ok.sub, rw.mono s2.ok.sub, e, b, rfl, ?_⟩
    cases b with
    | false => exact p2 F2 H2 (.refl s2.ok) _ rfl
    | true =>
      rw [if_pos rfl]
      replace p2 : PostG S W F2 H2 σ ((ev F z env).bind fun u => cmpT o2 t2 u) fun t F' H' => ∀ (v : V), Rep S F' t v → Q v H' := p2
      refine ⟨F2, env, s2.ok, (eo.step s1).step s2, (PostG.split p2).imp fun t3 F3 H3 s3 p3 w' rw' => ?_⟩
      cases e3 : cmpT o2 t2 t3 with
      | ok t =>
        obtain ⟨b, rfl⟩ := cmpT_bl _ _ _ _ e3
        rw [e3] at p3
        exact ⟨t2, t3, b, (rw.mono s3.ff).mono s3.ok.sub, rw'.mono s3.ok.sub, e3, p3 F3 H3 (.refl s3.ok) _ rfl⟩
      | ex d => exact (cmpT_nx _ _ _ _ e3).elim
      | no => rw [e3] at p3; exact p3.elim
  | ex d => exact (cmpT_nx _ _ _ _ e).elim
  | no => rw [e] at p2; exact p2.elim
theorem chain_bl {o1 o2 : Cop} {x y z : E} {env : Cells} (t : T) (h : ev F (.chain o1 o2 x y z) env = .ok t) : ∃ b, t = .bl b := by
  simp only [ev] at h
  cases e1 : ev F x env with
  | ok t1 =>
    cases e2 : ev F y env with
    | ok t2 =>
      simp only [e1, e2, Res.bind] at h
      cases e3 : cmpT o1 t1 t2 with
      | ok u =>
        obtain ⟨b, rfl⟩ := cmpT_bl _ _ _ _ e3
        cases b with
        | true =>
          simp only [e3] at h
          cases e4 : ev F z env with
          | ok t3 => simp only [e4] at h; exact cmpT_bl _ _ _ _ h
          | ex d => simp only [e4] at h; cases h
          | no => simp only [e4] at h; cases h
        | false => simp only [e3] at h; cases h; exact ⟨_, rfl⟩
      | ex d => simp only [e3] at h; cases h
      | no => simp only [e3] at h; cases h
    | ex d => simp only [e1, e2, Res.bind] at h; cases h
    | no => simp only [e1, e2, Res.bind] at h; cases h
  | ex d => simp only [e1, Res.bind] at h; cases h
  | no => simp only [e1, Res.bind] at h; cases h
theorem okCop_of {o : CmpOp} (h : okCop o = true) : o ≠ .In ∧ o ≠ .NotIn := by
  constructor <;> (rintro rfl; cases h)
theorem t_chain {o1 o2 : CmpOp} {a b d : Expr} {x y z : E} {pos : Pos} (g : Good S c k X sc so) (h1 : okCop o1 = true) (h2 : okCop o2 = true) (ha : Tri S W F X a x) (hb : Tri S W F X b y) (hd : Tri S W F X d z) :
    Tri S W F X (.Compare a [o1, o2] [b, d] pos) (.chain (trCop o1) (trCop o2) x y z) := by
  refine .of' ((pe_chain (o_cmp g) (o_cmp g) ha.e hb.e hd.e (nomark2 _ _ (okCop_of h2))).imp fun σ H Q q => imp_chain q) (fun _ => by intro h; cases h)
    ((pt_chain (o_cmp g) (o_cmp g) ha.e hb.e hd.e (nomark2 _ _ (okCop_of h2))).imp fun σ H Q q => ?_)
  refine imp_chain ?_
  obtain ⟨E, env, o, eo, p⟩ := q
  exact ⟨E, env, o, eo, bool_test chain_bl p⟩

theorem pt_ifE {t a b : Expr} {tA ta tb : TT} {pos : Pos} (hc : PT X t tA) (ha : PT X a ta) (hb : PT X b tb) : PT X (.IfExp t a b pos) (fun σ H Q => tA σ H fun k H1 => if k = true then ta σ H1 Q else tb σ H1 Q) := by
  refine ⟨fun pins s σ H Q I h => ?_⟩
  refine isTrue_IfExp (thn (hc.run pins s σ H _ I h) fun d s1 ⟨H1, I1, q1⟩ => ?_)
  cases d with
  | true => exact ha.run pins s1 σ H1 Q I1 q1
  | false => exact hb.run pins s1 σ H1 Q I1 q1
theorem t_ite {t a b : Expr} {x y z : E} {pos : Pos} (ht : Tri S W F X t x) (ha : Tri S W F X a y) (hb : Tri S W F X b z) : Tri S W F X (.IfExp t a b pos) (.ite x y z) := by
  refine .of' ((pe_ifExp ht.tt ha.e hb.e).imp fun σ H Q q => ?_) (fun _ => by intro h; cases h) ((pt_ifE ht.tt ha.tt hb.tt).imp fun σ H Q q => ?_)
  · obtain ⟨E, env, o, eo, p⟩ := q
    simp only [ev] at p
    rw [← bind_assoc] at p
    refine ⟨E, env, o, eo, (PostG.split p).imp fun b F1 H1 s1 p1 => ?_⟩
    cases b with
    | true => exact ⟨F1, env, s1.ok, eo.step s1, p1⟩
    | false => exact ⟨F1, env, s1.ok, eo.step s1, p1⟩
  · obtain ⟨E, env, o, eo, p⟩ := q
    simp only [ev] at p
    rw [← bind_assoc, bind_assoc] at p
    refine ⟨E, env, o, eo, (PostG.split p).imp fun b F1 H1 s1 p1 => ?_⟩
    cases b with
    | true => exact ⟨F1, env, s1.ok, eo.step s1, p1⟩
    | false => exact ⟨F1, env, s1.ok, eo.step s1, p1⟩

/-! ### comprehensions -/
theorem Good.blk {s : Shared} {H : Hp} {scope : Scope} {cl : List (Str × Addr)} {C : Addr} {fp : List Addr} (g : Good S c k X sc so) : Good S c k (X.blk s H scope (compEnvC scope cl C X.env) fp) (L2.relS scope sc) scope where
  hP := g.hP
  hw := g.hw
  hK := g.hK
  hmg := g.hmg
  hb := g.hb
  hN := g.hN
  nd := g.nd
  sc := by rw [← g.sc]; rfl
  calm := g.calm
  room := g.room
  fn := fun x h => by
    show (scope.names.lookup x == some .cell) = true
    rw [h]; rfl
theorem takes0 : Takes X W0 := fun u s' ⟨_, _, _, _, _, _, _, _, _, _, _, _, _, _, _, _, w⟩ => w.elim
/-- what a comprehension's parts keep -/
structure LcOk (S : Su) (W : WX) (F : Fns) (X : Cx) (tg iter elt : Expr) (ifs : List Expr) (scope : Scope) (own : List (Str × Nat)) (wi : TI) (gt : TG) (tt : TT) (te : TE) : Prop where
  hi : PI X tg iter wi
  ok : BlkOk X.N X.env.scope scope own
  hg : ∀ (s : Shared) (H : Hp) (C : Addr) (cl : List (Str × Addr)) (fp : List Addr), PG (X.blk s H scope (compEnvC scope cl C X.env) fp) tg gt
  ht : ∀ (s : Shared) (H : Hp) (C : Addr) (cl : List (Str × Addr)) (fp : List Addr), PTs (X.blk s H scope (compEnvC scope cl C X.env) fp) ifs tt
  he : ∀ (s : Shared) (H : Hp) (C : Addr) (cl : List (Str × Addr)) (fp : List Addr), PE (X.blk s H scope (compEnvC scope cl C X.env) fp) elt te
  hs : ∀ x, foldedSetIterable iter X.env x = pure x
/-- a comprehension that is translated: its parts -/
def LcAt (S : Su) (W : WX) (F : Fns) (X : Cx) (elt : Expr) (gs : List Comprehension) (scope : Scope) (x : E) : Prop :=
  ∃ tg iter ifs own wi gt tt te, gs = [⟨tg, iter, ifs, 0⟩] ∧ LcOk S W F X tg iter elt ifs scope own wi gt tt te ∧ freshE x = true ∧ (∀ σ H Q, dN S W (ev F x) σ H Q → tLc wi gt tt te (own.map (·.2)) σ H Q)
theorem LcAt.n {elt : Expr} {gs : List Comprehension} {scope : Scope} {pos : Pos} {x : E} (g : Good S c k X sc so) (h : LcAt S W F X elt gs scope x) : PE X (.ListComp elt gs scope pos) (dN S W (ev F x)) := by
  obtain ⟨tg, iter, ifs, own, wi, gt, tt, te, rfl, l, _, i⟩ := h
  exact (pe_lc g.calm g.nd l.hi l.ok l.hg l.ht l.he l.hs).imp i
end
end Fz

/-! every expression that is translated -/
namespace Fz
open PySem PySem.Spec L2
open PyProof.Rows hiding St

variable {S : Su}
structure TrO (S : Su) (W : WX) (F : Fns) (X : Cx) (e : Expr) (x : E) : Prop where
  tri : Tri S W F X e x
  ns : ∀ a p, e ≠ .Starred a p
  n : freshE x = true → PE X e (dN S W (ev F x))
  lc : ∀ elt gs scope pos, e = .ListComp elt gs scope pos → LcAt S W F X elt gs scope x
def PEx (S : Su) (F : Fns) (c : TC) (k : Nat) (e : Expr) : Prop := ∀ {X : Cx} {W : WX} {sc so : Scope}, Good S c k X sc so → Takes X W → ∀ x, trE c sc e = some x → TrO S W F X e x
section
variable {X : Cx} {W : WX} {F : Fns} {c : TC} {sc so : Scope} {k : Nat}
theorem trEs_of (g : Good S c k X sc so) (tk : Takes X W) : ∀ {es : List Expr}, (∀ e ∈ es, PEx S F c k e) → ∀ {xs : List E}, trEs c sc es = some xs → PA X es (dA S W (evs F xs)) ∧ (∀ e ∈ es, ∀ a p, e ≠ .Starred a p) ∧ xs.length = es.length
  | [], h, xs, e => by
    simp only [trEs] at e
    cases e
    exact ⟨a_nil, fun e he => (nomatch he), rfl⟩
  | e :: es, h, xs, e0 => by
    simp only [trEs] at e0
    cases e1 : trE c sc e with
    | none => simp only [e1] at e0; cases e0
    | some x =>
      cases e2 : trEs c sc es with
      | none => simp only [e1, e2] at e0; cases e0
      | some ys =>
        simp only [e1, e2] at e0
        cases e0
        have q := h e (List.mem_cons_self ..) g tk x e1
        obtain ⟨h3, h4, h5⟩ := trEs_of g tk (fun e he => h e (List.mem_cons_of_mem _ he)) e2
        refine ⟨a_cons q.ns q.tri.e h3, fun e' he => ?_, by rw [List.length_cons, List.length_cons, h5]⟩
        rcases List.mem_cons.mp he with rfl | he
        · exact q.ns
        · exact h4 e' he
theorem trB_of (g : Good S c k X sc so) (tk : Takes X W) {op : BoolOp} {pos : Pos} : ∀ {es : List Expr}, (∀ e ∈ es, PEx S F c k e) → ∀ {x : E}, trB c sc op es = some x → Tw S W F X (.BoolOp op es pos) x ∧ (2 ≤ es.length → ∀ i, x ≠ .var i)
  | [], h, x, e => by simp only [trB] at e; cases e
  | [a], h, x, e => by
    simp only [trB] at e
    exact ⟨w_one (h a (List.mem_singleton.mpr rfl) g tk x e).tri, fun z => by simp at z⟩
  | a :: b :: rest, h, x, e => by
    unfold trB at e
    cases e1 : trE c sc a with
    | none => simp only [e1] at e; cases e
    | some y =>
      cases e2 : trB c sc op (b :: rest) with
      | none => simp only [e1, e2] at e; cases e
      | some z =>
        simp only [e1, e2] at e
        cases e
        have q := w_cons (pos := pos) (op := op) g (h a (List.mem_cons_self ..) g tk y e1).tri (trB_of g tk (fun e he => h e (List.mem_cons_of_mem _ he)) e2).1
        refine ⟨?_, fun _ i => ?_⟩
        · cases op <;> exact q
        · cases op <;> (intro h; cases h)
theorem trO_of (g : Good S c k X sc so) (tk : Takes X W) {e : Option Expr} (h : ∀ a, e = some a → PEx S F c k a) {l : List E} (e0 : trO c sc e = some l) : PO X e (dO S W (evs F l)) := by
  cases e with
  | none => simp only [trO] at e0; cases e0; exact o_none
  | some a =>
    simp only [trO] at e0
    cases e1 : trE c sc a with
    | none => rw [e1] at e0; cases e0
    | some x => rw [e1] at e0; cases e0; exact o_some (h a rfl g tk x e1).tri.e
theorem trN_of (g : Good S c k X sc so) (G : Glob S c F k) {x : Str} {pos : Pos} {y : E} (h : trN c sc x = some y) : Tri S W F X (.Name x pos) y := by
  unfold trN at h
  split at h
  · rename_i hn
    split at h
    · rename_i hv
      cases e : ixOf x c.N 0 with
      | none => rw [e] at h; cases h
      | some i => rw [e] at h; cases h; exact t_name g hv hn e
    · split at h
      · rename_i hg
        have gl : Gl X x := glB_of (by rw [g.sc]; exact hg)
        split at h
        · rename_i t et
          cases h
          obtain ⟨v, u, h1, h2, h3⟩ := G.cst x t et
          exact .of g.hK (e_cst (pe_glob gl (by rw [g.hmg]; exact h1) h2 (okName_of hn).1) h3) (fun i h => by cases h) fun _ => rfl
        · split at h
          · rename_i f ef
            cases h
            obtain ⟨fd, ps, h1, _⟩ := (G.own x f ef).ex
            exact .of g.hK (e_cst (v := .ref (S.fA f)) (pe_glob gl (by rw [g.hmg]; exact h1) rfl (okName_of hn).1) fun _ => rfl) (fun i h => by cases h) fun _ => rfl
          · cases h
      · cases h
  · cases h
theorem trI_of (g : Good S c k X sc so) (tk : Takes X W) (G : Glob S c F k) {tg iter : Expr} (h : ∀ e, sizeOf e < sizeOf iter → PEx S F c k e) {ik : IK} {its : List E} (e : trI c sc (isTup tg) iter = some (ik, its)) : PI X tg iter (dI S W ik (evs F its)) := by
  unfold trI at e
  split at e
  · rename_i f p args pos
    split at e
    · rename_i hc
      simp only [Bool.and_eq_true] at hc
      have hm := G.blt f hc.1
      have ha : ∀ e' ∈ args, PEx S F c k e' := fun e' he => h e' (by
        have := List.sizeOf_lt_of_mem he
        simp only [Expr.Call.sizeOf_spec]
        omega)
      cases e1 : trEs c sc args with
      | none => rw [e1] at e; cases e
      | some xs =>
        rw [e1] at e
        obtain ⟨a1, a2, a3⟩ := trEs_of g tk ha e1
        rcases xs with _ | ⟨x, _ | ⟨y, _ | ⟨z, xs⟩⟩⟩
        · cases e
        · obtain ⟨a, rfl⟩ : ∃ a, args = [a] := by
            rcases args with _ | ⟨a, _ | ⟨b, args⟩⟩
            · simp at a3
            · exact ⟨a, rfl⟩
            · simp at a3
          have n1 := a2 a (List.mem_singleton.mpr rfl)
          simp only at e
          split at e
          · rename_i hf
            subst hf
            cases e
            exact i_rng1 g hc.2 hm n1 a1
          · split at e
            · rename_i hf
              obtain ⟨rfl, ht⟩ := hf
              cases e
              cases tg <;> first | (cases ht; done) | exact i_enum g hc.2 hm n1 a1
            · cases e
        · obtain ⟨a, b, rfl⟩ : ∃ a b, args = [a, b] := by
            rcases args with _ | ⟨a, _ | ⟨b, _ | ⟨d, args⟩⟩⟩
            · simp at a3
            · simp at a3
            · exact ⟨a, b, rfl⟩
            · simp at a3
          have n1 := a2 a (by simp)
          have n2 := a2 b (by simp)
          simp only at e
          split at e
          · rename_i hf
            subst hf
            cases e
            exact i_rng2 g hc.2 hm n1 n2 a1
          · split at e
            · rename_i hf
              obtain ⟨rfl, ht⟩ := hf
              cases e
              cases tg <;> first | (cases ht; done) | exact i_zip g hc.2 hm n1 n2 a1
            · cases e
        · cases e
    · cases e
  · cases e
/-- what is walked: by a built-in, or a value -/
theorem trW_of (g : Good S c k X sc so) (tk : Takes X W) (G : Glob S c F k) {tg iter : Expr} (h : ∀ e, sizeOf e ≤ sizeOf iter → PEx S F c k e) {ik : IK} {its : List E}
    (e : (match trI c sc (isTup tg) iter with | some r => some r | none => (trE c sc iter).map fun x => (IK.seq, [x])) = some (ik, its)) : PI X tg iter (dI S W ik (evs F its)) ∧ ∀ x, foldedSetIterable iter X.env x = pure x := by
  cases e1 : trI c sc (isTup tg) iter with
  | some r =>
    rw [e1] at e
    cases e
    refine ⟨trI_of g tk G (fun e h' => h e (Nat.le_of_lt h')) e1, ?_⟩
    cases iter <;> first | (intro x; rfl) | (simp [trI] at e1; done)
  | none =>
    rw [e1] at e
    cases e2 : trE c sc iter with
    | none => rw [e2] at e; cases e
    | some x =>
      rw [e2] at e
      cases e
      refine ⟨i_seq g.hK (h iter (Nat.le_refl _) g tk x e2).tri.e, ?_⟩
      cases iter <;> first | (intro x; rfl) | (simp [trE] at e2; done)
theorem trBlt_list {x : Str} {n : Nat} (h : trBlt x n = some .list) : x = "list" := by
  unfold trBlt at h
  by_cases z : x = "abs" ∧ n = 1
  · rw [if_pos z] at h; cases h
  rw [if_neg z] at h
  clear z
  by_cases z : x = "max" ∧ n = 2
  · rw [if_pos z] at h; cases h
  rw [if_neg z] at h
  clear z
  by_cases z : x = "min" ∧ n = 2
  · rw [if_pos z] at h; cases h
  rw [if_neg z] at h
  clear z
  by_cases z : x = "max" ∧ n = 1
  · rw [if_pos z] at h; cases h
  rw [if_neg z] at h
  clear z
  by_cases z : x = "min" ∧ n = 1
  · rw [if_pos z] at h; cases h
  rw [if_neg z] at h
  clear z
  by_cases z : x = "sum" ∧ n = 1
  · rw [if_pos z] at h; cases h
  rw [if_neg z] at h
  clear z
  by_cases z : x = "all" ∧ n = 1
  · rw [if_pos z] at h; cases h
  rw [if_neg z] at h
  clear z
  by_cases z : x = "any" ∧ n = 1
  · rw [if_pos z] at h; cases h
  rw [if_neg z] at h
  clear z
  by_cases z : x = "list" ∧ n = 1
  · exact z.1
  rw [if_neg z] at h
  clear z
  by_cases z : x = "tuple" ∧ n = 1
  · rw [if_pos z] at h; cases h
  rw [if_neg z] at h
  clear z
  by_cases z : x = "int" ∧ n = 1
  · rw [if_pos z] at h; cases h
  rw [if_neg z] at h
  clear z
  by_cases z : x = "str" ∧ n = 1
  · rw [if_pos z] at h; cases h
  rw [if_neg z] at h
  clear z
  by_cases z : x = "sorted" ∧ n = 1
  · rw [if_pos z] at h; cases h
  rw [if_neg z] at h
  clear z
  cases h
theorem trBlt_pos {x : Str} {n : Nat} {b : Blt} (h : trBlt x n = some b) : n ≠ 0 := by
  unfold trBlt at h
  by_cases z : x = "abs" ∧ n = 1
  · intro h0; rw [h0] at z; exact absurd z.2 (by decide)
  rw [if_neg z] at h
  clear z
  by_cases z : x = "max" ∧ n = 2
  · intro h0; rw [h0] at z; exact absurd z.2 (by decide)
  rw [if_neg z] at h
  clear z
  by_cases z : x = "min" ∧ n = 2
  · intro h0; rw [h0] at z; exact absurd z.2 (by decide)
  rw [if_neg z] at h
  clear z
  by_cases z : x = "max" ∧ n = 1
  · intro h0; rw [h0] at z; exact absurd z.2 (by decide)
  rw [if_neg z] at h
  clear z
  by_cases z : x = "min" ∧ n = 1
  · intro h0; rw [h0] at z; exact absurd z.2 (by decide)
  rw [if_neg z] at h
  clear z
  by_cases z : x = "sum" ∧ n = 1
  · intro h0; rw [h0] at z; exact absurd z.2 (by decide)
  rw [if_neg z] at h
  clear z
  by_cases z : x = "all" ∧ n = 1
  · intro h0; rw [h0] at z; exact absurd z.2 (by decide)
  rw [if_neg z] at h
  clear z
  by_cases z : x = "any" ∧ n = 1
  · intro h0; rw [h0] at z; exact absurd z.2 (by decide)
  rw [if_neg z] at h
  clear z
  by_cases z : x = "list" ∧ n = 1
  · intro h0; rw [h0] at z; exact absurd z.2 (by decide)
  rw [if_neg z] at h
  clear z
  by_cases z : x = "tuple" ∧ n = 1
  · intro h0; rw [h0] at z; exact absurd z.2 (by decide)
  rw [if_neg z] at h
  clear z
  by_cases z : x = "int" ∧ n = 1
  · intro h0; rw [h0] at z; exact absurd z.2 (by decide)
  rw [if_neg z] at h
  clear z
  by_cases z : x = "str" ∧ n = 1
  · intro h0; rw [h0] at z; exact absurd z.2 (by decide)
  rw [if_neg z] at h
  clear z
  by_cases z : x = "sorted" ∧ n = 1
  · intro h0; rw [h0] at z; exact absurd z.2 (by decide)
  rw [if_neg z] at h
  clear z
  cases h
theorem trCall_of (g : Good S c k X sc so) (tk : Takes X W) (G : Glob S c F k) {f : Str} {p pos : Pos} {es : List Expr} {xs : List E} {y : E}
    (ha : PA X es (dA S W (evs F xs))) (hs : ∀ e ∈ es, ∀ a p, e ≠ .Starred a p) (hl : xs.length = es.length) (hb : ∀ e x, es = [e] → xs = [x] → PE X e (dB S W fun env => rdB env x (ev F x env)))
    (e : trCall c sc f xs = some y) : TrO S W F X (.Call (.Name f p) es [] pos) y := by
  have mk : ∀ y, PE X (.Call (.Name f p) es [] pos) (dE S W (ev F y)) → (∀ i, y ≠ .var i) → (freshE y = true → PE X (.Call (.Name f p) es [] pos) (dN S W (ev F y))) → TrO S W F X (.Call (.Name f p) es [] pos) y := fun y h1 h2 h3 =>
    ⟨.of g.hK h1 h2 fun _ => rfl, (fun a p => by intro h; cases h), h3, (fun elt gs scope pos => by intro h; cases h)⟩
  unfold trCall at e
  split at e
  · rename_i hc
    simp only [Bool.and_eq_true] at hc
    split at e
    · rename_i j ej
      split at e
      · cases e
      · rename_i hne
        cases e
        cases es with
        | nil => cases xs with
          | nil => exact absurd rfl hne
          | cons x xs => simp at hl
        | cons a es => exact mk _ (e_call g tk (G.own f j ej) hc.1 hc.2 hs ha) (fun i => by intro h; cases h) fun h => by cases h
    · split at e
      · rename_i hbl
        have hm := G.blt f hbl
        split at e
        · rename_i hf
          subst hf
          rcases xs with _ | ⟨x, _ | ⟨x2, xs⟩⟩
          · cases e
          · cases e
            obtain ⟨a, rfl⟩ : ∃ a, es = [a] := by
              rcases es with _ | ⟨a, _ | ⟨b, es⟩⟩
              · simp at hl
              · exact ⟨a, rfl⟩
              · simp at hl
            exact mk _ (e_len g (hs a (List.mem_singleton.mpr rfl)) hc.1 hm (hb a x rfl rfl)) (fun i => by intro h; cases h) fun h => by cases h
          · cases e
        · cases e1 : trBlt f xs.length with
          | none => rw [e1] at e; cases e
          | some b =>
            rw [e1] at e
            simp only [Option.map] at e
            cases e
            cases es with
            | nil =>
              cases xs with
              | nil =>
                exact absurd rfl (trBlt_pos e1)
              | cons x xs => simp at hl
            | cons a es =>
              refine mk _ (e_blt g e1 hc.1 hm hs ha) (fun i => by intro h; cases h) fun h => ?_
              cases b <;> first | (cases h; done) | skip
              exact n_list g (trBlt_list e1) hc.1 hm hs ha
      · cases e
  · cases e
end
end Fz

/-! sorted(set(..)); methods of lists -/
namespace Fz
open PySem PySem.Spec L2
open PyProof.Rows hiding St

variable {S : Su}
section
variable {X : Cx} {W : WX} {F : Fns} {c : TC} {sc so : Scope} {k : Nat}
theorem e_dict {e : Expr} {es : List Expr} {xs : List E} {p pos : Pos} (g : Good S c k X sc so) (hg : glB sc "dict" = true) (hm : S.mg "dict" = none) (hs : ∀ e' ∈ e :: es, ∀ a p, e' ≠ .Starred a p) (ha : PA X (e :: es) (dA S W (evs F xs))) :
    PE X (.Call (.Name "dict" p) (e :: es) [] pos) (dE S W (ev F (.blt (.dict true) xs))) := by
  have gl : Gl X "dict" := glB_of (by rw [g.sc]; exact hg)
  have mg : X.mg "dict" = none := by rw [g.hmg]; exact hm
  have s1 := star_cons (env := X.env) (es := es) (hs e (List.mem_cons_self ..))
  have s2 := backTo_plain (pos := pos) (env := X.env) fun e' he => hs e' (List.mem_cons_of_mem _ he)
  exact (pe_callTy (k_dict g.hK g.calm (by have := g.room.un; omega)) gl mg (by decide +kernel) ha (by decide) (by decide) s1 s2).imp fun σ H Q q => impB q
theorem sortedSet_of {t u : T} (e : bltT .sortedSet [t] = .ok u) : ∃ xs, seqOf t = some xs ∧ canSet xs = true ∧ u = .lst (sortT (dedupT xs)) := by
  cases t <;> first | (cases e; done) | skip
  all_goals
    simp only [bltT] at e
    split at e
    · rename_i h
      rw [Bool.and_eq_true] at h
      cases e
      exact ⟨_, rfl, h.1, rfl⟩
    · cases e
theorem e_sortedSet {a : Expr} {x : E} {p p2 p3 pos : Pos} (g : Good S c k X sc so) (hg : glB sc "sorted" = true) (hm : S.mg "sorted" = none) (hg2 : glB sc "set" = true) (hm2 : S.mg "set" = none) (hs : ∀ b q, a ≠ .Starred b q) (ha : PE X a (dE S W (ev F x))) :
    PE X (.Call (.Name "sorted" p) [.Call (.Name "set" p2) [a] [] p3] [] pos) (dE S W (ev F (.blt .sortedSet [x]))) := by
  have inner := pe_callTy (p := p2) (pos := p3) (k_set g) (glB_of (by rw [g.sc]; exact hg2)) (by rw [g.hmg]; exact hm2) (by decide +kernel) (a_cons hs ha a_nil) (by decide) (by decide) (star_cons hs) rfl
  refine (pe_callB (k_sortedSet g) (glB_of (by rw [g.sc]; exact hg)) (by rw [g.hmg]; exact hm) (by decide +kernel) (pa_cons inner pa_nil (star_cons fun _ _ h => by cases h)) (by decide) (by decide) (star_cons fun _ _ h => by cases h) rfl).imp fun σ H Q q => ?_
  obtain ⟨E, env, o, eo, p⟩ := q
  simp only [ev] at p
  refine ⟨E, env, o, eo, (PostG.split p).imp fun ts F1 H1 s1 p1 vs rs => ?_⟩
  cases e1 : bltT .sortedSet ts with
  | ok u =>
    rw [e1] at p1
    rcases ts with _ | ⟨t, _ | ⟨t2, ts⟩⟩
    · cases e1
    · obtain ⟨xs, h1, h2, rfl⟩ := sortedSet_of e1
      refine ⟨F1, t, xs, s1.ok, rs, h1, h2, fun a L hn hL => ?_⟩
      refine ⟨F1, a, xs, L, (Step.newR s1.ok hn).ok, rfl, upd_same, hL, h2, fun v F' H' st r => ?_⟩
      exact p1 F' H' ((Step.newR s1.ok hn).trans st) v r
    · cases t <;> cases e1
  | ex d => exact (bltT_nx _ _ _ e1).elim
  | no => rw [e1] at p1; exact p1.elim
theorem e_mth {m : Str} {id : String} {b : Blt} {ea : Expr} {x y : E} {w : Str} {wp ap cp : Pos} (g : Good S c k X sc so) (slot : Slot "list" m id) (hty : typeOf (.builtin id) = pure (.type "method_descriptor")) (hm : MtR X id (rMt S (bltT b)))
    (hl : (ap.endLine == cp.line) = true) (hs : ∀ a p, ea ≠ .Starred a p) (hx : PE X (.Name w wp) (dE S W (ev F x))) (ha : PE X ea (dE S W (ev F y))) :
    PE X (.Call (.Attribute (.Name w wp) m ap) [ea] [] cp) (dE S W (ev F (.mth b x y))) := by
  have fw : ((backTo cp (starEach [ea] X.env)).all (fun x => !x.1) && (backToKw cp (keywordEach [] X.env)).all (fun x => x.1.isSome)
      && decide ([ea].length + ([] : List Keyword).length + (if ([] : List Keyword).isEmpty then 0 else 1) < 30)) = true := by
    rw [star_cons hs]; rfl
  refine (pe_bm PySem.F.plainAttrs_list slot hty hm hx (pa_cons ha pa_nil (star_cons hs)) rfl fw hl (star_cons hs) rfl).imp fun σ H Q q => ?_
  obtain ⟨E, env, o, eo, p⟩ := q
  simp only [ev] at p
  refine ⟨E, env, o, eo, (PostG.split p).imp fun t F1 H1 s1 p1 v rv => ?_⟩
  cases t <;> first | exact p1.elim | skip
  rename_i l
  have rv' := rv
  obtain ⟨a, vs, rfl, h1, _, _⟩ := rv'
  refine ⟨.inl ⟨rfl, vs, g.hK ▸ (s1.ok.sub.la h1).sq⟩, F1, env, s1.ok, eo.step s1, (PostG.split p1).imp fun u F2 H2 s2 p2 w2 rw2 => ?_⟩
  cases e1 : bltT b [.lst l, u] with
  | ok r => rw [e1] at p2; exact ⟨F2, _, r, s2.ok, .two (rv.mono s2.ff) rw2, e1, fun v F' H' s r => p2 F' H' s v r⟩
  | ex d => exact (bltT_nx _ _ _ e1).elim
  | no => rw [e1] at p2; exact p2.elim
end
end Fz

/-! every expression that is translated -/
namespace Fz
open PySem PySem.Spec L2
open PyProof.Rows hiding St

variable {S : Su}
section
variable {X : Cx} {W : WX} {F : Fns} {c : TC} {sc so : Scope} {k : Nat}
theorem TrO.mk' {e : Expr} {x : E} (h : Tri S W F X e x) (hs : ∀ a p, e ≠ .Starred a p) (hf : freshE x = false) (hl : ∀ elt gs scope pos, e ≠ .ListComp elt gs scope pos) : TrO S W F X e x :=
  ⟨h, hs, fun z => (by rw [hf] at z; cases z), fun elt gs scope pos z => absurd z (hl _ _ _ _)⟩
theorem freshBand {op : BoolOp} {es : List Expr} {x : E} (h : trB c sc op es = some x) (hl : 2 ≤ es.length) : freshE x = false := by
  rcases es with _ | ⟨a, _ | ⟨b, rest⟩⟩
  · simp at hl
  · simp at hl
  · unfold trB at h
    cases e1 : trE c sc a with
    | none => simp only [e1] at h; cases h
    | some y =>
      cases e2 : trB c sc op (b :: rest) with
      | none => simp only [e1, e2] at h; cases h
      | some z =>
        simp only [e1, e2] at h
        cases h
        cases op <;> rfl
theorem freshN {x : Str} {y : E} (h : trN c sc x = some y) : freshE y = false := by
  unfold trN at h
  split at h
  · split at h
    · cases e : ixOf x c.N 0 with
      | none => rw [e] at h; cases h
      | some i => rw [e] at h; cases h; rfl
    · split at h
      · split at h
        · cases h; rfl
        · split at h <;> cases h
          rfl
      · cases h
  · cases h
theorem trIsi_of (G : Glob S c F k) {t : Str} {b : Blt} (h : trIsi c sc t = some b) : (∃ cs, c.gs.lookup t = some cs ∧ b = .isExc cs c.gn ∧ okName t = true ∧ glB sc t = true) ∨ ∃ n, isiCls b = some n ∧ bootBuiltins t = some (.type n) ∧ okName t = true ∧ glB sc t = true ∧ S.mg t = none := by
  unfold trIsi at h
  split at h
  · rename_i hc
    simp only [Bool.and_eq_true] at hc
    split at h
    · rename_i cs e
      cases h
      exact .inl ⟨cs, e, rfl, hc.2, hc.1⟩
    · right
      split at h
      · rename_i hb
        have hm := G.blt t hb
        split at h
        · rename_i e; subst e; cases h; exact ⟨"int", rfl, PyProof.Rows.boot_int, hc.2, hc.1, hm⟩
        · split at h
          · rename_i e; subst e; cases h; exact ⟨"bool", rfl, by decide +kernel, hc.2, hc.1, hm⟩
          · split at h
            · rename_i e; subst e; cases h; exact ⟨"tuple", rfl, PyProof.Rows.boot_tuple, hc.2, hc.1, hm⟩
            · split at h
              · rename_i e; subst e; cases h; exact ⟨"str", rfl, by decide +kernel, hc.2, hc.1, hm⟩
              · split at h
                · rename_i e; subst e; cases h; exact ⟨"list", rfl, by decide +kernel, hc.2, hc.1, hm⟩
                · cases h
      · cases h
  · cases h
theorem nomarkS {o : CmpOp} {b : Expr} (h : (okCop o || !isSetE b) = true) : behindInMarks o b = false := by
  cases b <;> first | rfl | skip
  have : okCop o = true := by simpa [isSetE] using h
  cases o <;> first | rfl | (cases this; done) | (simp [behindInMarks])
theorem trE_all (G : Glob S c F k) : ∀ (n : Nat) (e : Expr), sizeOf e ≤ n → PEx S F c k e := by
  intro n
  induction n with
  | zero => intro e he; cases e <;> simp at he
  | succ n ih =>
    intro e he X W sc so g tk x hx
    have one : ∀ {e' : Expr} {y : E}, sizeOf e' ≤ n → trE c sc e' = some y → TrO S W F X e' y := fun {e' y} h1 h2 => ih e' h1 g tk y h2
    unfold trE at hx
    split at hx
    · -- a constant
      rename_i q j pos
      cases e1 : trC q with
      | none => rw [e1] at hx; cases hx
      | some t => rw [e1] at hx; cases hx; exact .mk' (.of g.hK (trC_ok e1) (fun i h => by cases h) fun _ => rfl) (fun _ _ h => by cases h) rfl (fun _ _ _ _ h => by cases h)
    · rename_i q pos
      exact .mk' (trN_of g G hx) (fun _ _ h => by cases h) (freshN hx) (fun _ _ _ _ h => by cases h)
    · rename_i a op b pos
      simp only [Expr.BinOp.sizeOf_spec] at he
      split at hx
      · rename_i o' y z h1 h2 h3
        cases hx
        exact .mk' (.of g.hK (e_bin g h1 (one (by omega) h2).tri.e (one (by omega) h3).tri.e) (fun i h => by cases h) fun _ => rfl) (fun _ _ h => by cases h) rfl (fun _ _ _ _ h => by cases h)
      · cases hx
    · rename_i a pos
      simp only [Expr.UnaryOp.sizeOf_spec] at he
      cases e1 : trE c sc a with
      | none => rw [e1] at hx; cases hx
      | some y => rw [e1] at hx; cases hx; exact .mk' (t_not g (one (by omega) e1).tri) (fun _ _ h => by cases h) rfl (fun _ _ _ _ h => by cases h)
    · rename_i a pos
      simp only [Expr.UnaryOp.sizeOf_spec] at he
      cases e1 : trE c sc a with
      | none => rw [e1] at hx; cases hx
      | some y => rw [e1] at hx; cases hx; exact .mk' (.of g.hK (e_neg (one (by omega) e1).tri.e) (fun i h => by cases h) fun _ => rfl) (fun _ _ h => by cases h) rfl (fun _ _ _ _ h => by cases h)
    · rename_i op vs pos
      simp only [Expr.BoolOp.sizeOf_spec] at he
      have hv : ∀ e' ∈ vs, PEx S F c k e' := fun e' h' => ih e' (by have := List.sizeOf_lt_of_mem h'; omega)
      split at hx
      · rename_i hl
        obtain ⟨w, q⟩ := trB_of (pos := pos) g tk hv hx
        exact .mk' (w.tri (q hl)) (fun _ _ h => by cases h) (freshBand hx hl) (fun _ _ _ _ h => by cases h)
      · cases hx
    · rename_i t a b pos
      simp only [Expr.IfExp.sizeOf_spec] at he
      split at hx
      · rename_i y1 y2 y3 h1 h2 h3
        cases hx
        exact .mk' (t_ite (one (by omega) h1).tri (one (by omega) h2).tri (one (by omega) h3).tri) (fun _ _ h => by cases h) rfl (fun _ _ _ _ h => by cases h)
      · cases hx
    · rename_i a op b pos
      simp only [Expr.Compare.sizeOf_spec, List.cons.sizeOf_spec] at he
      split at hx
      · rename_i ho
        split at hx
        · rename_i y1 y2 h1 h2
          cases hx
          exact .mk' (t_cmp g (nomarkS ho) (one (by omega) h1).tri (one (by omega) h2).tri) (fun _ _ h => by cases h) rfl (fun _ _ _ _ h => by cases h)
        · cases hx
      · cases hx
    · rename_i a o1 o2 b d pos
      simp only [Expr.Compare.sizeOf_spec, List.cons.sizeOf_spec] at he
      split at hx
      · rename_i ho
        simp only [Bool.and_eq_true] at ho
        split at hx
        · rename_i y1 y2 y3 h1 h2 h3
          cases hx
          exact .mk' (t_chain g ho.1 ho.2 (one (by omega) h1).tri (one (by omega) h2).tri (one (by omega) h3).tri) (fun _ _ h => by cases h) rfl (fun _ _ _ _ h => by cases h)
        · cases hx
      · cases hx
    · -- isinstance, or a call whose second argument is a name
      rename_i f p a t p2 pos
      simp only [Expr.Call.sizeOf_spec, List.cons.sizeOf_spec] at he
      split at hx
      · rename_i hf
        obtain ⟨rfl, hb, hg⟩ := hf
        split at hx
        · rename_i b y h1 h2
          cases hx
          have o := one (by omega) h2
          rcases trIsi_of G h1 with ⟨cs, q1, rfl, q3, q4⟩ | ⟨m, q1, q2, q3, q4, q5⟩
          · exact .mk' (.of g.hK (e_isx g G q1 q3 q4 hg (G.blt _ hb) o.ns o.tri.e) (fun i h => by cases h) fun _ => rfl) (fun _ _ h => by cases h) rfl (fun _ _ _ _ h => by cases h)
          · refine .mk' (.of g.hK (e_isi g q1 q2 q3 q4 q5 hg (G.blt _ hb) o.ns o.tri.e) (fun i h => by cases h) fun _ => rfl) (fun _ _ h => by cases h) ?_ (fun _ _ _ _ h => by cases h)
            cases b <;> first | rfl | (cases q1; done)
        · cases hx
      · split at hx
        · rename_i y z h1 h2
          have o := one (by omega) h1
          have o2 : Tri S W F X (.Name t p2) z := trN_of g G h2
          have hs : ∀ e ∈ [a, Expr.Name t p2], ∀ b q, e ≠ .Starred b q := fun e h' b q => by
            rcases List.mem_cons.mp h' with rfl | h'
            · exact o.ns b q
            · rcases List.mem_singleton.mp h' with rfl
              intro h; cases h
          exact trCall_of g tk G (a_cons o.ns o.tri.e (a_cons (fun _ _ h => by cases h) o2.e a_nil)) hs rfl (fun e x h => by cases h) hx
        · cases hx
    · -- sorted(set(..)), or a call of a call
      rename_i f p h p2 e p3 pos
      simp only [Expr.Call.sizeOf_spec, List.cons.sizeOf_spec] at he
      split at hx
      · rename_i hc
        obtain ⟨rfl, b1, g1, rfl, b2, g2⟩ := hc
        cases e1 : trE c sc e with
        | none => rw [e1] at hx; cases hx
        | some y =>
          rw [e1] at hx
          cases hx
          have o := one (by omega) e1
          exact .mk' (.of g.hK (e_sortedSet g g1 (G.blt _ b1) g2 (G.blt _ b2) o.ns o.tri.e) (fun i h => by cases h) fun _ => rfl) (fun _ _ h => by cases h) rfl (fun _ _ _ _ h => by cases h)
      · split at hx
        · rename_i y h1
          have o := one (by simp only [Expr.Call.sizeOf_spec, List.cons.sizeOf_spec]; omega) h1
          refine trCall_of g tk G (a_cons o.ns o.tri.e a_nil) (fun e' h' => ?_) rfl (fun e' x' h2 h3 => ?_) hx
          · rcases List.mem_singleton.mp h' with rfl
            exact o.ns
          · cases h2; cases h3; exact o.tri.b
        · cases hx
    · -- sorted(d.items())
      split at hx
      · rename_i hc
        obtain ⟨_, _, _, _, _, h1, h2⟩ := hc
        rw [h1] at h2
        cases h2
      · cases hx
    · rename_i f p args pos _ _ _
      simp only [Expr.Call.sizeOf_spec] at he
      have hv : ∀ e' ∈ args, PEx S F c k e' := fun e' h' => ih e' (by have := List.sizeOf_lt_of_mem h'; omega)
      cases e1 : trEs c sc args with
      | none => rw [e1] at hx; cases hx
      | some xs =>
        simp only [e1] at hx
        obtain ⟨a1, a2, a3⟩ := trEs_of g tk hv e1
        split at hx
        · rename_i hc
          obtain ⟨rfl, b1, g1, _⟩ := hc
          split at hx
          · rename_i x
            cases hx
            cases args with
            | nil => simp only [trEs] at e1; cases e1
            | cons a args =>
              exact .mk' (.of g.hK (e_dict g g1 (G.blt _ b1) a2 a1) (fun i h => by cases h) fun _ => rfl) (fun _ _ h => by cases h) rfl (fun _ _ _ _ h => by cases h)
          · cases hx
        · split at hx
          · rename_i hc
            rw [Bool.and_eq_true] at hc
            split at hx
            · cases hx
            · cases args with
              | nil =>
                simp only [trEs] at e1
                cases e1
                exact absurd rfl (by assumption)
              | cons a args =>
                cases e2 : ixOf f c.N 0 with
                | none => rw [e2] at hx; cases hx
                | some i =>
                  rw [e2] at hx
                  cases hx
                  exact .mk' (.of g.hK (e_callvN g tk G (e_var g hc.1 hc.2 e2) a2 a1) (fun i h => by cases h) fun _ => rfl) (fun _ _ h => by cases h) rfl (fun _ _ _ _ h => by cases h)
          · refine trCall_of g tk G a1 a2 a3 (fun e x h1 h2 => ?_) hx
            subst h1 h2
            simp only [trEs] at e1
            cases e2 : trE c sc e with
            | none => simp only [e2] at e1; cases e1
            | some y =>
              simp only [e2] at e1
              cases e1
              exact (hv e (List.mem_singleton.mpr rfl) g tk _ e2).tri.b
    · -- [f, ..][i](..)
      rename_i ns lp i sp args pos
      simp only [Expr.Call.sizeOf_spec, Expr.Subscript.sizeOf_spec, Expr.List.sizeOf_spec] at he
      split at hx
      · rename_i xs y es h1 h2 h3
        split at hx
        · rename_i hc
          cases hx
          simp only [Bool.and_eq_true, decide_eq_true_eq] at hc
          have hv : ∀ e' ∈ args, PEx S F c k e' := fun e' h' => ih e' (by have := List.sizeOf_lt_of_mem h'; omega)
          have hv2 : ∀ e' ∈ ns, PEx S F c k e' := fun e' h' => ih e' (by have := List.sizeOf_lt_of_mem h'; omega)
          obtain ⟨a1, a2, a3⟩ := trEs_of g tk hv h3
          obtain ⟨b1, b2, b3⟩ := trEs_of g tk hv2 h1
          have oi := one (by omega) h2
          have hsl : isSl i = false := by
            cases i <;> first | rfl | (simp [trE] at h2; done)
          have hl : PE X (.List ns lp) (dE S W (ev F (.lst xs))) := dE_of_dN (n_lst hc.1 b1)
          cases args with
          | nil =>
            simp only [trEs] at h3
            cases h3
            simp at hc
          | cons a args => exact .mk' (.of g.hK (e_callvS g tk G (e_idx g.hK (by have := g.room.un; omega) hsl hl oi.tri.e) a2 a1) (fun i h => by cases h) fun _ => rfl) (fun _ _ h => by cases h) rfl (fun _ _ _ _ h => by cases h)
        · cases hx
      · cases hx
    · -- l.count(x), l.index(x)
      rename_i w wp m ap a cp
      simp only [Expr.Call.sizeOf_spec, List.cons.sizeOf_spec] at he
      split at hx
      · rename_i hl
        split at hx
        · rename_i x1 y1 h1 h2
          have oa := one (by omega) h2
          have ow : Tri S W F X (.Name w wp) x1 := trN_of g G h1
          split at hx
          · rename_i hm
            subst hm
            cases hx
            exact .mk' (.of g.hK (e_mth g PySem.F.slot_list_count PySem.F.type_list_count (mt_count' g) hl oa.ns ow.e oa.tri.e) (fun i h => by cases h) fun _ => rfl) (fun _ _ h => by cases h) rfl (fun _ _ _ _ h => by cases h)
          · split at hx
            · rename_i hm
              subst hm
              cases hx
              exact .mk' (.of g.hK (e_mth g PySem.F.slot_list_index PySem.F.type_list_index (mt_index' g) hl oa.ns ow.e oa.tri.e) (fun i h => by cases h) fun _ => rfl) (fun _ _ h => by cases h) rfl (fun _ _ _ _ h => by cases h)
            · cases hx
        · cases hx
      · cases hx
    · -- d.get(k, x)
      rename_i w wp m ap a b cp
      simp only [Expr.Call.sizeOf_spec, List.cons.sizeOf_spec] at he
      split at hx
      · rename_i hl
        obtain ⟨hl, rfl, hv, hn⟩ := hl
        split at hx
        · rename_i i y1 z1 h1 h2 h3
          cases hx
          have oa := one (by omega) h2
          have ob := one (by omega) h3
          exact .mk' (.of g.hK (e_get2 g hv hn h1 hl oa.ns ob.ns oa.tri.e ob.tri.e) (fun i h => by cases h) fun _ => rfl) (fun _ _ h => by cases h) rfl (fun _ _ _ _ h => by cases h)
        · cases hx
      · cases hx
    · -- {}
      rename_i pos
      cases hx
      have nn : PE X (.Dict [] [] pos) (dN S W (ev F (.dnew c.tkd))) := n_dnew
      exact ⟨.of g.hK (dE_of_dN nn) (fun i h => by cases h) fun _ => rfl, (fun _ _ h => by cases h), fun _ => nn, (fun _ _ _ _ h => by cases h)⟩
    · rename_i es j pos
      simp only [Expr.Tuple.sizeOf_spec] at he
      have hv : ∀ e' ∈ es, PEx S F c k e' := fun e' h' => ih e' (by have := List.sizeOf_lt_of_mem h'; omega)
      split at hx
      · rename_i hl
        cases e1 : trEs c sc es with
        | none => rw [e1] at hx; cases hx
        | some xs =>
          rw [e1] at hx
          cases hx
          obtain ⟨a1, a2, a3⟩ := trEs_of g tk hv e1
          exact .mk' (.of g.hK (e_tup (by omega) a1) (fun i h => by cases h) fun _ => rfl) (fun _ _ h => by cases h) rfl (fun _ _ _ _ h => by cases h)
      · cases hx
    · rename_i es pos
      simp only [Expr.List.sizeOf_spec] at he
      have hv : ∀ e' ∈ es, PEx S F c k e' := fun e' h' => ih e' (by have := List.sizeOf_lt_of_mem h'; omega)
      split at hx
      · rename_i hl
        cases e1 : trEs c sc es with
        | none => rw [e1] at hx; cases hx
        | some xs =>
          rw [e1] at hx
          cases hx
          obtain ⟨a1, a2, a3⟩ := trEs_of g tk hv e1
          have nn : PE X (.List es pos) (dN S W (ev F (.lst xs))) := n_lst (by omega) a1
          exact ⟨.of g.hK (dE_of_dN nn) (fun i h => by cases h) fun _ => rfl, (fun _ _ h => by cases h), fun _ => nn, (fun _ _ _ _ h => by cases h)⟩
      · cases hx
    · rename_i a j p1 p2 p3 pos
      simp only [Expr.Subscript.sizeOf_spec] at he
      cases e1 : trE c sc a with
      | none => rw [e1] at hx; cases hx
      | some y => rw [e1] at hx; cases hx; exact .mk' (.of g.hK (e_rev g.hK (one (by omega) e1).tri.e) (fun i h => by cases h) fun _ => rfl) (fun _ _ h => by cases h) rfl (fun _ _ _ _ h => by cases h)
    · rename_i a lo hi p2 pos
      simp only [Expr.Subscript.sizeOf_spec, Expr.Slice.sizeOf_spec] at he
      split at hx
      · rename_i y l h h1 h2 h3
        cases hx
        have q1 := trO_of g tk (fun a' e' => ih a' (by subst e'; simp only [Option.some.sizeOf_spec] at he; omega)) h2
        have q2 := trO_of g tk (fun a' e' => ih a' (by subst e'; simp only [Option.some.sizeOf_spec] at he; omega)) h3
        exact .mk' (.of g.hK (e_slc g.hK (one (by omega) h1).tri.e q1 q2) (fun i h => by cases h) fun _ => rfl) (fun _ _ h => by cases h) rfl (fun _ _ _ _ h => by cases h)
      · cases hx
    · cases hx
    · rename_i w wp i pos _ _ hns
      simp only [Expr.Subscript.sizeOf_spec] at he
      have hsl : isSl i = false := by
        cases i <;> first | rfl | exact absurd rfl (hns _ _ _ _)
      split at hx
      · rename_i j ha
        unfold accIx at ha
        split at ha
        · rename_i hc
          simp only [Bool.and_eq_true] at hc
          split at ha
          · rename_i j' h1
            split at ha
            · cases ha
              cases e1 : trE c sc i with
              | none => rw [e1] at hx; cases hx
              | some y =>
                rw [e1] at hx
                cases hx
                exact .mk' (.of g.hK (e_idxV g hc.1 hc.2 h1 hsl (one (by omega) e1).tri.e) (fun i h => by cases h) fun _ => rfl) (fun _ _ h => by cases h) rfl (fun _ _ _ _ h => by cases h)
            · cases ha
          · cases ha
        · cases ha
      · split at hx
        · rename_i y z h1 h2
          cases hx
          have h1' : trE c sc (.Name w wp) = some y := by rw [trE]; exact h1
          exact .mk' (.of g.hK (e_idx g.hK (by have := g.room.un; omega) hsl (one (by simp only [Expr.Name.sizeOf_spec] at he ⊢; omega) h1').tri.e (one (by omega) h2).tri.e) (fun i h => by cases h) fun _ => rfl) (fun _ _ h => by cases h) rfl (fun _ _ _ _ h => by cases h)
        · cases hx
    · rename_i a i pos _ _ hns _
      simp only [Expr.Subscript.sizeOf_spec] at he
      split at hx
      · rename_i y z h1 h2
        cases hx
        have hsl : isSl i = false := by
          cases i <;> first | rfl | exact absurd rfl (hns _ _ _ _)
        exact .mk' (.of g.hK (e_idx g.hK (by have := g.room.un; omega) hsl (one (by omega) h1).tri.e (one (by omega) h2).tri.e) (fun i h => by cases h) fun _ => rfl) (fun _ _ h => by cases h) rfl (fun _ _ _ _ h => by cases h)
      · cases hx
    · rename_i elt tg iter ifs as scope pos
      simp only [Expr.ListComp.sizeOf_spec, List.cons.sizeOf_spec, Comprehension.mk.sizeOf_spec] at he
      split at hx
      · rename_i has
        subst has
        cases e0 : ownOf c.N (tgNames tg) with
        | none => rw [e0] at hx; cases hx
        | some own =>
          simp only [e0] at hx
          split at hx
          · rename_i hblk
            split at hx
            · rename_i r ik its gt cs y h1 h2 h3 h4
              split at hx
              · rename_i hcs
                cases hx
                simp only [Bool.and_eq_true, decide_eq_true_eq, List.all_eq_true, List.contains_iff_mem] at hcs
                obtain ⟨w1, w2⟩ := trW_of (tg := tg) (iter := iter) g tk G (fun e' h' => ih e' (by omega)) h1
                have at' : LcAt S W F X elt [⟨tg, iter, ifs, 0⟩] scope (.comp y gt ik its cs (own.map (·.2))) := by
                  refine ⟨tg, iter, ifs, own, _, _, _, _, rfl, ⟨w1, blkOk_by (by rw [g.hN, g.sc]; exact hblk), fun s H C cl fp => (trG_ok (g.blk) tg gt h2).1, fun s H C cl fp => ?_, fun s H C cl fp => (ih elt (by omega) g.blk takes0 y h4).tri.e, w2⟩, rfl, fun σ H Q q => imp_comp hcs.1 (fun i hi => hcs.2 i hi) q⟩
                  have hv : ∀ e' ∈ ifs, PEx S F c k e' := fun e' h' => ih e' (by have := List.sizeOf_lt_of_mem h'; omega)
                  obtain ⟨_, _, a3⟩ := trEs_of (g.blk (s := s) (H := H) (scope := scope) (cl := cl) (C := C) (fp := fp)) takes0 hv h3
                  rcases ifs with _ | ⟨t, _ | ⟨t2, ifs⟩⟩
                  · cases cs with
                    | nil => exact pts_nil
                    | cons z cs => simp at a3
                  · rcases cs with _ | ⟨z, _ | ⟨z2, cs⟩⟩
                    · simp at a3
                    · simp only [trEs] at h3
                      cases e5 : trE c (relS scope sc) t with
                      | none => simp only [e5] at h3; cases h3
                      | some z' =>
                        simp only [e5] at h3
                        cases h3
                        exact pts_one (hv t (List.mem_singleton.mpr rfl) g.blk takes0 _ e5).tri.tt
                    · simp at a3
                  · have := hcs.1
                    rw [a3] at this
                    simp at this
                have nn := at'.n g (pos := pos)
                exact ⟨.of g.hK (dE_of_dN nn) (fun i h => by cases h) fun _ => rfl, (fun _ _ h => by cases h), fun _ => nn, fun elt' gs' scope' pos' h => by cases h; exact at'⟩
              · cases hx
            · cases hx
          · cases hx
      · cases hx
    · cases hx
theorem trE_ok (G : Glob S c F k) (e : Expr) : PEx S F c k e := trE_all G _ e (Nat.le_refl _)
end
end Fz

/-! statements: the state, the reading -/
namespace Fz
open PySem PySem.Spec L2
open PyProof.Rows hiding St

variable {S : Su}
/-- no two slots have the same thing of the frame's own -/
def Dis (σ : St) (env : Cells) : Prop := ∀ (i j : Nat) (t u : T), i ≠ j → env[i]? = some (.ow t) → env[j]? = some (.ow u) → σ[i]? ≠ σ[j]?
/-- a state behind F0, H0: what is of the frame's own is new since H0 -/
structure RSF (S : Su) (F0 H0 F : Hp) (env : Cells) (σ : St) (H : Hp) : Prop where
  st : Step S F0 H0 F H
  eo : EnvOk S F H σ env
  dis : Dis σ env
  new : ∀ (i : Nat) (t : T) (a : Addr), env[i]? = some (.ow t) → σ[i]? = some (some (.ref a)) → H0 a = none
def RS (S : Su) (F0 H0 : Hp) (env : Cells) (σ : St) (H : Hp) : Prop := ∃ F, RSF S F0 H0 F env σ H
def PostF (S : Su) (W : WX) (F0 H0 : Hp) (D : Ends) : Fl → Prop
  | .nx env => ∀ σ H, RS S F0 H0 env σ H → D.nx σ H
  | .rt t => ∀ v F H, Step S F0 H0 F H → Rep S F t v → D.rt v H
  | .ex c env => ∀ σ H, RS S F0 H0 env σ H → W (.ref (S.cA c)) none σ H
  | .no => False
def dS (S : Su) (W : WX) (f : Cells → Fl) : TS := fun D σ H => ∃ F0 H0 env, RS S F0 H0 env σ H ∧ PostF S W F0 H0 D (f env)

section
variable {X : Cx} {W : WX} {F : Fns} {c : TC} {sc so : Scope} {k : Nat}
theorem RSF.step {F0 H0 E E' H H' : Hp} {env : Cells} {σ : St} (r : RSF S F0 H0 E env σ H) (s : Step S E H E' H') : RSF S F0 H0 E' env σ H' :=
  ⟨r.st.trans s, r.eo.step s, r.dis, r.new⟩
/-- a base within -/
theorem Step.base {F0 H0 E1 H1 : Hp} (s : Step S F0 H0 E1 H1) : Step S E1 H0 E1 H1 := ⟨.refl _, s.hh, fun _ _ h => h, s.ok⟩
theorem Step.out {F0 H0 E1 H1 F H : Hp} (s : Step S F0 H0 E1 H1) (s' : Step S E1 H0 F H) : Step S F0 H0 F H := ⟨s.ff.trans s'.ff, s'.hh, fun a h1 h2 => s'.no a h1 (s.no a h1 h2), s'.ok⟩
theorem RSF.base {F0 H0 E H : Hp} {env : Cells} {σ : St} (r : RSF S F0 H0 E env σ H) : RS S E H0 env σ H := ⟨E, r.st.base, r.eo, r.dis, r.new⟩
theorem RS.out {F0 H0 E1 H1 H : Hp} {env : Cells} {σ : St} (s : Step S F0 H0 E1 H1) (r : RS S E1 H0 env σ H) : RS S F0 H0 env σ H := by
  obtain ⟨F, r⟩ := r
  exact ⟨F, s.out r.st, r.eo, r.dis, r.new⟩
/-- from a state to an evaluation -/
theorem RSF.ev {α : Type} {F0 H0 E H : Hp} {env : Cells} {σ : St} {D : Ends} {r : Res α} {g : α → Fl} {q : α → Hp → Hp → Prop} (rs : RSF S F0 H0 E env σ H) (p : PostF S W F0 H0 D (flOf r env g))
    (h : ∀ a E' H', RSF S F0 H0 E' env σ H' → Step S E H E' H' → PostF S W F0 H0 D (g a) → q a E' H') : PostG S W E H σ r q := by
  cases r with
  | ok a => exact fun E' H' s => h a E' H' (rs.step s) s p
  | ex d => exact fun E' H' s => p σ H' ⟨E', rs.step s⟩
  | no => exact p.elim
theorem Dis.less {σ σ' : St} {env env' : Cells} (d : Dis σ env) (l : Less σ env σ' env') : Dis σ' env' := fun i j t u n h1 h2 => by
  obtain ⟨a1, a2⟩ := l i t h1
  obtain ⟨b1, b2⟩ := l j u h2
  rw [a2, b2]
  exact d i j t u n a1 b1
theorem RSF.less {F0 H0 E H : Hp} {env env' : Cells} {σ σ' : St} (r : RSF S F0 H0 E env σ H) (e : EnvOk S E H σ' env') (l : Less σ env σ' env') : RSF S F0 H0 E env' σ' H :=
  ⟨r.st, e, r.dis.less l, fun i t a h1 h2 => by
    obtain ⟨a1, a2⟩ := l i t h1
    exact r.new i t a a1 (by rw [← a2]; exact h2)⟩

/-! ### lists of statements -/
theorem execs_append (ss ts : List Fz.S) (env : Cells) : execs F (ss ++ ts) env = (match execs F ss env with | .nx env' => execs F ts env' | r => r) := by
  induction ss generalizing env with
  | nil => simp only [List.nil_append, execs]
  | cons s ss ih =>
    simp only [List.cons_append, execs]
    cases e : exec F s env with
    | nx env' => simp only [e]; exact ih env'
    | rt t => simp only [e]
    | ex d env' => simp only [e]
    | no => simp only [e]
theorem execs_one (s : Fz.S) (env : Cells) : execs F [s] env = exec F s env := by
  simp only [execs]
  cases exec F s env <;> rfl
theorem s_nil : PSs X [] (dS S W (execs F [])) := by
  refine pss_nil.imp fun D σ H q => ?_
  obtain ⟨F0, H0, env, r, p⟩ := q
  simp only [execs] at p
  exact p σ H r
theorem s_cons {st : Stmt} {rest : List Stmt} {xs ys : List Fz.S} (h : PS X st (dS S W (execs F xs))) (h2 : PSs X rest (dS S W (execs F ys))) : PSs X (st :: rest) (dS S W (execs F (xs ++ ys))) := by
  refine (pss_cons h h2).imp fun D σ H q => ?_
  obtain ⟨F0, H0, env, r, p⟩ := q
  refine ⟨F0, H0, env, r, ?_⟩
  rw [execs_append] at p
  cases e : execs F xs env with
  | nx env' => rw [e] at p; exact fun σ' H' r' => ⟨F0, H0, env', r', p⟩
  | rt t => rw [e] at p; exact p
  | ex d env' => rw [e] at p; exact p
  | no => rw [e] at p; exact p

/-! ### a thing of the frame's own goes on -/
theorem RSF.share1 {F0 H0 E H : Hp} {env : Cells} {σ : St} {i : Nat} {t : T} (r : RSF S F0 H0 E env σ H) (h : env[i]? = some (.ow t)) : ∃ E', RSF S F0 H0 E' (env.set i (.sh t)) σ H := by
  obtain ⟨a, h1, h2, h3⟩ := r.eo.slot i _ h
  obtain ⟨w, g1, gt, g2, m⟩ := h3.frz h2
  have ha0 := r.new i _ a h h1
  have hil : i < env.length := (List.getElem?_eq_some_iff.mp h).1
  refine ⟨upd E a w, ⟨⟨r.st.ff.trans m, r.st.hh, fun b hb hb' => ?_, ⟨fun b u e => ?_, fun b u e => ?_, r.st.ok.tab⟩⟩, ⟨by rw [List.length_set]; exact r.eo.len, fun j d hj => ?_⟩, fun j l t u n hj hl => ?_, fun j t b hj hb => ?_⟩⟩
  · rw [upd_ne (fun z => hb (by rw [z]; exact ha0))]
    exact r.st.no b hb hb'
  · by_cases z : b = a
    · subst z; rw [upd_same] at e; cases e; exact g1
    · rw [upd_ne z] at e; exact r.st.ok.sub b u e
  · by_cases z : b = a
    · subst z; rw [upd_same] at e; cases e; exact gt
    · rw [upd_ne z] at e; exact r.st.ok.nt b u e
  · by_cases hji : i = j
    · subst hji
      rw [List.getElem?_set_self hil] at hj
      cases hj
      exact ⟨_, h1, g2⟩
    · rw [List.getElem?_set_ne hji] at hj
      have q := r.eo.slot j d hj
      cases d with
      | un => trivial
      | sh u => obtain ⟨v, q1, q2⟩ := q; exact ⟨v, q1, q2.mono m⟩
      | ow u =>
        obtain ⟨b, q1, q2, q3⟩ := q
        have nb : b ≠ a := fun z => r.dis i j _ _ hji h hj (by rw [h1, q1, z])
        exact ⟨b, q1, by rw [upd_ne nb]; exact q2, q3.mono m rfl⟩
  · have e1 : env[j]? = some (.ow t) := by
      by_cases z : i = j
      · subst z; rw [List.getElem?_set_self hil] at hj; cases hj
      · rw [List.getElem?_set_ne z] at hj; exact hj
    have e2 : env[l]? = some (.ow u) := by
      by_cases z : i = l
      · subst z; rw [List.getElem?_set_self hil] at hl; cases hl
      · rw [List.getElem?_set_ne z] at hl; exact hl
    exact r.dis j l t u n e1 e2
  · have e1 : env[j]? = some (.ow t) := by
      by_cases z : i = j
      · subst z; rw [List.getElem?_set_self hil] at hj; cases hj
      · rw [List.getElem?_set_ne z] at hj; exact hj
    exact r.new j t b e1 hb
theorem RSF.share {F0 H0 E H : Hp} {env : Cells} {σ : St} (r : RSF S F0 H0 E env σ H) : ∀ is : List Nat, ∃ E', RSF S F0 H0 E' (shareC env is) σ H
  | [] => ⟨E, r⟩
  | i :: is => by
    obtain ⟨E', r'⟩ := r.share is
    unfold shareC
    split
    · rename_i t e
      exact r'.share1 e
    · exact ⟨E', r'⟩
theorem imp_shr {ix : List Nat} {ss : List Fz.S} {D : Ends} {σ : St} {H : Hp} (q : dS S W (execs F (shr c ix ss)) D σ H) : dS S W (execs F ss) D σ H := by
  unfold shr at q
  split at q
  · exact q
  · obtain ⟨F0, H0, env, ⟨E, r⟩, p⟩ := q
    simp only [execs, exec] at p
    obtain ⟨E', r'⟩ := r.share (dedup (List.filter (fun i => c.acc.contains i) ix))
    exact ⟨F0, H0, _, ⟨E', r'⟩, p⟩
theorem s_shr {st : Stmt} {ix : List Nat} {s : Fz.S} (h : PS X st (dS S W (exec F s))) : PS X st (dS S W (execs F (shr c ix [s]))) :=
  h.imp fun D σ H q => by
    obtain ⟨F0, H0, env, r, p⟩ := imp_shr q
    exact ⟨F0, H0, env, r, by rw [execs_one] at p; exact p⟩
theorem s_one {st : Stmt} {s : Fz.S} (h : PS X st (dS S W (exec F s))) : PS X st (dS S W (execs F [s])) :=
  h.imp fun D σ H q => by
    obtain ⟨F0, H0, env, r, p⟩ := q
    exact ⟨F0, H0, env, r, by rw [execs_one] at p; exact p⟩
end
end Fz

/-! statements, one by one -/
namespace Fz
open PySem PySem.Spec L2
open PyProof.Rows hiding St

variable {S : Su}
section
variable {X : Cx} {W : WX} {F : Fns} {c : TC} {sc so : Scope} {k : Nat}
theorem s_pass {pos : Pos} : PS X (.Pass pos) (dS S W (exec F .pass)) := ps_pass.imp fun D σ H q => by
  obtain ⟨F0, H0, env, r, p⟩ := q
  simp only [exec] at p
  exact p σ H r
theorem s_ret {e : Expr} {x : E} {pos : Pos} (h : PE X e (dE S W (ev F x))) : PS X (.Return (some e) pos) (dS S W (exec F (.ret x))) := (ps_ret h).imp fun D σ H q => by
  obtain ⟨F0, H0, env, ⟨E, r⟩, p⟩ := q
  simp only [exec] at p
  exact ⟨E, env, r.st.ok, r.eo, r.ev p fun t E' H' r' s' p' v rv => p' v E' H' r'.st rv⟩
theorem s_retN {pos : Pos} : PS X (.Return none pos) (dS S W (exec F .retN)) := ps_retN.imp fun D σ H q => by
  obtain ⟨F0, H0, env, ⟨E, r⟩, p⟩ := q
  simp only [exec] at p
  exact p _ E H r.st rfl
theorem s_expr {e : Expr} {x : E} {pos : Pos} (hs : swapsWith e none pos.line X.env = pure false) (h : PE X e (dE S W (ev F x))) : PS X (.Expr e pos) (dS S W (exec F (.expr x))) := (ps_expr h hs).imp fun D σ H q => by
  obtain ⟨F0, H0, env, ⟨E, r⟩, p⟩ := q
  simp only [exec] at p
  exact ⟨E, env, r.st.ok, r.eo, r.ev p fun t E' H' r' s' p' v rv => p' σ H' ⟨E', r'⟩⟩
theorem s_raise {x m : Str} {i j : Nat} {p p2 pos pos' : Pos} (g : Good S c k X sc so) (tk : Takes X W) (ea : ExAt S x i) (hg : glB sc x = true) (hn : okName x = true) :
    PS X (.Raise (some (.Call (.Name x p) [.Constant (.str m) j p2] [] pos)) none pos') (dS S W (exec F (.raise i))) := by
  obtain ⟨B, newId, initId, bmB, f1, f2⟩ := ea.fx
  refine (ps_raise g.calm tk (pmk_own f1 (by rw [g.hK]; exact f2) (by rw [g.hmg]; exact ea.mg) (by rw [g.hK]; exact ea.kp) (raises_own (by rw [g.hK]; exact ea.sb) (by rw [g.hK]; exact ea.ty)) (glB_of (by rw [g.sc]; exact hg)) (okName_of hn).1)).imp fun D σ H q => ?_
  obtain ⟨F0, H0, env, r, p⟩ := q
  simp only [exec] at p
  exact p σ H r
/-! ### stores -/
theorem s_asg {tg e : Expr} {gt : Tg} {x : E} {pos : Pos} (hs : swapsWithSole [tg] e pos.line X.env = pure false) (hw : swappedStores [tg] e X.env = pure none) (hn : ∀ a p, tg ≠ .Starred a p)
    (he : PE X e (dE S W (ev F x))) (hg : PG X tg (dG S gt)) : PS X (.Assign [tg] e pos) (dS S W (exec F (.asg gt x))) := by
  refine (ps_asg he hg hs hw (by rw [assignEach_cons hn]; rfl)).imp fun D σ H q => ?_
  obtain ⟨F0, H0, env, ⟨E, r⟩, p⟩ := q
  simp only [exec] at p
  refine ⟨E, env, r.st.ok, r.eo, r.ev p fun t E' H' r' s' p' v rv => ?_⟩
  cases e1 : asgT gt t env with
  | none => rw [e1] at p'; exact p'.elim
  | some env' =>
    rw [e1] at p'
    exact ⟨E', env, t, env', r'.st.ok, r'.eo, rv, e1, fun σ' eo' l _ => p' σ' H' ⟨E', r'.less eo' l⟩⟩
/-- behind name = value that goes on -/
theorem fin_sh {i : Nat} {x : E} {D : Ends} {σ : St} {H : Hp} (q : dS S W (exec F (.asg (.nm i) x)) D σ H) : tAsg (dE S W (ev F x)) (gName i) D σ H := by
  obtain ⟨F0, H0, env, ⟨E, r⟩, p⟩ := q
  simp only [exec] at p
  refine ⟨E, env, r.st.ok, r.eo, r.ev p fun t E' H' r' s' p' v rv => ?_⟩
  exact p' _ H' ⟨E', r'.less (r'.eo.set rv) .set⟩
/-- behind name = a new thing of the frame's own -/
theorem RSF.own {F0 H0 E H E' H' : Hp} {env : Cells} {σ : St} {i : Nat} {a : Addr} {t : T} (r : RSF S F0 H0 E env σ H) (s : Step S E H E' H') (ha : H a = none) (hF : E' a = none) (ow : Own S E' H' a t) : RSF S F0 H0 E' (env.set i (.ow t)) (σ.set i (some (.ref a))) H' := by
  have r' := r.step s
  have old : ∀ (j : Nat) (u : T) (b : Addr), env[j]? = some (Cell.ow u) → σ[j]? = some (some (V.ref b)) → b ≠ a := fun j u b h1 h2 z => by
    obtain ⟨b', q1, q2, q3⟩ := r.eo.slot j _ h1
    rw [h2] at q1
    cases q1
    obtain ⟨o, q4, _⟩ := q3.there
    rw [z, ha] at q4
    cases q4
  have hl := r.eo.len
  have at' : ∀ (j : Nat) (u : T), (env.set i (.ow t))[j]? = some (Cell.ow u) → (i = j ∧ (σ.set i (some (V.ref a)))[j]? = some (some (.ref a)) ∧ u = t) ∨ (i ≠ j ∧ env[j]? = some (.ow u) ∧ (σ.set i (some (V.ref a)))[j]? = σ[j]?) := fun j u h => by
    by_cases hj : i = j
    · subst hj
      by_cases hi : i < env.length
      · rw [List.getElem?_set_self hi] at h
        cases h
        exact .inl ⟨rfl, by rw [List.getElem?_set_self (by omega)], rfl⟩
      · rw [List.getElem?_eq_none (by simpa using hi)] at h
        cases h
    · rw [List.getElem?_set_ne hj] at h
      exact .inr ⟨hj, h, by rw [List.getElem?_set_ne hj]⟩
  refine ⟨r'.st, ⟨by rw [List.length_set, List.length_set]; exact hl, fun j d h => ?_⟩, fun j l u v n h1 h2 => ?_, fun j u b h1 h2 => ?_⟩
  · by_cases hj : i = j
    · subst hj
      by_cases hi : i < env.length
      · rw [List.getElem?_set_self hi] at h
        cases h
        exact ⟨a, by rw [List.getElem?_set_self (by omega)], hF, ow⟩
      · rw [List.getElem?_eq_none (by simpa using hi)] at h
        cases h
    · rw [List.getElem?_set_ne hj] at h
      have q := r'.eo.slot j d h
      cases d with
      | un => trivial
      | sh u => obtain ⟨w, h1, h2⟩ := q; exact ⟨w, by rw [List.getElem?_set_ne hj]; exact h1, h2⟩
      | ow u => obtain ⟨b, h1, h2⟩ := q; exact ⟨b, by rw [List.getElem?_set_ne hj]; exact h1, h2⟩
  · rcases at' j u h1 with ⟨a1, a2, _⟩ | ⟨a1, a2, a3⟩ <;> rcases at' l v h2 with ⟨b1, b2, _⟩ | ⟨b1, b2, b3⟩
    · exact absurd (a1.symm.trans b1) n
    · obtain ⟨b', q1, _⟩ := r.eo.slot l _ b2
      rw [a2, b3, q1]
      intro z
      exact old l v b' b2 q1 (by injection (Option.some.inj (Option.some.inj z)).symm)
    · obtain ⟨b', q1, _⟩ := r.eo.slot j _ a2
      rw [a3, b2, q1]
      intro z
      exact old j u b' a2 q1 (by injection (Option.some.inj (Option.some.inj z)))
    · rw [a3, b3]
      exact r.dis j l u v n a2 b2
  · rcases at' j u h1 with ⟨a1, a2, _⟩ | ⟨a1, a2, a3⟩
    · rw [a2] at h2
      injection (Option.some.inj (Option.some.inj h2)) with z
      rw [← z]
      exact r.st.hh.none ha
    · rw [a3] at h2
      exact r.new j u b a2 h2
theorem fin_ow {i : Nat} {x : E} {D : Ends} {σ : St} {H : Hp} (q : dS S W (exec F (.own i x)) D σ H) : tAsg (dN S W (ev F x)) (gName i) D σ H := by
  obtain ⟨F0, H0, env, ⟨E, r⟩, p⟩ := q
  simp only [exec] at p
  exact ⟨E, env, r.st.ok, r.eo, r.ev p fun t E' H' r' s' p' a ha hF ow => p' _ H' ⟨E', r.own s' ha hF ow⟩⟩
theorem sw_plain {e : Expr} {tgt : Option Expr} {l : Nat} {env : Env} (h : isComp e = false) : swapsWith e tgt l env = pure false := by
  cases e <;> first | rfl | (cases h; done)
theorem sw_comp {elt : Expr} {gs : List Comprehension} {scope : Scope} {pos py : Pos} {y : Str} {l : Nat} {env : Env} :
    ∃ b, swapsWith (.ListComp elt gs scope pos) (some (.Name y py)) l env = pure b ∧ (b = true → env.scope.names.lookup y = some .local) := by
  refine ⟨env.blockKind == .function && env.kindOf y == some .local && py.line == pos.line && !(scope.names.any fun (n, k) => n == y && (k == .local || k == .cell)), rfl, fun h => ?_⟩
  simp only [Bool.and_eq_true] at h
  have := h.1.1.2
  unfold Env.kindOf at this
  cases hk : env.scope.names.lookup y with
  | none => rw [hk] at this; exact absurd this (by decide)
  | some kd => rw [hk] at this; cases kd <;> first | rfl | exact absurd this (by decide)
/-- name = value, whatever the value -/
theorem s_set {i : Nat} {y : Str} {py pos : Pos} {e : Expr} {x : E} (g : Good S c k X sc so) (hl : locB sc so y = true) (hi : ixOf y c.N 0 = some i) (t : TrO S W F X e x) (hc : isComp e = true → ∃ elt gs scope pos, e = .ListComp elt gs scope pos) :
    PS X (.Assign [.Name y py] e pos) (dS S W (exec F (.asg (.nm i) x))) ∧ (freshE x = true → PS X (.Assign [.Name y py] e pos) (dS S W (exec F (.own i x)))) := by
  obtain ⟨h1, h2⟩ := locB_of g hl
  have hN := ixOf_at hi
  have plain : swapsWith e (some (.Name y py)) pos.line X.env = pure false → PS X (.Assign [.Name y py] e pos) (dS S W (exec F (.asg (.nm i) x))) ∧ (freshE x = true → PS X (.Assign [.Name y py] e pos) (dS S W (exec F (.own i x)))) := fun hs =>
    ⟨(ps_set g.nd (by rw [g.hN]; exact hN) h1 t.tri.e hs h2).imp fun D σ H q => fin_sh q, fun hf => (ps_set g.nd (by rw [g.hN]; exact hN) h1 (t.n hf) hs h2).imp fun D σ H q => fin_ow q⟩
  cases hcc : isComp e with
  | false => exact plain (sw_plain hcc)
  | true =>
    obtain ⟨elt, gs, scope, pos2, rfl⟩ := hc hcc
    obtain ⟨b, hb, hloc⟩ := sw_comp (elt := elt) (gs := gs) (scope := scope) (pos := pos2) (py := py) (y := y) (l := pos.line) (env := X.env)
    cases b with
    | false => exact plain hb
    | true =>
      obtain ⟨tg, iter, ifs, own, wi, gt, tt, te, rfl, l, lcf, im⟩ := t.lc _ _ _ _ rfl
      have q := ps_setLc (i := i) (y := y) (py := py) (elt := elt) (tg := tg) (iter := iter) (ifs := ifs) (scope := scope) (own := own) (pos := pos2) (spos := pos) (wi := wi) (g := gt) (tt := tt) (te := te) g.calm g.nd (by rw [g.hN]; exact hN) (hloc rfl) hb l.hi l.ok l.hg l.ht l.he l.hs
      have q2 : PS X (.Assign [.Name y py] (.ListComp elt [⟨tg, iter, ifs, 0⟩] scope pos2) pos) (tAsg (dN S W (ev F x)) (gName i)) := q.imp fun D σ H z => im _ _ _ z
      refine ⟨?_, fun hf => q2.imp fun D σ H z => fin_ow z⟩
      refine q2.imp fun D σ H z => ?_
      exact dN_of_dE (fin_sh z)
end
end Fz

/-! statements that change a list; if, while, for -/
namespace Fz
open PySem PySem.Spec L2
open PyProof.Rows hiding St

variable {S : Su}
section
variable {X : Cx} {W : WX} {F : Fns} {c : TC} {sc so : Scope} {k : Nat}
theorem tabs_mutG {T : List (Addr × Str)} {H : Hp} {D : Addr} {u o : HO} (t : LamX.Tabs T H) (h : H D = some u) (h1 : ∀ ps, u ≠ .tbl ps) (h2 : ∀ φ, u ≠ .ext φ) : LamX.Tabs T (upd H D o) := fun p hp => by
  obtain ⟨ps, k1, k2, k3⟩ := t p hp
  have n1 : p.1 ≠ D := fun z => by rw [z, h] at k1; exact h1 _ (Option.some.inj k1)
  refine ⟨ps, by rw [upd_ne n1]; exact k1, k2, fun pos cv hc => ?_⟩
  obtain ⟨d, e1, e2⟩ := k3 pos cv hc
  have n2 : d ≠ D := fun z => by rw [z, h] at e2; exact h2 _ (Option.some.inj e2)
  exact ⟨d, e1, by rw [upd_ne n2]; exact e2⟩
theorem dctO_ne (tk : Bool) (L : List (List Key × V)) : (∀ ps, dctO tk L ≠ .tbl ps) ∧ ∀ φ, dctO tk L ≠ .ext φ := by
  cases tk <;> exact ⟨fun _ z => (nomatch z), fun _ z => (nomatch z)⟩
/-- a thing of the frame's own changes -/
theorem RSF.mutG {F0 H0 E H : Hp} {env : Cells} {σ : St} {i : Nat} {a : Addr} {t t' : T} {u o : HO} (r : RSF S F0 H0 E env σ H) (h : env[i]? = some (.ow t)) (hσ : σ[i]? = some (some (.ref a))) (hu : H a = some u) (h1 : ∀ ps, u ≠ .tbl ps) (h2 : ∀ φ, u ≠ .ext φ) (ow : Own S E (upd H a o) a t') :
    RSF S F0 H0 E (env.set i (.ow t')) σ (upd H a o) := by
  obtain ⟨a', q1, q2, q3⟩ := r.eo.slot i _ h
  rw [hσ] at q1
  cases q1
  have ha0 := r.new i _ a h hσ
  have hil : i < env.length := (List.getElem?_eq_some_iff.mp h).1
  have at' : ∀ (j : Nat) (u : T), (env.set i (Cell.ow t'))[j]? = some (Cell.ow u) → ∃ u', env[j]? = some (Cell.ow u') := fun j u h' => by
    by_cases hj : i = j
    · subst hj; exact ⟨_, h⟩
    · rw [List.getElem?_set_ne hj] at h'; exact ⟨_, h'⟩
  refine ⟨⟨r.st.ff, fun b o e => ?_, r.st.no, ⟨sub_updR r.st.ok.sub q2, r.st.ok.nt, tabs_mutG r.st.ok.tab hu h1 h2⟩⟩, ⟨by rw [List.length_set]; exact r.eo.len, fun j d hj => ?_⟩, fun j l t u n h1 h2 => ?_, fun j t b h1 h2 => ?_⟩
  · rw [upd_ne (fun z => by rw [z, ha0] at e; cases e)]
    exact r.st.hh b o e
  · by_cases hji : i = j
    · subst hji
      rw [List.getElem?_set_self hil] at hj
      cases hj
      exact ⟨a, hσ, q2, ow⟩
    · rw [List.getElem?_set_ne hji] at hj
      have q := r.eo.slot j d hj
      cases d with
      | un => trivial
      | sh u => exact q
      | ow u =>
        obtain ⟨b, p1, p2, p3⟩ := q
        have nb : b ≠ a := fun z => r.dis i j _ _ hji h hj (by rw [hσ, p1, z])
        exact ⟨b, p1, p2, p3.mono (.refl _) (by rw [upd_ne nb])⟩
  · obtain ⟨t', e1⟩ := at' j t h1
    obtain ⟨u', e2⟩ := at' l u h2
    exact r.dis j l t' u' n e1 e2
  · obtain ⟨t', e1⟩ := at' j t h1
    exact r.new j t' b e1 h2
/-- a list of the frame's own changes -/
theorem RSF.mut {F0 H0 E H : Hp} {env : Cells} {σ : St} {i : Nat} {a : Addr} {ts ts' : List T} {vs' : List V} (r : RSF S F0 H0 E env σ H) (h : env[i]? = some (.ow (.lst ts))) (hσ : σ[i]? = some (some (.ref a))) (rs : Reps S E ts' vs') (hl : ts'.length ≤ sizeLine) :
    RSF S F0 H0 E (env.set i (.ow (.lst ts'))) σ (upd H a (.lst vs')) := by
  obtain ⟨a', q1, q2, vs, q3, q4, q5⟩ := r.eo.slot i _ h
  rw [hσ] at q1
  cases q1
  exact r.mutG h hσ q3 (fun _ z => (nomatch z)) (fun _ z => (nomatch z)) ⟨vs', upd_same, hl, rs⟩
theorem RSF.own_at {F0 H0 E H : Hp} {env : Cells} {σ : St} {i : Nat} {ts : List T} (r : RSF S F0 H0 E env σ H) (h : env[i]? = some (.ow (.lst ts))) : ∃ a vs, σ[i]? = some (some (.ref a)) ∧ H a = some (.lst vs) ∧ ts.length ≤ sizeLine ∧ Reps S E ts vs := by
  obtain ⟨a, q1, q2, vs, q3, q4, q5⟩ := r.eo.slot i _ h
  exact ⟨a, vs, q1, q3, q4, q5⟩
def rExtR (K : PySem.W.Frag) (l : Addr) : V → List V → Hp → VK → Prop := fun x vs H Q => ∃ b xs zs, x = .ref l ∧ vs = [.ref b] ∧ H l = some (.lst xs) ∧ La K H b zs ∧ xs.length + zs.length ≤ sizeLine ∧ Q .non (upd H l (.lst (xs ++ zs)))
theorem mt_extR : MtM X "list.extend" (fun x vs H Q => ∃ l, rExtR X.K l x vs H Q) := by
  intro pins s σ H x vs v us Q I rx rv h
  obtain ⟨l, b, xs, zs, rfl, rfl, hH, hB, hz, q⟩ := h
  cases rx
  obtain ⟨u, rfl, ru⟩ := rv.one
  cases ru
  obtain ⟨z, its, n, r, hl, e⟩ := I.lstM hH
  obtain ⟨z2, its2, n2, r2, hl2, e2⟩ := I.lstR hB
  have hsz : its.toArray.size + its2.toArray.size ≤ sizeLine := by rw [List.size_toArray, List.size_toArray]; omega
  have hlong : ¬ (!its.toArray.isEmpty && Builtin.List.listTooLong (its.toArray.size + its2.toArray.size)) = true := by
    rw [notLongL hsz, Bool.and_false]
    exact Bool.false_ne_true
  refine call_meets F.slot_list_extend ⟨_, e, rfl⟩ F.entry_list_extend (F.args_list_extend_2 _ _)
    (AutoSeq1.list_extend_list_list_0 l its.toArray n b its2.toArray n2 hlong (by rw [List.size_toArray]; omega) (by omega)) ⟨e, e2, ?_⟩
  refine ⟨.non, _, I.lset (its' := its ++ its2) hH e (by simp) (r.append r2) ?_, rfl, q⟩
  rw [List.length_append]
  omega
theorem few_one {e : Expr} {env : Env} {pos : Pos} (h : ∀ a p, e ≠ .Starred a p) : ((backTo pos (starEach [e] env)).all (fun x => !x.1) && (backToKw pos (keywordEach [] env)).all (fun x => x.1.isSome)
      && decide ([e].length + ([] : List Keyword).length + (if ([] : List Keyword).isEmpty then 0 else 1) < 30)) = true := by
  rw [star_cons h]
  rfl
theorem s_app {i : Nat} {y : Str} {e : Expr} {x : E} {p1 ap cp pos : Pos} (g : Good S c k X sc so) (hv : visB sc y = true) (hn : okName y = true) (hi : ixOf y c.N 0 = some i) (hl : (ap.endLine == cp.line) = true) (t : TrO S W F X e x) :
    PS X (.Expr (.Call (.Attribute (.Name y p1) "append" ap) [e] [] cp) pos) (dS S W (exec F (.app i x))) := by
  refine (ps_expr (pe_bm PySem.F.plainAttrs_list PySem.F.slot_list_append PySem.F.type_list_append mt_append (vis_var g hv hn hi) (pa_cons t.tri.e pa_nil (star_cons t.ns)) rfl (few_one t.ns) hl (star_cons t.ns) rfl) rfl).imp fun D σ H q => ?_
  obtain ⟨F0, H0, env, ⟨E, r⟩, p⟩ := q
  simp only [exec] at p
  split at p
  · rename_i xs ho
    obtain ⟨a, vs, q1, q2, q3, q4⟩ := r.own_at ho
    refine ⟨.ref a, q1, .inl ⟨rfl, vs, .inl (.inl q2)⟩, E, env, r.st.ok, r.eo, r.ev p fun u E' H' r' s' p' v rv => ?_⟩
    split at p'
    · rename_i hz
      have l1 := q4.length
      have l2 : SZ ≤ sizeLine := by decide
      refine ⟨a, vs, v, rfl, rfl, s'.hh.at q2 fun z => z, by omega, p' σ _ ⟨E', r'.mut ho q1 ((q4.mono s'.ff).append (.one rv)) ?_⟩⟩
      rw [List.length_append, List.length_singleton]
      omega
    · exact p'.elim
  · exact p.elim
theorem s_ext {i : Nat} {y : Str} {e : Expr} {x : E} {p1 ap cp pos : Pos} (g : Good S c k X sc so) (hv : visB sc y = true) (hn : okName y = true) (hi : ixOf y c.N 0 = some i) (hl : (ap.endLine == cp.line) = true) (t : TrO S W F X e x) :
    PS X (.Expr (.Call (.Attribute (.Name y p1) "extend" ap) [e] [] cp) pos) (dS S W (exec F (.ext i x))) := by
  refine (ps_expr (pe_bm PySem.F.plainAttrs_list PySem.F.slot_list_extend PySem.F.type_list_extend mt_extR (vis_var g hv hn hi) (pa_cons t.tri.e pa_nil (star_cons t.ns)) rfl (few_one t.ns) hl (star_cons t.ns) rfl) rfl).imp fun D σ H q => ?_
  obtain ⟨F0, H0, env, ⟨E, r⟩, p⟩ := q
  simp only [exec] at p
  split at p
  · rename_i xs ho
    obtain ⟨a, vs, q1, q2, q3, q4⟩ := r.own_at ho
    refine ⟨.ref a, q1, .inl ⟨rfl, vs, .inl (.inl q2)⟩, E, env, r.st.ok, r.eo, r.ev p fun u E' H' r' s' p' v rv => ?_⟩
    split at p'
    · rename_i ys
      split at p'
      · rename_i hz
        obtain ⟨b, ws, rfl, w1, w2, w3⟩ := rv
        have l1 := q4.length
        have l3 := w3.length
        have l2 : SZ ≤ sizeLine := by decide
        refine ⟨a, b, vs, ws, rfl, rfl, s'.hh.at q2 fun z => z, g.hK ▸ r'.st.ok.sub.la w1, by omega, p' σ _ ⟨E', r'.mut ho q1 ((q4.mono s'.ff).append w3) ?_⟩⟩
        rw [List.length_append]
        omega
      · exact p'.elim
    · exact p'.elim
  · exact p.elim
theorem ixN_of {n : Nat} {i : Int} (h : 0 ≤ i ∧ i < n) : ixN n i = some i.toNat := by
  unfold ixN
  rw [if_pos h.1, if_pos h.2]
theorem _root_.L2.PS.or {st : Stmt} {t t' : TS} (h : PS X st t) (h' : PS X st t') : PS X st (fun D σ H => t D σ H ∨ t' D σ H) := ⟨fun pins s σ H D I q => by
  rcases q with q | q
  · exact h.run pins s σ H D I q
  · exact h'.run pins s σ H D I q⟩
theorem s_setI {i : Nat} {y : Str} {kx e : Expr} {kk x : E} {p1 p2 pos : Pos} (g : Good S c k X sc so) (hv : visB sc y = true) (hn : okName y = true) (hi : ixOf y c.N 0 = some i) (hsl : isSl kx = false) (tk : TrO S W F X kx kk) (t : TrO S W F X e x) :
    PS X (.Assign [.Subscript (.Name y p1) kx p2] e pos) (dS S W (exec F (.setI i kk x))) := by
  have hun := g.room.un
  have hg : PG X (.Subscript (.Name y p1) kx p2) (gSub (tVar i) (dE S W (ev F kk)) rSetL) := by
    refine pg_sub (vis_var g hv hn hi) tk.tri.e set_list fun v => ?_
    cases kx <;> first | rfl | (cases hsl; done)
  refine ((ps_asg t.tri.e hg (by cases e <;> rfl) (by cases e <;> rfl) rfl).or (ps_dput (by omega) (vis_var g hv hn hi) tk.tri.e t.tri.e (by cases e <;> rfl))).imp fun D σ H q => ?_
  obtain ⟨F0, H0, env, ⟨E, r⟩, p⟩ := q
  simp only [exec] at p
  by_cases hd : ∃ tk kvs, env[i]? = some (.ow (.dct tk kvs))
  · obtain ⟨dk, kvs, ho⟩ := hd
    refine .inr ⟨E, env, r.st.ok, r.eo, r.ev p fun u E' H' r' s' p' v rv => ?_⟩
    simp only [ho] at p'
    obtain ⟨a, q1, q2, L, q3, q4, q5⟩ := r'.eo.slot i _ ho
    refine ⟨.ref a, q1, E', env, r'.st.ok, r'.eo, r'.ev p' fun j E2 H2 r2 s2 p2 w rw => ?_⟩
    split at p2
    · rename_i hk
      rw [Bool.and_eq_true, decide_eq_true_eq] at hk
      have q6 := s2.hh.at q3 (dctO_nt dk L)
      have l2 : 1001 ≤ sizeLine := by decide
      have rv2 := rv.mono s2.ff
      obtain ⟨n1, n2⟩ := dctO_ne dk L
      refine ⟨a, _, rfl, dput_of q6 (q5.mono s2.ff) hk.1 (rw.mono r2.st.ok.sub) rv2 (by omega), p2 σ _ ⟨E2, r2.mutG ho q1 q6 n1 n2 ⟨_, upd_same, ?_, (q5.mono s2.ff).put hk.1 rv2⟩⟩⟩
      have := putD_len kvs j u
      omega
    · exact p2.elim
  · refine .inl ⟨E, env, r.st.ok, r.eo, r.ev p fun u E' H' r' s' p' v rv => ?_⟩
    split at p'
    · rename_i xs ho
      obtain ⟨a, vs, q1, q2, q3, q4⟩ := r'.own_at ho
      refine ⟨.ref a, q1, E', env, r'.st.ok, r'.eo, r'.ev p' fun j E2 H2 r2 s2 p2 w rw => ?_⟩
      split at p2
      · rename_i n
        split at p2
        · rename_i hz
          have l1 := q4.length
          refine ⟨a, vs, n, n.toNat, rfl, rw, s2.hh.at q2 fun z => z, ixN_of (by rw [← l1]; exact hz), p2 σ _ ⟨E2, r2.mut ho q1 ((q4.mono s2.ff).set _ (rv.mono s2.ff)) ?_⟩⟩
          rw [List.length_set]
          exact q3
        · exact p2.elim
      · exact p2.elim
    · rename_i dk kvs ho
      exact absurd ⟨dk, kvs, ho⟩ hd
    · exact p'.elim
/-- t = l.pop() -/
theorem s_pop {tg : Expr} {gt : Tg} {i : Nat} {y : Str} {p1 ap cp pos : Pos} (g : Good S c k X sc so) (hv : visB sc y = true) (hn : okName y = true) (hi : ixOf y c.N 0 = some i) (hl : (ap.endLine == cp.line) = true) (hg : PG X tg (dG S gt)) (hs : ∀ a p, tg ≠ .Starred a p) :
    PS X (.Assign [tg] (.Call (.Attribute (.Name y p1) "pop" ap) [] [] cp) pos) (dS S W (exec F (.popTo gt i))) := by
  refine (ps_asg (pe_bm0 PySem.F.plainAttrs_list PySem.F.slot_list_pop PySem.F.type_list_pop mt_pop (vis_var g hv hn hi) rfl hl) hg (by cases tg <;> rfl) (by cases tg <;> rfl) (by rw [assignEach_cons hs]; rfl)).imp fun D σ H q => ?_
  obtain ⟨F0, H0, env, ⟨E, r⟩, p⟩ := q
  simp only [exec] at p
  split at p
  · rename_i xs ho
    obtain ⟨a, vs, q1, q2, q3, q4⟩ := r.own_at ho
    split at p
    · rename_i t ht
      have l1 := q4.length
      obtain ⟨v, hv1, hv2⟩ := q4.get (i := xs.length - 1) (t := t) (by rw [List.getLast?_eq_getElem?] at ht; exact ht)
      refine ⟨.ref a, q1, .inl ⟨rfl, vs, .inl (.inl q2)⟩, a, vs, v, rfl, rfl, q2, by rw [← l1]; exact hv1, ?_⟩
      have rd : Reps S E xs.dropLast vs.dropLast := by
        rw [List.dropLast_eq_take, List.dropLast_eq_take, ← l1]
        exact q4.take _
      have r' := r.mut ho q1 rd (by rw [List.length_dropLast]; omega)
      cases e1 : asgT gt t (env.set i (.ow (.lst xs.dropLast))) with
      | none => rw [e1] at p; exact p.elim
      | some env' =>
        rw [e1] at p
        exact ⟨E, _, t, env', r'.st.ok, r'.eo, hv2, e1, fun σ' eo' l _ => p σ' _ ⟨E, r'.less eo' l⟩⟩
    · exact p.elim
  · exact p.elim

/-! ### if, while, for -/
theorem s_if {t : Expr} {x : E} {a b : List Stmt} {as bs : List Fz.S} {pos : Pos} (ht : PT X t (dT S W fun env => (ev F x env).bind truT)) (ha : PSs X a (dS S W (execs F as))) (hb : PSs X b (dS S W (execs F bs))) : PS X (.If t a b pos) (dS S W (exec F (.ifS x as bs))) := by
  refine (ps_if ht ha hb).imp fun D σ H q => ?_
  obtain ⟨F0, H0, env, ⟨E, r⟩, p⟩ := q
  simp only [exec] at p
  refine ⟨E, env, r.st.ok, r.eo, r.ev p fun b E' H' r' s' p' => ?_⟩
  cases b with
  | true => exact ⟨F0, H0, env, ⟨E', r'⟩, p'⟩
  | false => exact ⟨F0, H0, env, ⟨E', r'⟩, p'⟩
theorem s_while {t : Expr} {x : E} {b : List Stmt} {bs : List Fz.S} {pos : Pos} (hp : PassesOwn (model X.prog X.w) X.A X.env X.xe) (ht : PT X t (dT S W fun env => (ev F x env).bind truT)) (hb : PSs X b (dS S W (execs F bs))) : PS X (.While t b [] pos) (dS S W (exec F (.whl x bs))) := by
  refine (ps_while hp ht hb).imp fun D σ H q => ?_
  obtain ⟨F0, H0, env, r, p⟩ := q
  simp only [exec] at p
  refine ⟨fun m σ H => ∃ env, RS S F0 H0 env σ H ∧ PostF S W F0 H0 D (whileF (fun env => (ev F x env).bind truT) (execs F bs) m env), ⟨FUEL, env, r, p⟩, ?_⟩
  rintro m σ1 H1 ⟨env1, ⟨E, r1⟩, p1⟩
  cases m with
  | zero => exact p1.elim
  | succ m =>
    unfold whileF at p1
    refine ⟨E, env1, r1.st.ok, r1.eo, r1.ev p1 fun b E' H' r' s' p' => ?_⟩
    cases b with
    | false => exact p' σ1 H' ⟨E', r'⟩
    | true =>
      rw [if_pos rfl] at p' ⊢
      refine ⟨fun σ H => ∃ env, RS S F0 H0 env σ H ∧ PostF S W F0 H0 D (whileF (fun env => (ev F x env).bind truT) (execs F bs) m env), fun σ' H' n => ⟨m, Nat.lt_succ_self m, n⟩, F0, H0, env1, ⟨E', r'⟩, ?_⟩
      cases e : execs F bs env1 with
      | nx env2 => rw [e] at p'; exact fun σ2 H2 r2 => ⟨env2, r2, p'⟩
      | rt u => rw [e] at p'; exact p'
      | ex d env2 => rw [e] at p'; exact p'
      | no => rw [e] at p'; exact p'
theorem PostF.base {F0 H0 E1 H1 : Hp} {D : Ends} {f : Fl} (s : Step S F0 H0 E1 H1) (p : PostF S W F0 H0 D f) : PostF S W E1 H0 D f := by
  cases f with
  | nx env => exact fun σ H r => p σ H (r.out s)
  | rt t => exact fun v F H s' r => p v F H (s.out s') r
  | ex d env => exact fun σ H r => p σ H (r.out s)
  | no => exact p
theorem s_for {tg iter : Expr} {gt : Tg} {ik : IK} {its : List E} {b : List Stmt} {bs : List Fz.S} {pos : Pos} (hp : PassesOwn (model X.prog X.w) X.A X.env X.xe) (hc : X.calm = true) (hi : PI X tg iter (dI S W ik (evs F its))) (hg : PG X tg (dG S gt)) (hb : PSs X b (dS S W (execs F bs)))
    (hs : ∀ x, foldedSetIterable iter X.env x = pure x) : PS X (.For tg iter b [] pos) (dS S W (exec F (.forS gt ik its bs))) := by
  refine (ps_for hp hc hi hg hb hs).imp fun D σ H q => ?_
  obtain ⟨F0, H0, env, ⟨E, r⟩, p⟩ := q
  simp only [exec] at p
  refine ⟨E, env, r.st.ok, r.eo, r.ev p fun xs E1 H1 r1 s1 p1 J wk => ?_⟩
  replace p1 := PostF.base r1.st p1
  generalize hbf : (fun env x => (match asgT gt x env with | some env' => execs F bs env' | none => Fl.no)) = bf at p1
  refine ⟨fun i m σ H => m = xs.length - i ∧ i ≤ xs.length ∧ ∃ env, RS S E1 H0 env σ H ∧ PostF S W E1 H0 D (forF bf (xs.drop i) env), ⟨xs.length, by simp, Nat.zero_le _, env, r1.base, by rw [List.drop_zero]; exact p1⟩, ?_⟩
  rintro i m σ2 H2 ⟨rfl, hi2, env2, ⟨E2, r2⟩, p2⟩
  by_cases hlt : i < xs.length
  · right
    have ed : xs.drop i = xs[i] :: xs.drop (i + 1) := List.drop_eq_getElem_cons hlt
    rw [ed] at p2
    unfold forF at p2
    refine ⟨wk.go i H2 hlt (r2.st.ff.trans r2.st.ok.sub), fun σ H => i + 1 ≤ xs.length ∧ ∃ env, RS S E1 H0 env σ H ∧ PostF S W E1 H0 D (forF bf (xs.drop (i + 1)) env), fun σ' H' n => ⟨xs.length - (i + 1), by omega, rfl, n⟩, fun x H3 y => ?_⟩
    obtain ⟨E3, t, ht, s3, rt⟩ := wk.yld i H2 x H3 E2 hlt r2.st.ok r2.st.ff y
    have ht' : t = xs[i] := by
      rw [List.getElem?_eq_getElem hlt] at ht
      exact (Option.some.inj ht).symm
    subst ht'
    have r3 := r2.step s3
    cases e1 : asgT gt xs[i] env2 with
    | none =>
      have : bf env2 xs[i] = Fl.no := by rw [← hbf]; simp only [e1]
      rw [this] at p2
      exact p2.elim
    | some env3 =>
      have eb : bf env2 xs[i] = execs F bs env3 := by rw [← hbf]; simp only [e1]
      rw [eb] at p2
      refine ⟨E3, env2, xs[i], env3, r3.st.ok, r3.eo, rt, e1, fun σ4 eo4 l4 _ => ⟨E1, H0, env3, ⟨E3, r3.less eo4 l4⟩, ?_⟩⟩
      cases e : execs F bs env3 with
      | nx env4 => rw [e] at p2; exact fun σ5 H5 r5 => ⟨hlt, env4, r5, p2⟩
      | rt u => rw [e] at p2; exact p2
      | ex d env4 => rw [e] at p2; exact p2
      | no => rw [e] at p2; exact p2
  · left
    have e : i = xs.length := by omega
    subst e
    rw [List.drop_length] at p2
    exact ⟨wk.stop H2 (r2.st.ff.trans r2.st.ok.sub), p2 σ2 H2 ⟨E2, r2⟩⟩

/-! ### a, b = x, y -/
theorem RSF.ev' {α : Type} {F0 H0 E H : Hp} {env : Cells} {σ : St} {D : Ends} {r : Res α} {g : α → Fl} {q : α → Hp → Hp → Prop} (rs : RSF S F0 H0 E env σ H) (p : PostF S W F0 H0 D (flOf r env g))
    (h : ∀ a E' H', r = .ok a → RSF S F0 H0 E' env σ H' → Step S E H E' H' → PostF S W F0 H0 D (g a) → q a E' H') : PostG S W E H σ r q := by
  cases r with
  | ok a => exact fun E' H' s => h a E' H' rfl (rs.step s) s p
  | ex d => exact fun E' H' s => p σ H' ⟨E', rs.step s⟩
  | no => exact p.elim
theorem PS.kind {st : Stmt} {t : TS} (h : X.env.scope.kind = .function → PS X st t) : PS X st t := ⟨fun pins s σ H D I q => (h I.ok.kind).run pins s σ H D I q⟩
theorem sw_zero {ts vs : List Expr} {kt k2 : Nat} {pt pt2 : Pos} {env : Env} (hs : env.scope = sc) (h : swKind sc ts vs = 0) : swappedStores [.Tuple ts kt pt] (.Tuple vs k2 pt2) env = pure none := by
  subst hs
  unfold swKind at h
  unfold swappedStores
  dsimp only
  by_cases h1 : (!(ts.length == 2 || ts.length == 3) || vs.length != ts.length) = true
  · rw [if_pos (by rw [h1]; rfl)]
  rw [if_neg h1] at h
  by_cases hb : (env.blockKind != .function) = true
  · rw [if_pos (by rw [hb, Bool.or_true])]
  rw [if_neg (by rw [Bool.eq_false_iff.mpr h1, Bool.eq_false_iff.mpr hb]; decide)]
  by_cases h2 : (vs.any fun | .Starred .. => true | _ => false) = true
  · exact if_pos h2
  have h := (if_neg h2).symm.trans h
  refine (if_neg h2).trans ?_
  by_cases h3 : ((ts.filterMap fun
      | .Name id pos => if env.scope.names.lookup id == some .local && pos.line == (ts.head?.map (·.pos.line)).getD 0 then some id else none
      | _ => none).length != ts.length || (ts.filterMap fun
      | .Name id pos => if env.scope.names.lookup id == some .local && pos.line == (ts.head?.map (·.pos.line)).getD 0 then some id else none
      | _ => none).eraseDups.length != (ts.filterMap fun
      | .Name id pos => if env.scope.names.lookup id == some .local && pos.line == (ts.head?.map (·.pos.line)).getD 0 then some id else none
      | _ => none).length) = true
  · exact if_pos h3
  · refine (if_neg h3).trans ?_
    have h := (if_neg h3).symm.trans h
    by_cases h4 : vs.all (foldedForSure 8) = true
    · rw [if_pos h4]
    · rw [if_neg h4] at h
      by_cases h5 : vs.all (constantsAlone 8) = true
      · rw [if_pos h5] at h; cases h
      · rw [if_neg h5] at h; cases h
theorem sw_some {ns : List Str} {ts vs : List Expr} {kt k2 : Nat} {pt pt2 : Pos} {env : Env} (hk : env.scope.kind = .function) (h1 : (!(ts.length == 2 || ts.length == 3) || vs.length != ts.length) = false) (hs : ∀ e ∈ vs, ∀ a p, e ≠ .Starred a p)
    (h3 : (ts.filterMap fun
      | .Name id pos => if env.kindOf id == some .local && pos.line == (ts.head?.map (·.pos.line)).getD 0 then some id else none
      | _ => none) = ns) (h4 : (ns.length != ts.length || ns.eraseDups.length != ns.length) = false) (hf : vs.all (foldedForSure 8) = false) (hc : vs.all (constantsAlone 8) = false) : swappedStores [.Tuple ts kt pt] (.Tuple vs k2 pt2) env = pure (some ns) := by
  have hb : (env.blockKind != .function) = false := by unfold Env.blockKind; rw [hk]; rfl
  unfold swappedStores
  dsimp only
  rw [if_neg (by rw [h1, hb]; decide)]
  refine (if_neg (fun h => by
    obtain ⟨z, hz, hm⟩ := List.any_eq_true.mp h
    have := hs z hz
    cases z <;> first | exact absurd rfl (this _ _) | cases hm)).trans ?_
  generalize hgn : List.filterMap _ ts = ns'
  obtain rfl : ns' = ns := hgn.symm.trans h3
  rw [if_neg (by rw [h4]; decide), if_neg (by rw [hf]; decide), if_neg (by rw [hc]; decide)]
theorem s_par3 {i j l : Nat} {x y z : Str} {a b d : Expr} {es : List E} {px py pz pt pt2 pos : Pos} {kt k2 : Nat} (g : Good S c k X sc so) (hx : sc.names.lookup x = some .local) (hy : sc.names.lookup y = some .local) (hz : sc.names.lookup z = some .local)
    (hl : (py.line == px.line) = true) (hl2 : (pz.line == px.line) = true) (hne : x ≠ y) (hne2 : x ≠ z) (hne3 : y ≠ z)
    (hi : ixOf x c.N 0 = some i) (hj : ixOf y c.N 0 = some j) (hk3 : ixOf z c.N 0 = some l) (hf : [a, b, d].all (foldedForSure 8) = false) (hca : [a, b, d].all (constantsAlone 8) = false) (hs : ∀ e ∈ [a, b, d], ∀ a p, e ≠ .Starred a p) (hlen : es.length = 3) (ha : PA X [a, b, d] (dA S W (evs F es))) :
    PS X (.Assign [.Tuple [.Name x px, .Name y py, .Name z pz] kt pt] (.Tuple [a, b, d] k2 pt2) pos) (dS S W (exec F (.par [i, j, l] es))) := by
  have hN := ixOf_at hi
  have hN2 := ixOf_at hj
  have hN3 := ixOf_at hk3
  have hij : i ≠ j := fun z => hne (by rw [z, hN2] at hN; exact (Option.some.inj hN).symm)
  have hil : i ≠ l := fun z => hne2 (by rw [z, hN3] at hN; exact (Option.some.inj hN).symm)
  have hjl : j ≠ l := fun z => hne3 (by rw [z, hN3] at hN2; exact (Option.some.inj hN2).symm)
  refine PS.kind fun hk => ?_
  have ka : X.env.kindOf x = some .local := by unfold Env.kindOf; rw [g.sc]; exact hx
  have kb : X.env.kindOf y = some .local := by unfold Env.kindOf; rw [g.sc]; exact hy
  have kd : X.env.kindOf z = some .local := by unfold Env.kindOf; rw [g.sc]; exact hz
  have hsw : swappedStores [.Tuple [.Name x px, .Name y py, .Name z pz] kt pt] (.Tuple [a, b, d] k2 pt2) X.env = pure (some [x, y, z]) := by
    refine sw_some hk rfl hs ?_ ?_ hf hca
    · have h1 : (X.env.kindOf x == some NameKind.local && px.line == (([Expr.Name x px, Expr.Name y py, Expr.Name z pz].head?.map (·.pos.line)).getD 0)) = true := by
        rw [ka]
        show (true && px.line == px.line) = true
        simp
      have h2 : (X.env.kindOf y == some NameKind.local && py.line == (([Expr.Name x px, Expr.Name y py, Expr.Name z pz].head?.map (·.pos.line)).getD 0)) = true := by
        rw [kb]; exact hl
      have h3 : (X.env.kindOf z == some NameKind.local && pz.line == (([Expr.Name x px, Expr.Name y py, Expr.Name z pz].head?.map (·.pos.line)).getD 0)) = true := by
        rw [kd]; exact hl2
      simp only [List.filterMap_cons, List.filterMap_nil, h1, h2, h3, if_true]
    · have e1 : (y == x) = false := by simpa using fun z => hne z.symm
      have e2 : (z == x) = false := by simpa using fun q => hne2 q.symm
      have e3 : (z == y) = false := by simpa using fun q => hne3 q.symm
      simp [List.eraseDups, List.eraseDupsBy, List.eraseDupsBy.loop, e1, e2, e3]
  refine (ps_par3 g.calm g.nd (by rw [g.hN]; exact hN) (by rw [g.hN]; exact hN2) (by rw [g.hN]; exact hN3) hij hil hjl (by rw [g.sc]; exact hx) (by rw [g.sc]; exact hy) (by rw [g.sc]; exact hz) ha hsw (by rfl)).imp fun D σ H q => ?_
  obtain ⟨F0, H0, env, ⟨E, r⟩, p⟩ := q
  simp only [exec] at p
  refine ⟨E, env, r.st.ok, r.eo, r.ev' p fun ts E' H' et r' s' p' vs rs => ?_⟩
  have el := evs_len et
  rcases ts with _ | ⟨t, _ | ⟨u, _ | ⟨u2, _ | ⟨u3, ts⟩⟩⟩⟩
  · rw [hlen] at el; cases el
  · rw [hlen] at el; cases el
  · rw [hlen] at el; cases el
  · obtain ⟨v, w, rfl, r1, v2, w2, rfl, r2, v3, w3, rfl, r3, rfl⟩ := rs
    refine ⟨v, v2, v3, rfl, p' _ H' ⟨E', ?_⟩⟩
    have q1 := r'.less (r'.eo.set (i := i) r1) .set
    have q2 := q1.less (q1.eo.set (i := j) r2) .set
    exact q2.less (q2.eo.set (i := l) r3) .set
  · rw [hlen] at el; cases el
theorem s_par {i j : Nat} {x y : Str} {a b : Expr} {es : List E} {px py pt pt2 pos : Pos} {kt k2 : Nat} (g : Good S c k X sc so) (hx : sc.names.lookup x = some .local) (hy : sc.names.lookup y = some .local) (hl : (py.line == px.line) = true) (hne : x ≠ y)
    (hi : ixOf x c.N 0 = some i) (hj : ixOf y c.N 0 = some j) (hf : [a, b].all (foldedForSure 8) = false) (hca : [a, b].all (constantsAlone 8) = false) (hs : ∀ e ∈ [a, b], ∀ a p, e ≠ .Starred a p) (hlen : es.length = 2) (ha : PA X [a, b] (dA S W (evs F es))) :
    PS X (.Assign [.Tuple [.Name x px, .Name y py] kt pt] (.Tuple [a, b] k2 pt2) pos) (dS S W (exec F (.par [i, j] es))) := by
  have hN := ixOf_at hi
  have hN2 := ixOf_at hj
  have hij : i ≠ j := fun z => hne (by rw [z, hN2] at hN; exact (Option.some.inj hN).symm)
  refine ⟨fun pins s σ H D I q => ?_⟩
  have hk : X.env.blockKind = .function := by unfold Env.blockKind; rw [I.ok.kind]; rfl
  have hsw : swappedStores [.Tuple [.Name x px, .Name y py] kt pt] (.Tuple [a, b] k2 pt2) X.env = pure (some [x, y]) := by
    have ka : X.env.kindOf x = some .local := by unfold Env.kindOf; rw [g.sc]; exact hx
    have kb : X.env.kindOf y = some .local := by unfold Env.kindOf; rw [g.sc]; exact hy
    have e1 : ((X.env.blockKind != .function) : Bool) = false := by rw [hk]; rfl
    have e3 : ([Expr.Name x px, Expr.Name y py].filterMap fun
        | .Name id pos => if X.env.kindOf id == some .local && pos.line == (([Expr.Name x px, Expr.Name y py].head?.map (·.pos.line)).getD 0) then some id else none
        | _ => none) = [x, y] := by
      have h1 : (X.env.kindOf x == some NameKind.local && px.line == (([Expr.Name x px, Expr.Name y py].head?.map (·.pos.line)).getD 0)) = true := by
        rw [ka]
        show (true && px.line == px.line) = true
        simp
      have h2 : (X.env.kindOf y == some NameKind.local && py.line == (([Expr.Name x px, Expr.Name y py].head?.map (·.pos.line)).getD 0)) = true := by
        rw [kb]
        exact hl
      simp only [List.filterMap_cons, List.filterMap_nil, h1, h2, if_true]
    have e4 : ([x, y].eraseDups.length != [x, y].length) = false := by
      have : (y == x) = false := by simpa using fun z => hne z.symm
      simp [List.eraseDups, List.eraseDupsBy, List.eraseDupsBy.loop, this]
    unfold swappedStores
    dsimp only
    rw [if_neg (by rw [e1]; exact (by decide : ¬ ((!(2 == 2 || 2 == 3) || (2 != 2) || false) = true)))]
    rw [if_neg (fun h => by
      obtain ⟨z, hz, hm⟩ := List.any_eq_true.mp h
      have := hs z hz
      cases z <;> first | exact absurd rfl (this _ _) | cases hm)]
    generalize hgn : List.filterMap _ _ = ns
    have hns : ns = [x, y] := hgn.symm.trans e3
    rw [hns, if_neg (by rw [e4]; exact (by decide : ¬ (((2 != 2) || false) = true))), if_neg (by rw [hf]; decide), if_neg (by rw [hca]; decide)]
  refine (ps_par g.calm g.nd (by rw [g.hN]; exact hN) (by rw [g.hN]; exact hN2) hij (by rw [g.sc]; exact hx) (by rw [g.sc]; exact hy) ha hsw (by rfl)).run pins s σ H D I ?_
  obtain ⟨F0, H0, env, ⟨E, r⟩, p⟩ := q
  simp only [exec] at p
  refine ⟨E, env, r.st.ok, r.eo, r.ev' p fun ts E' H' et r' s' p' vs rs => ?_⟩
  have el := evs_len et
  rcases ts with _ | ⟨t, _ | ⟨u, _ | ⟨u2, ts⟩⟩⟩
  · rw [hlen] at el; cases el
  · rw [hlen] at el; cases el
  · obtain ⟨v, w, rfl, r1, v2, w2, rfl, r2, rfl⟩ := rs
    refine ⟨v, v2, rfl, p' _ H' ⟨E', ?_⟩⟩
    have q1 := r'.less (r'.eo.set (i := i) r1) .set
    exact q1.less (q1.eo.set (i := j) r2) .set
  · rw [hlen] at el; cases el
end
end Fz

/-! try: body / except x as n: y = n -- the error is held by y from then on -/
namespace L2
open PySem PySem.Spec PyProof.Rows
/-- an error object of the class cls, at a -/
def FzErr (cls : Value) (d : Option Addr) (a : Addr) : HO := .ext fun h => ∃ (oe : Obj) (vs : Array Value), h.get? a = some oe ∧ Zc cls d oe ∧ oe.data = .fields vs
section
variable {X : Cx} {pins : List (Addr × Obj)} {σ : St} {H : Hp} {s : Shared}
/-- a pinned error object is told of from now on -/
theorem fz_track {a : Addr} {oe : Obj} {vs : Array Value} {cls : Value} {d : Option Addr} (I : Inv X ((a, oe) :: pins) σ H s) (h0 : X.s_0.heap.get? a = none) (hp : ∀ p ∈ X.pn ++ pins, p.1 ≠ a) (hz : Zc cls d oe) (hd : oe.data = .fields vs) : Inv X pins σ (upd H a (FzErr cls d a)) s := by
  obtain ⟨p1, p2, p3, p4, p5⟩ := I.pin (a, oe) (List.mem_append_right _ (List.mem_cons_self ..))
  have ne : ∀ {b : Addr} {o : HO}, H b = some o → b ≠ a := fun e z => by rw [z] at e; rw [p2] at e; cases e
  have base := I.base
  refine ⟨I.ok, I.os, I.bare, ⟨base.keep, base.slot, fun b o e n hx => ?_, base.there, fun b xs e => ?_, fun b o u e => ?_, fun b ps e => ?_⟩, I.loc, I.cell, ?_, fun x c e => ?_, fun p hm => ?_, fun b o e => ?_, I.len⟩
  · rw [upd_ne (fun z => by rw [z, h0] at e; cases e)]
    exact base.free b o e n hx
  · have := base.tups b xs e
    rw [upd_ne (ne this)]; exact this
  · have := base.frzs b o u e
    rw [upd_ne (ne this)]; exact this
  · obtain ⟨m, this⟩ := base.tbls b ps e
    exact ⟨m, by rw [upd_ne (ne this)]; exact this⟩
  · rw [upd_ne (Ne.symm p3)]; exact I.free
  · have nc : c ≠ a := fun z => by
      obtain ⟨v, o, ho, hc⟩ := I.cell x c e
      rw [z, p1] at ho
      cases ho
      exact p5 v hc
    rw [upd_ne nc]; exact I.freeC x c e
  · have hm' : p ∈ X.pn ++ ((a, oe) :: pins) := by
      rcases List.mem_append.mp hm with z | z
      · exact List.mem_append_left _ z
      · exact List.mem_append_right _ (List.mem_cons_of_mem _ z)
    obtain ⟨k1, k2, k3, k4, k5⟩ := I.pin p hm'
    exact ⟨k1, by rw [upd_ne (hp p hm)]; exact k2, k3, k4, k5⟩
  · by_cases hb : b = a
    · subst hb
      rw [upd_same] at e
      cases e
      exact ⟨⟨oe, vs, p1, hz, hd⟩, ⟨oe, p1⟩, fun _ _ ⟨o', v', q, r⟩ k => ⟨o', v', k o' q, r⟩⟩
    · rw [upd_ne hb] at e
      exact (I.hok b o e).stay (fun _ _ _ q => q) (fun c q => by rw [upd_ne (ne q)]; exact q) fun c xs q => by rw [upd_ne (ne q)]; exact q
/-- behind the suite the error object stays pinned -/
theorem fz_unsuite {a : Addr} {oe : Obj} {pn' : List (Addr × Obj)} (I : Inv (X.suite a ((a, oe) :: (X.pn ++ pins))) pn' σ H s) (ok : X.Ok) : Inv X ((a, oe) :: pins) σ H s :=
  ⟨ok, I.os, I.bare, I.base, I.loc, I.cell, I.free, I.freeC, fun p hp => I.pin p (List.mem_append_left _ (by
    rcases List.mem_append.mp hp with z | z
    · exact List.mem_cons_of_mem _ (List.mem_append_left _ z)
    · rcases List.mem_cons.mp z with z | z
      · rw [z]; exact List.mem_cons_self ..
      · exact List.mem_cons_of_mem _ (List.mem_append_right _ z))), I.hok, I.len⟩
/-- in the air an error object is new -/
theorem fz_sky_new {B : Heap} {l : List Env} {a : Addr} {Z : Obj → Prop} {L : Addr} {h : Heap} (x : Sky B l a Z L h) : B.get? a = none := by
  rcases x with x | x | x
  · exact x.2.1
  · exact x.2.1
  · exact x.2.1
end
/-- what the clause wishes of an error of the body: slot i is the clause's name, slot j the name that keeps it -/
def fzKeep (K : PySem.W.Frag) (c : Value) (i j : Nat) (Wout : WX) (D : Ends) : WX := fun cls d σ H =>
  ∃ b, PySem.W.exmOne K cls c = some b ∧ (b = true → ∀ a, H a = none → D.nx (((σ.set i (some (.ref a))).set j (some (.ref a))).set i none) (upd H a (FzErr cls d a))) ∧ (b = false → Wout cls d σ H)
section
variable {X : Cx} {x n y : Str} {c : Value} {i j : Nat} {body : List Stmt} {np ep yp ap pos pos' : Pos} {tb : WX → TS} {Wout : WX}
theorem fz_try_keep (hs : X.stack = X.env :: X.outer) (hf : X.env.frame = some X.env.locals) (hex : X.ex = []) (hN : X.N.Nodup) (hi : X.N[i]? = some n) (hj : X.N[j]? = some y) (hln : X.env.kindOf n = some .local) (hly : X.env.kindOf y = some .local) (hc : Names X x c) (tk : Takes X Wout)
    (dbn : (n == ("__debug__" : Str)) = false) (dcn : (n == ("__classdict__" : Str)) = false)
    (hb : ∀ (W : WX) (pn : List (Addr × Obj)) (xe : Value → Shared → Prop), Takes (X.tr pn xe) W → PassesOwn (model X.prog X.w) X.A X.env xe → PSs (X.tr pn xe) body (tb W)) :
    PS X (.Try body [.ExceptHandler (some (.Name x np)) (some n) [.Assign [.Name y yp] (.Name n ep) ap] pos'] [] [] pos) (fun D σ H => tb (fzKeep X.K c i j Wout D) D σ H) := by
  refine ⟨fun pins s σ H D I h => ?_⟩
  have ok := I.ok
  have hfr : X.A.frames = some (X.env :: X.outer) := by rw [ok.frames, hs]
  let hd : ExceptHandler := .ExceptHandler (some (.Name x np)) (some n) [.Assign [.Name y yp] (.Name n ep) ap] pos'
  let xe : Value → Shared → Prop := fun e s1 => wpAny (model X.prog X.w) X.A (noteFrame e X.env)
    (fun _ s2 => wpAny (model X.prog X.w) X.A (setFlight e none) (fun _ s3 => wpAny (model X.prog X.w) X.A (handleBy e X.env [hd]) (SP X pins D) X.xe s3) X.xe s2) X.xe s1
  refine wpAny_Try_except (wpAny_mono ((hb (fzKeep X.K c i j Wout D) (X.pn ++ pins) xe (fun u s' xx => ?_) PassesOwn.looking).run [] s σ H D (I.toTry _) h) (fun f s1 hsp => ?_) fun e s1 he => he)
  · obtain ⟨a, B, sI, pins', σ1, H1, cls, d, rfl, J', nb, up, sky, na, os, ag, b, hb1, hyes, hno⟩ := xx
    have J : Inv X pins σ1 H1 sI := J'.ofTry ok
    have Bn := fz_sky_new sky
    replace sky : Sky B (X.env :: X.outer) a (Zc cls d) X.env.locals s'.heap := by rw [← hs]; exact sky
    show wpAny (model X.prog X.w) X.A (noteFrame (.ref a) X.env) _ _ _
    refine Sky.land Zc.steady hfr hf sky fun h3 fl3 up3 => ?_
    have J3 : Inv X pins σ1 H1 { s' with heap := h3 } := J.landed nb fl3.1 (up.trans up3) os ag
    obtain ⟨oe3, vs3, he3, hz3, hd3⟩ := fl3.there
    have nfr : a ∉ frs (X.env :: X.outer) := fun hm => by
      obtain ⟨_, o', e', hnf⟩ := fl3.2.2.1.mem hm
      rw [he3] at e'
      cases e'
      exact hnf _ hd3
    have nL : a ≠ X.env.locals := fun z => nfr (List.mem_filterMap.mpr ⟨X.env, List.mem_cons_self, by rw [hf, z]⟩)
    have nF : a ∉ X.fs := fun hm => by
      obtain ⟨e, he, q⟩ := List.mem_filterMap.mp hm
      exact nfr (List.mem_filterMap.mpr ⟨e, List.mem_cons_of_mem _ he, q⟩)
    have newI : sI.heap.get? a = none := by
      cases q : sI.heap.get? a with
      | none => rfl
      | some o =>
        have := nb a o q (by rw [hs]; exact nfr)
        rw [Bn] at this
        cases this
    have new0 : X.s_0.heap.get? a = none := by
      cases q : X.s_0.heap.get? a with
      | none => rfl
      | some o =>
        obtain ⟨o', this⟩ := J.base.there a o q (by rw [hex]; exact fun z => nomatch z)
        rw [newI] at this
        cases this
    have pna : ∀ p ∈ X.pn ++ pins, p.1 ≠ a := fun p hm z => by
      have := (J.pin p hm).1
      rw [z, newI] at this
      cases this
    have S3 := J3.suite he3 hd3 na nL nF
    refine wpAny_handleBy_cons (codeAny_handlers_test ?_) (by intro q; cases q)
    have LT : PySem.W.Looks (model X.prog X.w) h3 (typeOf (.ref a)) cls := fun A Q E s k q => wpAny_typeOf_ref (k _ _ he3) (by rw [hz3.1]; exact q)
    have LM := PySem.W.exm_one (M := model X.prog X.w) (J3.kIn) LT hb1
    have test : ∀ {Q : Value → Shared → Prop} {E : Value → Shared → Prop}, Q c { s' with heap := h3 } → wpAny (model X.prog X.w) (X.A.mark (some (.ref a))) (eval (.Name x np) X.env) Q E { s' with heap := h3 } := fun {Q E} q => by
      obtain ⟨hg, hdb, hm | ⟨hm, hv, hnn⟩⟩ := hc
      · exact ld_glob (X := X.suite a ((a, oe3) :: (X.pn ++ pins))) S3 hg hm q hdb
      · exact ld_blt (X := X.suite a ((a, oe3) :: (X.pn ++ pins))) S3 hg hm hv q hnn hdb
    refine test (LM.here ?_)
    cases b with
    | true =>
      refine codeAny_handlers_suite_as (HandSPX.lands_againZ fl3 fun h4 fl4 up4 => ?_)
      have J4 : Inv X pins σ1 H1 { s' with heap := h4 } := J.landed nb fl4.1 ((up.trans up3).trans up4) os ag
      obtain ⟨oe4, vs4, he4, hz4, hd4⟩ := fl4.there
      have S4 := J4.suite he4 hd4 na nL nF
      let X4 : Cx := X.suite a ((a, oe4) :: (X.pn ++ pins))
      refine store_ok (X := X4) (v := .ref a) S4 hN hi (.inl hln) rfl (fun s5 S5 => ?_) (.inr hln)
      let D6 : Ends := { nx := fun σ6 H6 => σ6 = (σ1.set i (some (.ref a))).set j (some (.ref a)) ∧ H6 = H1, rt := fun _ _ => False }
      have st := pss_cons (ps_set (X := X4) (i := j) (pos := ap) (pos' := yp) hN hj (.inl hly) (pe_var (X := X4) (i := i) (pos := ep) hi (.inl hln) dbn dcn) rfl (.inr hly)) pss_nil
      have hlt : i < σ1.length := by rw [J.len]; exact (List.getElem?_eq_some_iff.mp hi).1
      refine wpAny_mono (st.run [] s5 _ H1 D6 S5 ⟨.ref a, by rw [List.getElem?_set_self hlt], rfl, rfl⟩) (fun f s6 hsp => ?_) (fun _ _ z => False.elim z)
      cases f with
      | next =>
        obtain ⟨σ6, H6, S6, rfl, rfl⟩ := hsp
        refine gone_ok (fz_unsuite S6 ok) hN hi hln fun s7 J7 => ?_
        exact ⟨_, _, fz_track J7 new0 pna hz4 hd4, hyes rfl a na⟩
      | brk => obtain ⟨_, _, _, z⟩ := hsp; exact z.elim
      | cont => obtain ⟨_, _, _, z⟩ := hsp; exact z.elim
      | ret u => obtain ⟨_, _, _, _, _, z⟩ := hsp; exact z.elim
    | false =>
      show wpAny _ X.A (handleBy (.ref a) X.env []) _ _ _
      refine wpAny_handleBy_nil ?_
      obtain ⟨k1, k2, k3, oe, vs, T, oT, ts', he, hz, hd, h1, hr⟩ := id fl3
      unfold PySem.passOn
      refine wpAny_bind (wpAny_field he hd h1 ?_)
      rw [if_neg (show ¬ ((Value.ref T == Value.none) = true) from by simp)]
      have fin : wpAny (model X.prog X.w) X.A (setFlight (.ref a) X.env.frame) (fun _ s4 => wpAny (model X.prog X.w) X.A (throw (.ref a) : Sem Flow) (SP X pins D) X.xe s4) X.xe { s' with heap := h3 } := by
        rw [hf]
        refine HandSPX.setFlight_upZ fl3 fun h4 hh4 up4 => wpAny_throw (tk _ _ ?_)
        exact ⟨a, B, sI, pins, σ1, H1, cls, d, rfl, J, nb, (up.trans up3).trans up4, .inr (.inr (by rw [hs]; exact hh4)), na, os, ag, hno rfl⟩
      first
        | exact wpAny_bind (wpAny_pure (wpAny_bind fin))
        | exact wpAny_bind fin
  · cases f with
    | next => obtain ⟨σ', H', J', q⟩ := hsp; exact wpAny_execs_nil ⟨σ', H', J'.ofTry ok, q⟩
    | brk => obtain ⟨σ', H', J', q⟩ := hsp; exact ⟨σ', H', J'.ofTry ok, q⟩
    | cont => obtain ⟨σ', H', J', q⟩ := hsp; exact ⟨σ', H', J'.ofTry ok, q⟩
    | ret u => obtain ⟨v, σ', H', J', r, q⟩ := hsp; exact ⟨v, σ', H', J'.ofTry ok, r, q⟩
end
end L2

/-! every statement that is translated -/
namespace Fz
open PySem PySem.Spec L2
open PyProof.Rows hiding St

variable {S : Su}
section
variable {X : Cx} {W : WX} {F : Fns} {c : TC} {sc : Scope} {k : Nat}
def PSx (S : Su) (W : WX) (F : Fns) (X : Cx) (c : TC) (sc : Scope) (st : Stmt) : Prop := ∀ xs, trS c sc st = some xs → PS X st (dS S W (execs F xs))
theorem trSs_of : ∀ {ss : List Stmt}, (∀ s ∈ ss, PSx S W F X c sc s) → ∀ {xs : List Fz.S}, trSs c sc ss = some xs → PSs X ss (dS S W (execs F xs))
  | [], h, xs, e => by
    simp only [trSs] at e
    cases e
    exact s_nil
  | s :: ss, h, xs, e => by
    simp only [trSs] at e
    cases e1 : trS c sc s with
    | none => simp only [e1] at e; cases e
    | some x =>
      cases e2 : trSs c sc ss with
      | none => simp only [e1, e2] at e; cases e
      | some ys =>
        simp only [e1, e2] at e
        cases e
        exact s_cons (h s (List.mem_cons_self ..) x e1) (trSs_of (fun s hs => h s (List.mem_cons_of_mem _ hs)) e2)
theorem noSl {e : Expr} {x : E} (h : trE c sc e = some x) : isSl e = false := by
  cases e <;> first | rfl | (simp [trE] at h; done)
theorem onlyLc {e : Expr} {x : E} (h : trE c sc e = some x) (hc : isComp e = true) : ∃ elt gs scope pos, e = .ListComp elt gs scope pos := by
  cases e <;> first | (cases hc; done) | exact ⟨_, _, _, _, rfl⟩ | (simp [trE] at h; done)
/-- a frame by itself -/
structure FrX (X : Cx) : Prop where
  hs : X.stack = X.env :: X.outer
  hf : X.env.frame = some X.env.locals
  hex : X.ex = []
theorem Good.tr {pn : List (Addr × Obj)} {xe : Value → Shared → Prop} (g : Good S c k X sc so) : Good S c k (X.tr pn xe) sc so := ⟨g.hP, g.hw, g.hK, g.hmg, g.hb, g.hN, g.nd, g.sc, g.calm, g.room, g.fn⟩
theorem EnvOk.un {E H : Hp} {σ : St} {env : Cells} {i : Nat} (e : EnvOk S E H σ env) : EnvOk S E H (σ.set i none) (env.set i .un) := by
  refine ⟨by rw [List.length_set, List.length_set]; exact e.len, fun j d h => ?_⟩
  by_cases hj : i = j
  · subst hj
    by_cases hi : i < env.length
    · rw [List.getElem?_set_self hi] at h; cases h; trivial
    · rw [List.getElem?_eq_none (by simpa using hi)] at h; cases h
  · rw [List.getElem?_set_ne hj] at h
    have q := e.slot j d h
    cases d with
    | un => trivial
    | sh u => obtain ⟨v, q1, q2⟩ := q; exact ⟨v, by rw [List.getElem?_set_ne hj]; exact q1, q2⟩
    | ow u => obtain ⟨a, q1, q2, q3⟩ := q; exact ⟨a, by rw [List.getElem?_set_ne hj]; exact q1, q2, q3⟩
theorem Less.un {σ : St} {env : Cells} {i : Nat} : Less σ env (σ.set i none) (env.set i .un) := fun j u h => by
  by_cases hj : i = j
  · subst hj
    by_cases hi : i < env.length
    · rw [List.getElem?_set_self hi] at h; cases h
    · rw [List.getElem?_eq_none (by simpa using hi)] at h; cases h
  · rw [List.getElem?_set_ne hj] at h
    exact ⟨h, by rw [List.getElem?_set_ne hj]⟩
theorem set_again {α : Type} (l : List α) {i j : Nat} (h : i ≠ j) (a b d : α) : ((l.set i a).set j b).set i d = (l.set j b).set i d := by
  rw [List.set_comm (l := l) (i := i) (j := j) a b h, List.set_set]
theorem s_keep {x n y : Str} {cs : List Nat} {i j : Nat} {body : List Stmt} {bs : List Fz.S} {np ep yp ap pos pos' : Pos} (g : Good S c k X sc sc) (fx : FrX X) (tk : Takes X W) (G : Glob S c F k) (hx : c.gt.lookup x = some cs) (hdx : x ≠ "__debug__") (hgx : glB sc x = true)
    (hi : ixOf n c.N 0 = some i) (hj : ixOf y c.N 0 = some j) (hln : sc.names.lookup n = some .local) (hly : sc.names.lookup y = some .local) (hn : okName n = true) (hne : n ≠ y)
    (hb : ∀ (X : Cx) (W : WX), Good S c k X sc sc → FrX X → Takes X W → PassesOwn (model X.prog X.w) X.A X.env X.xe → PSs X body (dS S W (execs F bs))) :
    PS X (.Try body [.ExceptHandler (some (.Name x np)) (some n) [.Assign [.Name y yp] (.Name n ep) ap] pos'] [] [] pos) (dS S W (exec F (.tryKeep bs cs c.gn i j))) := by
  obtain ⟨C, hm, hk⟩ := (G.trx x cs hx).ex
  have hij : i ≠ j := fun z => by
    subst z
    have h1 := ixOf_at hi
    have h2 := ixOf_at hj
    rw [h1] at h2
    exact hne (Option.some.inj h2)
  have kd : ∀ z, sc.names.lookup z = some .local → X.env.kindOf z = some .local := fun z h => by
    show X.env.scope.names.lookup z = _
    rw [g.sc]; exact h
  have nm : Names X x (.ref C) := ⟨glB_of (by rw [g.sc]; exact hgx), beq_eq_false_iff_ne.mpr hdx, .inl (by rw [g.hmg]; exact hm)⟩
  obtain ⟨n1, n2, _⟩ := okName_of hn
  refine (fz_try_keep (i := i) (j := j) (tb := fun W => dS S W (execs F bs)) (Wout := W) fx.hs fx.hf fx.hex g.nd (by rw [g.hN]; exact ixOf_at hi) (by rw [g.hN]; exact ixOf_at hj) (kd n hln) (kd y hly) nm tk n1 n2
    fun W' pn xe tk' hp' => hb (X.tr pn xe) W' g.tr ⟨fx.hs, fx.hf, fx.hex⟩ tk' hp').imp fun D σ H q => ?_
  obtain ⟨F0, H0, env, r, p⟩ := q
  refine ⟨F0, H0, env, r, ?_⟩
  simp only [exec] at p
  cases e : execs F bs env with
  | nx env' => rw [e] at p; exact p
  | rt t => rw [e] at p; exact p
  | no => rw [e] at p; exact p
  | ex d env' =>
    simp only [e] at p
    split at p
    · rename_i hd
      intro σ1 H1 ⟨E1, r1⟩
      refine ⟨cs.contains d, g.hK ▸ hk d hd, fun hc a ha => ?_, fun hc => ?_⟩
      · rw [if_pos hc] at p
        have st := Step.new (o := ExH (S.cA d) a) r1.st.ok ha fun z => z
        have r2 := r1.step st
        have rep : Rep S (upd E1 a (ExH (S.cA d) a)) (.exc d) (.ref a) := ⟨a, rfl, upd_same⟩
        have r3 := r2.less (r2.eo.set (i := i) rep) .set
        have r4 := r3.less (r3.eo.set (i := j) rep) .set
        have r5 := r4.less (r4.eo.un (i := i)) .un
        rw [set_again env' hij] at r5
        exact p _ _ ⟨_, r5⟩
      · rw [if_neg (by rw [hc]; decide)] at p
        exact p σ1 H1 ⟨E1, r1⟩
    · exact p.elim
theorem trS_all (G : Glob S c F k) : ∀ (n : Nat) (st : Stmt), sizeOf st ≤ n → ∀ {X : Cx} {W : WX}, Good S c k X sc sc → FrX X → Takes X W → PassesOwn (model X.prog X.w) X.A X.env X.xe → PSx S W F X c sc st := by
  intro n
  induction n with
  | zero => intro st h; cases st <;> simp at h
  | succ n ih0 =>
    intro st h X W g fx tk hp xs hx
    have ih : ∀ (st : Stmt), sizeOf st ≤ n → PSx S W F X c sc st := fun st h => ih0 st h g fx tk hp
    have E1 : ∀ {e : Expr} {x : E}, trE c sc e = some x → TrO S W F X e x := fun {e x} h => trE_ok G e g tk x h
    have Es : ∀ {es : List Expr} {xs : List E}, trEs c sc es = some xs → PA X es (dA S W (evs F xs)) ∧ (∀ e ∈ es, ∀ a p, e ≠ .Starred a p) ∧ xs.length = es.length := fun {es xs} h => trEs_of g tk (fun e _ => trE_ok G e) h
    unfold trS at hx
    split at hx
    · cases hx; exact s_one s_pass
    · rename_i y p1 m ap a cp pos
      split at hx
      · rename_i hc
        simp only [Bool.and_eq_true] at hc
        split at hx
        · rename_i i e' e1 e2
          split at hx
          · rename_i hm
            subst hm
            cases hx
            exact s_shr (s_app g hc.1.1 hc.1.2 e1 hc.2 (E1 e2))
          · split at hx
            · rename_i hm
              subst hm
              cases hx
              exact s_shr (s_ext g hc.1.1 hc.1.2 e1 hc.2 (E1 e2))
            · cases hx
        · cases hx
      · cases hx
    · rename_i e pos _
      split at hx
      · cases hx
      · rename_i hc
        split at hx
        · rename_i x e1
          cases hx
          exact s_shr (s_expr (sw_plain (by simpa using hc)) (E1 e1).tri.e)
        · cases hx
    · -- t = l.pop()
      rename_i tg y p1 m ap cp pos
      split at hx
      · rename_i hc
        simp only [Bool.and_eq_true, decide_eq_true_eq] at hc
        obtain ⟨⟨⟨h1, h2⟩, h3⟩, rfl⟩ := hc
        split at hx
        · rename_i i gt e1 e2
          cases hx
          obtain ⟨g1, g2⟩ := trG_ok g tg gt e2
          exact s_one (s_pop g h1 h2 e1 h3 g1 g2)
        · cases hx
      · cases hx
    · rename_i y p1 e pos _
      split at hx
      · rename_i hl
        split at hx
        · rename_i i e' e1 e2
          cases hx
          obtain ⟨q1, q2⟩ := s_set (py := p1) (pos := pos) g hl e1 (E1 e2) (onlyLc e2)
          split
          · rename_i hf
            simp only [Bool.and_eq_true] at hf
            exact s_shr (q2 hf.2)
          · exact s_shr q1
        · cases hx
      · cases hx
    · rename_i ts kt pt vs k2 pt2 pos
      split at hx
      · rename_i es gs e3 eg
        obtain ⟨a1, a2, a3⟩ := Es e3
        obtain ⟨g1, g2, g3⟩ := trGs_ok g ts gs eg
        split at hx
        · rename_i hsw
          split at hx
          · rename_i hlen
            cases hx
            exact s_shr (s_asg (by rfl) (sw_zero g.sc hsw) (fun _ _ h => by cases h) (e_tup (by omega) a1) (g_tup g g2 g3 g1))
          · cases hx
        · split at hx
          · rename_i x px y py a b
            split at hx
            · rename_i hc
              obtain ⟨h1, h2, h3, h4, h5, h6⟩ := hc
              split at hx
              · rename_i i j e1 e2
                cases hx
                exact s_shr (s_par g h1 h2 h3 h4 e1 e2 h5 h6 a2 a3 a1)
              · cases hx
            · cases hx
          · rename_i x px y py z pz a b d
            split at hx
            · rename_i hc
              obtain ⟨h1, h2, h3, h4, h5, h6, h7, h8, h9, h10⟩ := hc
              split at hx
              · rename_i i j l e1 e2 e4
                cases hx
                exact s_shr (s_par3 g h1 h2 h3 h4 h5 h6 h7 h8 e1 e2 e4 h9 h10 a2 a3 a1)
              · cases hx
            · cases hx
          · cases hx
      · cases hx
    · rename_i ts kt pt e pos _ _
      split at hx
      · cases hx
      · rename_i hnt
        split at hx
        · rename_i x gs e1 e2
          cases hx
          obtain ⟨g1, g2, g3⟩ := trGs_ok g ts gs e2
          refine s_shr (s_asg (by cases e <;> rfl) (by cases e <;> first | rfl | exact absurd rfl hnt) (fun _ _ h => by cases h) (E1 e1).tri.e (g_tup g g2 g3 g1))
        · cases hx
    · rename_i y p1 kx p2 e pos
      split at hx
      · rename_i hc
        simp only [Bool.and_eq_true] at hc
        split at hx
        · rename_i i k' e' e1 e2 e3
          cases hx
          exact s_shr (s_setI g hc.1 hc.2 e1 (noSl e2) (E1 e2) (E1 e3))
        · cases hx
      · cases hx
    · rename_i t a b pos
      simp only [Stmt.If.sizeOf_spec] at h
      split at hx
      · rename_i x y z e1 e2 e3
        cases hx
        exact s_shr (s_if (E1 e1).tri.tt (trSs_of (fun s hs => ih s (by have := List.sizeOf_lt_of_mem hs; omega)) e2) (trSs_of (fun s hs => ih s (by have := List.sizeOf_lt_of_mem hs; omega)) e3))
      · cases hx
    · rename_i t b pos
      simp only [Stmt.While.sizeOf_spec] at h
      split at hx
      · rename_i x y e1 e2
        cases hx
        exact s_shr (s_while hp (E1 e1).tri.tt (trSs_of (fun s hs => ih s (by have := List.sizeOf_lt_of_mem hs; omega)) e2))
      · cases hx
    · rename_i tg iter b pos
      simp only [Stmt.For.sizeOf_spec] at h
      split at hx
      · rename_i r ik its gt y e1 e2 e3
        cases hx
        obtain ⟨w1, w2⟩ := trW_of (tg := tg) (iter := iter) g tk G (fun e _ => trE_ok G e) e1
        exact s_shr (s_for hp g.calm w1 (trG_ok g tg gt e2).1 (trSs_of (fun s hs => ih s (by have := List.sizeOf_lt_of_mem hs; omega)) e3) w2)
      · cases hx
    · rename_i e pos
      split at hx
      · rename_i x e1
        cases hx
        exact s_shr (s_ret (E1 e1).tri.e)
      · cases hx
    · cases hx; exact s_one s_retN
    · rename_i x p m j p2 pos pos'
      split at hx
      · rename_i hc
        simp only [Bool.and_eq_true] at hc
        split at hx
        · rename_i i e1
          cases hx
          exact s_one (s_raise g tk (G.exc x i e1) hc.1 hc.2)
        · cases hx
      · cases hx
    · -- try: b / except x as n: y = n
      rename_i body x p1 n' y p2 z p3 p4 p5 pos
      simp only [Stmt.Try.sizeOf_spec] at h
      split at hx
      · rename_i hc
        obtain ⟨rfl, h1, h2, h3, h4, h5, h6⟩ := hc
        split at hx
        · rename_i cs i j b e1 e2 e3 e4
          cases hx
          exact s_one (s_keep g fx tk G e1 h1 h2 e2 e3 h3 h4 h5 h6 fun X' W' g' fx' tk' hp' => trSs_of (fun s hs => ih0 s (by have := List.sizeOf_lt_of_mem hs; omega) g' fx' tk' hp') e4)
        · cases hx
      · cases hx
    · cases hx
theorem trSs_ok (g : Good S c k X sc sc) (fx : FrX X) (tk : Takes X W) (hp : PassesOwn (model X.prog X.w) X.A X.env X.xe) (G : Glob S c F k) {ss : List Stmt} {xs : List Fz.S} (e : trSs c sc ss = some xs) : PSs X ss (dS S W (execs F xs)) :=
  trSs_of (fun s _ => trS_all G _ s (Nat.le_refl _) g fx tk hp) e
end
end Fz

/-! calls: every def of the table keeps its promise, by the depth of calls; the end of a law -/
namespace Fz
open PySem PySem.Spec L2
open PyProof.Rows hiding St

/-- a def of the text -/
structure DefT where
  /-- its number, the same in all laws -/
  id : Nat
  x : Str
  N : List Str
  ps : List Str
  acc : List Nat
  /-- whether its dicts have tuples as keys; the defs that it calls as values -/
  tkd : Bool
  fvs : List Nat
  st : Stmt
  d : Def
/-- the names of the defs, each with its place -/
def gfOf (tab : List DefT) : List (Str × Nat) := tab.map fun t => (t.x, t.id)
def dsOf (tab : List DefT) : List (Nat × Def) := tab.map fun t => (t.id, t.d)
/-- what the law's defs have in common -/
structure Mo where
  tab : List DefT
  gc : List (Str × T)
  gx : List (Str × Nat)
  bl : List Str
  gs : List (Str × List Nat)
  gt : List (Str × List Nat)
  gn : List Nat
def Mo.tc (M : Mo) (t : DefT) : TC := ⟨t.N, gfOf M.tab, M.gc, M.gx, M.bl, t.acc, M.gs, M.gt, M.gn, t.tkd, t.fvs⟩
def Mo.F (M : Mo) (n : Nat) : Fns := callF (dsOf M.tab) n
/-- a def of the text, checked -/
structure DefC (M : Mo) (t : DefT) : Prop where
  sc : FnScope t.N t.ps (defScope t.st)
  tr : trSs (M.tc t) (defScope t.st) (defBody t.st) = some t.d.body
  np : t.d.np = t.ps.length
  nl : t.d.nl = t.N.length
  fv : t.fvs.all (fun f => (gfOf M.tab).any fun p => p.2 == f && (gfOf M.tab).lookup p.1 == some f) = true
  bnd : ∀ (kV doc pm : Value) (an : Option Addr) (cdv ct : Value) (us : List Value), us.length = t.ps.length → bindArgs (PySem.W.fnOf t.x t.x (defArgs t.st) (defBody t.st) (defScope t.st) .none kV doc pm an cdv ct) ⟨us, []⟩ = pure (t.ps.zip us)
variable {S : Su}
/-- a def as it stands behind the top -/
structure DefF (S : Su) (t : DefT) : Prop where
  mg : S.mg t.x = some (.ref (S.fA t.id))
  fn : ∃ fd, Fun S.K t.x t.x t.st (S.fA t.id) fd
/-- all that the top has made -/
structure MoOk (S : Su) (M : Mo) : Prop where
  chk : ∀ t ∈ M.tab, DefC M t
  nd : (M.tab.map DefT.id).Nodup
  fns : ∀ t ∈ M.tab, DefF S t
  cst : ∀ x t, M.gc.lookup x = some t → ∃ v u, S.mg x = some u ∧ RelV v u ∧ ∀ H, Rep S H t v
  blt : ∀ x, M.bl.contains x = true → S.mg x = none
  exc : ∀ x k, M.gx.lookup x = some k → ExAt S x k
  isx : ∀ x cs, M.gs.lookup x = some cs → IsX S x cs M.gn
  trx : ∀ x cs, M.gt.lookup x = some cs → TrX S x cs M.gn
  exc' : ∀ k, M.gn.contains k = true → ExcC S.K (S.cA k)

theorem lookup_idx {x : Str} {f : Nat} : ∀ {tab : List DefT}, (gfOf tab).lookup x = some f → ∃ t ∈ tab, t.id = f ∧ t.x = x
  | [], h => by simp [gfOf] at h
  | t :: ts, h => by
    unfold gfOf at h
    rw [List.map_cons, List.lookup_cons] at h
    by_cases e : x == t.x
    · simp only [e] at h
      cases h
      exact ⟨t, List.mem_cons_self .., rfl, (eq_of_beq e).symm⟩
    · simp only [e] at h
      obtain ⟨u, h1, h2, h3⟩ := lookup_idx (tab := ts) h
      exact ⟨u, List.mem_cons_of_mem _ h1, h2, h3⟩
theorem lookup_ds : ∀ {tab : List DefT} {t : DefT}, (tab.map DefT.id).Nodup → t ∈ tab → (dsOf tab).lookup t.id = some t.d
  | [], t, _, h => (nomatch h)
  | u :: us, t, nd, h => by
    unfold dsOf
    rw [List.map_cons, List.lookup_cons]
    rw [List.map_cons, List.nodup_cons] at nd
    rcases List.mem_cons.mp h with rfl | h
    · simp
    · have : (t.id == u.id) = false := by
        rw [beq_eq_false_iff_ne]
        exact fun z => nd.1 (z ▸ List.mem_map_of_mem h)
      simp only [this]
      exact lookup_ds nd.2 h
theorem startC_get {d : Def} {args : List T} {j : Nat} {cl : Cell} (h : (startC d args)[j]? = some cl) : cl = .un ∨ ∃ t, args[j]? = some t ∧ cl = .sh t := by
  unfold startC at h
  by_cases hj : j < args.length
  · rw [List.getElem?_append_left (by simpa using hj), List.getElem?_map] at h
    cases e : args[j]? with
    | none => rw [e] at h; cases h
    | some t => rw [e] at h; exact .inr ⟨t, rfl, (Option.some.inj h).symm⟩
  · rw [List.getElem?_append_right (by simpa using hj), List.getElem?_replicate] at h
    split at h
    · exact .inl (Option.some.inj h).symm
    · cases h
theorem start_get {N : List Str} {vs : List V} {j : Nat} {v : V} (h : vs[j]? = some v) : (L2.start N vs)[j]? = some (some v) := by
  have hj : j < vs.length := (List.getElem?_eq_some_iff.mp h).1
  unfold L2.start
  rw [List.getElem?_append_left (by simpa using hj), List.getElem?_map, h]
  rfl
theorem rs_start {F H : Hp} {t : DefT} {ts : List T} {vs : List V} (o : Ok S F H) (rs : Reps S F ts vs) (hn : t.d.nl = t.N.length) (hl : vs.length ≤ t.N.length) : RS S F H (startC t.d ts) (L2.start t.N vs) H := by
  have l := rs.length
  refine ⟨F, .refl o, ⟨?_, fun j cl h => ?_⟩, fun i j a b n h1 _ => ?_, fun i u a h1 _ => ?_⟩
  · unfold L2.start startC
    simp only [List.length_append, List.length_map, List.length_replicate]
    omega
  · rcases startC_get h with rfl | ⟨u, h1, rfl⟩
    · trivial
    · obtain ⟨v, h2, h3⟩ := rs.get h1
      exact ⟨v, start_get h2, h3⟩
  · rcases startC_get h1 with z | ⟨_, _, z⟩ <;> cases z
  · rcases startC_get h1 with z | ⟨_, _, z⟩ <;> cases z
theorem Mo.F_succ (M : Mo) (nd : (M.tab.map DefT.id).Nodup) {t : DefT} (ht : t ∈ M.tab) (hn : t.d.np = t.ps.length) (n : Nat) (ts : List T) : M.F (n + 1) t.id ts = if ts.length = t.ps.length then finF (execs (M.F n) t.d.body (startC t.d ts)) else .no := by
  unfold Mo.F
  rw [callF, lookup_ds nd ht]
  simp only [hn]
/-- a def keeps its promise where those that it calls do -/
theorem fn_at {M : Mo} (O : MoOk S M) {n : Nat} {t : DefT} {fd : FuncData} (ih : ∀ (x : Str) (f : Nat), (gfOf M.tab).lookup x = some f → FnAt S (M.F n) n x f) (ht : t ∈ M.tab) (hf : Fun S.K t.x t.x t.st (S.fA t.id) fd) :
    FnOk S.P S.w S.K S.mg S.base (L2.CX S.P S.w) (n + 1) (S.fA t.id) fd t.ps (spF S (M.F (n + 1)) t.id t.ps.length) := by
  have C := O.chk t ht
  have hF := fun ts => Mo.F_succ M O.nd ht C.np n ts
  refine hf.okX C.sc (fun vs H Q E q => q.1) fun cdv A outer s H vs Q E hr q => ?_
  obtain ⟨hl, F0, ts, o, rs, q⟩ := q
  have hts : ts.length = t.ps.length := rs.length.trans hl
  rw [hF, if_pos hts] at q
  have g : Good S (M.tc t) n (cxOf (L2.CX S.P S.w) S.P S.w S.K S.mg S.base t.N t.x (defScope t.st) (S.fA t.id) cdv A outer s H E) (defScope t.st) (defScope t.st) :=
    ⟨rfl, rfl, rfl, rfl, rfl, rfl, C.sc.nd, rfl, rfl, hr, fun x h => rfl⟩
  have G : Glob S (M.tc t) (M.F n) n := by
   refine ⟨fun x f h => ih x f h, O.cst, O.blt, O.exc, fun f h => ?_, O.isx, O.trx, O.exc'⟩
   have h' := List.all_eq_true.mp C.fv f (List.contains_iff_mem.mp h)
   obtain ⟨p, h1, h2⟩ := List.any_eq_true.mp h'
   rw [Bool.and_eq_true] at h2
   exact ⟨p.1, ih _ _ (eq_of_beq h2.2)⟩
  have tk : Takes (cxOf (L2.CX S.P S.w) S.P S.w S.K S.mg S.base t.N t.x (defScope t.st) (S.fA t.id) cdv A outer s H E) (fun cls d _ H => E cls d H) := takes_of rfl rfl rfl rfl
  refine ⟨_, trSs_ok g ⟨rfl, rfl, rfl⟩ tk (passes_of rfl) G C.tr, F0, H, _, rs_start o rs C.nl ?_, ?_⟩
  · have := congrArg List.length C.sc.pre
    rw [List.length_take] at this
    omega
  · cases e : execs (M.F n) t.d.body (startC t.d ts) with
    | nx env => rw [e] at q; exact fun σ H' r => by obtain ⟨F', r⟩ := r; exact q .non F' H' r.st rfl
    | rt u => rw [e] at q; exact fun v F' H' s r => q v F' H' s r
    | ex d env => rw [e] at q; exact fun σ H' r => by obtain ⟨F', r⟩ := r; exact q F' H' r.st
    | no => rw [e] at q; exact q
/-- every def keeps its promise -/
theorem fns_ok {M : Mo} (O : MoOk S M) : ∀ (n : Nat) (x : Str) (f : Nat), (gfOf M.tab).lookup x = some f → FnAt S (M.F n) n x f := by
  intro n
  induction n with
  | zero =>
    intro x f h
    obtain ⟨t, ht, rfl, rfl⟩ := lookup_idx h
    have D := O.fns t ht
    have C := O.chk t ht
    obtain ⟨fd, hf⟩ := D.fn
    exact ⟨fd, t.ps, D.mg, hf.kp, hf.binds C.bnd, fun ts z => absurd rfl z, ⟨fun vs H Q E q => q.1, fun A outer s H args us vs Q E _ _ _ _ q => by obtain ⟨_, F0, ts, _, _, z⟩ := q; exact z.elim⟩⟩
  | succ n ih =>
    intro x f h
    obtain ⟨t, ht, rfl, rfl⟩ := lookup_idx h
    have D := O.fns t ht
    have C := O.chk t ht
    obtain ⟨fd, hf⟩ := D.fn
    refine ⟨fd, t.ps, D.mg, hf.kp, hf.binds C.bnd, fun ts z => ?_, fn_at O ih ht hf⟩
    have hF := Mo.F_succ M O.nd ht C.np n ts
    rw [hF] at z
    by_cases e : ts.length = t.ps.length
    · exact e
    · rw [if_neg e] at z; exact absurd rfl z
end Fz

/-! the end of a law: from the facts of the top to its promise -/
namespace Fz
open PySem PySem.Spec L2
open PyProof.Rows hiding St

/-- a def's facts -/
structure FnF (K : PySem.W.Frag) (x : Str) (st : Stmt) (f : Addr) : Prop where
  a : PySem.W.nsIn K mainGlobals x = some (some (.ref f))
  l : ∃ (oc : Value) (od an : Option Addr) (osl : Array (Option Value)) (kV doc pm cdv ct : Value), K.lookup f = some ⟨oc, od, .func (PySem.W.fnOf x x (defArgs st) (defBody st) (defScope st) .none kV doc pm an cdv ct), osl⟩ ∧ PySem.W.codeIn K cdv x = true
  k : PySem.W.keepIn K (.ref f) = true
theorem fnF_mk {K : PySem.W.Frag} {x : Str} {st : Stmt} {f : Addr} {oc : Value} {od an : Option Addr} {osl : Array (Option Value)} {kV doc pm cdv ct : Value} (a : PySem.W.nsIn K mainGlobals x = some (some (.ref f)))
    (l : K.lookup f = some ⟨oc, od, .func (PySem.W.fnOf x x (defArgs st) (defBody st) (defScope st) .none kV doc pm an cdv ct), osl⟩) (c : PySem.W.codeIn K cdv x = true) (k : PySem.W.keepIn K (.ref f) = true) : FnF K x st f :=
  ⟨a, ⟨oc, od, an, osl, kV, doc, pm, cdv, ct, l, c⟩, k⟩
inductive FnsF (K : PySem.W.Frag) : List DefT → List Addr → Prop where
  | nil : FnsF K [] []
  | cons {t : DefT} {ts : List DefT} {f : Addr} {fs : List Addr} (h : FnF K t.x t.st f) (r : FnsF K ts fs) : FnsF K (t :: ts) (f :: fs)
def adr : List DefT → List Addr → Nat → Addr
  | t :: ts, f :: fs, i => if i = t.id then f else adr ts fs i
  | _, _, _ => 0
theorem FnsF.get {K : PySem.W.Frag} {ts : List DefT} {fs : List Addr} (h : FnsF K ts fs) : ∀ {t : DefT}, (ts.map DefT.id).Nodup → t ∈ ts → FnF K t.x t.st (adr ts fs t.id) := by
  induction h with
  | nil => intro t _ e; cases e
  | cons h r ih =>
    intro t nd e
    rw [List.map_cons, List.nodup_cons] at nd
    unfold adr
    rcases List.mem_cons.mp e with rfl | e
    · rw [if_pos rfl]; exact h
    · rw [if_neg (fun z => nd.1 (by rw [← z]; exact List.mem_map_of_mem e))]
      exact ih nd.2 e
/-- an own exception class's facts -/
structure ExF (K : PySem.W.Frag) (x : Str) (C : Addr) : Prop where
  a : PySem.W.nsIn K mainGlobals x = some (some (.ref C))
  kp : PySem.W.keepIn K (.ref C) = true
  fx : ∃ (B newId initId : String) (bmB : List Value), ExcBaseFacts B newId initId bmB ∧ PySem.W.excIn K C bmB newId = true
  sb : PySem.W.subIn K (.ref C) (.type "BaseException") = some true
  ty : PySem.W.typeIn K (.ref C) = some (.type "type")
  xc : ExcC K C
theorem exF_mk {K : PySem.W.Frag} {x : Str} {C : Addr} {B newId initId : String} {bmB : List Value} (f : ExcBaseFacts B newId initId bmB) (a : PySem.W.nsIn K mainGlobals x = some (some (.ref C))) (kp : PySem.W.keepIn K (.ref C) = true) (e : PySem.W.excIn K C bmB newId = true)
    (sb : PySem.W.subIn K (.ref C) (.type "BaseException") = some true) (ty : PySem.W.typeIn K (.ref C) = some (.type "type"))
    (hg : PySem.W.findIn K (.ref C) "__getattribute__" = some (some (.builtin "BaseException.__getattribute__"))) (hk : PySem.W.findIn K (.ref C) "__getattr__" = some none) (hd : PySem.W.hasDictIn K C = true)
    (ha : PySem.W.findIn K (.ref C) "__class__" = some (some (.builtin "object.__class__"))) (hn : PySem.W.specialIn K (.builtin "object.__class__") "__get__" = some (some (.builtin "getset_descriptor.__get__"))) (ht : PySem.W.takesIn K (.builtin "object.__class__") = some true)
    (hm : PySem.W.mroIn K C (.type "object") = some true) : ExF K x C := ⟨a, kp, ⟨B, newId, initId, bmB, f, e⟩, sb, ty, ⟨hg, hk, sb, hd, ha, hn, ht, hm⟩⟩
/-- pair by pair: whether an exception is of a class -/
inductive KitF (K : PySem.W.Frag) (cA : Nat → Addr) (cv : Value) (ks : List Nat) : List Nat → Prop where
  | nil : KitF K cA cv ks []
  | cons {k : Nat} {r : List Nat} {C : Addr} {b : Bool} {x : Str} (a : PySem.W.nsIn K mainGlobals x = some (some (.ref C))) (e : cA k = C) (eb : ks.contains k = b) (h : PySem.W.kitOne K (.ref C) cv = some b) (l : KitF K cA cv ks r) : KitF K cA cv ks (k :: r)
inductive ExmF (K : PySem.W.Frag) (cA : Nat → Addr) (cv : Value) (ks : List Nat) : List Nat → Prop where
  | nil : ExmF K cA cv ks []
  | cons {k : Nat} {r : List Nat} {C : Addr} {b : Bool} {x : Str} (a : PySem.W.nsIn K mainGlobals x = some (some (.ref C))) (e : cA k = C) (eb : ks.contains k = b) (h : PySem.W.exmOne K (.ref C) cv = some b) (l : ExmF K cA cv ks r) : ExmF K cA cv ks (k :: r)
theorem KitF.get {K : PySem.W.Frag} {cA : Nat → Addr} {cv : Value} {ks gn : List Nat} (h : KitF K cA cv ks gn) : ∀ k, gn.contains k = true → PySem.W.kitOne K (.ref (cA k)) cv = some (ks.contains k) := by
  induction h with
  | nil => intro k e; simp at e
  | cons a e eb h l ih =>
    intro j hj
    rw [List.contains_cons, Bool.or_eq_true] at hj
    rcases hj with z | z
    · rw [eq_of_beq z, e, eb]; exact h
    · exact ih j z
theorem ExmF.get {K : PySem.W.Frag} {cA : Nat → Addr} {cv : Value} {ks gn : List Nat} (h : ExmF K cA cv ks gn) : ∀ k, gn.contains k = true → PySem.W.exmOne K (.ref (cA k)) cv = some (ks.contains k) := by
  induction h with
  | nil => intro k e; simp at e
  | cons a e eb h l ih =>
    intro j hj
    rw [List.contains_cons, Bool.or_eq_true] at hj
    rcases hj with z | z
    · rw [eq_of_beq z, e, eb]; exact h
    · exact ih j z
/-- the classes that isinstance asks for -/
inductive IsF (K : PySem.W.Frag) (cA : Nat → Addr) (gn : List Nat) : List (Str × List Nat) → Prop where
  | nil : IsF K cA gn []
  | own {x : Str} {ks : List Nat} {r : List (Str × List Nat)} {C : Addr} (a : PySem.W.nsIn K mainGlobals x = some (some (.ref C))) (p : KitF K cA (.ref C) ks gn) (l : IsF K cA gn r) : IsF K cA gn ((x, ks) :: r)
  | blt {x : Str} {ks : List Nat} {r : List (Str × List Nat)} {n : String} (a : PySem.W.nsIn K mainGlobals x = some none) (b : bootBuiltins x = some (.type n)) (p : KitF K cA (.type n) ks gn) (l : IsF K cA gn r) : IsF K cA gn ((x, ks) :: r)
/-- the classes that except names -/
inductive TrF (K : PySem.W.Frag) (cA : Nat → Addr) (gn : List Nat) : List (Str × List Nat) → Prop where
  | nil : TrF K cA gn []
  | own {x : Str} {ks : List Nat} {r : List (Str × List Nat)} {C : Addr} (a : PySem.W.nsIn K mainGlobals x = some (some (.ref C))) (p : ExmF K cA (.ref C) ks gn) (l : TrF K cA gn r) : TrF K cA gn ((x, ks) :: r)

inductive ExsF (K : PySem.W.Frag) : List (Str × Nat) → List Addr → Prop where
  | nil : ExsF K [] []
  | cons {x : Str} {i : Nat} {xs : List (Str × Nat)} {f : Addr} {fs : List Addr} (h : ExF K x f) (r : ExsF K xs fs) : ExsF K ((x, i) :: xs) (f :: fs)
/-- where the class of a number lies -/
def adrX : List (Str × Nat) → List Addr → Nat → Addr
  | t :: ts, f :: fs, i => if i = t.2 then f else adrX ts fs i
  | _, _, _ => 0
theorem ExsF.get {K : PySem.W.Frag} {xs : List (Str × Nat)} {fs : List Addr} (h : ExsF K xs fs) : ∀ {i : Nat} {x : Str}, (xs.map (·.2)).Nodup → (x, i) ∈ xs → ExF K x (adrX xs fs i) := by
  induction h with
  | nil => intro i t _ e; cases e
  | cons h r ih =>
    intro i x nd e
    rw [List.map_cons, List.nodup_cons] at nd
    unfold adrX
    rcases List.mem_cons.mp e with z | e
    · cases z
      rw [if_pos rfl]; exact h
    · rw [if_neg (fun z => nd.1 (by rw [← z]; exact List.mem_map_of_mem (f := (·.2)) e))]
      exact ih nd.2 e
theorem lookup_mem {α : Type} : ∀ {l : List (Str × α)} {x : Str} {a : α}, l.lookup x = some a → (x, a) ∈ l
  | [], x, a, h => by simp at h
  | (y, b) :: r, x, a, h => by
    rw [List.lookup_cons] at h
    by_cases e : x == y
    · simp only [e] at h
      cases h
      rw [eq_of_beq e]
      exact List.mem_cons_self ..
    · simp only [e] at h
      exact List.mem_cons_of_mem _ (lookup_mem h)
/-- no constant, a whole number, ..: a name of the module that stands for a value -/
inductive CstF (K : PySem.W.Frag) : List (Str × T) → Prop where
  | nil : CstF K []
  | int {x : Str} {i : Int} {t : Addr} {r : List (Str × T)} (a : PySem.W.nsIn K mainGlobals x = some (some (.int i t))) (h : CstF K r) : CstF K ((x, .int i) :: r)
  | str {x s : Str} {t : Addr} {r : List (Str × T)} (a : PySem.W.nsIn K mainGlobals x = some (some (.str s t))) (h : CstF K r) : CstF K ((x, .str s) :: r)
inductive NoF (K : PySem.W.Frag) : List Str → Prop where
  | nil : NoF K []
  | cons {x : Str} {xs : List Str} (a : PySem.W.nsIn K mainGlobals x = some none) (r : NoF K xs) : NoF K (x :: xs)
theorem NoF.get {K : PySem.W.Frag} {xs : List Str} (h : NoF K xs) : ∀ {x : Str}, x ∈ xs → PySem.W.nsIn K mainGlobals x = some none := by
  induction h with
  | nil => intro x e; cases e
  | cons a r ih =>
    intro x e
    rcases List.mem_cons.mp e with rfl | e
    · exact a
    · exact ih e
theorem CstF.get {S : Su} {r : List (Str × T)} (h : CstF S.K r) {hp : Heap} (X : S.K.In hp) (G : hp.Ns mainGlobals S.mg) : ∀ {x : Str} {t : T}, r.lookup x = some t → ∃ v u, S.mg x = some u ∧ RelV v u ∧ ∀ H, Rep S H t v := by
  induction h with
  | nil => intro x t e; simp at e
  | int a h ih =>
    rename_i y i tk r
    intro x t e
    rw [List.lookup_cons] at e
    by_cases z : x == y
    · simp only [z] at e
      cases e
      rw [eq_of_beq z]
      exact ⟨.int i, _, PySem.W.mg_of X G a, ⟨_, rfl⟩, fun _ => rfl⟩
    · simp only [z] at e
      exact ih e
  | str a h ih =>
    rename_i y i tk r
    intro x t e
    rw [List.lookup_cons] at e
    by_cases z : x == y
    · simp only [z] at e
      cases e
      rw [eq_of_beq z]
      exact ⟨.str i, _, PySem.W.mg_of X G a, ⟨_, rfl⟩, fun _ => rfl⟩
    · simp only [z] at e
      exact ih e
/-- law's promise: the script is handed in, True comes out -/
def spLaw (K : PySem.W.Frag) : Sp := fun vs H Q _ => ∃ (a : Addr) (ns : List Int), vs = [.ref a] ∧ La K H a (ns.map V.int) ∧ ns.length ≤ 63 ∧ Only H ∧ ∀ H', Q (.bl true) H'
theorem reps_ints {S : Su} {H : Hp} : ∀ ns : List Int, Reps S H (ns.map T.int) (ns.map V.int)
  | [] => rfl
  | n :: ns => ⟨_, _, rfl, rfl, reps_ints ns⟩
theorem IsF.get {S : Su} {gn : List Nat} {r : List (Str × List Nat)} {hp : Heap} (X : S.K.In hp) (G : hp.Ns mainGlobals S.mg) (h : IsF S.K S.cA gn r) : ∀ {x : Str} {ks : List Nat}, r.lookup x = some ks → IsX S x ks gn := by
  induction h with
  | nil => intro x t e; simp at e
  | own a p l ih =>
    rename_i y js r C
    intro x t e
    rw [List.lookup_cons] at e
    by_cases z : x == y
    · simp only [z] at e
      cases e
      rw [eq_of_beq z]
      refine ⟨.ref C, .ref C, rfl, fun u h => h, .inl (PySem.W.mg_of X G a), fun k hk => p.get k hk⟩
    · simp only [z] at e
      exact ih e
  | blt a b p l ih =>
    rename_i y js r n
    intro x t e
    rw [List.lookup_cons] at e
    by_cases z : x == y
    · simp only [z] at e
      cases e
      rw [eq_of_beq z]
      refine ⟨.ty n, .type n, rfl, fun u h => h, .inr ⟨PySem.W.mg_none_of X G a, b⟩, fun k hk => p.get k hk⟩
    · simp only [z] at e
      exact ih e
theorem TrF.get {S : Su} {gn : List Nat} {r : List (Str × List Nat)} {hp : Heap} (X : S.K.In hp) (G : hp.Ns mainGlobals S.mg) (h : TrF S.K S.cA gn r) : ∀ {x : Str} {ks : List Nat}, r.lookup x = some ks → TrX S x ks gn := by
  induction h with
  | nil => intro x t e; simp at e
  | own a p l ih =>
    rename_i y js r C
    intro x t e
    rw [List.lookup_cons] at e
    by_cases z : x == y
    · simp only [z] at e
      cases e
      rw [eq_of_beq z]
      refine ⟨C, PySem.W.mg_of X G a, fun k hk => p.get k hk⟩
    · simp only [z] at e
      exact ih e
theorem law_ok {M : Mo} {t : DefT} {n : Nat} {fs cs : List Addr} {P : Program} {w : World} {K : PySem.W.Frag} {mg : Str → Option Value} {base h : Heap} {fa : Addr} {x : Str} (X : K.In h) (G : h.Ns mainGlobals mg)
    (hfa : mg t.x = some (.ref fa)) (nd : (M.tab.map DefT.id).Nodup) (ht : t ∈ M.tab) (hps : t.ps = [x]) (F : FnsF K M.tab fs) (hxn : (M.gx.map (·.2)).Nodup) (Ex : ExsF K M.gx cs) (C : CstF K M.gc) (N : NoF K M.bl) (I : IsF K (adrX M.gx cs) M.gn M.gs) (T' : TrF K (adrX M.gx cs) M.gn M.gt) (hgn : M.gn.all (fun k => M.gx.any fun p => p.2 == k) = true) (chk : ∀ t ∈ M.tab, DefC M t)
    (law : ∀ ns : List Int, ns.length ≤ 63 → M.F (n + 1) t.id [.lst (ns.map T.int)] = .ok (.bl true)) {fd : FuncData} (hf : Fun K t.x t.x t.st fa fd) : FnOk P w K mg base (L2.CX P w) (n + 1) fa fd [x] (spLaw K) := by
  let S : Su := ⟨P, w, K, mg, base, fun i => adr M.tab fs i, fun i => adrX M.gx cs i, []⟩
  have O : MoOk S M := by
    refine ⟨chk, nd, fun u hu => ?_, fun x t h => CstF.get (S := S) C X G h, fun x h => PySem.W.mg_none_of X G (N.get (by simpa using h)), fun x k h => ?_, fun x ks h => IsF.get (S := S) X G I h, fun x ks h => TrF.get (S := S) X G T' h, fun k h => ?_⟩
    · obtain ⟨a, ⟨oc, od, an, osl, kV, doc, pm, cdv, ct, l, c⟩, k⟩ := F.get nd hu
      exact ⟨PySem.W.mg_of X G a, _, fun_mk l c k⟩
    · obtain ⟨a, kp, fx, sb, ty, xc⟩ := Ex.get hxn (lookup_mem h)
      exact ⟨PySem.W.mg_of X G a, kp, fx, sb, ty⟩
    · obtain ⟨⟨x, j⟩, h1, h2⟩ := List.any_eq_true.mp (List.all_eq_true.mp hgn k (List.contains_iff_mem.mp h))
      cases eq_of_beq h2
      exact (Ex.get hxn h1).xc
  have D := O.fns t ht
  have e : fa = S.fA t.id := by
    have := hfa.symm.trans D.mg
    injection this with this
    injection this
  subst e
  have q := fn_at O (fns_ok O n) ht hf
  rw [hps] at q
  refine q.imp fun vs H Q E z => ?_
  obtain ⟨a, ns, rfl, la, hl, ho, hq⟩ := z
  have nt : ∀ a o, H a = some o → ¬ isTbl o := fun a o e => by
    rcases ho a with z | ⟨o', xs, z⟩
    · rw [z] at e; cases e
    · rw [z] at e; cases e; exact fun z => z
  have l1 : ((ns.map T.int).length ≤ sizeLine) := by
    rw [List.length_map]
    exact Nat.le_trans hl (by decide)
  refine ⟨rfl, H, [.lst (ns.map T.int)], ⟨.refl _, nt, fun p hp => (nomatch hp)⟩, .one ⟨a, _, rfl, la, l1, reps_ints ns⟩, ?_⟩
  rw [law ns hl]
  intro v F' H' s r
  rw [show v = _ from r]
  exact hq H'
theorem la_of {K : PySem.W.Frag} {h : Heap} {H : Hp} {a : Addr} {xs : List V} {vs : List Value} (X : K.In h) (e : h.get? a = some { cls := .type "list", data := .seq vs.toArray }) (q : SqL K H a xs) : La K H a xs := by
  rcases q with q | ⟨o, its, n, h1, h2, h3, h4, h5, h6⟩
  · exact .inl q
  · have := X a o h1
    rw [e] at this
    cases (Option.some.inj this)
    cases h4
    exact .inr ⟨vs, _, h1, by rw [h6.length]; simpa using h5, by simpa using h6⟩
/-- the law's row -/
theorem walkFz {l : PySem.W.OpenLaw} {k : Nat} {q : Program} {loose : List Str} {XP : (Str → Option Value) → Heap → Prop} {YP : World → Heap → Prop} {d : DefRec} {K : Params → PySem.W.Frag} {x : Str} (hn : l.most = some 63) (hdf : d.params.defaults = []) (hr : Room k callerA)
    (hY : ∀ (w : World) (h : Heap), YP w h → (K w.params).In h)
    (F : ∀ (w : World) (mg : Str → Option Value) (fa : Addr) (h : Heap), (K w.params).In h → h.Ns mainGlobals mg → mg d.name = some (.ref fa) →
      ∃ fd : FuncData, (∀ (s : Shared) (u : Value), BindsTo s fd ⟨[u], []⟩ [(x, u)]) ∧ ∀ base : Heap, (K w.params).In base → base.Ns mainGlobals mg → FnOk l.prog w (K w.params) mg base (L2.CX l.prog w) k fa fd [x] (spLaw (K w.params))) :
    PySem.W.WalkO q loose XP YP l.row.toRowW d [] (fun f vs => PySem.call f vs) := by
  refine Att.attach_call hn hdf fun w s₀ s₁ mg mb fa o pm cd doc a vs ns G Y ho hd hcd hmg hobj hints hlen hg => ?_
  have KX := hY w _ Y
  obtain ⟨fd, hb, hF⟩ := F w mg fa _ KX G.T.g hmg
  refine law_call KX G.T.g G.T.b G.T.builtins G.T.nolimit hg hobj hints (Nat.le_trans hlen (by decide)) hr hF hb (fun H hO hS => ⟨a, ns, rfl, la_of KX hobj hS, hlen, hO, fun _ => rfl⟩) fun H e s' h => ?_
  obtain ⟨_, _, _, _, _, _, _, _, _, _, _, _, z⟩ := h
  exact z
theorem facts_mk {K : PySem.W.Frag} {M : Mo} {fs cs : List Addr} (h1 : FnsF K M.tab fs) (h2 : ExsF K M.gx cs) (h3 : CstF K M.gc) (h4 : NoF K M.bl) (h5 : IsF K (adrX M.gx cs) M.gn M.gs) (h6 : TrF K (adrX M.gx cs) M.gn M.gt) : ∃ fs cs : List Addr, FnsF K M.tab fs ∧ ExsF K M.gx cs ∧ CstF K M.gc ∧ NoF K M.bl ∧ IsF K (adrX M.gx cs) M.gn M.gs ∧ TrF K (adrX M.gx cs) M.gn M.gt := ⟨fs, cs, h1, h2, h3, h4, h5, h6⟩
/-- the whole -/
theorem law_holds {M : Mo} {t : DefT} {n : Nat} {l : PySem.W.OpenLaw} {q : Program} {loose : List Str} {XP : (Str → Option Value) → Heap → Prop} {YP : World → Heap → Prop} {d : DefRec} {K : Params → PySem.W.Frag} {x : Str} (hn : l.most = some 63) (hdf : d.params.defaults = [])
    (hr : Room (n + 1) callerA) (hY : ∀ (w : World) (h : Heap), YP w h → (K w.params).In h) (nd : (M.tab.map DefT.id).Nodup) (ht : t ∈ M.tab) (hd : d.name = t.x) (hps : t.ps = [x]) (hxn : (M.gx.map (·.2)).Nodup) (hgn : M.gn.all (fun k => M.gx.any fun p => p.2 == k) = true) (chk : ∀ t ∈ M.tab, DefC M t)
    (law : ∀ ns : List Int, ns.length ≤ 63 → M.F (n + 1) t.id [.lst (ns.map T.int)] = .ok (.bl true))
    (F : ∀ w : World, ∃ fs cs : List Addr, FnsF (K w.params) M.tab fs ∧ ExsF (K w.params) M.gx cs ∧ CstF (K w.params) M.gc ∧ NoF (K w.params) M.bl ∧ IsF (K w.params) (adrX M.gx cs) M.gn M.gs ∧ TrF (K w.params) (adrX M.gx cs) M.gn M.gt) :
    PySem.W.WalkO q loose XP YP l.row.toRowW d [] (fun f vs => PySem.call f vs) := by
  refine walkFz (x := x) hn hdf hr hY fun w mg fa h X G hfa => ?_
  obtain ⟨fs, cs, h1, h2, h3, h4, h5, h6⟩ := F w
  rw [hd] at hfa
  obtain ⟨a, ⟨oc, od, an, osl, kV, doc, pm, cdv, ct, l1, c⟩, kk⟩ := h1.get nd ht
  have e : fa = adr M.tab fs t.id := by
    have := hfa.symm.trans (PySem.W.mg_of X G a)
    injection this with this
    injection this
  subst e
  have C := chk t ht
  refine ⟨_, fun s u => .of_eq ?_, fun base _ _ => law_ok X G hfa nd ht hps h1 hxn h2 h3 h4 h5 h6 hgn chk law (fun_mk l1 c kk)⟩
  have := C.bnd kV doc pm an cdv ct [u] (by rw [hps]; rfl)
  rw [hps] at this
  exact this
end Fz

/-! the bodies of the defs, by their numbers: printed by genall.py -/
namespace Fz
open PySem
def I_is_whole : Nat := 0
def D_is_whole : Def := ⟨3, 3, [(.ret (.band (.blt .isInt [(.var 0)]) (.band (.not (.blt .isBool [(.var 0)])) (.chain .le .le (.var 1) (.var 0) (.var 2)))))]⟩
def I_is_game_in : Nat := 1
def D_is_game_in : Def := ⟨2, 3, [(.ifS (.bor (.cmp .eq (.var 1) (.cst (.int 0))) (.bor (.not (.blt .isTuple [(.var 0)])) (.bor (.not (.var 0)) (.not (.call 0 [(.idx (.var 0) (.cst (.int 0))), (.bin .sub (.cst (.int 0)) (.cst (.int 20))), (.cst (.int 20))]))))) [(.ret (.cst (.bl false)))] []), (.ifS (.cmp .eq (.len (.var 0)) (.cst (.int 1))) [(.ret (.cst (.bl true)))] []), (.ifS (.bor (.cmp .ne (.len (.var 0)) (.cst (.int 2))) (.bor (.not (.blt .isTuple [(.idx (.var 0) (.cst (.int 1)))])) (.not (.chain .le .le (.cst (.int 1)) (.len (.idx (.var 0) (.cst (.int 1)))) (.cst (.int 3)))))) [(.ret (.cst (.bl false)))] []), (.forS (.nm 2) .seq [(.idx (.var 0) (.cst (.int 1)))] [(.ifS (.bor (.not (.blt .isTuple [(.var 2)])) (.bor (.cmp .ne (.len (.var 2)) (.cst (.int 2))) (.not (.call 0 [(.idx (.var 2) (.cst (.int 0))), (.cst (.int 1)), (.cst (.int 9))])))) [(.ret (.cst (.bl false)))] [])]), (.ret (.blt .all [(.comp (.call 1 [(.idx (.var 2) (.cst (.int 1))), (.bin .sub (.var 1) (.cst (.int 1)))]) (.nm 2) .seq [(.idx (.var 0) (.cst (.int 1)))] [] [2])]))]⟩
def I_is_game : Nat := 2
def D_is_game : Def := ⟨1, 1, [(.ret (.call 1 [(.var 0), (.cst (.int 4))]))]⟩
def I_look_game : Nat := 3
def D_look_game : Def := ⟨1, 1, [(.ifS (.not (.call 2 [(.var 0)])) [(.raise 1)] [])]⟩
def I_ways_of : Nat := 4
def D_ways_of : Def := ⟨1, 1, [(.ret (.ite (.cmp .eq (.len (.var 0)) (.cst (.int 2))) (.idx (.var 0) (.cst (.int 1))) (.tup [])))]⟩
def I_paths_of : Nat := 5
def D_paths_of : Def := ⟨1, 6, [(.own 1 (.lst [(.tup [])])), (.forS (.tp [(.nm 2), (.tp [(.nm 3), (.nm 4)])]) .enum [(.call 4 [(.var 0)])] [(.ext 1 (.comp (.bin .add (.tup [(.var 2)]) (.var 5)) (.nm 5) .seq [(.call 5 [(.var 4)])] [] [5]))]), (.share [1]), (.ret (.var 1))]⟩
def I_paths : Nat := 6
def D_paths : Def := ⟨1, 1, [(.expr (.call 3 [(.var 0)])), (.ret (.call 5 [(.var 0)]))]⟩
def I__law_cell : Nat := 7
def D__law_cell : Def := ⟨2, 2, [(.ifS (.cmp .lt (.var 1) (.len (.var 0))) [(.ret (.idx (.var 0) (.var 1)))] []), (.ifS (.cmp .eq (.var 0) (.lst [])) [(.ret (.cst (.int 0)))] []), (.ret (.bin .add (.bin .mul (.idx (.var 0) (.bin .mod (.var 1) (.len (.var 0)))) (.cst (.int 31))) (.var 1)))]⟩
def I__law_pick : Nat := 8
def D__law_pick : Def := ⟨3, 4, [(.asg (.nm 3) (.bin .mod (.bin .mul (.bin .add (.call 7 [(.var 0), (.var 1)]) (.bin .mul (.cst (.int 6151)) (.bin .add (.var 1) (.cst (.int 1))))) (.cst (.int 40692))) (.cst (.int 2147483399)))), (.ret (.bin .mod (.bin .mod (.bin .add (.bin .mul (.var 3) (.var 3)) (.bin .fdiv (.var 3) (.cst (.int 31)))) (.cst (.int 2147483629))) (.var 2)))]⟩
def I__law_game : Nat := 9
def D__law_game : Def := ⟨5, 14, [(.asg (.nm 5) (.bin .mul (.cst (.int 20)) (.var 1))), (.asg (.nm 6) (.idx (.lst [(.cst (.int 0)), (.cst (.int 1)), (.cst (.int 2)), (.cst (.int 2)), (.cst (.int 3))]) (.call 8 [(.var 0), (.var 5), (.cst (.int 5))]))), (.ifS (.cmp .eq (.var 1) (.cst (.int 1))) [(.asg (.nm 6) (.blt .max2 [(.cst (.int 1)), (.var 6)]))] []), (.ifS (.bor (.cmp .eq (.var 3) (.cst (.int 1))) (.cmp .eq (.var 6) (.cst (.int 0)))) [(.ret (.tup [(.var 2)]))] []), (.own 7 (.lst [])), (.ifS (.var 4) [(.par [8, 9] [(.bin .add (.cst (.int 1)) (.call 8 [(.var 0), (.bin .add (.var 5) (.cst (.int 1))), (.cst (.int 3))])), (.bin .add (.cst (.int 1)) (.call 8 [(.var 0), (.bin .add (.var 5) (.cst (.int 2))), (.cst (.int 3))]))]), (.own 7 (.lst [(.tup [(.var 9), (.var 8)]), (.tup [(.var 8), (.bin .sub (.cst (.int 0)) (.var 9))]), (.tup [(.bin .add (.cst (.int 1)) (.call 8 [(.var 0), (.bin .add (.var 5) (.cst (.int 3))), (.cst (.int 9))])), (.cst (.int 0))])])), (.share [7]), (.asg (.nm 7) (.ite (.cmp .eq (.var 6) (.cst (.int 1))) (.slc (.var 7) [(.cst (.int 2))] []) (.slc (.var 7) [] [(.var 6)])))] [(.forS (.nm 10) .rng1 [(.var 6)] [(.app 7 (.tup [(.bin .add (.cst (.int 1)) (.call 8 [(.var 0), (.bin .add (.bin .add (.var 5) (.cst (.int 5))) (.var 10)), (.cst (.int 9))])), (.bin .sub (.call 8 [(.var 0), (.bin .add (.bin .add (.var 5) (.cst (.int 8))) (.var 10)), (.cst (.int 7))]) (.cst (.int 3)))]))])]), (.ifS (.cmp .eq (.call 8 [(.var 0), (.bin .add (.var 5) (.cst (.int 4))), (.cst (.int 2))]) (.cst (.int 0))) [(.share [7]), (.asg (.nm 7) (.rev (.var 7)))] []), (.own 11 (.lst [])), (.share [7]), (.forS (.tp [(.nm 10), (.tp [(.nm 12), (.nm 13)])]) .enum [(.var 7)] [(.app 11 (.tup [(.var 12), (.call 9 [(.var 0), (.bin .add (.bin .add (.bin .mul (.cst (.int 4)) (.var 1)) (.cst (.int 1))) (.var 10)), (.bin .add (.var 2) (.var 13)), (.bin .sub (.var 3) (.cst (.int 1))), (.var 4)])]))]), (.share [11]), (.ret (.tup [(.var 2), (.blt .tuple [(.var 11)])]))]⟩
def I__law_drawn : Nat := 10
def D__law_drawn : Def := ⟨2, 2, [(.ret (.call 9 [(.var 0), (.cst (.int 1)), (.bin .sub (.call 8 [(.var 0), (.cst (.int 0)), (.cst (.int 13))]) (.cst (.int 6))), (.var 1), (.cmp .eq (.call 8 [(.var 0), (.cst (.int 1)), (.cst (.int 2))]) (.cst (.int 0)))]))]⟩
def I__law_ways : Nat := 11
def D__law_ways : Def := ⟨1, 1, [(.ret (.ite (.cmp .eq (.len (.var 0)) (.cst (.int 2))) (.idx (.var 0) (.cst (.int 1))) (.tup [])))]⟩
def I__law_walk : Nat := 12
def D__law_walk : Def := ⟨1, 9, [(.own 1 (.lst [(.tup [(.tup []), (.var 0), (.tup [(.cst (.int 1)), (.cst (.int 1))])])])), (.asg (.nm 2) (.blt .sum [(.comp (.var 3) (.tp [(.nm 3), (.nm 4)]) .seq [(.call 11 [(.var 0)])] [] [3, 4])])), (.forS (.tp [(.nm 5), (.tp [(.nm 3), (.nm 4)])]) .enum [(.call 11 [(.var 0)])] [(.forS (.tp [(.nm 6), (.nm 7), (.nm 8)]) .seq [(.call 12 [(.var 4)])] [(.app 1 (.tup [(.bin .add (.tup [(.var 5)]) (.var 6)), (.var 7), (.call 13 [(.bin .mul (.idx (.var 8) (.cst (.int 0))) (.var 3)), (.bin .mul (.idx (.var 8) (.cst (.int 1))) (.var 2))])]))])]), (.share [1]), (.ret (.var 1))]⟩
def I__law_low : Nat := 13
def D__law_low : Def := ⟨2, 4, [(.par [2, 3] [(.blt .abs [(.var 0)]), (.blt .abs [(.var 1)])]), (.whl (.cmp .ne (.var 3) (.cst (.int 0))) [(.par [2, 3] [(.var 3), (.bin .mod (.var 2) (.var 3))])]), (.ret (.ite (.cmp .gt (.var 1) (.cst (.int 0))) (.tup [(.bin .fdiv (.var 0) (.var 2)), (.bin .fdiv (.var 1) (.var 2))]) (.tup [(.bin .sub (.cst (.int 0)) (.bin .fdiv (.var 0) (.var 2))), (.bin .sub (.cst (.int 0)) (.bin .fdiv (.var 1) (.var 2)))])))]⟩
def I__law_sum : Nat := 14
def D__law_sum : Def := ⟨1, 4, [(.asg (.tp [(.nm 1), (.nm 2)]) (.tup [(.cst (.int 0)), (.cst (.int 1))])), (.forS (.nm 3) .seq [(.var 0)] [(.asg (.tp [(.nm 1), (.nm 2)]) (.call 13 [(.bin .add (.bin .mul (.var 1) (.idx (.var 3) (.cst (.int 1)))) (.bin .mul (.idx (.var 3) (.cst (.int 0))) (.var 2))), (.bin .mul (.var 2) (.idx (.var 3) (.cst (.int 1))))]))]), (.ret (.tup [(.var 1), (.var 2)]))]⟩
def I__law_prod : Nat := 15
def D__law_prod : Def := ⟨2, 2, [(.ret (.call 13 [(.bin .mul (.idx (.var 0) (.cst (.int 0))) (.idx (.var 1) (.cst (.int 0)))), (.bin .mul (.idx (.var 0) (.cst (.int 1))) (.idx (.var 1) (.cst (.int 1))))]))]⟩
def I__law_places : Nat := 16
def D__law_places : Def := ⟨1, 4, [(.own 1 (.lst [(.tup [])])), (.ifS (.blt .isTuple [(.var 0)]) [(.forS (.nm 2) .rng1 [(.len (.var 0))] [(.ext 1 (.comp (.bin .add (.tup [(.var 2)]) (.var 3)) (.nm 3) .seq [(.call 16 [(.idx (.var 0) (.var 2))])] [] [3]))])] []), (.share [1]), (.ret (.var 1))]⟩
def I__law_put : Nat := 17
def D__law_put : Def := ⟨3, 4, [(.ifS (.cmp .eq (.var 1) (.tup [])) [(.ret (.var 2))] []), (.asg (.nm 3) (.idx (.var 1) (.cst (.int 0)))), (.ret (.bin .add (.bin .add (.slc (.var 0) [] [(.var 3)]) (.tup [(.call 17 [(.idx (.var 0) (.var 3)), (.slc (.var 1) [(.cst (.int 1))] []), (.var 2)])])) (.slc (.var 0) [(.bin .add (.var 3) (.cst (.int 1)))] [])))]⟩
def I__law_spoilt_thing : Nat := 18
def D__law_spoilt_thing : Def := ⟨3, 9, [(.asg (.nm 3) (.call 16 [(.var 2)])), (.asg (.nm 4) (.idx (.var 3) (.call 8 [(.var 0), (.var 1), (.len (.var 3))]))), (.asg (.nm 5) (.var 2)), (.forS (.nm 6) .seq [(.var 4)] [(.asg (.nm 5) (.idx (.var 5) (.var 6)))]), (.asg (.nm 7) (.lst [(.cst (.int 0)), (.cst (.int 1)), (.cst (.int 9)), (.cst (.int 10)), (.cst (.int 20)), (.cst (.int 21)), (.neg (.cst (.int 20))), (.neg (.cst (.int 21))), (.cst (.bl true)), (.cst .non), (.cst (.str "1")), (.tup []), (.tup [(.cst (.int 1))]), (.tup [(.cst (.int 0)), (.cst (.int 1))]), (.lst [(.cst (.int 0))]), (.tup [(.var 5)]), (.tup [(.var 5), (.var 5)])])), (.asg (.nm 8) (.call 8 [(.var 0), (.bin .add (.var 1) (.cst (.int 1))), (.cst (.int 23))])), (.ifS (.cmp .lt (.var 8) (.cst (.int 17))) [(.ret (.call 17 [(.var 2), (.var 4), (.idx (.var 7) (.var 8))]))] []), (.ifS (.band (.blt .isTuple [(.var 5)]) (.cmp .ne (.var 5) (.tup []))) [(.asg (.nm 6) (.call 8 [(.var 0), (.bin .add (.var 1) (.cst (.int 2))), (.len (.var 5))])), (.ret (.call 17 [(.var 2), (.var 4), (.ite (.cmp .lt (.var 8) (.cst (.int 20))) (.bin .add (.slc (.var 5) [] [(.var 6)]) (.slc (.var 5) [(.bin .add (.var 6) (.cst (.int 1)))] [])) (.bin .add (.slc (.var 5) [] [(.bin .add (.var 6) (.cst (.int 1)))]) (.slc (.var 5) [(.var 6)] [])))]))] []), (.ret (.call 17 [(.var 2), (.var 4), (.ite (.blt .isInt [(.var 5)]) (.bin .sub (.cst (.int 0)) (.var 5)) (.cst (.int 7)))]))]⟩
def I__law_whole : Nat := 19
def D__law_whole : Def := ⟨3, 3, [(.ret (.band (.blt .isInt [(.var 0)]) (.band (.not (.blt .isBool [(.var 0)])) (.chain .le .le (.var 1) (.var 0) (.var 2)))))]⟩
def I__law_is_game : Nat := 20
def D__law_is_game : Def := ⟨2, 3, [(.ifS (.bor (.cmp .lt (.var 1) (.cst (.int 1))) (.bor (.not (.blt .isTuple [(.var 0)])) (.bor (.not (.chain .le .le (.cst (.int 1)) (.len (.var 0)) (.cst (.int 2)))) (.not (.call 19 [(.idx (.var 0) (.cst (.int 0))), (.neg (.cst (.int 20))), (.cst (.int 20))]))))) [(.ret (.cst (.bl false)))] []), (.ifS (.cmp .eq (.len (.var 0)) (.cst (.int 1))) [(.ret (.cst (.bl true)))] []), (.ifS (.bor (.not (.blt .isTuple [(.idx (.var 0) (.cst (.int 1)))])) (.not (.chain .le .le (.cst (.int 1)) (.len (.idx (.var 0) (.cst (.int 1)))) (.cst (.int 3))))) [(.ret (.cst (.bl false)))] []), (.forS (.nm 2) .seq [(.idx (.var 0) (.cst (.int 1)))] [(.ifS (.bor (.not (.blt .isTuple [(.var 2)])) (.bor (.cmp .ne (.len (.var 2)) (.cst (.int 2))) (.not (.call 19 [(.idx (.var 2) (.cst (.int 0))), (.cst (.int 1)), (.cst (.int 9))])))) [(.ret (.cst (.bl false)))] []), (.ifS (.not (.call 20 [(.idx (.var 2) (.cst (.int 1))), (.bin .sub (.var 1) (.cst (.int 1)))])) [(.ret (.cst (.bl false)))] [])]), (.ret (.cst (.bl true)))]⟩
def I__law_word : Nat := 21
def D__law_word : Def := ⟨1, 2, [(.own 1 (.lst [(.blt (.isExc [4] [0, 1, 2, 3, 4, 5, 6]) [(.var 0)]), (.blt (.isExc [1] [0, 1, 2, 3, 4, 5, 6]) [(.var 0)]), (.blt (.isExc [2] [0, 1, 2, 3, 4, 5, 6]) [(.var 0)]), (.blt (.isExc [3] [0, 1, 2, 3, 4, 5, 6]) [(.var 0)])])), (.ext 1 (.lst [(.blt (.isExc [6] [0, 1, 2, 3, 4, 5, 6]) [(.var 0)]), (.blt (.isExc [5] [0, 1, 2, 3, 4, 5, 6]) [(.var 0)])])), (.share [1]), (.ifS (.bor (.cmp .ne (.mth .count (.var 1) (.cst (.bl true))) (.cst (.int 1))) (.not (.blt (.isExc [0, 1, 2, 3, 4, 5, 6] [0, 1, 2, 3, 4, 5, 6]) [(.var 0)]))) [(.ret (.cst (.str "wrong")))] []), (.share [1]), (.ret (.idx (.lst [(.cst (.str "no bets")), (.cst (.str "no game")), (.cst (.str "no path")), (.cst (.str "no rule")), (.cst (.str "no text")), (.cst (.str "unpaid"))]) (.mth .index (.var 1) (.cst (.bl true)))))]⟩
def I__law_do : Nat := 22
def D__law_do : Def := ⟨1, 4, [(.asg (.nm 1) (.cst .non)), (.asg (.nm 2) (.cst .non)), (.tryKeep [(.asg (.nm 2) (.call 6 [(.var 0)]))] [0, 1, 2, 3, 4, 5, 6] [0, 1, 2, 3, 4, 5, 6] 3 1), (.ifS (.cmp .is (.var 1) (.cst .non)) [(.ret (.var 2))] []), (.ret (.call 21 [(.var 1)]))]⟩
def I_divisor : Nat := 24
def D_divisor : Def := ⟨2, 2, [(.whl (.cmp .ne (.var 1) (.cst (.int 0))) [(.par [0, 1] [(.var 1), (.bin .mod (.var 0) (.var 1))])]), (.ret (.blt .abs [(.var 0)]))]⟩
def I_share : Nat := 25
def D_share : Def := ⟨2, 3, [(.asg (.nm 2) (.call 24 [(.var 0), (.var 1)])), (.ifS (.cmp .lt (.var 1) (.cst (.int 0))) [(.asg (.nm 2) (.bin .sub (.cst (.int 0)) (.var 2)))] []), (.ret (.tup [(.bin .fdiv (.var 0) (.var 2)), (.bin .fdiv (.var 1) (.var 2))]))]⟩
def I_times : Nat := 26
def D_times : Def := ⟨2, 2, [(.ret (.call 25 [(.bin .mul (.idx (.var 0) (.cst (.int 0))) (.idx (.var 1) (.cst (.int 0)))), (.bin .mul (.idx (.var 0) (.cst (.int 1))) (.idx (.var 1) (.cst (.int 1))))]))]⟩
def I_is_end : Nat := 27
def D_is_end : Def := ⟨1, 1, [(.ret (.cmp .eq (.len (.var 0)) (.cst (.int 1))))]⟩
def I_part_of : Nat := 28
def D_part_of : Def := ⟨2, 3, [(.forS (.nm 2) .seq [(.var 1)] [(.asg (.nm 0) (.idx (.idx (.call 4 [(.var 0)]) (.var 2)) (.cst (.int 1))))]), (.ret (.var 0))]⟩
def I_is_path : Nat := 29
def D_is_path : Def := ⟨2, 3, [(.ifS (.not (.blt .isTuple [(.var 1)])) [(.ret (.cst (.bl false)))] []), (.forS (.nm 2) .seq [(.var 1)] [(.ifS (.not (.call 0 [(.var 2), (.cst (.int 0)), (.bin .sub (.len (.call 4 [(.var 0)])) (.cst (.int 1)))])) [(.ret (.cst (.bl false)))] []), (.asg (.nm 0) (.idx (.idx (.call 4 [(.var 0)]) (.var 2)) (.cst (.int 1))))]), (.ret (.cst (.bl true)))]⟩
def I_look_path : Nat := 30
def D_look_path : Def := ⟨2, 2, [(.ifS (.not (.call 29 [(.var 0), (.var 1)])) [(.raise 2)] [])]⟩
def I_part : Nat := 31
def D_part : Def := ⟨2, 2, [(.expr (.call 3 [(.var 0)])), (.expr (.call 30 [(.var 0), (.var 1)])), (.ret (.call 28 [(.var 0), (.var 1)]))]⟩
def I_worth : Nat := 32
def D_worth : Def := ⟨2, 2, [(.ret (.idx (.call 31 [(.var 0), (.var 1)]) (.cst (.int 0))))]⟩
def I_ends_of : Nat := 33
def D_ends_of : Def := ⟨1, 2, [(.ret (.comp (.var 1) (.nm 1) .seq [(.call 5 [(.var 0)])] [(.call 27 [(.call 28 [(.var 0), (.var 1)])])] [1]))]⟩
def I_ends : Nat := 34
def D_ends : Def := ⟨1, 1, [(.expr (.call 3 [(.var 0)])), (.ret (.call 33 [(.var 0)]))]⟩
def I_shares_of : Nat := 35
def D_shares_of : Def := ⟨1, 4, [(.asg (.nm 1) (.blt .sum [(.comp (.var 2) (.tp [(.nm 2), (.nm 3)]) .seq [(.call 4 [(.var 0)])] [] [2, 3])])), (.ret (.comp (.call 25 [(.var 2), (.var 1)]) (.tp [(.nm 2), (.nm 3)]) .seq [(.call 4 [(.var 0)])] [] [2, 3]))]⟩
def I_chance_of : Nat := 36
def D_chance_of : Def := ⟨2, 4, [(.asg (.nm 2) (.tup [(.cst (.int 1)), (.cst (.int 1))])), (.forS (.nm 3) .seq [(.var 1)] [(.asg (.nm 2) (.call 26 [(.var 2), (.idx (.call 35 [(.var 0)]) (.var 3))])), (.asg (.nm 0) (.idx (.idx (.call 4 [(.var 0)]) (.var 3)) (.cst (.int 1))))]), (.ret (.var 2))]⟩
def I_chance : Nat := 37
def D_chance : Def := ⟨2, 2, [(.expr (.call 3 [(.var 0)])), (.expr (.call 30 [(.var 0), (.var 1)])), (.ret (.call 36 [(.var 0), (.var 1)]))]⟩
def I__law_do_v2 : Nat := 38
def D__law_do_v2 : Def := ⟨3, 6, [(.asg (.nm 3) (.cst .non)), (.asg (.nm 4) (.cst .non)), (.tryKeep [(.ifS (.cmp .lt (.var 0) (.cst (.int 3))) [(.asg (.nm 4) (.callv (.idx (.lst [(.cst (.fn 31)), (.cst (.fn 32)), (.cst (.fn 37))]) (.var 0)) [(.var 1), (.var 2)] [31, 32, 37]))] [(.asg (.nm 4) (.ite (.cmp .eq (.var 0) (.cst (.int 3))) (.call 6 [(.var 1)]) (.call 34 [(.var 1)])))])] [0, 1, 2, 3, 4, 5, 6] [0, 1, 2, 3, 4, 5, 6] 5 3), (.ifS (.cmp .is (.var 3) (.cst .non)) [(.ret (.var 4))] []), (.ret (.call 21 [(.var 3)]))]⟩
def I_plus : Nat := 40
def D_plus : Def := ⟨2, 2, [(.ret (.call 25 [(.bin .add (.bin .mul (.idx (.var 0) (.cst (.int 0))) (.idx (.var 1) (.cst (.int 1)))) (.bin .mul (.idx (.var 1) (.cst (.int 0))) (.idx (.var 0) (.cst (.int 1))))), (.bin .mul (.idx (.var 0) (.cst (.int 1))) (.idx (.var 1) (.cst (.int 1))))]))]⟩
def I_less : Nat := 41
def D_less : Def := ⟨2, 2, [(.ret (.call 25 [(.bin .sub (.bin .mul (.idx (.var 0) (.cst (.int 0))) (.idx (.var 1) (.cst (.int 1)))) (.bin .mul (.idx (.var 1) (.cst (.int 0))) (.idx (.var 0) (.cst (.int 1))))), (.bin .mul (.idx (.var 0) (.cst (.int 1))) (.idx (.var 1) (.cst (.int 1))))]))]⟩
def I_parted : Nat := 42
def D_parted : Def := ⟨2, 2, [(.ret (.call 25 [(.bin .mul (.idx (.var 0) (.cst (.int 0))) (.idx (.var 1) (.cst (.int 1)))), (.bin .mul (.idx (.var 0) (.cst (.int 1))) (.idx (.var 1) (.cst (.int 0))))]))]⟩
def I_is_less : Nat := 43
def D_is_less : Def := ⟨2, 2, [(.ret (.cmp .lt (.bin .mul (.idx (.var 0) (.cst (.int 0))) (.idx (.var 1) (.cst (.int 1)))) (.bin .mul (.idx (.var 1) (.cst (.int 0))) (.idx (.var 0) (.cst (.int 1))))))]⟩
def I_all_plus : Nat := 44
def D_all_plus : Def := ⟨1, 3, [(.asg (.nm 1) (.tup [(.cst (.int 0)), (.cst (.int 1))])), (.forS (.nm 2) .seq [(.var 0)] [(.asg (.nm 1) (.call 40 [(.var 1), (.var 2)]))]), (.ret (.var 1))]⟩
def I_is_rule_of : Nat := 46
def D_is_rule_of : Def := ⟨2, 4, [(.ifS (.bor (.not (.blt .isTuple [(.var 1)])) (.not (.blt .all [(.comp (.call 29 [(.var 0), (.var 2)]) (.nm 2) .seq [(.var 1)] [] [2])]))) [(.ret (.cst (.bl false)))] []), (.ifS (.cmp .ne (.blt .list [(.var 1)]) (.blt .sortedSet [(.var 1)])) [(.ret (.cst (.bl false)))] []), (.forS (.nm 3) .seq [(.call 33 [(.var 0)])] [(.ifS (.cmp .ne (.len (.comp (.var 2) (.nm 2) .seq [(.var 1)] [(.cmp .eq (.slc (.var 3) [] [(.len (.var 2))]) (.var 2))] [2])) (.cst (.int 1))) [(.ret (.cst (.bl false)))] [])]), (.ret (.cst (.bl true)))]⟩
def I_is_rule : Nat := 47
def D_is_rule : Def := ⟨2, 2, [(.expr (.call 3 [(.var 0)])), (.ret (.call 46 [(.var 0), (.var 1)]))]⟩
def I_look_rule : Nat := 48
def D_look_rule : Def := ⟨2, 2, [(.ifS (.not (.call 47 [(.var 0), (.var 1)])) [(.raise 3)] [])]⟩
def I_mean_of : Nat := 49
def D_mean_of : Def := ⟨2, 3, [(.expr (.call 48 [(.var 0), (.var 1)])), (.ret (.call 44 [(.comp (.call 26 [(.call 36 [(.var 0), (.var 2)]), (.tup [(.idx (.call 28 [(.var 0), (.var 2)]) (.cst (.int 0))), (.cst (.int 1))])]) (.nm 2) .seq [(.var 1)] [] [2])]))]⟩
def I__law_rules : Nat := 50
def D__law_rules : Def := ⟨1, 11, [(.asg (.nm 1) (.lst [(.lst [(.tup [])])])), (.asg (.nm 2) (.lst [(.lst [])])), (.forS (.tp [(.nm 3), (.tp [(.nm 4), (.nm 5)])]) .enum [(.call 11 [(.var 0)])] [(.asg (.nm 6) (.comp (.comp (.bin .add (.tup [(.var 3)]) (.var 7)) (.nm 7) .seq [(.var 8)] [] [7]) (.nm 8) .seq [(.call 50 [(.var 5)])] [] [8])), (.own 9 (.lst [])), (.forS (.nm 10) .seq [(.var 2)] [(.ext 9 (.comp (.bin .add (.var 10) (.var 8)) (.nm 8) .seq [(.var 6)] [] [8]))]), (.share [9]), (.asg (.nm 2) (.var 9))]), (.ret (.ite (.cmp .eq (.len (.var 0)) (.cst (.int 2))) (.bin .add (.var 1) (.var 2)) (.var 1)))]⟩
def I__law_mean : Nat := 51
def D__law_mean : Def := ⟨2, 6, [(.asg (.nm 2) (.blt (.dict true) [(.comp (.tup [(.var 3), (.tup [(.var 4), (.var 5)])]) (.tp [(.nm 3), (.nm 4), (.nm 5)]) .seq [(.call 12 [(.var 0)])] [] [3, 4, 5])])), (.ret (.call 14 [(.comp (.call 15 [(.idx (.idx (.var 2) (.var 3)) (.cst (.int 1))), (.tup [(.idx (.idx (.idx (.var 2) (.var 3)) (.cst (.int 0))) (.cst (.int 0))), (.cst (.int 1))])]) (.nm 3) .seq [(.var 1)] [] [3])]))]⟩
def I__law_do_v3 : Nat := 52
def D__law_do_v3 : Def := ⟨2, 6, [(.asg (.nm 2) (.cst .non)), (.asg (.nm 3) (.cst .non)), (.tryKeep [(.asg (.nm 4) (.call 47 [(.var 0), (.var 1)])), (.asg (.nm 3) (.call 49 [(.var 0), (.var 1)])), (.asg (.nm 3) (.ite (.var 4) (.var 3) (.cst (.str "let by"))))] [0, 1, 2, 3, 4, 5, 6] [0, 1, 2, 3, 4, 5, 6] 5 2), (.ifS (.cmp .is (.var 2) (.cst .non)) [(.ret (.var 3))] []), (.ret (.call 21 [(.var 2)]))]⟩
def I__law_is_rule : Nat := 53
def D__law_is_rule : Def := ⟨2, 3, [(.ifS (.bor (.not (.blt .isTuple [(.var 1)])) (.call 54 [(.var 1)])) [(.ret (.cst (.bl false)))] []), (.ret (.cmp .inn (.var 1) (.comp (.blt .tuple [(.blt .sorted [(.var 2)])]) (.nm 2) .seq [(.call 50 [(.var 0)])] [] [2])))]⟩
def I__law_has_truth : Nat := 54
def D__law_has_truth : Def := ⟨1, 2, [(.ifS (.blt .isTuple [(.var 0)]) [(.ret (.cmp .ne (.comp (.var 1) (.nm 1) .seq [(.var 0)] [(.call 54 [(.var 1)])] [1]) (.lst [])))] []), (.ret (.blt .isBool [(.var 0)]))]⟩
def I_how_many : Nat := 56
def D_how_many : Def := ⟨1, 4, [(.ifS (.call 27 [(.var 0)]) [(.ret (.cst (.int 1)))] []), (.asg (.nm 1) (.cst (.int 1))), (.forS (.tp [(.nm 2), (.nm 3)]) .seq [(.call 4 [(.var 0)])] [(.asg (.nm 1) (.bin .mul (.var 1) (.call 56 [(.var 3)])))]), (.ret (.bin .add (.var 1) (.cst (.int 1))))]⟩
def I_how_many_rules : Nat := 57
def D_how_many_rules : Def := ⟨1, 1, [(.expr (.call 3 [(.var 0)])), (.ret (.call 56 [(.var 0)]))]⟩
def I_rules_of : Nat := 58
def D_rules_of : Def := ⟨1, 10, [(.asg (.nm 1) (.lst [(.lst [(.tup [])])])), (.ifS (.call 27 [(.var 0)]) [(.ret (.var 1))] []), (.asg (.nm 2) (.lst [(.lst [])])), (.forS (.tp [(.nm 3), (.tp [(.nm 4), (.nm 5)])]) .enum [(.call 4 [(.var 0)])] [(.own 6 (.lst [])), (.forS (.nm 7) .seq [(.var 2)] [(.ext 6 (.comp (.bin .add (.var 7) (.comp (.bin .add (.tup [(.var 3)]) (.var 8)) (.nm 8) .seq [(.var 9)] [] [8])) (.nm 9) .seq [(.call 58 [(.var 5)])] [] [9]))]), (.share [6]), (.asg (.nm 2) (.var 6))]), (.ret (.bin .add (.var 1) (.var 2)))]⟩
def I_all_rules : Nat := 59
def D_all_rules : Def := ⟨1, 2, [(.expr (.call 3 [(.var 0)])), (.ret (.blt .sorted [(.comp (.blt .tuple [(.blt .sorted [(.var 1)])]) (.nm 1) .seq [(.call 58 [(.var 0)])] [] [1])]))]⟩
def I_mean_in : Nat := 60
def D_mean_in : Def := ⟨1, 5, [(.ifS (.call 27 [(.var 0)]) [(.ret (.tup [(.idx (.var 0) (.cst (.int 0))), (.cst (.int 1))]))] []), (.asg (.nm 1) (.tup [(.cst (.int 0)), (.cst (.int 1))])), (.forS (.tp [(.tp [(.nm 2), (.nm 3)]), (.nm 4)]) .zip [(.call 4 [(.var 0)]), (.call 35 [(.var 0)])] [(.asg (.nm 1) (.call 40 [(.var 1), (.call 26 [(.var 4), (.call 60 [(.var 3)])])]))]), (.ret (.var 1))]⟩
def I_means : Nat := 61
def D_means : Def := ⟨1, 2, [(.expr (.call 3 [(.var 0)])), (.ret (.comp (.tup [(.var 1), (.call 60 [(.call 28 [(.var 0), (.var 1)])])]) (.nm 1) .seq [(.call 5 [(.var 0)])] [] [1]))]⟩
def I__law_do_v4 : Nat := 62
def D__law_do_v4 : Def := ⟨2, 5, [(.asg (.nm 2) (.cst .non)), (.asg (.nm 3) (.cst .non)), (.tryKeep [(.asg (.nm 3) (.callv (.idx (.lst [(.cst (.fn 59)), (.cst (.fn 57)), (.cst (.fn 61))]) (.var 0)) [(.var 1)] [59, 57, 61]))] [0, 1, 2, 3, 4, 5, 6] [0, 1, 2, 3, 4, 5, 6] 4 2), (.ifS (.cmp .is (.var 2) (.cst .non)) [(.ret (.var 3))] []), (.ret (.call 21 [(.var 2)]))]⟩
def I_earlier : Nat := 64
def D_earlier : Def := ⟨2, 5, [(.own 2 (.lst [])), (.forS (.nm 3) .seq [(.bin .add (.var 0) (.var 1))] [(.ifS (.not (.blt .any [(.comp (.band (.cmp .ne (.var 3) (.var 4)) (.cmp .eq (.slc (.var 3) [] [(.len (.var 4))]) (.var 4))) (.nm 4) .seq [(.bin .add (.var 0) (.var 1))] [] [4])])) [(.app 2 (.var 3))] [])]), (.share [2]), (.ret (.blt .tuple [(.blt .sortedSet [(.var 2)])]))]⟩
def I_later_of : Nat := 65
def D_later_of : Def := ⟨2, 5, [(.own 2 (.lst [])), (.forS (.nm 3) .seq [(.bin .add (.var 0) (.var 1))] [(.ifS (.not (.blt .any [(.comp (.band (.cmp .ne (.var 3) (.var 4)) (.cmp .eq (.slc (.var 4) [] [(.len (.var 3))]) (.var 3))) (.nm 4) .seq [(.bin .add (.var 0) (.var 1))] [] [4])])) [(.app 2 (.var 3))] [])]), (.share [2]), (.ret (.blt .tuple [(.blt .sortedSet [(.var 2)])]))]⟩
def I_first_of : Nat := 66
def D_first_of : Def := ⟨3, 3, [(.expr (.call 48 [(.var 0), (.var 1)])), (.expr (.call 48 [(.var 0), (.var 2)])), (.ret (.call 64 [(.var 1), (.var 2)]))]⟩
def I_last_of : Nat := 67
def D_last_of : Def := ⟨3, 3, [(.expr (.call 48 [(.var 0), (.var 1)])), (.expr (.call 48 [(.var 0), (.var 2)])), (.ret (.call 65 [(.var 1), (.var 2)]))]⟩
def I__law_do_v5 : Nat := 68
def D__law_do_v5 : Def := ⟨4, 7, [(.asg (.nm 4) (.cst .non)), (.asg (.nm 5) (.cst .non)), (.tryKeep [(.asg (.nm 5) (.ite (.cmp .eq (.var 0) (.cst (.int 0))) (.call 66 [(.var 1), (.var 2), (.var 3)]) (.call 67 [(.var 1), (.var 2), (.var 3)])))] [0, 1, 2, 3, 4, 5, 6] [0, 1, 2, 3, 4, 5, 6] 6 4), (.ifS (.cmp .is (.var 4) (.cst .non)) [(.ret (.var 5))] []), (.ret (.call 21 [(.var 4)]))]⟩
def I__law_met : Nat := 69
def D__law_met : Def := ⟨4, 11, [(.own 4 (.lst [])), (.forS (.nm 5) .seq [(.comp (.var 6) (.tp [(.nm 6), (.nm 7), (.nm 8)]) .seq [(.call 12 [(.var 0)])] [(.cmp .eq (.len (.var 7)) (.cst (.int 1)))] [6, 7, 8])] [(.asg (.nm 9) (.blt .sorted [(.comp (.len (.var 6)) (.nm 6) .seq [(.bin .add (.var 1) (.var 2))] [(.cmp .eq (.slc (.var 5) [] [(.len (.var 6))]) (.var 6))] [6])])), (.asg (.nm 10) (.ite (.var 3) (.slc (.var 5) [] [(.idx (.var 9) (.cst (.int 0)))]) (.slc (.var 5) [] [(.idx (.var 9) (.neg (.cst (.int 1))))]))), (.ifS (.cmp .notIn (.var 10) (.var 4)) [(.app 4 (.var 10))] [])]), (.share [4]), (.ret (.blt .tuple [(.blt .sorted [(.var 4)])]))]⟩
def I_mirrored : Nat := 71
def D_mirrored : Def := ⟨1, 3, [(.expr (.call 3 [(.var 0)])), (.ifS (.cmp .eq (.len (.var 0)) (.cst (.int 1))) [(.ret (.tup [(.bin .sub (.cst (.int 0)) (.idx (.var 0) (.cst (.int 0))))]))] []), (.ret (.tup [(.bin .sub (.cst (.int 0)) (.idx (.var 0) (.cst (.int 0)))), (.blt .tuple [(.comp (.tup [(.var 1), (.call 71 [(.var 2)])]) (.tp [(.nm 1), (.nm 2)]) .seq [(.idx (.var 0) (.cst (.int 1)))] [] [1, 2])])]))]⟩
def I_first_met : Nat := 72
def D_first_met : Def := ⟨2, 6, [(.own 2 (.lst [])), (.forS (.nm 3) .seq [(.call 33 [(.var 0)])] [(.asg (.nm 4) (.bin .add (.comp (.slc (.var 3) [] [(.var 5)]) (.nm 5) .rng1 [(.bin .add (.len (.var 3)) (.cst (.int 1)))] [(.callv (.var 1) [(.slc (.var 3) [] [(.var 5)])] [])] [5]) (.lst [(.var 3)]))), (.ifS (.cmp .notIn (.idx (.var 4) (.cst (.int 0))) (.var 2)) [(.app 2 (.idx (.var 4) (.cst (.int 0))))] [])]), (.share [2]), (.ret (.blt .tuple [(.blt .sorted [(.var 2)])]))]⟩
def I_ahead_of : Nat := 76
def D_ahead_of : Def := ⟨2, 4, [(.expr (.call 3 [(.var 0)])), (.expr (.call 48 [(.var 0), (.var 1)])), (.ret (.comp (.var 2) (.nm 2) .seq [(.call 5 [(.var 0)])] [(.blt .any [(.comp (.band (.cmp .eq (.slc (.var 3) [] [(.len (.var 2))]) (.var 2)) (.cmp .ne (.var 3) (.var 2))) (.nm 3) .seq [(.var 1)] [] [3])])] [2]))]⟩
def I__law_first : Nat := 77
def D__law_first : Def := ⟨3, 7, [(.ifS (.bor (.callv (.var 2) [(.var 1), (.idx (.var 0) (.cst (.int 0)))] []) (.cmp .eq (.len (.var 0)) (.cst (.int 1)))) [(.ret (.lst [(.var 1)]))] []), (.own 3 (.lst [])), (.forS (.tp [(.nm 4), (.tp [(.nm 5), (.nm 6)])]) .enum [(.idx (.var 0) (.cst (.int 1)))] [(.ext 3 (.call 77 [(.var 6), (.bin .add (.var 1) (.tup [(.var 4)])), (.var 2)]))]), (.share [3]), (.ret (.var 3))]⟩
def I_going : Nat := 79
def D_going : Def := ⟨1, 2, [(.ret (.comp (.var 1) (.nm 1) .seq [(.call 5 [(.var 0)])] [(.not (.call 27 [(.call 28 [(.var 0), (.var 1)])]))] [1]))]⟩
def I_put_at : Nat := 80
def D_put_at : Def := ⟨3, 6, [(.ifS (.cmp .eq (.var 1) (.tup [])) [(.ret (.var 2))] []), (.own 3 (.blt .list [(.call 4 [(.var 0)])])), (.asg (.tp [(.nm 4), (.nm 5)]) (.idxV 3 (.idx (.var 1) (.cst (.int 0))))), (.setI 3 (.idx (.var 1) (.cst (.int 0))) (.tup [(.var 4), (.call 80 [(.var 5), (.slc (.var 1) [(.cst (.int 1))] []), (.var 2)])])), (.share [3]), (.ret (.tup [(.idx (.var 0) (.cst (.int 0))), (.blt .tuple [(.var 3)])]))]⟩
def I_cut : Nat := 81
def D_cut : Def := ⟨2, 2, [(.expr (.call 3 [(.var 0)])), (.expr (.call 30 [(.var 0), (.var 1)])), (.ret (.call 80 [(.var 0), (.var 1), (.tup [(.idx (.call 28 [(.var 0), (.var 1)]) (.cst (.int 0)))])]))]⟩
def I_sizes : Nat := 82
def D_sizes : Def := ⟨1, 3, [(.expr (.call 3 [(.var 0)])), (.asg (.nm 1) (.call 5 [(.var 0)])), (.ret (.tup [(.len (.var 1)), (.len (.call 33 [(.var 0)])), (.blt .max1 [(.comp (.len (.var 2)) (.nm 2) .seq [(.var 1)] [] [2])])]))]⟩
def I_stopped : Nat := 83
def D_stopped : Def := ⟨2, 4, [(.expr (.call 3 [(.var 0)])), (.expr (.call 48 [(.var 0), (.var 1)])), (.asg (.nm 2) (.var 0)), (.forS (.nm 3) .seq [(.var 1)] [(.asg (.nm 2) (.call 81 [(.var 2), (.var 3)]))]), (.ret (.var 2))]⟩
def I_gain_at : Nat := 84
def D_gain_at : Def := ⟨1, 5, [(.asg (.nm 1) (.tup [(.cst (.int 0)), (.cst (.int 1))])), (.forS (.tp [(.tp [(.nm 2), (.nm 3)]), (.nm 4)]) .zip [(.call 4 [(.var 0)]), (.call 35 [(.var 0)])] [(.asg (.nm 1) (.call 40 [(.var 1), (.call 26 [(.var 4), (.tup [(.bin .sub (.idx (.var 3) (.cst (.int 0))) (.idx (.var 0) (.cst (.int 0)))), (.cst (.int 1))])])]))]), (.ret (.var 1))]⟩
def I_gains_of : Nat := 85
def D_gains_of : Def := ⟨1, 2, [(.ret (.comp (.call 84 [(.call 28 [(.var 0), (.var 1)])]) (.nm 1) .seq [(.call 79 [(.var 0)])] [] [1]))]⟩
def I_is_fair : Nat := 86
def D_is_fair : Def := ⟨1, 2, [(.expr (.call 3 [(.var 0)])), (.ret (.blt .all [(.comp (.cmp .eq (.idx (.var 1) (.cst (.int 0))) (.cst (.int 0))) (.nm 1) .seq [(.call 85 [(.var 0)])] [] [1])]))]⟩
def I_never_falls : Nat := 87
def D_never_falls : Def := ⟨1, 2, [(.expr (.call 3 [(.var 0)])), (.ret (.blt .all [(.comp (.cmp .ge (.idx (.var 1) (.cst (.int 0))) (.cst (.int 0))) (.nm 1) .seq [(.call 85 [(.var 0)])] [] [1])]))]⟩
def I_spread : Nat := 89
def D_spread : Def := ⟨2, 2, [(.expr (.call 3 [(.var 0)])), (.expr (.call 48 [(.var 0), (.var 1)])), (.ret (.call 88 [(.var 0), (.var 1)]))]⟩
def I_last_spread : Nat := 90
def D_last_spread : Def := ⟨1, 1, [(.expr (.call 3 [(.var 0)])), (.ret (.call 88 [(.var 0), (.call 33 [(.var 0)])]))]⟩
def I__law_stop : Nat := 91
def D__law_stop : Def := ⟨3, 10, [(.own 3 (.lst [])), (.own 4 (.lst [(.tup [(.tup []), (.var 2)])])), (.whl (.cmp .ne (.var 4) (.lst [])) [(.popTo (.tp [(.nm 5), (.nm 6)]) 4), (.asg (.nm 1) (.bin .add (.var 1) (.cst (.int 1)))), (.ifS (.bor (.cmp .eq (.len (.var 6)) (.cst (.int 1))) (.cmp .eq (.call 8 [(.var 0), (.var 1), (.cst (.int 3))]) (.cst (.int 0)))) [(.app 3 (.var 5))] [(.ext 4 (.comp (.tup [(.bin .add (.var 5) (.tup [(.var 7)])), (.var 9)]) (.tp [(.nm 7), (.tp [(.nm 8), (.nm 9)])]) .enum [(.idx (.var 6) (.cst (.int 1)))] [] [7, 8, 9]))])]), (.share [3]), (.ret (.blt .tuple [(.blt .sorted [(.var 3)])]))]⟩
def I_gain : Nat := 93
def D_gain : Def := ⟨2, 2, [(.expr (.call 3 [(.var 0)])), (.expr (.call 30 [(.var 0), (.var 1)])), (.ret (.call 84 [(.call 28 [(.var 0), (.var 1)])]))]⟩
def I_never_rises : Nat := 94
def D_never_rises : Def := ⟨1, 2, [(.expr (.call 3 [(.var 0)])), (.ret (.blt .all [(.comp (.cmp .le (.idx (.var 1) (.cst (.int 0))) (.cst (.int 0))) (.nm 1) .seq [(.call 85 [(.var 0)])] [] [1])]))]⟩
def I_rule_through : Nat := 95
def D_rule_through : Def := ⟨2, 5, [(.own 2 (.lst [(.var 1)])), (.forS (.nm 3) .rng1 [(.len (.var 1))] [(.forS (.nm 4) .rng1 [(.len (.call 4 [(.call 28 [(.var 0), (.slc (.var 1) [] [(.var 3)])])]))] [(.ifS (.cmp .ne (.var 4) (.idx (.var 1) (.var 3))) [(.app 2 (.bin .add (.slc (.var 1) [] [(.var 3)]) (.tup [(.var 4)])))] [])])]), (.share [2]), (.ret (.var 2))]⟩
def I_unfair : Nat := 96
def D_unfair : Def := ⟨1, 6, [(.expr (.call 3 [(.var 0)])), (.forS (.nm 1) .seq [(.call 79 [(.var 0)])] [(.ifS (.cmp .ne (.idx (.call 84 [(.call 28 [(.var 0), (.var 1)])]) (.cst (.int 0))) (.cst (.int 0))) [(.asg (.nm 2) (.call 95 [(.var 0), (.var 1)])), (.own 3 (.comp (.var 4) (.nm 4) .seq [(.var 2)] [(.cmp .ne (.var 4) (.var 1))] [4])), (.ext 3 (.comp (.bin .add (.var 1) (.tup [(.var 5)])) (.nm 5) .rng1 [(.len (.call 4 [(.call 28 [(.var 0), (.var 1)])]))] [] [5])), (.share [3]), (.ret (.tup [(.blt .tuple [(.blt .sorted [(.var 2)])]), (.blt .tuple [(.blt .sorted [(.var 3)])])]))] [])]), (.ret (.cst .non))]⟩
def I_is_unfair : Nat := 97
def D_is_unfair : Def := ⟨2, 3, [(.expr (.call 3 [(.var 0)])), (.ifS (.bor (.not (.blt .isTuple [(.var 1)])) (.bor (.cmp .ne (.len (.var 1)) (.cst (.int 2))) (.not (.blt .all [(.comp (.call 46 [(.var 0), (.var 2)]) (.nm 2) .seq [(.var 1)] [] [2])])))) [(.ret (.cst (.bl false)))] []), (.ret (.cmp .ne (.call 49 [(.var 0), (.idx (.var 1) (.cst (.int 0)))]) (.call 49 [(.var 0), (.idx (.var 1) (.cst (.int 1)))])))]⟩
def I__law_do_v6 : Nat := 98
def D__law_do_v6 : Def := ⟨3, 6, [(.asg (.nm 3) (.cst .non)), (.asg (.nm 4) (.cst .non)), (.tryKeep [(.ifS (.cmp .lt (.var 0) (.cst (.int 4))) [(.asg (.nm 4) (.callv (.idx (.lst [(.cst (.fn 86)), (.cst (.fn 87)), (.cst (.fn 94)), (.cst (.fn 96))]) (.var 0)) [(.var 1)] [86, 87, 94, 96]))] [(.asg (.nm 4) (.call 93 [(.var 1), (.var 2)]))])] [0, 1, 2, 3, 4, 5, 6] [0, 1, 2, 3, 4, 5, 6] 5 3), (.ifS (.cmp .is (.var 3) (.cst .non)) [(.ret (.var 4))] []), (.ret (.call 21 [(.var 3)]))]⟩
def I__law_nearly : Nat := 99
def D__law_nearly : Def := ⟨3, 7, [(.ifS (.cmp .gt (.call 8 [(.var 0), (.var 1), (.cst (.int 3))]) (.cst (.int 0))) [(.ret (.var 2))] []), (.asg (.nm 3) (.comp (.var 4) (.tp [(.nm 4), (.nm 5), (.nm 6)]) .seq [(.call 12 [(.var 2)])] [(.band (.cmp .eq (.len (.var 5)) (.cst (.int 1))) (.cmp .ne (.var 4) (.tup [])))] [4, 5, 6])), (.ret (.call 100 [(.var 2), (.idx (.var 3) (.call 8 [(.var 0), (.bin .add (.var 1) (.cst (.int 1))), (.len (.var 3))]))]))]⟩
def I__law_put_worth : Nat := 100
def D__law_put_worth : Def := ⟨2, 5, [(.ifS (.cmp .eq (.var 1) (.tup [])) [(.ret (.bin .add (.tup [(.bin .add (.idx (.var 0) (.cst (.int 0))) (.cst (.int 1)))]) (.slc (.var 0) [(.cst (.int 1))] [])))] []), (.asg (.nm 2) (.idx (.var 1) (.cst (.int 0)))), (.asg (.tp [(.nm 3), (.nm 4)]) (.idx (.idx (.var 0) (.cst (.int 1))) (.var 2))), (.ret (.tup [(.idx (.var 0) (.cst (.int 0))), (.bin .add (.bin .add (.slc (.idx (.var 0) (.cst (.int 1))) [] [(.var 2)]) (.tup [(.tup [(.var 3), (.call 100 [(.var 4), (.slc (.var 1) [(.cst (.int 1))] [])])])])) (.slc (.idx (.var 0) (.cst (.int 1))) [(.bin .add (.var 2) (.cst (.int 1)))] []))]))]⟩
def I__law_do_v7 : Nat := 102
def D__law_do_v7 : Def := ⟨2, 5, [(.asg (.nm 2) (.cst .non)), (.asg (.nm 3) (.cst .non)), (.tryKeep [(.asg (.nm 3) (.call 97 [(.var 0), (.var 1)]))] [0, 1, 2, 3, 4, 5, 6] [0, 1, 2, 3, 4, 5, 6] 4 2), (.ifS (.cmp .is (.var 2) (.cst .non)) [(.ret (.var 3))] []), (.ret (.call 21 [(.var 2)]))]⟩
def I_drift_of : Nat := 104
def D_drift_of : Def := ⟨2, 4, [(.asg (.nm 2) (.tup [(.cst (.int 0)), (.cst (.int 1))])), (.forS (.nm 3) .rng1 [(.len (.var 1))] [(.asg (.nm 2) (.call 40 [(.var 2), (.call 84 [(.call 28 [(.var 0), (.slc (.var 1) [] [(.var 3)])])])]))]), (.ret (.var 2))]⟩
def I_drift : Nat := 105
def D_drift : Def := ⟨1, 2, [(.expr (.call 3 [(.var 0)])), (.ret (.comp (.tup [(.var 1), (.call 104 [(.var 0), (.var 1)])]) (.nm 1) .seq [(.call 5 [(.var 0)])] [] [1]))]⟩
def I_fair_part : Nat := 106
def D_fair_part : Def := ⟨1, 2, [(.expr (.call 3 [(.var 0)])), (.ret (.comp (.tup [(.var 1), (.call 41 [(.tup [(.idx (.call 28 [(.var 0), (.var 1)]) (.cst (.int 0))), (.cst (.int 1))]), (.call 104 [(.var 0), (.var 1)])])]) (.nm 1) .seq [(.call 5 [(.var 0)])] [] [1]))]⟩
def I__law_do_v8 : Nat := 107
def D__law_do_v8 : Def := ⟨2, 5, [(.asg (.nm 2) (.cst .non)), (.asg (.nm 3) (.cst .non)), (.tryKeep [(.asg (.nm 3) (.ite (.cmp .eq (.var 0) (.cst (.int 0))) (.call 105 [(.var 1)]) (.call 106 [(.var 1)])))] [0, 1, 2, 3, 4, 5, 6] [0, 1, 2, 3, 4, 5, 6] 4 2), (.ifS (.cmp .is (.var 2) (.cst .non)) [(.ret (.var 3))] []), (.ret (.call 21 [(.var 2)]))]⟩
def I_ahead_in : Nat := 109
def D_ahead_in : Def := ⟨2, 6, [(.asg (.nm 2) (.tup [(.cst (.int 0)), (.cst (.int 1))])), (.forS (.tp [(.tp [(.nm 3), (.nm 4)]), (.nm 5)]) .zip [(.call 4 [(.var 0)]), (.call 35 [(.var 0)])] [(.asg (.nm 2) (.call 40 [(.var 2), (.call 26 [(.var 5), (.call 110 [(.var 4), (.var 1)])])]))]), (.ret (.var 2))]⟩
def I_value_in : Nat := 110
def D_value_in : Def := ⟨2, 4, [(.asg (.nm 2) (.tup [(.idx (.var 0) (.cst (.int 0))), (.cst (.int 1))])), (.ifS (.call 27 [(.var 0)]) [(.ret (.var 2))] []), (.asg (.nm 3) (.call 109 [(.var 0), (.var 1)])), (.ret (.ite (.band (.cmp .eq (.call 43 [(.var 2), (.var 3)]) (.var 1)) (.cmp .ne (.var 3) (.var 2))) (.var 3) (.var 2)))]⟩
def I_best_mean : Nat := 111
def D_best_mean : Def := ⟨1, 1, [(.expr (.call 3 [(.var 0)])), (.ret (.call 110 [(.var 0), (.cst (.bl true))]))]⟩
def I_worst_mean : Nat := 112
def D_worst_mean : Def := ⟨1, 1, [(.expr (.call 3 [(.var 0)])), (.ret (.call 110 [(.var 0), (.cst (.bl false))]))]⟩
def I_best_values : Nat := 113
def D_best_values : Def := ⟨1, 2, [(.expr (.call 3 [(.var 0)])), (.ret (.comp (.tup [(.var 1), (.call 110 [(.call 28 [(.var 0), (.var 1)]), (.cst (.bl true))])]) (.nm 1) .seq [(.call 5 [(.var 0)])] [] [1]))]⟩
def I_stops : Nat := 114
def D_stops : Def := ⟨3, 7, [(.asg (.nm 3) (.call 28 [(.var 0), (.var 1)])), (.ifS (.call 27 [(.var 3)]) [(.ret (.lst [(.var 1)]))] []), (.asg (.nm 4) (.call 109 [(.var 3), (.cst (.bl true))])), (.ifS (.bor (.call 43 [(.var 4), (.tup [(.idx (.var 3) (.cst (.int 0))), (.cst (.int 1))])]) (.band (.var 2) (.cmp .eq (.var 4) (.tup [(.idx (.var 3) (.cst (.int 0))), (.cst (.int 1))])))) [(.ret (.lst [(.var 1)]))] []), (.own 5 (.lst [])), (.forS (.nm 6) .rng1 [(.len (.call 4 [(.var 3)]))] [(.ext 5 (.call 114 [(.var 0), (.bin .add (.var 1) (.tup [(.var 6)])), (.var 2)]))]), (.share [5]), (.ret (.var 5))]⟩
def I_first_best : Nat := 115
def D_first_best : Def := ⟨1, 1, [(.expr (.call 3 [(.var 0)])), (.ret (.blt .tuple [(.blt .sorted [(.call 114 [(.var 0), (.tup []), (.cst (.bl true))])])]))]⟩
def I_last_best : Nat := 116
def D_last_best : Def := ⟨1, 1, [(.expr (.call 3 [(.var 0)])), (.ret (.blt .tuple [(.blt .sorted [(.call 114 [(.var 0), (.tup []), (.cst (.bl false))])])]))]⟩
def I_is_best : Nat := 117
def D_is_best : Def := ⟨2, 2, [(.expr (.call 48 [(.var 0), (.var 1)])), (.ret (.cmp .eq (.call 49 [(.var 0), (.var 1)]) (.call 110 [(.var 0), (.cst (.bl true))])))]⟩
def I__law_do_v9 : Nat := 118
def D__law_do_v9 : Def := ⟨3, 6, [(.asg (.nm 3) (.cst .non)), (.asg (.nm 4) (.cst .non)), (.tryKeep [(.ifS (.cmp .lt (.var 0) (.cst (.int 5))) [(.asg (.nm 4) (.callv (.idx (.lst [(.cst (.fn 111)), (.cst (.fn 112)), (.cst (.fn 115)), (.cst (.fn 116)), (.cst (.fn 113))]) (.var 0)) [(.var 1)] [111, 112, 115, 116, 113]))] [(.asg (.nm 4) (.call 117 [(.var 1), (.var 2)]))])] [0, 1, 2, 3, 4, 5, 6] [0, 1, 2, 3, 4, 5, 6] 5 3), (.ifS (.cmp .is (.var 3) (.cst .non)) [(.ret (.var 4))] []), (.ret (.call 21 [(.var 3)]))]⟩
def I__law_are_values_right : Nat := 119
def D__law_are_values_right : Def := ⟨1, 18, [(.asg (.nm 1) (.call 118 [(.cst (.int 4)), (.var 0), (.cst .non)])), (.asg (.nm 2) (.call 12 [(.var 0)])), (.ifS (.cmp .ne (.comp (.var 3) (.tp [(.nm 3), (.nm 4)]) .seq [(.var 1)] [] [3, 4]) (.comp (.idx (.var 5) (.cst (.int 0))) (.nm 5) .seq [(.var 2)] [] [5])) [(.ret (.cst (.bl false)))] []), (.asg (.nm 6) (.blt (.dict true) [(.var 1)])), (.forS (.tp [(.nm 3), (.nm 7), (.nm 8)]) .seq [(.var 2)] [(.asg (.tp [(.nm 9), (.nm 10)]) (.idx (.var 6) (.var 3))), (.ifS (.bor (.cmp .ne (.call 111 [(.call 31 [(.var 0), (.var 3)])]) (.tup [(.var 9), (.var 10)])) (.cmp .lt (.var 9) (.bin .mul (.idx (.var 7) (.cst (.int 0))) (.var 10)))) [(.ret (.cst (.bl false)))] []), (.asg (.nm 11) (.blt .sum [(.comp (.var 12) (.tp [(.nm 12), (.nm 13)]) .seq [(.call 11 [(.var 7)])] [] [12, 13])])), (.asg (.nm 14) (.comp (.call 15 [(.idx (.var 6) (.bin .add (.var 3) (.tup [(.var 15)]))), (.tup [(.idx (.var 16) (.cst (.int 0))), (.var 11)])]) (.tp [(.nm 15), (.nm 16)]) .enum [(.call 11 [(.var 7)])] [] [15, 16])), (.asg (.nm 17) (.call 14 [(.var 14)])), (.ifS (.bor (.band (.cmp .ne (.var 14) (.lst [])) (.cmp .gt (.bin .mul (.idx (.var 17) (.cst (.int 0))) (.var 10)) (.bin .mul (.var 9) (.idx (.var 17) (.cst (.int 1)))))) (.band (.cmp .ne (.var 9) (.bin .mul (.idx (.var 7) (.cst (.int 0))) (.var 10))) (.cmp .ne (.var 17) (.tup [(.var 9), (.var 10)])))) [(.ret (.cst (.bl false)))] [])]), (.ret (.cst (.bl true)))]⟩
def I_are_bets_of : Nat := 121
def D_are_bets_of : Def := ⟨2, 3, [(.ifS (.bor (.not (.blt .isTuple [(.var 1)])) (.cmp .ne (.len (.var 1)) (.len (.call 79 [(.var 0)])))) [(.ret (.cst (.bl false)))] []), (.ret (.blt .all [(.comp (.call 0 [(.var 2), (.bin .sub (.cst (.int 0)) (.cst (.int 99))), (.cst (.int 99))]) (.nm 2) .seq [(.var 1)] [] [2])]))]⟩
def I_are_bets : Nat := 122
def D_are_bets : Def := ⟨2, 2, [(.expr (.call 3 [(.var 0)])), (.ret (.call 121 [(.var 0), (.var 1)]))]⟩
def I_look_bets : Nat := 123
def D_look_bets : Def := ⟨2, 2, [(.ifS (.not (.call 122 [(.var 0), (.var 1)])) [(.raise 4)] [])]⟩
def I_gain_along : Nat := 124
def D_gain_along : Def := ⟨3, 6, [(.asg (.nm 3) (.tup [(.cst (.int 0)), (.cst (.int 1))])), (.forS (.nm 4) .rng1 [(.len (.var 2))] [(.asg (.nm 5) (.bin .sub (.idx (.call 28 [(.var 0), (.slc (.var 2) [] [(.bin .add (.var 4) (.cst (.int 1)))])]) (.cst (.int 0))) (.idx (.call 28 [(.var 0), (.slc (.var 2) [] [(.var 4)])]) (.cst (.int 0))))), (.asg (.nm 3) (.call 40 [(.var 3), (.call 26 [(.idx (.var 1) (.slc (.var 2) [] [(.var 4)])), (.tup [(.var 5), (.cst (.int 1))])])]))]), (.ret (.var 3))]⟩
def I_gains : Nat := 125
def D_gains : Def := ⟨2, 6, [(.expr (.call 123 [(.var 0), (.var 1)])), (.asg (.nm 2) (.blt (.dict true) [(.comp (.tup [(.var 3), (.tup [(.var 4), (.cst (.int 1))])]) (.tp [(.nm 3), (.nm 4)]) .zip [(.call 79 [(.var 0)]), (.var 1)] [] [3, 4])])), (.ret (.comp (.idx (.call 124 [(.var 0), (.var 2), (.var 5)]) (.cst (.int 0))) (.nm 5) .seq [(.call 33 [(.var 0)])] [] [5]))]⟩
def I_mean_gain : Nat := 126
def D_mean_gain : Def := ⟨2, 5, [(.asg (.nm 2) (.call 125 [(.var 0), (.var 1)])), (.ret (.call 44 [(.comp (.call 26 [(.call 36 [(.var 0), (.var 3)]), (.tup [(.var 4), (.cst (.int 1))])]) (.tp [(.nm 3), (.nm 4)]) .zip [(.call 33 [(.var 0)]), (.var 2)] [] [3, 4])]))]⟩
def I__law_do_v10 : Nat := 127
def D__law_do_v10 : Def := ⟨3, 6, [(.asg (.nm 3) (.cst .non)), (.asg (.nm 4) (.cst .non)), (.tryKeep [(.asg (.nm 4) (.callv (.idx (.lst [(.cst (.fn 122)), (.cst (.fn 125)), (.cst (.fn 126))]) (.var 0)) [(.var 1), (.var 2)] [122, 125, 126]))] [0, 1, 2, 3, 4, 5, 6] [0, 1, 2, 3, 4, 5, 6] 5 3), (.ifS (.cmp .is (.var 3) (.cst .non)) [(.ret (.var 4))] []), (.ret (.call 21 [(.var 3)]))]⟩
def I__law_gains : Nat := 128
def D__law_gains : Def := ⟨3, 12, [(.asg (.nm 3) (.blt (.dict true) [(.comp (.tup [(.var 4), (.idx (.var 5) (.cst (.int 0)))]) (.tp [(.nm 4), (.nm 5), (.nm 6)]) .seq [(.var 0)] [] [4, 5, 6])])), (.own 7 (.lst [])), (.forS (.nm 8) .seq [(.comp (.var 4) (.tp [(.nm 4), (.nm 5), (.nm 6)]) .seq [(.var 0)] [(.cmp .eq (.len (.var 5)) (.cst (.int 1)))] [4, 5, 6])] [(.asg (.nm 9) (.cst (.int 0))), (.forS (.nm 10) .rng1 [(.len (.var 8))] [(.asg (.nm 11) (.bin .sub (.idx (.var 3) (.slc (.var 8) [] [(.bin .add (.var 10) (.cst (.int 1)))])) (.idx (.var 3) (.slc (.var 8) [] [(.var 10)])))), (.asg (.nm 9) (.bin .add (.var 9) (.bin .mul (.idx (.var 2) (.mth .index (.var 1) (.slc (.var 8) [] [(.var 10)]))) (.var 11))))]), (.app 7 (.var 9))]), (.share [7]), (.ret (.var 7))]⟩
def I_steps_at : Nat := 130
def D_steps_at : Def := ⟨1, 3, [(.ret (.comp (.bin .sub (.idx (.var 2) (.cst (.int 0))) (.idx (.var 0) (.cst (.int 0)))) (.tp [(.nm 1), (.nm 2)]) .seq [(.call 4 [(.var 0)])] [] [1, 2]))]⟩
def I_sure_gain : Nat := 131
def D_sure_gain : Def := ⟨1, 7, [(.expr (.call 3 [(.var 0)])), (.asg (.nm 1) (.call 79 [(.var 0)])), (.forS (.tp [(.nm 2), (.nm 3)]) .enum [(.var 1)] [(.asg (.nm 4) (.call 130 [(.call 28 [(.var 0), (.var 3)])])), (.ifS (.bor (.band (.cmp .ne (.blt .max1 [(.var 4)]) (.blt .min1 [(.var 4)])) (.bor (.cmp .ge (.blt .min1 [(.var 4)]) (.cst (.int 0))) (.cmp .le (.blt .max1 [(.var 4)]) (.cst (.int 0))))) (.chain .eq .ne (.blt .max1 [(.var 4)]) (.blt .min1 [(.var 4)]) (.cst (.int 0)))) [(.asg (.nm 5) (.ite (.cmp .gt (.blt .max1 [(.var 4)]) (.cst (.int 0))) (.cst (.int 1)) (.bin .sub (.cst (.int 0)) (.cst (.int 1))))), (.ret (.blt .tuple [(.comp (.ite (.cmp .eq (.var 6) (.var 2)) (.var 5) (.cst (.int 0))) (.nm 6) .rng1 [(.len (.var 1))] [] [6])]))] [])]), (.ret (.cst .non))]⟩
def I_is_sure_gain : Nat := 132
def D_is_sure_gain : Def := ⟨2, 3, [(.expr (.call 3 [(.var 0)])), (.ifS (.not (.call 121 [(.var 0), (.var 1)])) [(.ret (.cst (.bl false)))] []), (.asg (.nm 2) (.call 125 [(.var 0), (.var 1)])), (.ret (.band (.cmp .ge (.blt .min1 [(.var 2)]) (.cst (.int 0))) (.cmp .gt (.blt .max1 [(.var 2)]) (.cst (.int 0)))))]⟩
def I_fair_weights : Nat := 133
def D_fair_weights : Def := ⟨1, 7, [(.expr (.call 3 [(.var 0)])), (.ifS (.cmp .isNot (.call 131 [(.var 0)]) (.cst .non)) [(.ret (.cst .non))] []), (.own 1 (.lst [])), (.forS (.nm 2) .seq [(.call 79 [(.var 0)])] [(.asg (.nm 3) (.call 130 [(.call 28 [(.var 0), (.var 2)])])), (.asg (.nm 4) (.blt .sum [(.comp (.var 5) (.nm 5) .seq [(.var 3)] [(.cmp .gt (.var 5) (.cst (.int 0)))] [5])])), (.asg (.nm 6) (.bin .sub (.cst (.int 0)) (.blt .sum [(.comp (.var 5) (.nm 5) .seq [(.var 3)] [(.cmp .lt (.var 5) (.cst (.int 0)))] [5])]))), (.app 1 (.blt .tuple [(.comp (.ite (.cmp .gt (.var 5) (.cst (.int 0))) (.var 6) (.ite (.cmp .lt (.var 5) (.cst (.int 0))) (.var 4) (.cst (.int 1)))) (.nm 5) .seq [(.var 3)] [] [5])]))]), (.share [1]), (.ret (.blt .tuple [(.var 1)]))]⟩
def I_are_fair_weights : Nat := 134
def D_are_fair_weights : Def := ⟨2, 8, [(.expr (.call 3 [(.var 0)])), (.asg (.nm 2) (.call 79 [(.var 0)])), (.ifS (.bor (.not (.blt .isTuple [(.var 1)])) (.cmp .ne (.len (.var 1)) (.len (.var 2)))) [(.ret (.cst (.bl false)))] []), (.forS (.tp [(.nm 3), (.nm 4)]) .zip [(.var 2), (.var 1)] [(.asg (.nm 5) (.call 130 [(.call 28 [(.var 0), (.var 3)])])), (.ifS (.bor (.not (.blt .isTuple [(.var 4)])) (.cmp .ne (.len (.var 4)) (.len (.var 5)))) [(.ret (.cst (.bl false)))] []), (.ifS (.not (.blt .all [(.comp (.band (.blt .isInt [(.var 6)]) (.band (.not (.blt .isBool [(.var 6)])) (.cmp .gt (.var 6) (.cst (.int 0))))) (.nm 6) .seq [(.var 4)] [] [6])])) [(.ret (.cst (.bl false)))] []), (.ifS (.cmp .ne (.blt .sum [(.comp (.bin .mul (.var 6) (.var 7)) (.tp [(.nm 6), (.nm 7)]) .zip [(.var 4), (.var 5)] [] [6, 7])]) (.cst (.int 0))) [(.ret (.cst (.bl false)))] [])]), (.ret (.cst (.bl true)))]⟩
def I__law_do_v11 : Nat := 135
def D__law_do_v11 : Def := ⟨3, 6, [(.asg (.nm 3) (.cst .non)), (.asg (.nm 4) (.cst .non)), (.tryKeep [(.ifS (.cmp .lt (.var 0) (.cst (.int 2))) [(.asg (.nm 4) (.ite (.cmp .eq (.var 0) (.cst (.int 0))) (.call 131 [(.var 1)]) (.call 133 [(.var 1)])))] [(.asg (.nm 4) (.ite (.cmp .eq (.var 0) (.cst (.int 2))) (.call 132 [(.var 1), (.var 2)]) (.call 134 [(.var 1), (.var 2)])))])] [0, 1, 2, 3, 4, 5, 6] [0, 1, 2, 3, 4, 5, 6] 5 3), (.ifS (.cmp .is (.var 3) (.cst .non)) [(.ret (.var 4))] []), (.ret (.call 21 [(.var 3)]))]⟩
def I__law_is_gain : Nat := 136
def D__law_is_gain : Def := ⟨2, 14, [(.asg (.nm 2) (.call 12 [(.var 0)])), (.asg (.nm 3) (.comp (.var 4) (.tp [(.nm 4), (.nm 5), (.nm 6)]) .seq [(.var 2)] [(.cmp .eq (.len (.var 5)) (.cst (.int 2)))] [4, 5, 6])), (.asg (.nm 7) (.blt (.dict true) [(.comp (.tup [(.var 4), (.idx (.var 5) (.cst (.int 0)))]) (.tp [(.nm 4), (.nm 5), (.nm 6)]) .seq [(.var 2)] [] [4, 5, 6])])), (.ifS (.bor (.not (.blt .isTuple [(.var 1)])) (.cmp .ne (.len (.var 1)) (.len (.var 3)))) [(.ret (.cst (.bl false)))] []), (.ifS (.cmp .ne (.comp (.var 8) (.nm 8) .seq [(.var 1)] [(.not (.call 19 [(.var 8), (.neg (.cst (.int 99))), (.cst (.int 99))]))] [8]) (.lst [])) [(.ret (.cst (.bl false)))] []), (.own 9 (.lst [])), (.forS (.nm 10) .seq [(.comp (.var 4) (.tp [(.nm 4), (.nm 5), (.nm 6)]) .seq [(.var 2)] [(.cmp .eq (.len (.var 5)) (.cst (.int 1)))] [4, 5, 6])] [(.asg (.nm 11) (.comp (.bin .sub (.idx (.var 7) (.slc (.var 10) [] [(.bin .add (.var 12) (.cst (.int 1)))])) (.idx (.var 7) (.slc (.var 10) [] [(.var 12)]))) (.nm 12) .rng1 [(.len (.var 10))] [] [12])), (.app 9 (.blt .sum [(.comp (.bin .mul (.idx (.var 1) (.mth .index (.var 3) (.slc (.var 10) [] [(.var 12)]))) (.var 13)) (.tp [(.nm 12), (.nm 13)]) .enum [(.var 11)] [] [12, 13])]))]), (.share [9]), (.ret (.band (.cmp .ge (.blt .min1 [(.var 9)]) (.cst (.int 0))) (.cmp .gt (.blt .max1 [(.var 9)]) (.cst (.int 0)))))]⟩
def I_look_claim : Nat := 139
def D_look_claim : Def := ⟨2, 3, [(.expr (.call 3 [(.var 0)])), (.ifS (.bor (.not (.blt .isTuple [(.var 1)])) (.cmp .ne (.len (.var 1)) (.len (.call 33 [(.var 0)])))) [(.raise 4)] []), (.ifS (.not (.blt .all [(.comp (.call 0 [(.var 2), (.bin .sub (.cst (.int 0)) (.cst (.int 99))), (.cst (.int 99))]) (.nm 2) .seq [(.var 1)] [] [2])])) [(.raise 4)] [])]⟩
def I_paid_at : Nat := 140
def D_paid_at : Def := ⟨2, 8, [(.asg (.nm 2) (.comp (.var 3) (.nm 3) .rng1 [(.len (.var 0))] [(.cmp .ne (.idx (.var 0) (.var 3)) (.idx (.var 0) (.cst (.int 0))))] [3])), (.asg (.nm 4) (.tup [(.cst (.int 0)), (.cst (.int 1))])), (.ifS (.cmp .ne (.var 2) (.lst [])) [(.asg (.nm 4) (.call 42 [(.call 41 [(.idx (.var 1) (.idx (.var 2) (.cst (.int 0)))), (.idx (.var 1) (.cst (.int 0)))]), (.tup [(.bin .sub (.idx (.var 0) (.idx (.var 2) (.cst (.int 0)))) (.idx (.var 0) (.cst (.int 0)))), (.cst (.int 1))])]))] []), (.asg (.nm 5) (.call 41 [(.idx (.var 1) (.cst (.int 0))), (.call 26 [(.var 4), (.tup [(.idx (.var 0) (.cst (.int 0))), (.cst (.int 1))])])])), (.forS (.tp [(.nm 6), (.nm 7)]) .zip [(.var 0), (.var 1)] [(.ifS (.cmp .ne (.call 40 [(.var 5), (.call 26 [(.var 4), (.tup [(.var 6), (.cst (.int 1))])])]) (.var 7)) [(.raise 5)] [])]), (.ret (.tup [(.var 5), (.var 4)]))]⟩
def I_paid_from : Nat := 141
def D_paid_from : Def := ⟨4, 9, [(.asg (.nm 4) (.call 28 [(.var 0), (.var 1)])), (.ifS (.cmp .inn (.var 1) (.var 2)) [(.ret (.tup [(.idx (.var 2) (.var 1)), (.cst (.int 1))]))] []), (.share [3]), (.asg (.nm 5) (.comp (.call 141 [(.var 0), (.bin .add (.var 1) (.tup [(.var 6)])), (.var 2), (.var 3)]) (.nm 6) .rng1 [(.len (.call 4 [(.var 4)]))] [] [6])), (.asg (.tp [(.nm 7), (.nm 8)]) (.call 140 [(.call 130 [(.var 4)]), (.var 5)])), (.setI 3 (.var 1) (.var 8)), (.ret (.var 7))]⟩
def I__law_do_v12 : Nat := 144
def D__law_do_v12 : Def := ⟨3, 6, [(.asg (.nm 3) (.cst .non)), (.asg (.nm 4) (.cst .non)), (.tryKeep [(.asg (.nm 4) (.ite (.cmp .eq (.var 0) (.cst (.int 0))) (.call 142 [(.var 1), (.var 2)]) (.call 143 [(.var 1), (.var 2)])))] [0, 1, 2, 3, 4, 5, 6] [0, 1, 2, 3, 4, 5, 6] 5 3), (.ifS (.cmp .is (.var 3) (.cst .non)) [(.ret (.var 4))] []), (.ret (.call 21 [(.var 3)]))]⟩
def I__law_values : Nat := 145
def D__law_values : Def := ⟨3, 9, [(.ifS (.cmp .inn (.var 1) (.var 2)) [(.ret (.tup [(.idx (.var 2) (.var 1)), (.cst (.int 1))]))] []), (.asg (.nm 3) (.var 0)), (.forS (.nm 4) .seq [(.var 1)] [(.asg (.nm 3) (.idx (.idx (.idx (.var 3) (.cst (.int 1))) (.var 4)) (.cst (.int 1))))]), (.own 5 (.lst [])), (.forS (.tp [(.nm 4), (.tp [(.nm 6), (.nm 7)])]) .enum [(.idx (.var 3) (.cst (.int 1)))] [(.asg (.nm 8) (.call 145 [(.var 0), (.bin .add (.var 1) (.tup [(.var 4)])), (.var 2)])), (.ifS (.cmp .is (.var 8) (.cst .non)) [(.ret (.cst .non))] []), (.app 5 (.tup [(.bin .sub (.idx (.var 7) (.cst (.int 0))) (.idx (.var 3) (.cst (.int 0)))), (.var 8)]))]), (.share [5]), (.ret (.call 146 [(.var 5)]))]⟩
def I__law_agreed : Nat := 146
def D__law_agreed : Def := ⟨1, 8, [(.own 1 (.comp (.var 3) (.tp [(.nm 2), (.nm 3)]) .seq [(.var 0)] [(.cmp .eq (.var 2) (.cst (.int 0)))] [2, 3])), (.forS (.tp [(.nm 2), (.nm 3)]) .seq [(.var 0)] [(.forS (.tp [(.nm 4), (.nm 5)]) .seq [(.var 0)] [(.ifS (.chain .gt .gt (.var 2) (.cst (.int 0)) (.var 4)) [(.asg (.nm 6) (.call 14 [(.lst [(.call 15 [(.var 3), (.tup [(.bin .sub (.cst (.int 0)) (.var 4)), (.cst (.int 1))])]), (.call 15 [(.var 5), (.tup [(.var 2), (.cst (.int 1))])])])])), (.app 1 (.call 15 [(.var 6), (.tup [(.cst (.int 1)), (.bin .sub (.var 2) (.var 4))])]))] [])])]), (.share [1]), (.ret (.ite (.band (.cmp .ne (.var 1) (.lst [])) (.cmp .eq (.comp (.var 7) (.nm 7) .seq [(.var 1)] [(.cmp .ne (.var 7) (.idxV 1 (.cst (.int 0))))] [7]) (.lst []))) (.idxV 1 (.cst (.int 0))) (.cst .non)))]⟩
def I__law_is_paid : Nat := 147
def D__law_is_paid : Def := ⟨3, 14, [(.asg (.tp [(.nm 3), (.nm 4)]) (.var 1)), (.asg (.nm 5) (.comp (.var 6) (.tp [(.nm 6), (.nm 7), (.nm 8)]) .seq [(.var 0)] [(.cmp .eq (.len (.var 7)) (.cst (.int 2)))] [6, 7, 8])), (.asg (.nm 9) (.blt (.dict true) [(.comp (.tup [(.var 6), (.idx (.var 7) (.cst (.int 0)))]) (.tp [(.nm 6), (.nm 7), (.nm 8)]) .seq [(.var 0)] [] [6, 7, 8])])), (.ifS (.cmp .ne (.len (.var 4)) (.len (.var 5))) [(.ret (.cst (.bl false)))] []), (.forS (.nm 10) .seq [(.var 2)] [(.own 11 (.lst [(.var 3)])), (.forS (.nm 12) .rng1 [(.len (.var 10))] [(.asg (.nm 13) (.bin .sub (.idx (.var 9) (.slc (.var 10) [] [(.bin .add (.var 12) (.cst (.int 1)))])) (.idx (.var 9) (.slc (.var 10) [] [(.var 12)])))), (.app 11 (.call 15 [(.idx (.var 4) (.mth .index (.var 5) (.slc (.var 10) [] [(.var 12)]))), (.tup [(.var 13), (.cst (.int 1))])]))]), (.share [11]), (.ifS (.cmp .ne (.call 14 [(.var 11)]) (.tup [(.idx (.var 2) (.var 10)), (.cst (.int 1))])) [(.ret (.cst (.bl false)))] [])]), (.ret (.cst (.bl true)))]⟩
def I_most_along : Nat := 149
def D_most_along : Def := ⟨2, 3, [(.ret (.blt .max1 [(.comp (.idx (.call 28 [(.var 0), (.slc (.var 1) [] [(.var 2)])]) (.cst (.int 0))) (.nm 2) .rng1 [(.bin .add (.len (.var 1)) (.cst (.int 1)))] [] [2])]))]⟩
def I_mean_of_most : Nat := 150
def D_mean_of_most : Def := ⟨1, 2, [(.expr (.call 3 [(.var 0)])), (.ret (.call 44 [(.comp (.call 26 [(.call 36 [(.var 0), (.var 1)]), (.tup [(.call 149 [(.var 0), (.var 1)]), (.cst (.int 1))])]) (.nm 1) .seq [(.call 33 [(.var 0)])] [] [1])]))]⟩
def I_chance_reached : Nat := 151
def D_chance_reached : Def := ⟨2, 3, [(.expr (.call 3 [(.var 0)])), (.ret (.call 44 [(.comp (.call 36 [(.var 0), (.var 2)]) (.nm 2) .seq [(.call 33 [(.var 0)])] [(.cmp .ge (.call 149 [(.var 0), (.var 2)]) (.var 1))] [2])]))]⟩
def I_mean_square : Nat := 152
def D_mean_square : Def := ⟨1, 5, [(.expr (.call 3 [(.var 0)])), (.asg (.nm 1) (.comp (.tup [(.call 36 [(.var 0), (.var 2)]), (.idx (.call 28 [(.var 0), (.var 2)]) (.cst (.int 0)))]) (.nm 2) .seq [(.call 33 [(.var 0)])] [] [2])), (.ret (.call 44 [(.comp (.call 26 [(.var 3), (.tup [(.bin .mul (.var 4) (.var 4)), (.cst (.int 1))])]) (.tp [(.nm 3), (.nm 4)]) .seq [(.var 1)] [] [3, 4])]))]⟩
def I_mean_steps : Nat := 153
def D_mean_steps : Def := ⟨1, 8, [(.expr (.call 3 [(.var 0)])), (.own 1 (.lst [])), (.forS (.nm 2) .seq [(.call 79 [(.var 0)])] [(.asg (.nm 3) (.call 28 [(.var 0), (.var 2)])), (.forS (.tp [(.nm 4), (.tp [(.nm 5), (.nm 6)])]) .enum [(.call 4 [(.var 3)])] [(.asg (.nm 7) (.bin .sub (.idx (.var 6) (.cst (.int 0))) (.idx (.var 3) (.cst (.int 0))))), (.app 1 (.call 26 [(.call 36 [(.var 0), (.bin .add (.var 2) (.tup [(.var 4)]))]), (.tup [(.bin .mul (.var 7) (.var 7)), (.cst (.int 1))])]))])]), (.share [1]), (.ret (.call 44 [(.var 1)]))]⟩
def I__law_do_v13 : Nat := 154
def D__law_do_v13 : Def := ⟨3, 6, [(.asg (.nm 3) (.cst .non)), (.asg (.nm 4) (.cst .non)), (.tryKeep [(.ifS (.cmp .lt (.var 0) (.cst (.int 3))) [(.asg (.nm 4) (.callv (.idx (.lst [(.cst (.fn 150)), (.cst (.fn 152)), (.cst (.fn 153))]) (.var 0)) [(.var 1)] [150, 152, 153]))] [(.asg (.nm 4) (.call 151 [(.var 1), (.var 2)]))])] [0, 1, 2, 3, 4, 5, 6] [0, 1, 2, 3, 4, 5, 6] 5 3), (.ifS (.cmp .is (.var 3) (.cst .non)) [(.ret (.var 4))] []), (.ret (.call 21 [(.var 3)]))]⟩
def I__law_lifted : Nat := 155
def D__law_lifted : Def := ⟨2, 4, [(.ifS (.cmp .eq (.len (.var 0)) (.cst (.int 1))) [(.ret (.tup [(.bin .add (.idx (.var 0) (.cst (.int 0))) (.var 1))]))] []), (.ret (.tup [(.bin .add (.idx (.var 0) (.cst (.int 0))) (.var 1)), (.blt .tuple [(.comp (.tup [(.var 2), (.call 155 [(.var 3), (.var 1)])]) (.tp [(.nm 2), (.nm 3)]) .seq [(.idx (.var 0) (.cst (.int 1)))] [] [2, 3])])]))]⟩
def I_power : Nat := 157
def D_power : Def := ⟨2, 4, [(.asg (.nm 2) (.cst (.int 1))), (.forS (.nm 3) .rng1 [(.var 1)] [(.asg (.nm 2) (.bin .mul (.var 2) (.var 0)))]), (.ret (.var 2))]⟩
def I_home_chance : Nat := 158
def D_home_chance : Def := ⟨4, 6, [(.ifS (.cmp .eq (.var 2) (.var 3)) [(.ret (.call 25 [(.var 1), (.var 0)]))] []), (.asg (.nm 4) (.bin .sub (.call 157 [(.var 2), (.var 0)]) (.call 157 [(.var 3), (.var 0)]))), (.asg (.nm 5) (.bin .sub (.call 157 [(.var 2), (.var 1)]) (.call 157 [(.var 3), (.var 1)]))), (.ret (.call 25 [(.bin .mul (.var 5) (.call 157 [(.var 2), (.bin .sub (.var 0) (.var 1))])), (.var 4)]))]⟩
def I_steps_home : Nat := 159
def D_steps_home : Def := ⟨4, 5, [(.ifS (.cmp .eq (.var 2) (.var 3)) [(.ret (.tup [(.bin .mul (.var 1) (.bin .sub (.var 0) (.var 1))), (.cst (.int 1))]))] []), (.asg (.nm 4) (.call 26 [(.tup [(.var 0), (.cst (.int 1))]), (.call 158 [(.var 0), (.var 1), (.var 2), (.var 3)])])), (.ret (.call 26 [(.call 25 [(.bin .add (.var 2) (.var 3)), (.bin .sub (.var 2) (.var 3))]), (.call 25 [(.bin .sub (.idx (.var 4) (.cst (.int 0))) (.bin .mul (.var 1) (.idx (.var 4) (.cst (.int 1))))), (.idx (.var 4) (.cst (.int 1)))])]))]⟩
def I_spread_at : Nat := 161
def D_spread_at : Def := ⟨2, 2, [(.expr (.call 3 [(.var 0)])), (.ret (.call 89 [(.var 0), (.call 73 [(.var 0), (.var 1)])]))]⟩
def I_mean_at : Nat := 162
def D_mean_at : Def := ⟨2, 2, [(.expr (.call 3 [(.var 0)])), (.ret (.call 49 [(.var 0), (.call 73 [(.var 0), (.var 1)])]))]⟩
def I_still_going : Nat := 163
def D_still_going : Def := ⟨2, 4, [(.expr (.call 3 [(.var 0)])), (.asg (.nm 2) (.comp (.var 3) (.nm 3) .seq [(.call 73 [(.var 0), (.var 1)])] [(.band (.cmp .eq (.len (.var 3)) (.var 1)) (.not (.call 27 [(.call 28 [(.var 0), (.var 3)])])))] [3])), (.ret (.call 44 [(.comp (.call 36 [(.var 0), (.var 3)]) (.nm 3) .seq [(.var 2)] [] [3])]))]⟩
def I_step_means : Nat := 164
def D_step_means : Def := ⟨1, 2, [(.expr (.call 3 [(.var 0)])), (.own 1 (.lst [])), (.whl (.cmp .ne (.call 163 [(.var 0), (.len (.var 1))]) (.tup [(.cst (.int 0)), (.cst (.int 1))])) [(.app 1 (.call 41 [(.call 162 [(.var 0), (.bin .add (.len (.var 1)) (.cst (.int 1)))]), (.call 162 [(.var 0), (.len (.var 1))])]))]), (.share [1]), (.ret (.var 1))]⟩
def I_game_text : Nat := 169
def D_game_text : Def := ⟨1, 1, [(.expr (.call 3 [(.var 0)])), (.ret (.call 168 [(.var 0)]))]⟩
def I_number_at : Nat := 170
def D_number_at : Def := ⟨2, 4, [(.asg (.nm 2) (.bin .add (.var 1) (.blt .int [(.cmp .eq (.slc (.var 0) [(.var 1)] [(.bin .add (.var 1) (.cst (.int 1)))]) (.cst (.str "-")))]))), (.asg (.nm 3) (.var 2)), (.whl (.band (.cmp .lt (.var 2) (.len (.var 0))) (.band (.cmp .inn (.idx (.var 0) (.var 2)) (.cst (.str "0123456789"))) (.cmp .lt (.bin .sub (.var 2) (.var 3)) (.cst (.int 2))))) [(.asg (.nm 2) (.bin .add (.var 2) (.cst (.int 1))))]), (.ifS (.cmp .eq (.var 2) (.var 3)) [(.raise 6)] []), (.ret (.tup [(.blt .int [(.slc (.var 0) [(.var 1)] [(.var 2)])]), (.var 2)]))]⟩
def I_game_at : Nat := 171
def D_game_at : Def := ⟨3, 7, [(.ifS (.cmp .eq (.var 2) (.cst (.int 0))) [(.raise 6)] []), (.asg (.tp [(.nm 3), (.nm 1)]) (.call 170 [(.var 0), (.var 1)])), (.ifS (.cmp .ne (.slc (.var 0) [(.var 1)] [(.bin .add (.var 1) (.cst (.int 1)))]) (.cst (.str "("))) [(.ret (.tup [(.tup [(.var 3)]), (.var 1)]))] []), (.own 4 (.lst [])), (.asg (.nm 1) (.bin .add (.var 1) (.cst (.int 1)))), (.whl (.bor (.cmp .eq (.var 4) (.lst [])) (.cmp .eq (.slc (.var 0) [(.var 1)] [(.bin .add (.var 1) (.cst (.int 1)))]) (.cst (.str " ")))) [(.asg (.nm 1) (.bin .add (.var 1) (.blt .int [(.cmp .ne (.var 4) (.lst []))]))), (.asg (.tp [(.nm 5), (.nm 1)]) (.call 170 [(.var 0), (.var 1)])), (.ifS (.cmp .ne (.slc (.var 0) [(.var 1)] [(.bin .add (.var 1) (.cst (.int 1)))]) (.cst (.str ":"))) [(.raise 6)] []), (.asg (.tp [(.nm 6), (.nm 1)]) (.call 171 [(.var 0), (.bin .add (.var 1) (.cst (.int 1))), (.bin .sub (.var 2) (.cst (.int 1)))])), (.app 4 (.tup [(.var 5), (.var 6)]))]), (.ifS (.cmp .ne (.slc (.var 0) [(.var 1)] [(.bin .add (.var 1) (.cst (.int 1)))]) (.cst (.str ")"))) [(.raise 6)] []), (.share [4]), (.ret (.tup [(.tup [(.var 3), (.blt .tuple [(.var 4)])]), (.bin .add (.var 1) (.cst (.int 1)))]))]⟩
def I_read_game : Nat := 172
def D_read_game : Def := ⟨1, 3, [(.asg (.tp [(.nm 1), (.nm 2)]) (.call 171 [(.var 0), (.cst (.int 0)), (.cst (.int 4))])), (.ifS (.bor (.cmp .ne (.var 2) (.len (.var 0))) (.bor (.not (.call 2 [(.var 1)])) (.cmp .ne (.call 168 [(.var 1)]) (.var 0)))) [(.raise 6)] []), (.ret (.var 1))]⟩
def I__law_spoilt : Nat := 173
def D__law_spoilt : Def := ⟨3, 7, [(.asg (.nm 3) (.bin .mod (.var 1) (.bin .add (.len (.var 0)) (.cst (.int 1))))), (.asg (.nm 4) (.idx (.var 2) (.bin .mod (.bin .fdiv (.var 1) (.cst (.int 1000))) (.len (.var 2))))), (.asg (.nm 5) (.bin .add (.bin .add (.var 3) (.cst (.int 1))) (.bin .mod (.bin .fdiv (.var 1) (.cst (.int 7))) (.cst (.int 9))))), (.asg (.nm 6) (.bin .mod (.bin .fdiv (.var 1) (.cst (.int 100000))) (.cst (.int 8)))), (.ifS (.cmp .lt (.var 6) (.cst (.int 2))) [(.ret (.bin .add (.bin .add (.slc (.var 0) [] [(.var 3)]) (.var 4)) (.slc (.var 0) [(.var 3)] [])))] []), (.ifS (.cmp .eq (.var 6) (.cst (.int 2))) [(.ret (.bin .add (.slc (.var 0) [] [(.var 3)]) (.slc (.var 0) [(.bin .add (.var 3) (.cst (.int 1)))] [])))] []), (.ifS (.cmp .lt (.var 6) (.cst (.int 5))) [(.ret (.bin .add (.bin .add (.slc (.var 0) [] [(.var 3)]) (.var 4)) (.slc (.var 0) [(.bin .add (.var 3) (.cst (.int 1)))] [])))] []), (.ifS (.cmp .eq (.var 6) (.cst (.int 5))) [(.ret (.bin .add (.slc (.var 0) [] [(.var 3)]) (.slc (.var 0) [(.var 5)] [])))] []), (.ifS (.cmp .eq (.var 6) (.cst (.int 6))) [(.ret (.bin .add (.slc (.var 0) [] [(.var 5)]) (.slc (.var 0) [(.var 3)] [])))] []), (.ret (.idx (.lst [(.bin .add (.var 0) (.cst (.str " "))), (.bin .add (.cst (.str " ")) (.var 0)), (.bin .add (.slc (.var 0) [(.var 3)] []) (.slc (.var 0) [] [(.var 3)])), (.cst (.str "")), (.bin .add (.var 0) (.var 0))]) (.bin .mod (.var 1) (.cst (.int 5)))))]⟩
def I__law_do_v14 : Nat := 174
def D__law_do_v14 : Def := ⟨2, 5, [(.asg (.nm 2) (.cst .non)), (.asg (.nm 3) (.cst .non)), (.tryKeep [(.asg (.nm 3) (.ite (.cmp .eq (.var 0) (.cst (.int 0))) (.call 169 [(.var 1)]) (.call 172 [(.var 1)])))] [0, 1, 2, 3, 4, 5, 6] [0, 1, 2, 3, 4, 5, 6] 4 2), (.ifS (.cmp .is (.var 2) (.cst .non)) [(.ret (.var 3))] []), (.ret (.call 21 [(.var 2)]))]⟩
def I__law_text : Nat := 175
def D__law_text : Def := ⟨1, 5, [(.asg (.nm 1) (.blt .str [(.idx (.var 0) (.cst (.int 0)))])), (.ifS (.cmp .eq (.len (.var 0)) (.cst (.int 2))) [(.asg (.nm 1) (.bin .add (.var 1) (.cst (.str "(")))), (.forS (.tp [(.nm 2), (.tp [(.nm 3), (.nm 4)])]) .enum [(.idx (.var 0) (.cst (.int 1)))] [(.asg (.nm 1) (.bin .add (.bin .add (.bin .add (.bin .add (.var 1) (.ite (.cmp .gt (.var 2) (.cst (.int 0))) (.cst (.str " ")) (.cst (.str "")))) (.blt .str [(.var 3)])) (.cst (.str ":"))) (.call 175 [(.var 4)])))]), (.asg (.nm 1) (.bin .add (.var 1) (.cst (.str ")"))))] []), (.ret (.var 1))]⟩
def I__law_pick_v2 : Nat := 177
def D__law_pick_v2 : Def := ⟨3, 4, [(.asg (.nm 3) (.bin .mod (.bin .mul (.bin .add (.call 7 [(.var 0), (.var 1)]) (.bin .mul (.cst (.int 6151)) (.bin .add (.var 1) (.cst (.int 1))))) (.cst (.int 40692))) (.cst (.int 2147483399)))), (.ret (.bin .mod (.bin .mod (.bin .add (.bin .mul (.var 3) (.var 3)) (.bin .fdiv (.var 3) (.cst (.int 31)))) (.cst (.int 2147483629))) (.var 2)))]⟩
def I__law_class : Nat := 178
def D__law_class : Def := ⟨1, 2, [(.asg (.nm 1) (.lst [(.blt (.isExc [7] [0, 1, 2, 3, 4, 5, 6, 7]) [(.var 0)]), (.blt (.isExc [4] [0, 1, 2, 3, 4, 5, 6, 7]) [(.var 0)]), (.blt (.isExc [1] [0, 1, 2, 3, 4, 5, 6, 7]) [(.var 0)]), (.blt (.isExc [2] [0, 1, 2, 3, 4, 5, 6, 7]) [(.var 0)])])), (.asg (.nm 1) (.bin .add (.var 1) (.lst [(.blt (.isExc [3] [0, 1, 2, 3, 4, 5, 6, 7]) [(.var 0)]), (.blt (.isExc [6] [0, 1, 2, 3, 4, 5, 6, 7]) [(.var 0)]), (.blt (.isExc [5] [0, 1, 2, 3, 4, 5, 6, 7]) [(.var 0)])]))), (.ifS (.bor (.cmp .ne (.mth .count (.var 1) (.cst (.bl true))) (.cst (.int 1))) (.not (.blt (.isExc [0, 1, 2, 3, 4, 5, 6, 7] [0, 1, 2, 3, 4, 5, 6, 7]) [(.var 0)]))) [(.ret (.cst (.str "wrong")))] []), (.ret (.idx (.lst [(.cst (.str "no back")), (.cst (.str "no bets")), (.cst (.str "no game")), (.cst (.str "no path")), (.cst (.str "no rule")), (.cst (.str "no text")), (.cst (.str "unpaid"))]) (.mth .index (.var 1) (.cst (.bl true)))))]⟩
def I__law_do_v15 : Nat := 181
def D__law_do_v15 : Def := ⟨3, 6, [(.asg (.nm 3) (.cst .non)), (.asg (.nm 4) (.cst .non)), (.tryKeep [(.ifS (.cmp .lt (.var 0) (.cst (.int 4))) [(.asg (.nm 4) (.callv (.idx (.lst [(.cst (.fn 31)), (.cst (.fn 32)), (.cst (.fn 37)), (.cst (.fn 93))]) (.var 0)) [(.var 1), (.var 2)] [31, 32, 37, 93, 49, 117, 125, 142, 143]))] [(.ifS (.cmp .lt (.var 0) (.cst (.int 6))) [(.asg (.nm 4) (.callv (.idx (.lst [(.cst (.fn 49)), (.cst (.fn 117))]) (.bin .sub (.var 0) (.cst (.int 4)))) [(.var 1), (.var 2)] [31, 32, 37, 93, 49, 117, 125, 142, 143]))] [(.ifS (.cmp .eq (.var 0) (.cst (.int 6))) [(.asg (.nm 4) (.call 66 [(.var 1), (.var 2), (.var 2)]))] [(.asg (.nm 4) (.callv (.idx (.lst [(.cst (.fn 125)), (.cst (.fn 142)), (.cst (.fn 143))]) (.bin .sub (.var 0) (.cst (.int 7)))) [(.var 1), (.var 2)] [31, 32, 37, 93, 49, 117, 125, 142, 143]))])])])] [0, 1, 2, 3, 4, 5, 6] [0, 1, 2, 3, 4, 5, 6] 5 3), (.ifS (.cmp .is (.var 3) (.cst .non)) [(.ret (.var 4))] []), (.ret (.call 21 [(.var 3)]))]⟩
def I__law_lists : Nat := 182
def D__law_lists : Def := ⟨2, 3, [(.asg (.nm 2) (.lst [(.call 6 [(.var 0)]), (.call 34 [(.var 0)]), (.call 59 [(.var 0)]), (.call 61 [(.var 0)]), (.call 105 [(.var 0)]), (.call 106 [(.var 0)]), (.call 113 [(.var 0)])])), (.ret (.bin .add (.var 2) (.lst [(.call 125 [(.var 0), (.var 1)])])))]⟩
def I_looked : Nat := 184
def D_looked : Def := ⟨1, 1, [(.expr (.call 3 [(.var 0)])), (.ret (.var 0))]⟩
def I_with_part : Nat := 185
def D_with_part : Def := ⟨3, 3, [(.expr (.call 3 [(.var 0)])), (.expr (.call 3 [(.var 2)])), (.expr (.call 30 [(.var 0), (.var 1)])), (.ret (.call 184 [(.call 80 [(.var 0), (.var 1), (.var 2)])]))]⟩
def I_with_worth : Nat := 186
def D_with_worth : Def := ⟨3, 3, [(.expr (.call 3 [(.var 0)])), (.expr (.call 30 [(.var 0), (.var 1)])), (.ret (.call 184 [(.call 80 [(.var 0), (.var 1), (.bin .add (.tup [(.var 2)]) (.slc (.call 28 [(.var 0), (.var 1)]) [(.cst (.int 1))] []))])]))]⟩
def I_raised : Nat := 188
def D_raised : Def := ⟨2, 4, [(.ifS (.cmp .eq (.len (.var 0)) (.cst (.int 1))) [(.ret (.tup [(.bin .add (.idx (.var 0) (.cst (.int 0))) (.var 1))]))] []), (.ret (.tup [(.bin .add (.idx (.var 0) (.cst (.int 0))) (.var 1)), (.blt .tuple [(.comp (.tup [(.var 2), (.call 188 [(.var 3), (.var 1)])]) (.tp [(.nm 2), (.nm 3)]) .seq [(.idx (.var 0) (.cst (.int 1)))] [] [2, 3])])]))]⟩
def I_lifted : Nat := 189
def D_lifted : Def := ⟨2, 2, [(.expr (.call 3 [(.var 0)])), (.ret (.call 184 [(.call 188 [(.var 0), (.var 1)])]))]⟩
def I_variance : Nat := 193
def D_variance : Def := ⟨2, 6, [(.expr (.call 3 [(.var 0)])), (.expr (.call 48 [(.var 0), (.var 1)])), (.asg (.nm 2) (.call 49 [(.var 0), (.var 1)])), (.asg (.nm 3) (.call 44 [(.comp (.call 26 [(.tup [(.bin .mul (.var 4) (.var 4)), (.cst (.int 1))]), (.var 5)]) (.tp [(.nm 4), (.nm 5)]) .seq [(.call 88 [(.var 0), (.var 1)])] [] [4, 5])])), (.ret (.call 41 [(.var 3), (.call 26 [(.var 2), (.var 2)])]))]⟩
def I_how_long : Nat := 194
def D_how_long : Def := ⟨2, 3, [(.expr (.call 3 [(.var 0)])), (.expr (.call 48 [(.var 0), (.var 1)])), (.ret (.call 44 [(.comp (.call 26 [(.tup [(.len (.var 2)), (.cst (.int 1))]), (.call 36 [(.var 0), (.var 2)])]) (.nm 2) .seq [(.var 1)] [] [2])]))]⟩
def I_likeliest : Nat := 196
def D_likeliest : Def := ⟨1, 4, [(.expr (.call 3 [(.var 0)])), (.asg (.nm 1) (.cst .non)), (.forS (.nm 2) .seq [(.call 33 [(.var 0)])] [(.asg (.nm 3) (.call 36 [(.var 0), (.var 2)])), (.ifS (.bor (.cmp .is (.var 1) (.cst .non)) (.cmp .lt (.bin .mul (.idx (.idx (.var 1) (.cst (.int 0))) (.cst (.int 0))) (.idx (.var 3) (.cst (.int 1)))) (.bin .mul (.idx (.var 3) (.cst (.int 0))) (.idx (.idx (.var 1) (.cst (.int 0))) (.cst (.int 1)))))) [(.asg (.nm 1) (.tup [(.var 3), (.var 2)]))] [])]), (.ret (.idx (.var 1) (.cst (.int 1))))]⟩
def I_chance_above : Nat := 197
def D_chance_above : Def := ⟨3, 8, [(.expr (.call 3 [(.var 0)])), (.expr (.call 48 [(.var 0), (.var 1)])), (.expr (.call 48 [(.var 0), (.var 2)])), (.own 3 (.lst [])), (.forS (.nm 4) .seq [(.call 33 [(.var 0)])] [(.asg (.nm 5) (.idx (.comp (.var 6) (.nm 6) .seq [(.var 1)] [(.cmp .eq (.slc (.var 4) [] [(.len (.var 6))]) (.var 6))] [6]) (.cst (.int 0)))), (.asg (.nm 7) (.idx (.comp (.var 6) (.nm 6) .seq [(.var 2)] [(.cmp .eq (.slc (.var 4) [] [(.len (.var 6))]) (.var 6))] [6]) (.cst (.int 0)))), (.ifS (.cmp .gt (.idx (.call 28 [(.var 0), (.var 5)]) (.cst (.int 0))) (.idx (.call 28 [(.var 0), (.var 7)]) (.cst (.int 0)))) [(.app 3 (.call 36 [(.var 0), (.var 4)]))] [])]), (.share [3]), (.ret (.call 44 [(.var 3)]))]⟩
def I__law_deed : Nat := 202
def D__law_deed : Def := ⟨3, 4, [(.asg (.nm 3) (.call 8 [(.var 0), (.var 1), (.cst (.int 5))])), (.ifS (.cmp .lt (.var 3) (.cst (.int 2))) [(.ret (.tup [(.cst (.str "bet")), (.bin .sub (.call 8 [(.var 0), (.bin .add (.var 1) (.cst (.int 1))), (.cst (.int 13))]) (.cst (.int 6)))]))] []), (.ret (.tup [(.cst (.str "go")), (.call 8 [(.var 0), (.bin .add (.var 1) (.cst (.int 1))), (.ite (.cmp .eq (.len (.var 2)) (.cst (.int 2))) (.bin .add (.len (.idx (.var 2) (.cst (.int 1)))) (.blt .int [(.cmp .eq (.var 3) (.cst (.int 4)))])) (.cst (.int 2)))])]))]⟩
def I__law_behind : Nat := 203
def D__law_behind : Def := ⟨3, 8, [(.asg (.tp [(.nm 3), (.nm 4), (.nm 5)]) (.var 1)), (.ifS (.cmp .eq (.idx (.var 2) (.cst (.int 0))) (.cst (.str "bet"))) [(.ret (.tup [(.tup [(.var 3), (.idx (.var 2) (.cst (.int 1))), (.var 5)]), (.var 4)]))] []), (.asg (.nm 6) (.call 204 [(.var 0), (.var 3)])), (.ifS (.bor (.cmp .eq (.len (.var 6)) (.cst (.int 1))) (.cmp .ge (.idx (.var 2) (.cst (.int 1))) (.len (.idx (.var 6) (.cst (.int 1)))))) [(.ret (.tup [(.var 1), (.cst (.str "no path"))]))] []), (.asg (.nm 7) (.bin .mul (.var 4) (.bin .sub (.idx (.idx (.idx (.idx (.var 6) (.cst (.int 1))) (.idx (.var 2) (.cst (.int 1)))) (.cst (.int 1))) (.cst (.int 0))) (.idx (.var 6) (.cst (.int 0)))))), (.ret (.tup [(.tup [(.bin .add (.var 3) (.tup [(.idx (.var 2) (.cst (.int 1)))])), (.var 4), (.bin .add (.var 5) (.var 7))]), (.var 7)]))]⟩
def I__law_there : Nat := 204
def D__law_there : Def := ⟨2, 3, [(.forS (.nm 2) .seq [(.var 1)] [(.asg (.nm 0) (.idx (.idx (.idx (.var 0) (.cst (.int 1))) (.var 2)) (.cst (.int 1))))]), (.ret (.var 0))]⟩
def I_number_in : Nat := 211
def D_number_in : Def := ⟨1, 3, [(.asg (.nm 1) (.ite (.cmp .eq (.slc (.var 0) [] [(.cst (.int 1))]) (.cst (.str "-"))) (.slc (.var 0) [(.cst (.int 1))] []) (.var 0))), (.ifS (.bor (.not (.chain .le .le (.cst (.int 1)) (.len (.var 1)) (.cst (.int 2)))) (.not (.blt .all [(.comp (.cmp .inn (.var 2) (.cst (.str "0123456789"))) (.nm 2) .seq [(.var 1)] [] [2])]))) [(.raise 6)] []), (.ret (.blt .int [(.var 0)]))]⟩
def I__law_spoilt_v2 : Nat := 215
def D__law_spoilt_v2 : Def := ⟨3, 7, [(.asg (.nm 3) (.bin .mod (.var 1) (.bin .add (.len (.var 0)) (.cst (.int 1))))), (.asg (.nm 4) (.idx (.var 2) (.bin .mod (.bin .fdiv (.var 1) (.cst (.int 1000))) (.len (.var 2))))), (.asg (.nm 5) (.bin .add (.bin .add (.var 3) (.cst (.int 1))) (.bin .mod (.bin .fdiv (.var 1) (.cst (.int 7))) (.cst (.int 9))))), (.asg (.nm 6) (.bin .mod (.bin .fdiv (.var 1) (.cst (.int 100000))) (.cst (.int 8)))), (.ifS (.cmp .lt (.var 6) (.cst (.int 2))) [(.ret (.bin .add (.bin .add (.slc (.var 0) [] [(.var 3)]) (.var 4)) (.slc (.var 0) [(.var 3)] [])))] []), (.ifS (.cmp .eq (.var 6) (.cst (.int 2))) [(.ret (.bin .add (.slc (.var 0) [] [(.var 3)]) (.slc (.var 0) [(.bin .add (.var 3) (.cst (.int 1)))] [])))] []), (.ifS (.cmp .lt (.var 6) (.cst (.int 5))) [(.ret (.bin .add (.bin .add (.slc (.var 0) [] [(.var 3)]) (.var 4)) (.slc (.var 0) [(.bin .add (.var 3) (.cst (.int 1)))] [])))] []), (.ifS (.cmp .eq (.var 6) (.cst (.int 5))) [(.ret (.bin .add (.slc (.var 0) [] [(.var 3)]) (.slc (.var 0) [(.var 5)] [])))] []), (.ifS (.cmp .eq (.var 6) (.cst (.int 6))) [(.ret (.bin .add (.slc (.var 0) [] [(.var 5)]) (.slc (.var 0) [(.var 3)] [])))] []), (.ret (.idx (.lst [(.bin .add (.var 0) (.cst (.str " "))), (.bin .add (.cst (.str " ")) (.var 0)), (.bin .add (.slc (.var 0) [(.var 3)] []) (.slc (.var 0) [] [(.var 3)])), (.cst (.str "")), (.bin .add (.var 0) (.var 0))]) (.bin .mod (.var 1) (.cst (.int 5)))))]⟩
def I__law_stays : Nat := 218
def D__law_stays : Def := ⟨1, 3, [(.asg (.nm 1) (.callv (.var 0) [] [])), (.share [1]), (.ifS (.not (.blt .isList [(.var 1)])) [(.ret (.cst (.bl false)))] []), (.share [1]), (.asg (.nm 2) (.blt .list [(.var 1)])), (.app 1 (.cst (.str "?"))), (.ret (.cmp .eq (.callv (.var 0) [] []) (.var 2)))]⟩
def I__law_both_v2 : Nat := 223
def D__law_both_v2 : Def := ⟨3, 4, [(.asg (.nm 3) (.bin .add (.idx (.var 0) (.cst (.int 0))) (.idx (.var 0) (.cst (.int 1))))), (.ret (.call 14 [(.lst [(.call 15 [(.tup [(.idx (.var 0) (.cst (.int 0))), (.var 3)]), (.var 1)]), (.call 15 [(.tup [(.idx (.var 0) (.cst (.int 1))), (.var 3)]), (.var 2)])])]))]⟩
def I__law_all_go : Nat := 224
def D__law_all_go : Def := ⟨5, 10, [(.asg (.nm 5) (.call 8 [(.var 0), (.cst (.int 905)), (.cst (.int 4))])), (.ifS (.cmp .ne (.call 162 [(.var 1), (.bin .add (.var 5) (.cst (.int 1)))]) (.call 223 [(.var 4), (.call 162 [(.var 2), (.var 5)]), (.call 162 [(.var 3), (.var 5)])])) [(.ret (.cst (.bl false)))] []), (.ifS (.cmp .ne (.call 163 [(.var 1), (.bin .add (.var 5) (.cst (.int 1)))]) (.call 223 [(.var 4), (.call 163 [(.var 2), (.var 5)]), (.call 163 [(.var 3), (.var 5)])])) [(.ret (.cst (.bl false)))] []), (.ifS (.cmp .ne (.len (.call 164 [(.var 1)])) (.bin .add (.cst (.int 1)) (.blt .max2 [(.len (.call 164 [(.var 2)])), (.len (.call 164 [(.var 3)]))]))) [(.ret (.cst (.bl false)))] []), (.ifS (.cmp .ne (.call 162 [(.var 1), (.cst (.int 0))]) (.tup [(.idx (.var 1) (.cst (.int 0))), (.cst (.int 1))])) [(.ret (.cst (.bl false)))] []), (.par [6, 7, 8] [(.blt (.dict true) [(.call 90 [(.var 2)])]), (.blt (.dict true) [(.call 90 [(.var 3)])]), (.lst [])]), (.forS (.nm 9) .seq [(.blt .sortedSet [(.bin .add (.blt .list [(.var 6)]) (.blt .list [(.var 7)]))])] [(.app 8 (.tup [(.var 9), (.call 223 [(.var 4), (.get2 (.var 6) (.var 9) (.tup [(.cst (.int 0)), (.cst (.int 1))])), (.get2 (.var 7) (.var 9) (.tup [(.cst (.int 0)), (.cst (.int 1))]))])]))]), (.ret (.band (.cmp .eq (.call 90 [(.var 1)]) (.var 8)) (.cmp .eq (.len (.call 34 [(.var 1)])) (.bin .add (.len (.call 34 [(.var 2)])) (.len (.call 34 [(.var 3)]))))))]⟩
end Fz

/-! the evaluator's equations, for simp -/
namespace Fz
open PySem
section
variable {α β : Type} {F : Fns} {env : Cells} {a b d t : E} {e : E} {es : List E} {i n : Nat}
@[simp] theorem bind_ok_ (x : α) (k : α → Res β) : (Res.ok x).bind k = k x := rfl
@[simp] theorem bind_ex_ (c : Nat) (k : α → Res β) : (Res.ex c : Res α).bind k = .ex c := rfl
@[simp] theorem bind_no_ (k : α → Res β) : (Res.no : Res α).bind k = .no := rfl
@[simp] theorem noex_ok_ (x : α) : (Res.ok x).noex = .ok x := rfl
@[simp] theorem flOf_ok_ (x : α) (k : α → Fl) : flOf (.ok x) env k = k x := rfl
@[simp] theorem flOf_ex_ (c : Nat) (k : α → Fl) : flOf (.ex c : Res α) env k = .ex c env := rfl
@[simp] theorem flOf_no_ (k : α → Fl) : flOf (.no : Res α) env k = .no := rfl
@[simp] theorem finF_nx_ : finF (.nx env) = .ok .non := rfl
@[simp] theorem finF_rt_ (t : T) : finF (.rt t) = .ok t := rfl
@[simp] theorem finF_ex_ (c : Nat) : finF (.ex c env) = .ex c := rfl
@[simp] theorem finF_no_ : finF .no = .no := rfl
@[simp] theorem ev_var_ : ev F (.var i) env = rd env i := by rw [ev]
@[simp] theorem ev_cst_ (t : T) : ev F (.cst t) env = .ok t := by rw [ev]
@[simp] theorem ev_bin_ (op : Bop) : ev F (.bin op a b) env = (ev F a env).bind fun x => (ev F b env).bind fun y => binop op x y := by rw [ev]
@[simp] theorem ev_neg_ : ev F (.neg a) env = (ev F a env).bind negT := by rw [ev]
@[simp] theorem ev_cmp_ (op : Cop) : ev F (.cmp op a b) env = (rdB env a (ev F a env)).bind fun x => (rdB env b (ev F b env)).bind fun y => cmpT op x y := by rw [ev]
@[simp] theorem ev_chain_ (o1 o2 : Cop) : ev F (.chain o1 o2 a b d) env = (ev F a env).bind fun x => (ev F b env).bind fun y => (cmpT o1 x y).bind fun z =>
      (match z with | .bl true => (ev F d env).bind fun u => cmpT o2 y u | .bl false => .ok (.bl false) | _ => .no) := by rw [ev] <;> rfl
@[simp] theorem ev_band_ : ev F (.band a b) env = (ev F a env).bind fun x => (truT x).bind fun k => if k then ev F b env else .ok x := by rw [ev]
@[simp] theorem ev_bor_ : ev F (.bor a b) env = (ev F a env).bind fun x => (truT x).bind fun k => if k then .ok x else ev F b env := by rw [ev]
@[simp] theorem ev_not_ : ev F (.not a) env = (rdB env a (ev F a env)).bind fun x => (truT x).bind fun k => .ok (.bl (!k)) := by rw [ev]
@[simp] theorem ev_ite_ : ev F (.ite t a b) env = (ev F t env).bind fun x => (truT x).bind fun k => if k then ev F a env else ev F b env := by rw [ev]
@[simp] theorem ev_tup_ : ev F (.tup es) env = (evs F es env).bind fun ts => .ok (.tup ts) := by rw [ev]
@[simp] theorem ev_lst_ : ev F (.lst es) env = (evs F es env).bind fun ts => .ok (.lst ts) := by rw [ev]
@[simp] theorem ev_len_ : ev F (.len a) env = (rdB env a (ev F a env)).bind lenT := by rw [ev]
@[simp] theorem ev_idx_ : ev F (.idx a b) env = (ev F a env).bind fun x => (ev F b env).bind fun y => idxT x y := by rw [ev]
@[simp] theorem ev_idxV_ : ev F (.idxV i a) env = (rdAny env i).bind fun x => (ev F a env).bind fun y => idxT x y := by rw [ev]
@[simp] theorem ev_slc_ (lo hi : List E) : ev F (.slc a lo hi) env = (ev F a env).bind fun x => (evs F lo env).bind fun l => (partT l).bind fun lo' => (evs F hi env).bind fun h => (partT h).bind fun hi' => slcT x lo' hi' := by rw [ev]
@[simp] theorem ev_rev_ : ev F (.rev a) env = (ev F a env).bind revT := by rw [ev]
@[simp] theorem ev_call_ (f : Nat) : ev F (.call f es) env = (evs F es env).bind fun ts => F f ts := by rw [ev]
@[simp] theorem ev_blt_ (b : Blt) : ev F (.blt b es) env = (evs F es env).bind fun ts => bltT b ts := by rw [ev]
@[simp] theorem ev_callv_ (fs : List Nat) : ev F (.callv a es fs) env = (ev F a env).bind fun x => (match x with | .fn f => if fs.contains f then (evs F es env).bind fun ts => F f ts else .no | _ => .no) := by rw [ev] <;> rfl
@[simp] theorem ev_dnew_ (tk : Bool) : ev F (.dnew tk) env = .ok (.dct tk []) := by rw [ev]
@[simp] theorem ev_mth_ (b : Blt) : ev F (.mth b a d) env = (ev F a env).bind fun x => (match x with | .lst l => (ev F d env).bind fun y => bltT b [.lst l, y] | _ => .no) := by rw [ev] <;> rfl
@[simp] theorem rdB_idx2_ (r : Res T) : rdB env (.callv a es []) r = r := rfl
@[simp] theorem evs_nil_ : evs F [] env = .ok [] := by rw [evs]
@[simp] theorem evs_cons_ : evs F (e :: es) env = (ev F e env).bind fun t => (evs F es env).bind fun ts => .ok (t :: ts) := by rw [evs]
/-- one turn of a comprehension -/
def turn1 (F : Fns) (elt : E) (tg : Tg) (cond : List E) (own : List Nat) (env : Cells) (x : T) : Res (Option T) :=
  match asgT tg x (wipeC env own) with
  | some env' => (evs F cond env').noex.bind fun cs => (match cs with
    | [] => (ev F elt env').noex.bind fun t => .ok (some t)
    | [b] => (truT b).bind fun k => if k then (ev F elt env').noex.bind fun t => .ok (some t) else .ok none
    | _ => .no)
  | none => .no
@[simp] theorem ev_comp_ (tg : Tg) (ik : IK) (its cond : List E) (own : List Nat) : ev F (.comp e tg ik its cond own) env = (evs F its env).bind fun as => (itemsT ik as).bind fun xs => (compL (turn1 F e tg cond own env) xs).bind fun ts => .ok (.lst ts) := by
  rw [ev] <;> rfl
@[simp] theorem exec_asg_ (tg : Tg) : exec F (.asg tg e) env = flOf (ev F e env) env fun t => (match asgT tg t env with | some env' => .nx env' | none => .no) := by rw [exec] <;> rfl
@[simp] theorem exec_own_ : exec F (.own i e) env = flOf (ev F e env) env fun t => .nx (env.set i (.ow t)) := by rw [exec]
@[simp] theorem exec_par_ (is : List Nat) : exec F (.par is es) env = flOf (evs F es env) env fun ts => .nx (setAll env is ts) := by rw [exec]
@[simp] theorem exec_share_ (is : List Nat) : exec F (.share is) env = .nx (shareC env is) := by rw [exec]
@[simp] theorem exec_app_ : exec F (.app i e) env = (match env[i]? with
      | some (.ow (.lst xs)) => flOf (ev F e env) env fun t => if xs.length < SZ then .nx (env.set i (.ow (.lst (xs ++ [t])))) else .no
      | _ => .no) := by rw [exec] <;> rfl
@[simp] theorem exec_ext_ : exec F (.ext i e) env = (match env[i]? with
      | some (.ow (.lst xs)) => flOf (ev F e env) env fun t => (match t with
        | .lst ys => if xs.length + ys.length ≤ SZ then .nx (env.set i (.ow (.lst (xs ++ ys)))) else .no
        | _ => .no)
      | _ => .no) := by rw [exec] <;> rfl
@[simp] theorem exec_setI_ : exec F (.setI i a e) env = flOf (ev F e env) env fun t => (match env[i]? with
      | some (.ow (.lst xs)) => flOf (ev F a env) env fun j => (match j with
        | .int n => if 0 ≤ n ∧ n < xs.length then .nx (env.set i (.ow (.lst (xs.set n.toNat t)))) else .no
        | _ => .no)
      | some (.ow (.dct tk kvs)) => flOf (ev F a env) env fun j => if keyOk tk j && decide (kvs.length < 1000) then .nx (env.set i (.ow (.dct tk (putD kvs j t)))) else .no
      | _ => .no) := by rw [exec] <;> rfl
@[simp] theorem exec_expr_ : exec F (.expr e) env = flOf (ev F e env) env fun _ => .nx env := by rw [exec]
@[simp] theorem exec_ifS_ (x y : List S) : exec F (.ifS t x y) env = flOf ((ev F t env).bind truT) env fun k => if k then execs F x env else execs F y env := by rw [exec]
@[simp] theorem exec_whl_ (x : List S) : exec F (.whl t x) env = whileF (fun env => (ev F t env).bind truT) (execs F x) FUEL env := by rw [exec]
/-- one turn of a for -/
def forB (F : Fns) (tg : Tg) (ss : List S) (env : Cells) (x : T) : Fl := match asgT tg x env with | some env' => execs F ss env' | none => .no
@[simp] theorem forB_ (tg : Tg) (ss : List S) (x : T) : forB F tg ss env x = (match asgT tg x env with | some env' => execs F ss env' | none => .no) := rfl
@[simp] theorem exec_forS_ (tg : Tg) (ik : IK) (x : List S) : exec F (.forS tg ik es x) env = flOf ((evs F es env).bind fun as => itemsT ik as) env fun xs => forF (forB F tg x) xs env := by rw [exec] <;> rfl
@[simp] theorem exec_ret_ : exec F (.ret e) env = flOf (ev F e env) env fun t => .rt t := by rw [exec]
@[simp] theorem exec_retN_ : exec F .retN env = .rt .non := by rw [exec]
@[simp] theorem exec_raise_ (c : Nat) : exec F (.raise c) env = .ex c env := by rw [exec]
@[simp] theorem exec_pass_ : exec F .pass env = .nx env := by rw [exec]
@[simp] theorem execs_nil_ : execs F [] env = .nx env := by rw [execs]
@[simp] theorem execs_cons_ (s : S) (ss : List S) : execs F (s :: ss) env = (match exec F s env with | .nx env' => execs F ss env' | r => r) := by rw [execs] <;> rfl
@[simp] theorem rd_ : rd env i = (match env[i]? with | some (.sh t) => .ok t | _ => .no) := rfl
@[simp] theorem rdAny_ : rdAny env i = (match env[i]? with | some (.sh t) => .ok t | some (.ow t) => .ok t | _ => .no) := rfl
@[simp] theorem rdB_var_ (r : Res T) : rdB env (.var i) r = rdAny env i := rfl
@[simp] theorem rdB_cst_ (t : T) (r : Res T) : rdB env (.cst t) r = r := rfl
@[simp] theorem rdB_bin_ (op : Bop) (r : Res T) : rdB env (.bin op a b) r = r := rfl
@[simp] theorem rdB_neg_ (r : Res T) : rdB env (.neg a) r = r := rfl
@[simp] theorem rdB_cmp_ (op : Cop) (r : Res T) : rdB env (.cmp op a b) r = r := rfl
@[simp] theorem rdB_not_ (r : Res T) : rdB env (.not a) r = r := rfl
@[simp] theorem rdB_ite_ (r : Res T) : rdB env (.ite t a b) r = r := rfl
@[simp] theorem rdB_tup_ (r : Res T) : rdB env (.tup es) r = r := rfl
@[simp] theorem rdB_lst_ (r : Res T) : rdB env (.lst es) r = r := rfl
@[simp] theorem rdB_len_ (r : Res T) : rdB env (.len a) r = r := rfl
@[simp] theorem rdB_idx_ (r : Res T) : rdB env (.idx a b) r = r := rfl
@[simp] theorem rdB_idxV_ (r : Res T) : rdB env (.idxV i a) r = r := rfl
@[simp] theorem rdB_slc_ (l h : List E) (r : Res T) : rdB env (.slc a l h) r = r := rfl
@[simp] theorem rdB_rev_ (r : Res T) : rdB env (.rev a) r = r := rfl
@[simp] theorem rdB_call_ (f : Nat) (r : Res T) : rdB env (.call f es) r = r := rfl
@[simp] theorem rdB_blt_ (b : Blt) (r : Res T) : rdB env (.blt b es) r = r := rfl
@[simp] theorem rdB_band_ (r : Res T) : rdB env (.band a b) r = r := rfl
@[simp] theorem rdB_bor_ (r : Res T) : rdB env (.bor a b) r = r := rfl
@[simp] theorem rdB_chain_ (o1 o2 : Cop) (r : Res T) : rdB env (.chain o1 o2 a b d) r = r := rfl
@[simp] theorem rdB_comp_ (tg : Tg) (ik : IK) (its cond : List E) (own : List Nat) (r : Res T) : rdB env (.comp e tg ik its cond own) r = r := rfl
end
section
variable {env : Cells} {x y : T} {xs ys : List T} {i j : Int}
@[simp] theorem add_ii_ : binop .add (.int i) (.int j) = .ok (.int (i + j)) := rfl
@[simp] theorem sub_ii_ : binop .sub (.int i) (.int j) = .ok (.int (i - j)) := rfl
@[simp] theorem mul_ii_ : binop .mul (.int i) (.int j) = if mulOk i j then .ok (.int (i * j)) else .no := rfl
@[simp] theorem fdiv_ii_ : binop .fdiv (.int i) (.int j) = if divOk j then .ok (.int (i.fdiv j)) else .no := rfl
@[simp] theorem mod_ii_ : binop .mod (.int i) (.int j) = if j = 0 then .no else .ok (.int (i.fmod j)) := rfl
@[simp] theorem add_tt_ : binop .add (.tup xs) (.tup ys) = if xs.length + ys.length ≤ SZ then .ok (.tup (xs ++ ys)) else .no := rfl
@[simp] theorem add_ll_ : binop .add (.lst xs) (.lst ys) = if xs.length + ys.length ≤ SZ then .ok (.lst (xs ++ ys)) else .no := rfl
@[simp] theorem add_ss_ (a b : Str) : binop .add (.str a) (.str b) = if a.length + b.length ≤ SZ then .ok (.str (a ++ b)) else .no := rfl
@[simp] theorem neg_i_ : negT (.int i) = .ok (.int (-i)) := rfl
@[simp] theorem cmp_eq_ : cmpT .eq x y = if x.plain 60 && y.plain 60 then .ok (.bl (T.eqv x y)) else .no := by rw [cmpT]
@[simp] theorem cmp_ne_ : cmpT .ne x y = if x.plain 60 && y.plain 60 then .ok (.bl (!T.eqv x y)) else .no := by rw [cmpT]
@[simp] theorem cmp_lt_ : cmpT .lt (.int i) (.int j) = .ok (.bl (decide (i < j))) := rfl
@[simp] theorem cmp_le_ : cmpT .le (.int i) (.int j) = .ok (.bl (decide (i ≤ j))) := rfl
@[simp] theorem cmp_gt_ : cmpT .gt (.int i) (.int j) = .ok (.bl (decide (j < i))) := rfl
@[simp] theorem cmp_ge_ : cmpT .ge (.int i) (.int j) = .ok (.bl (decide (j ≤ i))) := rfl
@[simp] theorem cmp_is_ : cmpT .is x y = (isSame x y).bind fun k => .ok (.bl k) := by rw [cmpT]
@[simp] theorem cmp_isNot_ : cmpT .isNot x y = (isSame x y).bind fun k => .ok (.bl (!k)) := by rw [cmpT]
@[simp] theorem tru_non_ : truT .non = .ok false := rfl
@[simp] theorem tru_bl_ (b : Bool) : truT (.bl b) = .ok b := rfl
@[simp] theorem tru_int_ : truT (.int i) = .ok (i != 0) := rfl
@[simp] theorem tru_tup_ : truT (.tup xs) = .ok (!xs.isEmpty) := rfl
@[simp] theorem tru_lst_ : truT (.lst xs) = .ok (!xs.isEmpty) := rfl
@[simp] theorem asg_nm_ (k : Nat) : asgT (.nm k) x env = some (env.set k (.sh x)) := by rw [asgT]
@[simp] theorem asg_tp_ (l : List Tg) : asgT (.tp l) x env = (match seqOf x with | some xs => asgTs l xs env | none => none) := by rw [asgT] <;> rfl
@[simp] theorem asgs_nil_ : asgTs [] [] env = some env := by rw [asgTs]
@[simp] theorem asgs_cons_ (g : Tg) (gs : List Tg) : asgTs (g :: gs) (x :: xs) env = (match asgT g x env with | some env' => asgTs gs xs env' | none => none) := by rw [asgTs] <;> rfl
@[simp] theorem seq_lst_ : seqOf (.lst xs) = some xs := rfl
@[simp] theorem seq_tup_ : seqOf (.tup xs) = some xs := rfl
@[simp] theorem setAll_nil_ (ts : List T) : setAll env [] ts = env := by cases ts <;> rfl
@[simp] theorem setAll_cons_ (k : Nat) (is : List Nat) (ts : List T) : setAll env (k :: is) (x :: ts) = setAll (env.set k (.sh x)) is ts := rfl
@[simp] theorem len_l_ : lenT (.lst xs) = .ok (.int xs.length) := rfl
@[simp] theorem len_t_ : lenT (.tup xs) = .ok (.int xs.length) := rfl
@[simp] theorem idx_l_ : idxT (.lst xs) (.int i) = atT xs i := rfl
@[simp] theorem idx_t_ : idxT (.tup xs) (.int i) = atT xs i := rfl
@[simp] theorem eqv_ii_ : T.eqv (.int i) (.int j) = (i == j) := by rw [T.eqv]
@[simp] theorem eqv_bb_ (a b : Bool) : T.eqv (.bl a) (.bl b) = (a == b) := by rw [T.eqv]
@[simp] theorem eqv_tt_ : T.eqv (.tup xs) (.tup ys) = T.eqvs xs ys := by rw [T.eqv]
@[simp] theorem eqv_ll_ : T.eqv (.lst xs) (.lst ys) = T.eqvs xs ys := by rw [T.eqv]
@[simp] theorem eqv_lt_ : T.eqv (.lst xs) (.tup ys) = false := by simp [T.eqv]
@[simp] theorem eqv_tl_ : T.eqv (.tup xs) (.lst ys) = false := by simp [T.eqv]
@[simp] theorem eqvs_nil_ : T.eqvs [] [] = true := by rw [T.eqvs]
@[simp] theorem eqvs_cons_ : T.eqvs (x :: xs) (y :: ys) = (T.eqv x y && T.eqvs xs ys) := by rw [T.eqvs]
@[simp] theorem eqvs_nc_ : T.eqvs [] (y :: ys) = false := by simp [T.eqvs]
@[simp] theorem eqvs_cn_ : T.eqvs (x :: xs) [] = false := by simp [T.eqvs]
@[simp] theorem plain_int_ (n : Nat) : T.plain (.int i) n = true := by simp [T.plain]
@[simp] theorem plain_bl_ (b : Bool) (n : Nat) : T.plain (.bl b) n = true := by simp [T.plain]
@[simp] theorem plain_non_ (n : Nat) : T.plain .non n = true := by simp [T.plain]
@[simp] theorem plain_tup_ (n : Nat) : T.plain (.tup xs) (n + 1) = T.plains xs n := by simp [T.plain]
@[simp] theorem plain_lst_ (n : Nat) : T.plain (.lst xs) (n + 1) = T.plains xs n := by simp [T.plain]
@[simp] theorem plains_nil_ (n : Nat) : T.plains [] n = true := by simp [T.plains]
@[simp] theorem plains_cons_ (n : Nat) : T.plains (x :: xs) n = (x.plain n && T.plains xs n) := by simp [T.plains]
@[simp] theorem blt_abs_ : bltT .abs [.int i] = .ok (.int (if i < 0 then -i else i)) := rfl
@[simp] theorem blt_max2_ : bltT .max2 [.int i, .int j] = .ok (.int (if j > i then j else i)) := rfl
@[simp] theorem blt_min2_ : bltT .min2 [.int i, .int j] = .ok (.int (if j < i then j else i)) := rfl
@[simp] theorem blt_list_l_ : bltT .list [.lst xs] = .ok (.lst xs) := rfl
@[simp] theorem blt_list_t_ : bltT .list [.tup xs] = .ok (.lst xs) := rfl
@[simp] theorem blt_tuple_l_ : bltT .tuple [.lst xs] = .ok (.tup xs) := rfl
@[simp] theorem blt_tuple_t_ : bltT .tuple [.tup xs] = .ok (.tup xs) := rfl
@[simp] theorem items_lst_ : itemsT .seq [.lst xs] = .ok xs := rfl
@[simp] theorem items_tup_ : itemsT .seq [.tup xs] = .ok xs := rfl
@[simp] theorem items_enum_l_ : itemsT .enum [.lst xs] = .ok (enumT 0 xs) := rfl
@[simp] theorem items_enum_t_ : itemsT .enum [.tup xs] = .ok (enumT 0 xs) := rfl
@[simp] theorem items_zip_ll_ : itemsT .zip [.lst xs, .lst ys] = .ok (zipT xs ys) := rfl
@[simp] theorem items_zip_lt_ : itemsT .zip [.lst xs, .tup ys] = .ok (zipT xs ys) := rfl
@[simp] theorem items_zip_tl_ : itemsT .zip [.tup xs, .lst ys] = .ok (zipT xs ys) := rfl
@[simp] theorem items_zip_tt_ : itemsT .zip [.tup xs, .tup ys] = .ok (zipT xs ys) := rfl
@[simp] theorem at_0_ : atT (x :: xs) 0 = .ok x := by simp [atT]
@[simp] theorem at_1_ : atT (y :: x :: xs) 1 = .ok x := by
  unfold atT
  rw [if_pos (by decide), if_pos (by simp only [List.length_cons]; omega)]
  rfl
@[simp] theorem at_2_ (z : T) : atT (y :: z :: x :: xs) 2 = .ok x := by
  unfold atT
  rw [if_pos (by decide), if_pos (by simp only [List.length_cons]; omega)]
  rfl
@[simp] theorem startC_ (d : Def) : startC d xs = xs.map .sh ++ List.replicate (d.nl - xs.length) .un := rfl
end
end Fz

/-! fractions: what the defs of fractions compute, as rationals -/
namespace Fz
open PySem

theorem call_at {ds : List (Nat × Def)} {n f : Nat} {d : Def} {args : List T} (h : ds.lookup f = some d) (hl : args.length = d.np) : callF ds (n + 1) f args = finF (execs (callF ds n) d.body (startC d args)) := by
  rw [callF, h]
  simp only [hl, if_true]
/-- Euclid's way, wherever it stands -/
theorem gcd_fmod (x y : Int) : Int.gcd y (x.fmod y) = Int.gcd x y := by
  rw [Int.fmod_def, Int.gcd_sub_mul_left_right, Int.gcd_comm]
theorem fmod_abs (x : Int) {y : Int} (h : y ≠ 0) : (x.fmod y).natAbs < y.natAbs ∧ (0 < y → 0 ≤ x.fmod y) ∧ (y < 0 → x.fmod y ≤ 0) := by
  rcases Int.lt_or_gt_of_ne h with h | h
  · have e : x.fmod y = -((-x).fmod (-y)) := by rw [← Int.neg_fmod_neg, Int.neg_neg, Int.neg_neg]
    have h1 := Int.fmod_nonneg_of_pos (-x) (b := -y) (by omega)
    have h2 := Int.fmod_lt_of_pos (-x) (b := -y) (by omega)
    omega
  · have h1 := Int.fmod_nonneg_of_pos x h
    have h2 := Int.fmod_lt_of_pos x h
    omega
theorem fmod_half (y : Int) {r : Int} (h0 : r ≠ 0) (hr : r.natAbs < y.natAbs) (hs : (0 < y → 0 ≤ r) ∧ (y < 0 → r ≤ 0)) : 2 * (y.fmod r).natAbs < y.natAbs := by
  have key : ∀ y r : Int, 0 < r → r < y → 2 * (y.fmod r) < y ∧ 0 ≤ y.fmod r := fun y r h1 h2 => by
    rw [Int.fmod_eq_emod_of_nonneg y (Int.le_of_lt h1)]
    have a1 := Int.emod_lt_of_pos y h1
    have a2 := Int.emod_nonneg y (Int.ne_of_gt h1)
    refine ⟨?_, a2⟩
    have e := Int.mul_ediv_add_emod y r
    have d1 : 1 ≤ y / r := by
      rw [Int.le_ediv_iff_mul_le h1]; omega
    have d2 : r * 1 ≤ r * (y / r) := Int.mul_le_mul_of_nonneg_left d1 (Int.le_of_lt h1)
    omega
  rcases Int.lt_trichotomy y 0 with hy | hy | hy
  · have h1 := hs.2 hy
    have e : y.fmod r = -((-y).fmod (-r)) := by rw [← Int.neg_fmod_neg, Int.neg_neg, Int.neg_neg]
    have := key (-y) (-r) (by omega) (by omega)
    omega
  · omega
  · have h1 := hs.1 hy
    have := key y r (by omega) (by omega)
    omega
theorem while_euc (mk : Int → Int → Cells) (t : Cells → Res Bool) (b : Cells → Fl) (ht : ∀ x y, t (mk x y) = .ok (decide (y ≠ 0))) (hb : ∀ x y, y ≠ 0 → b (mk x y) = .nx (mk y (x.fmod y))) :
    ∀ (k : Nat) (x y : Int) (n : Nat), y.natAbs < 2 ^ k → 2 * k + 1 ≤ n → ∃ g, whileF t b n (mk x y) = .nx (mk g 0) ∧ g.natAbs = Int.gcd x y ∧ (0 ≤ x → 0 ≤ y → 0 ≤ g) := by
  have one : ∀ x n, 1 ≤ n → whileF t b n (mk x 0) = .nx (mk x 0) := fun x n hn => by
    obtain ⟨m, rfl⟩ : ∃ m, n = m + 1 := ⟨n - 1, by omega⟩
    rw [whileF, ht]
    rfl
  have step : ∀ x y n, y ≠ 0 → whileF t b (n + 1) (mk x y) = whileF t b n (mk y (x.fmod y)) := fun x y n h => by
    rw [whileF, ht]
    simp only [flOf, decide_eq_true h, if_true, hb x y h]
  intro k
  induction k with
  | zero =>
    intro x y n h hn
    have : y = 0 := by omega
    subst this
    exact ⟨x, one x n (by omega), by simp, fun h _ => h⟩
  | succ k ih =>
    intro x y n h hn
    by_cases hy : y = 0
    · subst hy
      exact ⟨x, one x n (by omega), by simp, fun h _ => h⟩
    · obtain ⟨m, rfl⟩ : ∃ m, n = m + 2 := ⟨n - 2, by omega⟩
      obtain ⟨f1, f2⟩ := fmod_abs x hy
      rw [step x y _ hy]
      by_cases hr : x.fmod y = 0
      · rw [hr]
        exact ⟨y, one y _ (by omega), by rw [← gcd_fmod x y, hr]; simp, fun _ h => h⟩
      · rw [step _ _ _ hr]
        have := fmod_half y hr f1 f2
        obtain ⟨g, g1, g2, g3⟩ := ih (x.fmod y) (y.fmod (x.fmod y)) m (by rw [Nat.pow_succ] at h; omega) (by omega)
        exact ⟨g, g1, by rw [g2, gcd_fmod, gcd_fmod], fun h1 h2 => g3 (f2.1 (by omega)) ((fmod_abs y hr).2.1 (by have := f2.1 (by omega); omega))⟩

/-- a fraction as the program has it -/
def fr (q : Rat) : T := .tup [.int q.num, .int q.den]
theorem fr_inj {p q : Rat} (h : fr p = fr q) : p = q := by
  unfold fr at h
  injection h with h
  injection h with h1 h2
  injection h2 with h2 _
  injection h1 with h1
  injection h2 with h2
  exact Rat.ext h1 (Int.ofNat_inj.mp h2)
section
variable {ds : List (Nat × Def)}
theorem divisor_ok (h : ds.lookup 24 = some D_divisor) (n : Nat) (a b : Int) (hb : b.natAbs < 2 ^ 40000) : callF ds (n + 1) 24 [.int a, .int b] = .ok (.int (Int.gcd a b)) := by
  rw [call_at h rfl]
  have w := while_euc (fun x y => [Cell.sh (.int x), Cell.sh (.int y)]) (fun env => (ev (callF ds n) (.cmp .ne (.var 1) (.cst (.int 0))) env).bind truT)
    (execs (callF ds n) [(.par [0, 1] [(.var 1), (.bin .mod (.var 0) (.var 1))])]) (fun x y => by simp; rfl) (fun x y hy => by simp [hy]) 40000 a b FUEL hb (by decide)
  obtain ⟨g, g1, g2, _⟩ := w
  show finF (execs (callF ds n) [(.whl (.cmp .ne (.var 1) (.cst (.int 0))) [(.par [0, 1] [(.var 1), (.bin .mod (.var 0) (.var 1))])]), (.ret (.blt .abs [(.var 0)]))] [Cell.sh (.int a), Cell.sh (.int b)]) = _
  rw [execs_cons_, exec_whl_, g1]
  simp
  omega
/-- a fraction's lowest terms -/
theorem fr_divInt (a : Int) {b : Int} (hb : b ≠ 0) : fr (Rat.divInt a b) = .tup [.int (b.sign * a / b.gcd a), .int ((b.natAbs / b.gcd a : Nat) : Int)] := by
  unfold fr
  rw [Rat.num_divInt, Rat.den_divInt, if_neg hb]
theorem gcd_pos' (a : Int) {b : Int} (hb : b ≠ 0) : 0 < Int.gcd a b := Int.gcd_pos_of_ne_zero_right a hb
theorem fdiv_pos (a : Int) {g : Int} (hg : 0 < g) : a.fdiv g = a / g := Int.fdiv_eq_ediv_of_nonneg a (Int.le_of_lt hg)
theorem fdiv_neg' {a g : Int} (hg : 0 < g) (hd : g ∣ a) : a.fdiv (-g) = -(a / g) := by
  obtain ⟨c, rfl⟩ := hd
  have e : (g * c).fdiv (-g) = ((-g) * (-c)).fdiv (-g) := by rw [Int.neg_mul_neg]
  rw [e, Int.mul_fdiv_cancel_left _ (by omega), Int.mul_ediv_cancel_left _ (by omega)]
/-- what share takes: a size -/
def DOk (b : Int) : Prop := b ≠ 0 ∧ b.natAbs < 2 ^ 8000
theorem DOk.ne {b : Int} (h : DOk b) : b ≠ 0 := h.1
theorem DOk.pos {b : Int} (h : 0 < b ∧ b.natAbs < 2 ^ 8000) : DOk b := ⟨by omega, h.2⟩
theorem DOk.lt {b : Int} (h : DOk b) : b.natAbs < 2 ^ 40000 := by
  exact Nat.lt_of_lt_of_le h.2 (Nat.pow_le_pow_right (by decide) (by decide))
theorem gcd_le' (a : Int) {b : Int} (hb : b ≠ 0) : Int.gcd a b ≤ b.natAbs := Nat.le_of_dvd (Int.natAbs_pos.mpr hb) (Int.gcd_dvd_natAbs_right a b)
theorem share_fin (a : Int) {b : Int} (hb : b ≠ 0) : (0 < b → fr (Rat.divInt a b) = .tup [.int (a.fdiv (Int.gcd a b)), .int (b.fdiv (Int.gcd a b))]) ∧ (b < 0 → fr (Rat.divInt a b) = .tup [.int (a.fdiv (-(Int.gcd a b : Int))), .int (b.fdiv (-(Int.gcd a b : Int)))]) := by
  have hg : (0 : Int) < (Int.gcd a b : Int) := by exact_mod_cast gcd_pos' a hb
  have d1 : (Int.gcd a b : Int) ∣ a := Int.gcd_dvd_left a b
  have d2 : (Int.gcd a b : Int) ∣ b := Int.gcd_dvd_right a b
  refine ⟨fun h => ?_, fun h => ?_⟩
  · rw [fr_divInt a hb, Int.gcd_comm b a, Int.sign_eq_one_of_pos h, Int.one_mul, fdiv_pos _ hg, fdiv_pos _ hg]
    have : ((b.natAbs / Int.gcd a b : Nat) : Int) = b / (Int.gcd a b : Int) := by
      rw [Int.natCast_ediv, Int.natAbs_of_nonneg (Int.le_of_lt h)]
    rw [this]
  · rw [fr_divInt a hb, Int.gcd_comm b a, Int.sign_eq_neg_one_of_neg h, fdiv_neg' hg d1, fdiv_neg' hg d2]
    have e1 : -1 * a / (Int.gcd a b : Int) = -(a / (Int.gcd a b : Int)) := by
      rw [Int.neg_mul, Int.one_mul, Int.neg_ediv_of_dvd d1]
    have e2 : ((b.natAbs / Int.gcd a b : Nat) : Int) = -(b / (Int.gcd a b : Int)) := by
      rw [Int.natCast_ediv, ← Int.neg_ediv_of_dvd d2]
      congr 1
      omega
    rw [e1, e2]
theorem share_ok (h : ds.lookup 24 = some D_divisor) (h2 : ds.lookup 25 = some D_share) (n : Nat) (a b : Int) (hb : DOk b) : callF ds (n + 2) 25 [.int a, .int b] = .ok (fr (Rat.divInt a b)) := by
  have hne := hb.ne
  rw [call_at h2 rfl]
  have hg : (0 : Int) < (Int.gcd a b : Int) := by exact_mod_cast gcd_pos' a hne
  have hle := gcd_le' a hne
  obtain ⟨f1, f2⟩ := share_fin a hne
  have dv := divisor_ok h n a b hb.lt
  by_cases hneg : b < 0
  · have k1 : divOk (-(Int.gcd a b : Int)) = true := by
      unfold divOk
      have := hb.2
      simp only [decide_eq_true_eq]
      exact ⟨by omega, by omega⟩
    rw [f2 hneg]
    simp [D_share, dv, hneg, k1]
  · have k1 : divOk (Int.gcd a b : Int) = true := by
      unfold divOk
      have := hb.2
      simp only [decide_eq_true_eq]
      exact ⟨by omega, by omega⟩
    rw [f1 (by omega)]
    simp [D_share, dv, hneg, k1]

/-! ### sizes -/
def Sz (k : Nat) (q : Rat) : Prop := q.num.natAbs < 2 ^ k ∧ q.den < 2 ^ k
theorem Sz.mono {j k : Nat} {q : Rat} (h : Sz j q) (hk : j ≤ k) : Sz k q := ⟨Nat.lt_of_lt_of_le h.1 (Nat.pow_le_pow_right (by decide) hk), Nat.lt_of_lt_of_le h.2 (Nat.pow_le_pow_right (by decide) hk)⟩
theorem mul_lt_pow {a b i j : Nat} (ha : a < 2 ^ i) (hb : b < 2 ^ j) : a * b < 2 ^ (i + j) := by
  rw [Nat.pow_add]
  exact Nat.mul_lt_mul'' ha hb
theorem Sz.mk_divInt {k : Nat} {a b : Int} (hb : b ≠ 0) (h1 : a.natAbs < 2 ^ k) (h2 : b.natAbs < 2 ^ k) : Sz k (Rat.divInt a b) := by
  refine ⟨?_, ?_⟩
  · rw [Rat.num_divInt]
    have : (b.sign * a / (b.gcd a : Int)).natAbs ≤ (b.sign * a).natAbs := by
      rw [Int.natAbs_ediv_of_dvd]
      · exact Nat.div_le_self _ _
      · exact Int.dvd_mul_of_dvd_right (Int.gcd_dvd_right b a)
    rw [Int.natAbs_mul] at this
    have s : b.sign.natAbs = 1 := by
      rw [Int.natAbs_sign_of_ne_zero hb]
    rw [s, Nat.one_mul] at this
    omega
  · rw [Rat.den_divInt, if_neg hb]
    exact Nat.lt_of_le_of_lt (Nat.div_le_self _ _) h2
theorem den_ne (q : Rat) : (q.den : Int) ≠ 0 := by exact_mod_cast q.den_nz
theorem den_pos' (q : Rat) : (0 : Int) < q.den := by have := q.den_nz; omega
theorem add_eq (p q : Rat) : p + q = Rat.divInt (p.num * q.den + q.num * p.den) (p.den * q.den) := by
  conv => lhs; rw [← Rat.num_divInt_den p, ← Rat.num_divInt_den q, Rat.divInt_add_divInt _ _ (den_ne p) (den_ne q)]
theorem sub_eq (p q : Rat) : p - q = Rat.divInt (p.num * q.den - q.num * p.den) (p.den * q.den) := by
  conv => lhs; rw [← Rat.num_divInt_den p, ← Rat.num_divInt_den q, Rat.divInt_sub_divInt _ _ (den_ne p) (den_ne q)]
theorem mul_eq (p q : Rat) : p * q = Rat.divInt (p.num * q.num) (p.den * q.den) := by
  conv => lhs; rw [← Rat.num_divInt_den p, ← Rat.num_divInt_den q, Rat.divInt_mul_divInt]
theorem div_eq (p q : Rat) : p / q = Rat.divInt (p.num * q.den) (p.den * q.num) := by
  conv => lhs; rw [← Rat.num_divInt_den p, ← Rat.num_divInt_den q, Rat.div_def, Rat.inv_divInt, Rat.divInt_mul_divInt]
theorem Sz.add {i j : Nat} {p q : Rat} (hp : Sz i p) (hq : Sz j q) : Sz (i + j + 1) (p + q) := by
  have h1 := mul_lt_pow hp.1 hq.2
  have h2 := mul_lt_pow hq.1 hp.2
  have h3 := mul_lt_pow hp.2 hq.2
  rw [add_eq]
  refine Sz.mk_divInt ?_ ?_ ?_
  · exact Int.mul_ne_zero (den_ne p) (den_ne q)
  · have := Int.natAbs_add_le (p.num * q.den) (q.num * p.den)
    rw [Int.natAbs_mul, Int.natAbs_mul, Int.natAbs_natCast, Int.natAbs_natCast] at this
    rw [Nat.add_comm j i] at h2
    rw [Nat.pow_succ]
    omega
  · rw [Int.natAbs_mul, Int.natAbs_natCast, Int.natAbs_natCast, Nat.pow_succ]
    omega
theorem Sz.neg {i : Nat} {p : Rat} (hp : Sz i p) : Sz i (-p) := ⟨by rw [Rat.neg_num, Int.natAbs_neg]; exact hp.1, hp.2⟩
theorem Sz.sub {i j : Nat} {p q : Rat} (hp : Sz i p) (hq : Sz j q) : Sz (i + j + 1) (p - q) := by
  rw [Rat.sub_eq_add_neg]
  exact hp.add hq.neg
theorem Sz.mul {i j : Nat} {p q : Rat} (hp : Sz i p) (hq : Sz j q) : Sz (i + j) (p * q) := by
  have h1 := mul_lt_pow hp.1 hq.1
  have h3 := mul_lt_pow hp.2 hq.2
  rw [mul_eq]
  refine Sz.mk_divInt (Int.mul_ne_zero (den_ne p) (den_ne q)) ?_ ?_
  · rw [Int.natAbs_mul]; exact h1
  · rw [Int.natAbs_mul, Int.natAbs_natCast, Int.natAbs_natCast]; exact h3
theorem mulOk_of {a b : Int} (ha : a.natAbs < 2 ^ 8000) (hb : b.natAbs < 2 ^ 8000) : mulOk a b = true := by
  unfold mulOk
  simp only [Bool.or_eq_true, decide_eq_true_eq]
  exact .inl (.inl ⟨ha, hb⟩)
/-- small enough to be reckoned with -/
abbrev Ok1 (q : Rat) : Prop := Sz 3900 q
theorem Ok1.n {q : Rat} (h : Ok1 q) : q.num.natAbs < 2 ^ 8000 := Nat.lt_of_lt_of_le h.1 (Nat.pow_le_pow_right (by decide) (by decide))
theorem Ok1.d {q : Rat} (h : Ok1 q) : (q.den : Int).natAbs < 2 ^ 8000 := Nat.lt_of_lt_of_le (by simpa using h.2) (Nat.pow_le_pow_right (by decide) (by decide))
theorem Ok1.dd {p q : Rat} (h : Ok1 p) (h' : Ok1 q) : 0 < (p.den : Int) * q.den ∧ ((p.den : Int) * q.den).natAbs < 2 ^ 8000 := by
  refine ⟨Int.mul_pos (den_pos' p) (den_pos' q), ?_⟩
  rw [Int.natAbs_mul, Int.natAbs_natCast, Int.natAbs_natCast]
  exact Nat.lt_of_lt_of_le (mul_lt_pow h.2 h'.2) (Nat.pow_le_pow_right (by decide) (by decide))
theorem plus_ok (h : ds.lookup 24 = some D_divisor) (h2 : ds.lookup 25 = some D_share) (h3 : ds.lookup 40 = some D_plus) (n : Nat) {p q : Rat} (hp : Ok1 p) (hq : Ok1 q) : callF ds (n + 3) 40 [fr p, fr q] = .ok (fr (p + q)) := by
  rw [call_at h3 rfl, add_eq]
  have s := share_ok h h2 n (p.num * q.den + q.num * p.den) (p.den * q.den) (.pos (hp.dd hq))
  simp [D_plus, fr, mulOk_of hp.n hq.d, mulOk_of hq.n hp.d, mulOk_of hp.d hq.d] at s ⊢
  rw [s]
  rfl
theorem less_ok (h : ds.lookup 24 = some D_divisor) (h2 : ds.lookup 25 = some D_share) (h3 : ds.lookup 41 = some D_less) (n : Nat) {p q : Rat} (hp : Ok1 p) (hq : Ok1 q) : callF ds (n + 3) 41 [fr p, fr q] = .ok (fr (p - q)) := by
  rw [call_at h3 rfl, sub_eq]
  have s := share_ok h h2 n (p.num * q.den - q.num * p.den) (p.den * q.den) (.pos (hp.dd hq))
  simp [D_less, fr, mulOk_of hp.n hq.d, mulOk_of hq.n hp.d, mulOk_of hp.d hq.d] at s ⊢
  rw [s]
  rfl
theorem times_ok (h : ds.lookup 24 = some D_divisor) (h2 : ds.lookup 25 = some D_share) (h3 : ds.lookup 26 = some D_times) (n : Nat) {p q : Rat} (hp : Ok1 p) (hq : Ok1 q) : callF ds (n + 3) 26 [fr p, fr q] = .ok (fr (p * q)) := by
  rw [call_at h3 rfl, mul_eq]
  have s := share_ok h h2 n (p.num * q.num) (p.den * q.den) (.pos (hp.dd hq))
  simp [D_times, fr, mulOk_of hp.n hq.n, mulOk_of hp.d hq.d] at s ⊢
  rw [s]
  rfl
theorem parted_ok (h : ds.lookup 24 = some D_divisor) (h2 : ds.lookup 25 = some D_share) (h3 : ds.lookup 42 = some D_parted) (n : Nat) {p q : Rat} (hp : Ok1 p) (hq : Ok1 q) (hd : DOk (p.den * q.num)) : callF ds (n + 3) 42 [fr p, fr q] = .ok (fr (p / q)) := by
  rw [call_at h3 rfl, div_eq]
  have s := share_ok h h2 n (p.num * q.den) (p.den * q.num) hd
  simp [D_parted, fr, mulOk_of hp.n hq.d, mulOk_of hp.d hq.n] at s ⊢
  rw [s]
  rfl
theorem is_less_ok (h3 : ds.lookup 43 = some D_is_less) (n : Nat) {p q : Rat} (hp : Ok1 p) (hq : Ok1 q) : callF ds (n + 1) 43 [fr p, fr q] = .ok (.bl (decide (p < q))) := by
  rw [call_at h3 rfl]
  simp [D_is_less, fr, mulOk_of hp.n hq.d, mulOk_of hq.n hp.d, Rat.lt_iff]
def sumQ : List Rat → Rat
  | [] => 0
  | q :: qs => q + sumQ qs
theorem sumQ_append : ∀ (a b : List Rat), sumQ (a ++ b) = sumQ a + sumQ b
  | [], b => by simp [sumQ, Rat.zero_add]
  | q :: qs, b => by simp only [List.cons_append, sumQ, sumQ_append qs b, Rat.add_assoc]
theorem Sz.sum {j : Nat} : ∀ {qs : List Rat}, (∀ q ∈ qs, Sz j q) → Sz (1 + qs.length * (j + 1)) (sumQ qs)
  | [], _ => ⟨by show (0 : Rat).num.natAbs < _; simp, by show (1 : Nat) < _; simp⟩
  | q :: qs, h => by
    have h1 := (h q (List.mem_cons_self ..)).add (Sz.sum fun q hq => h q (List.mem_cons_of_mem _ hq))
    refine h1.mono ?_
    simp only [List.length_cons, Nat.add_mul]
    omega
theorem all_plus_ok (h : ds.lookup 24 = some D_divisor) (h2 : ds.lookup 25 = some D_share) (h3 : ds.lookup 40 = some D_plus) (h4 : ds.lookup 44 = some D_all_plus) (n : Nat) {j : Nat} {qs : List Rat} (hq : ∀ q ∈ qs, Sz j q) (hj : 1 + qs.length * (j + 1) ≤ 3900) (hj2 : j ≤ 3900) : callF ds (n + 4) 44 [.lst (qs.map fr)] = .ok (fr (sumQ qs)) := by
  rw [call_at h4 rfl]
  have loop : ∀ (rest done : List Rat) (x : Cell), done ++ rest = qs → ∃ y, forF (forB (callF ds (n + 3)) (.nm 2) [(.asg (.nm 1) (.call 40 [(.var 1), (.var 2)]))]) (rest.map fr) [.sh (.lst (qs.map fr)), .sh (fr (sumQ done)), x] = .nx [.sh (.lst (qs.map fr)), .sh (fr (sumQ qs)), y] := by
    intro rest
    induction rest with
    | nil => intro done x e; rw [List.append_nil] at e; subst e; exact ⟨x, rfl⟩
    | cons q rest ih =>
      intro done x e
      have hd : ∀ q ∈ done, Sz j q := fun q hm => hq q (by rw [← e]; exact List.mem_append_left _ hm)
      have hl : done.length ≤ qs.length := by rw [← e, List.length_append]; omega
      have hs : Ok1 (sumQ done) := (Sz.sum hd).mono (Nat.le_trans (Nat.add_le_add_left (Nat.mul_le_mul_right _ hl) 1) hj)
      have hs2 : Ok1 q := (hq q (by rw [← e]; simp)).mono hj2
      have p := plus_ok h h2 h3 n hs hs2
      obtain ⟨y, ey⟩ := ih (done ++ [q]) (.sh (fr q)) (by rw [← e]; simp)
      refine ⟨y, ?_⟩
      rw [List.map_cons, forF]
      simp [p]
      rw [sumQ_append] at ey
      simp only [sumQ, Rat.add_zero] at ey
      simpa using ey
  obtain ⟨y, ey⟩ := loop qs [] .un rfl
  show finF (execs (callF ds (n + 3)) [(.asg (.nm 1) (.tup [(.cst (.int 0)), (.cst (.int 1))])), (.forS (.nm 2) .seq [(.var 0)] [(.asg (.nm 1) (.call 40 [(.var 1), (.var 2)]))]), (.ret (.var 1))] [.sh (.lst (qs.map fr)), .un, .un]) = _
  have e1 : exec (callF ds (n + 3)) (.asg (.nm 1) (.tup [(.cst (.int 0)), (.cst (.int 1))])) [.sh (.lst (qs.map fr)), .un, .un] = .nx [.sh (.lst (qs.map fr)), .sh (fr (sumQ [])), .un] := by
    simp; rfl
  rw [execs_cons_, e1]
  simp only []
  rw [execs_cons_, exec_forS_]
  simp only [evs_cons_, evs_nil_, ev_var_, rd_, List.getElem?_cons_zero, bind_ok_, items_lst_, flOf_ok_]
  rw [ey]
  simp

/-! ### the law's own fractions -/
theorem low_ok (h : ds.lookup 13 = some D__law_low) (n : Nat) (a b : Int) (hb : b ≠ 0) (hz : b.natAbs < 2 ^ 8000) : callF ds (n + 1) 13 [.int a, .int b] = .ok (fr (Rat.divInt a b)) := by
  rw [call_at h rfl]
  have w := while_euc (fun x y => [Cell.sh (.int a), Cell.sh (.int b), Cell.sh (.int x), Cell.sh (.int y)]) (fun env => (ev (callF ds n) (.cmp .ne (.var 3) (.cst (.int 0))) env).bind truT)
    (execs (callF ds n) [(.par [2, 3] [(.var 3), (.bin .mod (.var 2) (.var 3))])]) (fun x y => by simp; rfl) (fun x y hy => by simp [hy]) 8000 (if a < 0 then -a else a) (if b < 0 then -b else b) FUEL (by split <;> omega) (by decide)
  obtain ⟨g, g1, g2, g3⟩ := w
  have g3 := g3 (by split <;> omega) (by split <;> omega)
  have eg : Int.gcd (if a < 0 then -a else a) (if b < 0 then -b else b) = Int.gcd a b := by
    split <;> split <;> simp [Int.gcd_neg, Int.neg_gcd]
  rw [eg] at g2
  have e : g = (Int.gcd a b : Int) := by omega
  subst e
  have hg : (0 : Int) < (Int.gcd a b : Int) := by exact_mod_cast gcd_pos' a hb
  have hle := gcd_le' a hb
  have k1 : divOk (Int.gcd a b : Int) = true := by
    unfold divOk
    simp only [decide_eq_true_eq]
    exact ⟨by omega, by omega⟩
  obtain ⟨f1, f2⟩ := share_fin a hb
  show finF (execs (callF ds n) [(.par [2, 3] [(.blt .abs [(.var 0)]), (.blt .abs [(.var 1)])]), (.whl (.cmp .ne (.var 3) (.cst (.int 0))) [(.par [2, 3] [(.var 3), (.bin .mod (.var 2) (.var 3))])]), (.ret (.ite (.cmp .gt (.var 1) (.cst (.int 0))) (.tup [(.bin .fdiv (.var 0) (.var 2)), (.bin .fdiv (.var 1) (.var 2))]) (.tup [(.bin .sub (.cst (.int 0)) (.bin .fdiv (.var 0) (.var 2))), (.bin .sub (.cst (.int 0)) (.bin .fdiv (.var 1) (.var 2)))])))]
    [Cell.sh (.int a), Cell.sh (.int b), .un, .un]) = _
  have e1 : exec (callF ds n) (.par [2, 3] [(.blt .abs [(.var 0)]), (.blt .abs [(.var 1)])]) [Cell.sh (.int a), Cell.sh (.int b), .un, .un] = .nx [Cell.sh (.int a), Cell.sh (.int b), Cell.sh (.int (if a < 0 then -a else a)), Cell.sh (.int (if b < 0 then -b else b))] := by
    simp
  rw [execs_cons_, e1]
  simp only []
  rw [execs_cons_, exec_whl_, g1]
  have d1 : (Int.gcd a b : Int) ∣ a := Int.gcd_dvd_left a b
  have d2 : (Int.gcd a b : Int) ∣ b := Int.gcd_dvd_right a b
  by_cases hp : 0 < b
  · rw [f1 hp]
    simp [hp, k1]
  · rw [f2 (by omega), fdiv_neg' hg d1, fdiv_neg' hg d2]
    simp [hp, k1, fdiv_pos _ hg]
theorem prod_ok (h : ds.lookup 13 = some D__law_low) (h2 : ds.lookup 15 = some D__law_prod) (n : Nat) {p q : Rat} (hp : Ok1 p) (hq : Ok1 q) : callF ds (n + 2) 15 [fr p, fr q] = .ok (fr (p * q)) := by
  have dd := hp.dd hq
  rw [call_at h2 rfl, mul_eq]
  have s := low_ok h n (p.num * q.num) (p.den * q.den) (by omega) dd.2
  simp [D__law_prod, fr, mulOk_of hp.n hq.n, mulOk_of hp.d hq.d] at s ⊢
  rw [s]
  rfl
theorem sum_ok (h : ds.lookup 13 = some D__law_low) (h4 : ds.lookup 14 = some D__law_sum) (n : Nat) {j : Nat} {qs : List Rat} (hq : ∀ q ∈ qs, Sz j q) (hj : 1 + qs.length * (j + 1) ≤ 3900) (hj2 : j ≤ 3900) : callF ds (n + 2) 14 [.lst (qs.map fr)] = .ok (fr (sumQ qs)) := by
  rw [call_at h4 rfl]
  generalize hb : forB (callF ds (n + 1)) (.nm 3) [(.asg (.tp [(.nm 1), (.nm 2)]) (.call 13 [(.bin .add (.bin .mul (.var 1) (.idx (.var 3) (.cst (.int 1)))) (.bin .mul (.idx (.var 3) (.cst (.int 0))) (.var 2))), (.bin .mul (.var 2) (.idx (.var 3) (.cst (.int 1))))]))] = bf
  have loop : ∀ (rest done : List Rat) (x : Cell), done ++ rest = qs → ∃ y, forF bf (rest.map fr) [.sh (.lst (qs.map fr)), .sh (.int (sumQ done).num), .sh (.int (sumQ done).den), x] = .nx [.sh (.lst (qs.map fr)), .sh (.int (sumQ qs).num), .sh (.int (sumQ qs).den), y] := by
    intro rest
    induction rest with
    | nil => intro done x e; rw [List.append_nil] at e; subst e; exact ⟨x, rfl⟩
    | cons q rest ih =>
      intro done x e
      have hd : ∀ q ∈ done, Sz j q := fun q hm => hq q (by rw [← e]; exact List.mem_append_left _ hm)
      have hl : done.length ≤ qs.length := by rw [← e, List.length_append]; omega
      have hs : Ok1 (sumQ done) := (Sz.sum hd).mono (Nat.le_trans (Nat.add_le_add_left (Nat.mul_le_mul_right _ hl) 1) hj)
      have hs2 : Ok1 q := (hq q (by rw [← e]; simp)).mono hj2
      have dd := hs.dd hs2
      have p := low_ok h n ((sumQ done).num * q.den + q.num * (sumQ done).den) ((sumQ done).den * q.den) (by omega) dd.2
      rw [← add_eq] at p
      obtain ⟨y, ey⟩ := ih (done ++ [q]) (.sh (fr q)) (by rw [← e]; simp)
      refine ⟨y, ?_⟩
      rw [List.map_cons, forF]
      rw [sumQ_append] at ey
      simp only [sumQ, Rat.add_zero] at ey
      have e1 : bf [.sh (.lst (qs.map fr)), .sh (.int (sumQ done).num), .sh (.int (sumQ done).den), x] (fr q) = .nx [.sh (.lst (qs.map fr)), .sh (.int (sumQ done + q).num), .sh (.int (sumQ done + q).den), .sh (fr q)] := by
        rw [← hb]
        simp [fr, mulOk_of hs.n hs2.d, mulOk_of hs2.n hs.d, mulOk_of hs.d hs2.d] at p ⊢
        rw [p]
        simp
      rw [e1]
      exact ey
  obtain ⟨y, ey⟩ := loop qs [] .un rfl
  show finF (execs (callF ds (n + 1)) [(.asg (.tp [.nm 1, .nm 2]) (.tup [(.cst (.int 0)), (.cst (.int 1))])), (.forS (.nm 3) .seq [(.var 0)] [(.asg (.tp [(.nm 1), (.nm 2)]) (.call 13 [(.bin .add (.bin .mul (.var 1) (.idx (.var 3) (.cst (.int 1)))) (.bin .mul (.idx (.var 3) (.cst (.int 0))) (.var 2))), (.bin .mul (.var 2) (.idx (.var 3) (.cst (.int 1))))]))]), (.ret (.tup [(.var 1), (.var 2)]))] [.sh (.lst (qs.map fr)), .un, .un, .un]) = _
  have e1 : exec (callF ds (n + 1)) (.asg (.tp [.nm 1, .nm 2]) (.tup [(.cst (.int 0)), (.cst (.int 1))])) [.sh (.lst (qs.map fr)), .un, .un, .un] = .nx [.sh (.lst (qs.map fr)), .sh (.int (sumQ []).num), .sh (.int (sumQ []).den), .un] := by
    simp [sumQ]
  rw [execs_cons_, e1]
  simp only []
  rw [execs_cons_, exec_forS_]
  simp only [evs_cons_, evs_nil_, ev_var_, rd_, List.getElem?_cons_zero, bind_ok_, items_lst_, flOf_ok_]
  rw [hb, ey]
  simp [fr]

/-! ### fractions as values -/
@[simp] theorem fr_idx0 (q : Rat) : idxT (fr q) (.int 0) = .ok (.int q.num) := by simp [fr]
@[simp] theorem fr_idx1 (q : Rat) : idxT (fr q) (.int 1) = .ok (.int q.den) := by simp [fr]
@[simp] theorem fr_plain (q : Rat) (n : Nat) : (fr q).plain (n + 1) = true := by simp [fr]
@[simp] theorem fr_eqv (p q : Rat) : T.eqv (fr p) (fr q) = decide (p = q) := by
  unfold fr
  rw [Bool.eq_iff_iff]
  simp only [eqv_tt_, eqvs_cons_, eqvs_nil_, eqv_ii_, Bool.and_true, Bool.and_eq_true, beq_iff_eq, decide_eq_true_eq]
  exact ⟨fun h => Rat.ext h.1 (by omega), fun h => by rw [h]; exact ⟨rfl, rfl⟩⟩
theorem fr_int (i : Int) : fr (i : Rat) = .tup [.int i, .int 1] := rfl
theorem fr_neg (q : Rat) : T.tup [.int (0 - q.num), .int q.den] = fr (-q) := by simp [fr]
end
end Fz

/-! numbers drawn of the script -/
namespace Fz
open PySem
def scr (ns : List Int) : T := .lst (ns.map T.int)
theorem plains_ints (n : Nat) : ∀ ns : List Int, T.plains (ns.map T.int) n = true
  | [] => by simp
  | x :: xs => by simp [plains_ints n xs]
theorem at_nn {xs : List T} {i : Nat} {t : T} (h : xs[i]? = some t) : atT xs (i : Int) = .ok t := by
  have hl : i < xs.length := (List.getElem?_eq_some_iff.mp h).1
  unfold atT
  rw [if_pos (by omega), if_pos (by omega)]
  simp [h]
def cellZ (ns : List Int) (k : Nat) : Int := if k < ns.length then ns.getD k 0 else if ns = [] then 0 else ns.getD (k % ns.length) 0 * 31 + k
section
variable {ds : List (Nat × Def)}
theorem mulOk_r {i j : Int} (h : j.natAbs < 2 ^ 63) : mulOk i j = true := by
  unfold mulOk
  simp only [Bool.or_eq_true, decide_eq_true_eq]
  exact .inr h
theorem mulOk_l {i j : Int} (h : i.natAbs < 2 ^ 63) : mulOk i j = true := by
  unfold mulOk
  simp only [Bool.or_eq_true, decide_eq_true_eq]
  exact .inl (.inr h)
theorem eqvs_nil_r (ns : List Int) : T.eqvs (ns.map T.int) [] = decide (ns = []) := by
  cases ns <;> simp
theorem cell_ok (h : ds.lookup 7 = some D__law_cell) (n : Nat) (ns : List Int) (k : Nat) : callF ds (n + 1) 7 [scr ns, .int k] = .ok (.int (cellZ ns k)) := by
  rw [call_at h rfl]
  have pl := plains_ints 59 ns
  have l1 : (ns.map T.int).length = ns.length := List.length_map ..
  show finF (execs (callF ds n) [(.ifS (.cmp .lt (.var 1) (.len (.var 0))) [(.ret (.idx (.var 0) (.var 1)))] []), (.ifS (.cmp .eq (.var 0) (.lst [])) [(.ret (.cst (.int 0)))] []), (.ret (.bin .add (.bin .mul (.idx (.var 0) (.bin .mod (.var 1) (.len (.var 0)))) (.cst (.int 31))) (.var 1)))] [.sh (scr ns), .sh (.int k)]) = _
  have e1 : exec (callF ds n) (.ifS (.cmp .lt (.var 1) (.len (.var 0))) [(.ret (.idx (.var 0) (.var 1)))] []) [.sh (scr ns), .sh (.int k)] = if k < ns.length then .rt (.int (cellZ ns k)) else .nx [.sh (scr ns), .sh (.int k)] := by
    unfold scr
    by_cases h1 : k < ns.length
    · have e : atT (ns.map T.int) (k : Int) = .ok (.int ns[k]) := at_nn (by simp [h1])
      simp [h1, e, cellZ]
    · simp [h1]
  rw [execs_cons_, e1]
  by_cases h1 : k < ns.length
  · rw [if_pos h1]; rfl
  rw [if_neg h1]
  simp only []
  have e2 : exec (callF ds n) (.ifS (.cmp .eq (.var 0) (.lst [])) [(.ret (.cst (.int 0)))] []) [.sh (scr ns), .sh (.int k)] = if ns = [] then .rt (.int 0) else .nx [.sh (scr ns), .sh (.int k)] := by
    unfold scr
    simp [pl, eqvs_nil_r]
  rw [execs_cons_, e2]
  by_cases h2 : ns = []
  · subst h2; simp [cellZ]
  · rw [if_neg h2]
    have hp : 0 < ns.length := List.length_pos_iff.mpr h2
    have hm : k % ns.length < ns.length := Nat.mod_lt _ hp
    have hz : (ns.length : Int) ≠ 0 := by omega
    have e : atT (ns.map T.int) ((k : Int).fmod (ns.length : Int)) = .ok (.int (ns.getD (k % ns.length) 0)) := by
      have : (k : Int).fmod (ns.length : Int) = ((k % ns.length : Nat) : Int) := by
        rw [Int.fmod_eq_emod_of_nonneg _ (by omega)]; rfl
      rw [this]
      refine at_nn ?_
      rw [List.getElem?_map, List.getElem?_eq_getElem hm]
      simp [List.getD, List.getElem?_eq_getElem hm]
    have m31 : mulOk (ns.getD (k % ns.length) 0) 31 = true := mulOk_r (by decide)
    have ec : cellZ ns k = ns.getD (k % ns.length) 0 * 31 + k := by unfold cellZ; rw [if_neg h1, if_neg h2]
    rw [ec]
    generalize ns.getD (k % ns.length) 0 = v at e m31
    unfold scr
    simp [l1, hz, e, m31, h2]
def drawnZ (ns : List Int) (k : Nat) : Int := ((cellZ ns k + 6151 * ((k : Int) + 1)) * 40692).fmod 2147483399
def rawZ (ns : List Int) (k : Nat) : Int := (drawnZ ns k * drawnZ ns k + (drawnZ ns k).fdiv 31).fmod 2147483629
/-- a number drawn, below many -/
def pickZ (ns : List Int) (k many : Nat) : Nat := ((rawZ ns k).fmod many).toNat
theorem pick_lt (ns : List Int) (k : Nat) {many : Nat} (hm : 0 < many) : pickZ ns k many < many := by
  unfold pickZ
  have h1 := Int.fmod_nonneg_of_pos (rawZ ns k) (b := (many : Int)) (by omega)
  have h2 := Int.fmod_lt_of_pos (rawZ ns k) (b := (many : Int)) (by omega)
  omega
theorem pick_ok (h : ds.lookup 7 = some D__law_cell) (h2 : ds.lookup 8 = some D__law_pick) (n : Nat) (ns : List Int) (k : Nat) {many : Nat} (hm : 0 < many) : callF ds (n + 2) 8 [scr ns, .int k, .int many] = .ok (.int (pickZ ns k many)) := by
  rw [call_at h2 rfl]
  have c := cell_ok h n ns k
  have d1 : 0 ≤ drawnZ ns k := Int.fmod_nonneg_of_pos _ (by decide)
  have d2 : drawnZ ns k < 2147483399 := Int.fmod_lt_of_pos _ (by decide)
  have m1 : mulOk 6151 ((k : Int) + 1) = true := mulOk_l (by decide)
  have m2 : mulOk (cellZ ns k + 6151 * ((k : Int) + 1)) 40692 = true := mulOk_r (by decide)
  have m3 : mulOk (drawnZ ns k) (drawnZ ns k) = true := mulOk_r (by omega)
  have m4 : divOk 31 = true := by decide
  have hz : many ≠ 0 := by omega
  have e : ((pickZ ns k many : Nat) : Int) = (rawZ ns k).fmod many := by
    unfold pickZ
    exact Int.toNat_of_nonneg (Int.fmod_nonneg_of_pos _ (by omega))
  rw [e]
  show finF (execs (callF ds (n + 1)) _ [.sh (scr ns), .sh (.int k), .sh (.int many), .un]) = _
  have e1 : exec (callF ds (n + 1)) (.asg (.nm 3) (.bin .mod (.bin .mul (.bin .add (.call 7 [(.var 0), (.var 1)]) (.bin .mul (.cst (.int 6151)) (.bin .add (.var 1) (.cst (.int 1))))) (.cst (.int 40692))) (.cst (.int 2147483399)))) [.sh (scr ns), .sh (.int k), .sh (.int many), .un] = .nx [.sh (scr ns), .sh (.int k), .sh (.int many), .sh (.int (drawnZ ns k))] := by
    simp [c, m1, m2, drawnZ]
  show finF (execs (callF ds (n + 1)) [(.asg (.nm 3) (.bin .mod (.bin .mul (.bin .add (.call 7 [(.var 0), (.var 1)]) (.bin .mul (.cst (.int 6151)) (.bin .add (.var 1) (.cst (.int 1))))) (.cst (.int 40692))) (.cst (.int 2147483399)))), (.ret (.bin .mod (.bin .mod (.bin .add (.bin .mul (.var 3) (.var 3)) (.bin .fdiv (.var 3) (.cst (.int 31)))) (.cst (.int 2147483629))) (.var 2)))] [.sh (scr ns), .sh (.int k), .sh (.int many), .un]) = _
  rw [execs_cons_, e1]
  simp [m3, m4, hz, rawZ]
theorem pick_at (h : ds.lookup 7 = some D__law_cell) (h2 : ds.lookup 8 = some D__law_pick) (n : Nat) (ns : List Int) {i m : Int} {k many : Nat} (hi : i = k) (hm : 0 < many) (hm2 : m = many) : callF ds (n + 2) 8 [scr ns, .int i, .int m] = .ok (.int (pickZ ns k many)) := by
  subst hi hm2
  exact pick_ok h h2 n ns k hm
end
end Fz

/-! comprehensions and loops, in plain words -/
namespace Fz
open PySem
section
variable {F : Fns} {ds : List (Nat × Def)}
theorem compL_map {f : T → Res (Option T)} {g : T → T} : ∀ {xs : List T}, (∀ x ∈ xs, f x = .ok (some (g x))) → compL f xs = .ok (xs.map g)
  | [], _ => rfl
  | x :: xs, h => by
    rw [compL, h x (List.mem_cons_self ..), compL_map fun y hy => h y (List.mem_cons_of_mem _ hy)]
    rfl
theorem compL_filterMap {f : T → Res (Option T)} {g : T → Option T} : ∀ {xs : List T}, (∀ x ∈ xs, f x = .ok (g x)) → compL f xs = .ok (xs.filterMap g)
  | [], _ => rfl
  | x :: xs, h => by
    rw [compL, h x (List.mem_cons_self ..), compL_filterMap fun y hy => h y (List.mem_cons_of_mem _ hy), List.filterMap_cons]
    cases g x <;> rfl
theorem rngT_map : ∀ (n : Nat) (lo : Int), rngT lo n = (List.range n).map fun i => T.int (lo + (i : Nat))
  | 0, _ => rfl
  | n + 1, lo => by
    rw [rngT, rngT_map n (lo + 1), List.range_succ_eq_map, List.map_cons, List.map_map]
    congr 1
    · simp
    · refine List.map_congr_left fun i _ => ?_
      show T.int _ = T.int _
      congr 1
      simp only [Function.comp, Nat.succ_eq_add_one]
      omega
theorem compL_range {f : T → Res (Option T)} {g : Nat → T} (m : Nat) (h : ∀ i < m, f (.int (i : Nat)) = .ok (some (g i))) : compL f (rngT 0 m) = .ok ((List.range m).map g) := by
  rw [rngT_map]
  have key : ∀ l : List Nat, (∀ i ∈ l, i < m) → compL f (l.map fun i => T.int (0 + (i : Nat))) = .ok (l.map g) := by
    intro l
    induction l with
    | nil => intro _; rfl
    | cons i l ih =>
      intro hl
      rw [List.map_cons, compL, ih fun j hj => hl j (List.mem_cons_of_mem _ hj), Int.zero_add, h i (hl i (List.mem_cons_self ..))]
      rfl
  exact key _ fun i hi => List.mem_range.mp hi
theorem at_range {g : Nat → T} {m i : Nat} (h : i < m) : atT ((List.range m).map g) (i : Int) = .ok (g i) := at_nn (by simp [h])
/-- a loop whose turns all go on -/
theorem forF_inv {b : Cells → T → Fl} (P : Cells → Prop) : ∀ (xs : List T) (env : Cells), P env → (∀ x ∈ xs, ∀ e, P e → ∃ e', b e x = .nx e' ∧ P e') → ∃ e', forF b xs env = .nx e' ∧ P e'
  | [], env, h, _ => ⟨env, rfl, h⟩
  | x :: xs, env, h, hb => by
    obtain ⟨e1, h1, h2⟩ := hb x (List.mem_cons_self ..) env h
    obtain ⟨e2, h3, h4⟩ := forF_inv P xs e1 h2 fun y hy => hb y (List.mem_cons_of_mem _ hy)
    exact ⟨e2, by rw [forF, h1]; exact h3, h4⟩
theorem items_rng1 (n : Nat) (h : n ≤ 1000000) : itemsT .rng1 [.int n] = .ok (rngT 0 n) := by
  have e : ((n : Int).toNat) = n := by omega
  show (if (n : Int).natAbs ≤ SZ then Res.ok (rngT 0 (n : Int).toNat) else .no) = _
  rw [if_pos (by have : SZ = 1000000 := rfl; omega), e]
theorem items_rng2 (a n : Nat) (h : a ≤ 1000000 ∧ n ≤ 1000000) : itemsT .rng2 [.int a, .int n] = .ok (rngT a (n - a)) := by
  have e : (((n : Int) - (a : Int)).toNat) = n - a := by omega
  show (if (a : Int).natAbs ≤ SZ ∧ (n : Int).natAbs ≤ SZ then Res.ok (rngT a ((n : Int) - a).toNat) else .no) = _
  rw [if_pos (by have : SZ = 1000000 := rfl; omega), e]
theorem at_last {xs : List T} {t : T} (h : xs.getLast? = some t) : atT xs (-1) = .ok t := by
  have hl : xs ≠ [] := fun z => by rw [z] at h; cases h
  have hp : 0 < xs.length := List.length_pos_iff.mpr hl
  unfold atT
  rw [if_neg (by decide), if_pos (by omega)]
  have : ((-1 : Int) + xs.length).toNat = xs.length - 1 := by omega
  rw [this]
  rw [List.getLast?_eq_getElem?] at h
  simp [h]
end
end Fz

/-! statements one behind the other, for simp; loops and comprehensions by rules -/
namespace Fz
open PySem
section
variable {F : Fns} {env : Cells} {e a t : E} {es : List E} {i : Nat} {ss : List S} {R : Fl}
/-! what is done next, by name: so simp does not look ahead -/
def kAsg (F : Fns) (tg : Tg) (ss : List S) (env : Cells) (t : T) : Fl := match asgT tg t env with | some env' => execs F ss env' | none => .no
def kOwn (F : Fns) (i : Nat) (ss : List S) (env : Cells) (t : T) : Fl := execs F ss (env.set i (.ow t))
def kPar (F : Fns) (is : List Nat) (ss : List S) (env : Cells) (ts : List T) : Fl := execs F ss (setAll env is ts)
def kApp (F : Fns) (i : Nat) (ss : List S) (env : Cells) (xs : List T) (t : T) : Fl := if xs.length < SZ then execs F ss (env.set i (.ow (.lst (xs ++ [t])))) else .no
def kExt (F : Fns) (i : Nat) (ss : List S) (env : Cells) (xs : List T) (t : T) : Fl := match t with
  | .lst ys => if xs.length + ys.length ≤ SZ then execs F ss (env.set i (.ow (.lst (xs ++ ys)))) else .no
  | _ => .no
def kExpr (F : Fns) (ss : List S) (env : Cells) (t : T) : Fl := execs F ss env
def kIf (F : Fns) (a b ss : List S) (env : Cells) (k : Bool) : Fl := if k then execs F (a ++ ss) env else execs F (b ++ ss) env
section
variable {F : Fns} {env : Cells} {a b ss : List S} {i : Nat} {xs ys : List T} {t : T}
@[simp] theorem kAsg_ (tg : Tg) : kAsg F tg ss env t = (match asgT tg t env with | some env' => execs F ss env' | none => .no) := rfl
@[simp] theorem kOwn_ : kOwn F i ss env t = execs F ss (env.set i (.ow t)) := rfl
@[simp] theorem kPar_ (is : List Nat) : kPar F is ss env xs = execs F ss (setAll env is xs) := rfl
@[simp] theorem kApp_ : kApp F i ss env xs t = if xs.length < SZ then execs F ss (env.set i (.ow (.lst (xs ++ [t])))) else .no := rfl
@[simp] theorem kExt_ : kExt F i ss env xs (.lst ys) = if xs.length + ys.length ≤ SZ then execs F ss (env.set i (.ow (.lst (xs ++ ys)))) else .no := rfl
@[simp] theorem kExpr_ : kExpr F ss env t = execs F ss env := rfl
@[simp] theorem kIf_t : kIf F a b ss env true = execs F (a ++ ss) env := rfl
@[simp] theorem kIf_f : kIf F a b ss env false = execs F (b ++ ss) env := rfl
@[simp] theorem kIf_not (k : Bool) : kIf F a b ss env (!k) = kIf F b a ss env k := by cases k <;> rfl
@[simp] theorem kIf_bne (i j : Int) : kIf F a b ss env (i != j) = kIf F b a ss env (i == j) := kIf_not (i == j)
theorem kIf_dt {p : Prop} [Decidable p] (h : p) : kIf F a b ss env (decide p) = execs F (a ++ ss) env := by rw [decide_eq_true h]; rfl
theorem kIf_df {p : Prop} [Decidable p] (h : ¬ p) : kIf F a b ss env (decide p) = execs F (b ++ ss) env := by rw [decide_eq_false h]; rfl
theorem kIf_bt {i j : Int} (h : i = j) : kIf F a b ss env (i == j) = execs F (a ++ ss) env := by rw [h]; simp
theorem kIf_bf {i j : Int} (h : ¬ i = j) : kIf F a b ss env (i == j) = execs F (b ++ ss) env := by rw [beq_eq_false_iff_ne.mpr h]; rfl
end
theorem xs_append (F : Fns) : ∀ (a b : List S) (env : Cells), execs F (a ++ b) env = (match execs F a env with | .nx env' => execs F b env' | r => r)
  | [], b, env => by rw [execs_nil_]; rfl
  | s :: ss, b, env => by
    rw [List.cons_append, execs_cons_, execs_cons_]
    cases h : exec F s env with
    | nx env' => exact xs_append F ss b env'
    | _ => rfl
@[simp] theorem xs_asg (tg : Tg) : execs F (.asg tg e :: ss) env = flOf (ev F e env) env (kAsg F tg ss env) := by
  rw [execs_cons_, exec_asg_]
  cases ev F e env with
  | ok t => simp only [flOf_ok_, kAsg]; cases asgT tg t env <;> rfl
  | _ => rfl
@[simp] theorem xs_own : execs F (.own i e :: ss) env = flOf (ev F e env) env (kOwn F i ss env) := by
  rw [execs_cons_, exec_own_]
  cases ev F e env <;> rfl
@[simp] theorem xs_par (is : List Nat) : execs F (.par is es :: ss) env = flOf (evs F es env) env (kPar F is ss env) := by
  rw [execs_cons_, exec_par_]
  cases evs F es env <;> rfl
@[simp] theorem xs_share (is : List Nat) : execs F (.share is :: ss) env = execs F ss (shareC env is) := by rw [execs_cons_, exec_share_]
@[simp] theorem xs_app : execs F (.app i e :: ss) env = (match env[i]? with
      | some (.ow (.lst xs)) => flOf (ev F e env) env (kApp F i ss env xs)
      | _ => .no) := by
  rw [execs_cons_, exec_app_]
  cases env[i]? with
  | none => rfl
  | some c =>
    cases c with
    | ow u =>
      cases u with
      | lst xs =>
        cases ev F e env with
        | ok t => simp only [flOf_ok_]; by_cases h : xs.length < SZ <;> simp [h, kApp]
        | _ => rfl
      | _ => rfl
    | _ => rfl
@[simp] theorem xs_ext : execs F (.ext i e :: ss) env = (match env[i]? with
      | some (.ow (.lst xs)) => flOf (ev F e env) env (kExt F i ss env xs)
      | _ => .no) := by
  rw [execs_cons_, exec_ext_]
  cases env[i]? with
  | none => rfl
  | some c =>
    cases c with
    | ow u =>
      cases u with
      | lst xs =>
        cases ev F e env with
        | ok t =>
          cases t with
          | lst ys => simp only [flOf_ok_]; by_cases h : xs.length + ys.length ≤ SZ <;> simp [h, kExt]
          | _ => rfl
        | _ => rfl
      | _ => rfl
    | _ => rfl
@[simp] theorem xs_setI : execs F (.setI i a e :: ss) env = flOf (ev F e env) env fun t => (match env[i]? with
      | some (.ow (.lst xs)) => flOf (ev F a env) env fun j => (match j with
        | .int n => if 0 ≤ n ∧ n < xs.length then execs F ss (env.set i (.ow (.lst (xs.set n.toNat t)))) else .no
        | _ => .no)
      | some (.ow (.dct tk kvs)) => flOf (ev F a env) env fun j => if keyOk tk j && decide (kvs.length < 1000) then execs F ss (env.set i (.ow (.dct tk (putD kvs j t)))) else .no
      | _ => .no) := by
  rw [execs_cons_, exec]
  cases ev F e env with
  | ok t =>
    simp only [flOf_ok_]
    cases env[i]? with
    | none => rfl
    | some c =>
      cases c with
      | ow u =>
        cases u with
        | lst xs =>
          cases ev F a env with
          | ok j =>
            cases j with
            | int n => simp only [flOf_ok_]; by_cases h : 0 ≤ n ∧ n < xs.length <;> simp [h]
            | _ => rfl
          | _ => rfl
        | dct tk kvs =>
          cases ev F a env with
          | ok j => simp only [flOf_ok_]; cases h : (keyOk tk j && decide (kvs.length < 1000)) <;> simp
          | _ => rfl
        | _ => rfl
      | _ => rfl
  | _ => rfl
@[simp] theorem xs_expr : execs F (.expr e :: ss) env = flOf (ev F e env) env (kExpr F ss env) := by
  rw [execs_cons_, exec_expr_]
  cases ev F e env <;> rfl
@[simp] theorem xs_ifS (x y : List S) : execs F (.ifS t x y :: ss) env = flOf ((ev F t env).bind truT) env (kIf F x y ss env) := by
  rw [execs_cons_, exec_ifS_]
  cases (ev F t env).bind truT with
  | ok k => simp only [flOf_ok_]; cases k <;> simp [xs_append] <;> rfl
  | _ => rfl
@[simp] theorem xs_ret : execs F (.ret e :: ss) env = flOf (ev F e env) env fun t => .rt t := by
  rw [execs_cons_, exec_ret_]
  cases ev F e env <;> rfl
@[simp] theorem xs_retN : execs F (.retN :: ss) env = .rt .non := by rw [execs_cons_, exec_retN_]
@[simp] theorem xs_raise (d : Nat) : execs F (.raise d :: ss) env = .ex d env := by rw [execs_cons_, exec_raise_]
@[simp] theorem xs_pass : execs F (.pass :: ss) env = execs F ss env := by rw [execs_cons_, exec_pass_]
@[simp] theorem xs_popTo (tg : Tg) : execs F (.popTo tg i :: ss) env = (match env[i]? with
      | some (.ow (.lst xs)) => (match xs.getLast? with
        | some t => (match asgT tg t (env.set i (.ow (.lst xs.dropLast))) with | some env' => execs F ss env' | none => .no)
        | none => .no)
      | _ => .no) := by
  rw [execs_cons_, exec]
  cases env[i]? with
  | none => rfl
  | some c =>
    cases c with
    | ow u =>
      cases u with
      | lst xs =>
        simp only []
        cases xs.getLast? with
        | none => rfl
        | some t => simp only []; cases asgT tg t (env.set i (.ow (.lst xs.dropLast))) <;> rfl
      | _ => rfl
    | _ => rfl
@[simp] theorem xs_try (b : List S) (cs ns : List Nat) (i j : Nat) : execs F (.tryKeep b cs ns i j :: ss) env = (match execs F b env with
      | .nx env' => execs F ss env'
      | .ex c env' => if ns.contains c then (if cs.contains c then execs F ss ((env'.set j (.sh (.exc c))).set i .un) else .ex c env') else .no
      | r => r) := by
  rw [execs_cons_, exec]
  cases execs F b env with
  | ex c env' =>
    simp only []
    cases h1 : ns.contains c with
    | false => rfl
    | true => cases h2 : cs.contains c <;> rfl
  | _ => rfl
end
@[simp] theorem isInt_non_ : bltT .isInt [.non] = .ok (.bl false) := rfl
@[simp] theorem isInt_bl_ (b : Bool) : bltT .isInt [(.bl b)] = .ok (.bl true) := rfl
@[simp] theorem isInt_int_ (i : Int) : bltT .isInt [(.int i)] = .ok (.bl true) := rfl
@[simp] theorem isInt_str_ (x : Str) : bltT .isInt [(.str x)] = .ok (.bl false) := rfl
@[simp] theorem isInt_tup_ (xs : List T) : bltT .isInt [(.tup xs)] = .ok (.bl false) := rfl
@[simp] theorem isInt_lst_ (xs : List T) : bltT .isInt [(.lst xs)] = .ok (.bl false) := rfl
@[simp] theorem isBool_non_ : bltT .isBool [.non] = .ok (.bl false) := rfl
@[simp] theorem isBool_bl_ (b : Bool) : bltT .isBool [(.bl b)] = .ok (.bl true) := rfl
@[simp] theorem isBool_int_ (i : Int) : bltT .isBool [(.int i)] = .ok (.bl false) := rfl
@[simp] theorem isBool_str_ (x : Str) : bltT .isBool [(.str x)] = .ok (.bl false) := rfl
@[simp] theorem isBool_tup_ (xs : List T) : bltT .isBool [(.tup xs)] = .ok (.bl false) := rfl
@[simp] theorem isBool_lst_ (xs : List T) : bltT .isBool [(.lst xs)] = .ok (.bl false) := rfl
@[simp] theorem isTuple_non_ : bltT .isTuple [.non] = .ok (.bl false) := rfl
@[simp] theorem isTuple_bl_ (b : Bool) : bltT .isTuple [(.bl b)] = .ok (.bl false) := rfl
@[simp] theorem isTuple_int_ (i : Int) : bltT .isTuple [(.int i)] = .ok (.bl false) := rfl
@[simp] theorem isTuple_str_ (x : Str) : bltT .isTuple [(.str x)] = .ok (.bl false) := rfl
@[simp] theorem isTuple_tup_ (xs : List T) : bltT .isTuple [(.tup xs)] = .ok (.bl true) := rfl
@[simp] theorem isTuple_lst_ (xs : List T) : bltT .isTuple [(.lst xs)] = .ok (.bl false) := rfl
@[simp] theorem isStr_non_ : bltT .isStr [.non] = .ok (.bl false) := rfl
@[simp] theorem isStr_bl_ (b : Bool) : bltT .isStr [(.bl b)] = .ok (.bl false) := rfl
@[simp] theorem isStr_int_ (i : Int) : bltT .isStr [(.int i)] = .ok (.bl false) := rfl
@[simp] theorem isStr_str_ (x : Str) : bltT .isStr [(.str x)] = .ok (.bl true) := rfl
@[simp] theorem isStr_tup_ (xs : List T) : bltT .isStr [(.tup xs)] = .ok (.bl false) := rfl
@[simp] theorem isStr_lst_ (xs : List T) : bltT .isStr [(.lst xs)] = .ok (.bl false) := rfl
@[simp] theorem isList_non_ : bltT .isList [.non] = .ok (.bl false) := rfl
@[simp] theorem isList_bl_ (b : Bool) : bltT .isList [(.bl b)] = .ok (.bl false) := rfl
@[simp] theorem isList_int_ (i : Int) : bltT .isList [(.int i)] = .ok (.bl false) := rfl
@[simp] theorem isList_str_ (x : Str) : bltT .isList [(.str x)] = .ok (.bl false) := rfl
@[simp] theorem isList_tup_ (xs : List T) : bltT .isList [(.tup xs)] = .ok (.bl false) := rfl
@[simp] theorem isList_lst_ (xs : List T) : bltT .isList [(.lst xs)] = .ok (.bl true) := rfl
@[simp] theorem blt_all_ (xs : List T) : bltT .all [.lst xs] = (match boolsT xs with | some bs => .ok (.bl (bs.all id)) | none => .no) := rfl
@[simp] theorem blt_any_ (xs : List T) : bltT .any [.lst xs] = (match boolsT xs with | some bs => .ok (.bl (bs.any id)) | none => .no) := rfl
@[simp] theorem blt_sum_ (xs : List T) : bltT .sum [.lst xs] = (match intsT xs with | some ns => .ok (.int ns.sum) | none => .no) := rfl
@[simp] theorem blt_max1_ (xs : List T) : bltT .max1 [.lst xs] = (match intsT xs with | some (n :: ns) => .ok (.int (maxI ns n)) | _ => .no) := rfl
@[simp] theorem blt_min1_ (xs : List T) : bltT .min1 [.lst xs] = (match intsT xs with | some (n :: ns) => .ok (.int (minI ns n)) | _ => .no) := rfl
@[simp] theorem cmp_inn_t_ (a : T) (ys : List T) : cmpT .inn a (.tup ys) = if a.plain 60 && T.plains ys 60 then .ok (.bl (inT a ys)) else .no := by cases a <;> rfl
@[simp] theorem cmp_inn_l_ (a : T) (ys : List T) : cmpT .inn a (.lst ys) = if a.plain 60 && T.plains ys 60 then .ok (.bl (inT a ys)) else .no := by cases a <;> rfl
@[simp] theorem cmp_nin_t_ (a : T) (ys : List T) : cmpT .notIn a (.tup ys) = if a.plain 60 && T.plains ys 60 then .ok (.bl (!inT a ys)) else .no := by cases a <;> rfl
@[simp] theorem cmp_nin_l_ (a : T) (ys : List T) : cmpT .notIn a (.lst ys) = if a.plain 60 && T.plains ys 60 then .ok (.bl (!inT a ys)) else .no := by cases a <;> rfl
@[simp] theorem slc_t_ (xs : List T) (lo hi : Option Int) : slcT (.tup xs) lo hi = .ok (.tup (cutL xs lo hi)) := rfl
@[simp] theorem slc_l_ (xs : List T) (lo hi : Option Int) : slcT (.lst xs) lo hi = .ok (.lst (cutL xs lo hi)) := rfl
@[simp] theorem part_0_ : partT [] = .ok none := rfl
@[simp] theorem part_1_ (i : Int) : partT [.int i] = .ok (some i) := rfl
@[simp] theorem rev_l_ (xs : List T) : revT (.lst xs) = .ok (.lst xs.reverse) := rfl
@[simp] theorem rev_t_ (xs : List T) : revT (.tup xs) = .ok (.tup xs.reverse) := rfl
theorem le_SZ {n : Nat} (h : n ≤ 1000000) : (n ≤ SZ) = True := eq_true h
theorem lt_SZ {n : Nat} (h : n < 1000000) : (n < SZ) = True := eq_true h
section
variable {env : Cells} {a b z : E} {es : List E} {r : Res T}
@[simp] theorem rdB_mth_ (m : Blt) : rdB env (.mth m a b) r = r := rfl
@[simp] theorem rdB_callv_ (fs : List Nat) : rdB env (.callv a es fs) r = r := rfl
@[simp] theorem rdB_dnew_ (tk : Bool) : rdB env (.dnew tk) r = r := rfl
@[simp] theorem rdB_get2_ : rdB env (.get2 a b z) r = r := rfl
@[simp] theorem ev_get2_ {F : Fns} (i : Nat) : ev F (.get2 (.var i) b z) env = (rdAny env i).bind fun x => (match x with
      | .dct tk kvs => (ev F b env).bind fun y => (ev F z env).bind fun u => if keyOk tk y then .ok ((getD kvs y).getD u) else .no
      | _ => .no) := by rw [ev] <;> rfl
end
end Fz

/-! a def answers the same in every table that has all defs that it calls -/
namespace Fz
open PySem
mutual
def cE : E → List Nat
  | .var _ => []
  | .cst _ => []
  | .bin _ a b => cE a ++ cE b
  | .neg a => cE a
  | .cmp _ a b => cE a ++ cE b
  | .chain _ _ a b d => cE a ++ (cE b ++ cE d)
  | .band a b => cE a ++ cE b
  | .bor a b => cE a ++ cE b
  | .not a => cE a
  | .ite t a b => cE t ++ (cE a ++ cE b)
  | .tup es => cEs es
  | .lst es => cEs es
  | .len a => cE a
  | .idx a i => cE a ++ cE i
  | .idxV _ k => cE k
  | .slc a lo hi => cE a ++ (cEs lo ++ cEs hi)
  | .rev a => cE a
  | .call f es => f :: cEs es
  | .callv a es fs => fs ++ (cE a ++ cEs es)
  | .blt _ es => cEs es
  | .comp elt _ _ its cond _ => cE elt ++ (cEs its ++ cEs cond)
  | .dnew _ => []
  | .mth _ a k => cE a ++ cE k
  | .get2 a k z => cE a ++ (cE k ++ cE z)
def cEs : List E → List Nat
  | [] => []
  | e :: es => cE e ++ cEs es
end
mutual
def cS : S → List Nat
  | .asg _ e => cE e
  | .own _ e => cE e
  | .par _ es => cEs es
  | .share _ => []
  | .app _ e => cE e
  | .ext _ e => cE e
  | .setI _ k e => cE k ++ cE e
  | .expr e => cE e
  | .ifS t a b => cE t ++ (cSs a ++ cSs b)
  | .whl t b => cE t ++ cSs b
  | .forS _ _ its b => cEs its ++ cSs b
  | .ret e => cE e
  | .retN => []
  | .raise _ => []
  | .popTo _ _ => []
  | .tryKeep b _ _ _ _ => cSs b
  | .pass => []
def cSs : List S → List Nat
  | [] => []
  | s :: ss => cS s ++ cSs ss
end
section
variable {F F' : Fns}
def Ag (F F' : Fns) (l : List Nat) : Prop := ∀ f ∈ l, ∀ ts, F f ts = F' f ts
theorem Ag.l {a b : List Nat} (h : Ag F F' (a ++ b)) : Ag F F' a := fun f hf => h f (List.mem_append.mpr (.inl hf))
theorem Ag.r {a b : List Nat} (h : Ag F F' (a ++ b)) : Ag F F' b := fun f hf => h f (List.mem_append.mpr (.inr hf))
mutual
theorem ev_cg : ∀ (e : E), Ag F F' (cE e) → ∀ env, ev F e env = ev F' e env
  | .var i, h, env => by rw [ev, ev]
  | .cst t, h, env => by rw [ev, ev]
  | .bin op a b, h, env => by rw [ev, ev, ev_cg a h.l, ev_cg b h.r]
  | .neg a, h, env => by rw [ev, ev, ev_cg a h]
  | .cmp op a b, h, env => by rw [ev, ev, ev_cg a h.l, ev_cg b h.r]
  | .chain o1 o2 a b d, h, env => by simp only [ev, ev_cg a h.l, ev_cg b h.r.l, ev_cg d h.r.r] <;> rfl
  | .band a b, h, env => by rw [ev, ev, ev_cg a h.l, ev_cg b h.r]
  | .bor a b, h, env => by rw [ev, ev, ev_cg a h.l, ev_cg b h.r]
  | .not a, h, env => by rw [ev, ev, ev_cg a h]
  | .ite t a b, h, env => by rw [ev, ev, ev_cg t h.l, ev_cg a h.r.l, ev_cg b h.r.r]
  | .tup es, h, env => by rw [ev, ev, evs_cg es h]
  | .lst es, h, env => by rw [ev, ev, evs_cg es h]
  | .len a, h, env => by rw [ev, ev, ev_cg a h]
  | .idx a i, h, env => by rw [ev, ev, ev_cg a h.l, ev_cg i h.r]
  | .idxV i k, h, env => by rw [ev, ev, ev_cg k h]
  | .slc a lo hi, h, env => by rw [ev, ev, ev_cg a h.l, evs_cg lo h.r.l, evs_cg hi h.r.r]
  | .rev a, h, env => by rw [ev, ev, ev_cg a h]
  | .call f es, h, env => by
    rw [ev, ev, evs_cg es fun f hf => h f (List.mem_cons_of_mem _ hf)]
    congr 1
    funext ts
    exact h f (List.mem_cons_self ..) ts
  | .callv a es fs, h, env => by
    simp only [ev_callv_, ev_cg a h.r.l, evs_cg es h.r.r]
    congr 1
    funext x
    cases x with
    | fn f =>
      simp only []
      by_cases hf : fs.contains f = true
      · rw [if_pos hf, if_pos hf]
        congr 1
        funext ts
        exact h.l f (List.contains_iff_mem.mp hf) ts
      · rw [if_neg hf, if_neg hf]
    | _ => rfl
  | .blt b es, h, env => by rw [ev, ev, evs_cg es h]
  | .comp elt tg ik its cond own, h, env => by
    rw [ev_comp_, ev_comp_, evs_cg its h.r.l]
    congr 1
    funext as
    congr 1
    funext xs
    have : turn1 F elt tg cond own env = turn1 F' elt tg cond own env := by
      funext x
      unfold turn1
      cases asgT tg x (wipeC env own) with
      | none => rfl
      | some env' => simp only [evs_cg cond h.r.r env', ev_cg elt h.l env']
    rw [this]
  | .dnew tk, h, env => by rw [ev, ev]
  | .mth b a k, h, env => by rw [ev_mth_, ev_mth_, ev_cg a h.l, ev_cg k h.r]
  | .get2 a k z, h, env => by simp only [ev, ev_cg a h.l, ev_cg k h.r.l, ev_cg z h.r.r] <;> rfl
theorem evs_cg : ∀ (es : List E), Ag F F' (cEs es) → ∀ env, evs F es env = evs F' es env
  | [], h, env => by rw [evs, evs]
  | e :: es, h, env => by rw [evs, evs, ev_cg e h.l, evs_cg es h.r]
end
theorem whileF_cg {t t' : Cells → Res Bool} {b b' : Cells → Fl} (h1 : t = t') (h2 : b = b') : whileF t b = whileF t' b' := by rw [h1, h2]
mutual
theorem exec_cg : ∀ (s : S), Ag F F' (cS s) → ∀ env, exec F s env = exec F' s env
  | .asg tg e, h, env => by rw [exec_asg_, exec_asg_, ev_cg e h]
  | .own i e, h, env => by rw [exec_own_, exec_own_, ev_cg e h]
  | .par is es, h, env => by rw [exec_par_, exec_par_, evs_cg es h]
  | .share is, h, env => by rw [exec_share_, exec_share_]
  | .app i e, h, env => by rw [exec_app_, exec_app_, ev_cg e h]
  | .ext i e, h, env => by rw [exec_ext_, exec_ext_, ev_cg e h]
  | .setI i k e, h, env => by rw [exec_setI_, exec_setI_, ev_cg k h.l, ev_cg e h.r]
  | .expr e, h, env => by rw [exec_expr_, exec_expr_, ev_cg e h]
  | .ifS t a b, h, env => by rw [exec_ifS_, exec_ifS_, ev_cg t h.l, execs_cg a h.r.l, execs_cg b h.r.r]
  | .whl t b, h, env => by
    rw [exec_whl_, exec_whl_]
    have e1 : (fun env => (ev F t env).bind truT) = fun env => (ev F' t env).bind truT := by funext e; rw [ev_cg t h.l]
    have e2 : execs F b = execs F' b := by funext e; exact execs_cg b h.r e
    rw [e1, e2]
  | .forS tg ik its b, h, env => by
    rw [exec_forS_, exec_forS_, evs_cg its h.l]
    have e2 : forB F tg b = forB F' tg b := by
      funext e x
      unfold forB
      cases asgT tg x e with
      | none => rfl
      | some env' => exact execs_cg b h.r env'
    rw [e2]
  | .ret e, h, env => by rw [exec_ret_, exec_ret_, ev_cg e h]
  | .retN, h, env => by rw [exec_retN_, exec_retN_]
  | .raise c, h, env => by rw [exec_raise_, exec_raise_]
  | .popTo tg i, h, env => by rw [exec, exec]
  | .tryKeep b cs ns i j, h, env => by simp only [exec, execs_cg b h] <;> rfl
  | .pass, h, env => by rw [exec_pass_, exec_pass_]
theorem execs_cg : ∀ (ss : List S), Ag F F' (cSs ss) → ∀ env, execs F ss env = execs F' ss env
  | [], h, env => by rw [execs_nil_, execs_nil_]
  | s :: ss, h, env => by
    rw [execs_cons_, execs_cons_, exec_cg s h.l]
    cases exec F' s env with
    | nx env' => exact execs_cg ss h.r env'
    | _ => rfl
end
end
/-- these lie in the table, too, and call each other alone -/
def Part (all : List (Nat × Def)) (ids : List Nat) : List (Nat × Def) → Prop
  | [] => True
  | p :: r => (all.lookup p.1 = some p.2 ∧ (cSs p.2.body).all (fun f => ids.contains f) = true) ∧ Part all ids r
theorem part_get {all : List (Nat × Def)} {ids : List Nat} : ∀ {ds : List (Nat × Def)} {f : Nat} {d : Def}, Part all ids ds → ds.lookup f = some d → all.lookup f = some d ∧ (cSs d.body).all (fun f => ids.contains f) = true
  | [], f, d, _, h => by simp at h
  | (i, e) :: r, f, d, p, h => by
    rw [List.lookup_cons] at h
    by_cases z : f == i
    · simp only [z] at h
      cases h
      rw [eq_of_beq z]
      exact p.1
    · simp only [z] at h
      exact part_get p.2 h
/-- what a part answers -/
theorem call_part {all ds rest : List (Nat × Def)} (p : Part all (ds.map (·.1)) ds) (h : ∀ f d, ds.lookup f = some d → rest.lookup f = some d) : ∀ (n f : Nat), (ds.map (·.1)).contains f = true → ∀ ts, callF rest n f ts = callF all n f ts
  | 0, f, _, ts => rfl
  | n + 1, f, hf, ts => by
    have hl : ∃ d, ds.lookup f = some d := by
      have hm := List.contains_iff_mem.mp hf
      clear p h hf
      induction ds with
      | nil => cases hm
      | cons q r ih =>
        rw [List.lookup_cons]
        by_cases z : f == q.1
        · exact ⟨q.2, by simp [z]⟩
        · simp only [z]
          rw [List.map_cons, List.mem_cons] at hm
          rcases hm with e | e
          · rw [e] at z; simp at z
          · exact ih e
    obtain ⟨d, hd⟩ := hl
    obtain ⟨h1, h2⟩ := part_get p hd
    rw [callF, callF, h f d hd, h1]
    simp only []
    by_cases hl : ts.length = d.np
    · rw [if_pos hl, if_pos hl, execs_cg d.body fun g hg us => call_part p h n g (List.all_eq_true.mp h2 g hg) us]
    · rw [if_neg hl, if_neg hl]
/-- the law, told over the table of all -/
theorem law_all {all ds : List (Nat × Def)} {i : Nat} {d : Def} (p : Part all (ds.map (·.1)) ds) (hi : (ds.map (·.1)).contains i = false) (hc : (cSs d.body).all (fun f => (ds.map (·.1)).contains f) = true) (n : Nat) (ts : List T) (hl : ts.length = d.np) :
    callF (ds ++ [(i, d)]) (n + 1) i ts = finF (execs (callF all n) d.body (startC d ts)) := by
  have key : ∀ (l : List (Nat × Def)) (f : Nat) (e : Def), l.lookup f = some e → (l ++ [(i, d)]).lookup f = some e := by
    intro l
    induction l with
    | nil => intro f e h; simp at h
    | cons q r ih =>
      intro f e h
      rw [List.cons_append, List.lookup_cons]
      rw [List.lookup_cons] at h
      by_cases z : f == q.1
      · simp only [z] at h ⊢; exact h
      · simp only [z] at h ⊢; exact ih f e h
  have hli : (ds ++ [(i, d)]).lookup i = some d := by
    clear p hc key
    induction ds with
    | nil => simp
    | cons q r ih =>
      rw [List.map_cons, List.contains_cons, Bool.or_eq_false_iff] at hi
      rw [List.cons_append, List.lookup_cons]
      simp only [hi.1]
      exact ih hi.2
  rw [callF, hli]
  simp only []
  rw [if_pos hl, execs_cg d.body fun g hg us => call_part p (key ds) n g (List.all_eq_true.mp hc g hg) us]
end Fz

/-! the table of all defs: printed by genall.py -/
namespace Fz
open PySem
def allD : List (Nat × Def) := [
  (0, D_is_whole),
  (1, D_is_game_in),
  (2, D_is_game),
  (3, D_look_game),
  (4, D_ways_of),
  (5, D_paths_of),
  (6, D_paths),
  (7, D__law_cell),
  (8, D__law_pick),
  (9, D__law_game),
  (10, D__law_drawn),
  (11, D__law_ways),
  (12, D__law_walk),
  (13, D__law_low),
  (14, D__law_sum),
  (15, D__law_prod),
  (16, D__law_places),
  (17, D__law_put),
  (18, D__law_spoilt_thing),
  (19, D__law_whole),
  (20, D__law_is_game),
  (21, D__law_word),
  (22, D__law_do),
  (24, D_divisor),
  (25, D_share),
  (26, D_times),
  (27, D_is_end),
  (28, D_part_of),
  (29, D_is_path),
  (30, D_look_path),
  (31, D_part),
  (32, D_worth),
  (33, D_ends_of),
  (34, D_ends),
  (35, D_shares_of),
  (36, D_chance_of),
  (37, D_chance),
  (38, D__law_do_v2),
  (40, D_plus),
  (41, D_less),
  (42, D_parted),
  (43, D_is_less),
  (44, D_all_plus),
  (46, D_is_rule_of),
  (47, D_is_rule),
  (48, D_look_rule),
  (49, D_mean_of),
  (50, D__law_rules),
  (51, D__law_mean),
  (52, D__law_do_v3),
  (53, D__law_is_rule),
  (54, D__law_has_truth),
  (56, D_how_many),
  (57, D_how_many_rules),
  (58, D_rules_of),
  (59, D_all_rules),
  (60, D_mean_in),
  (61, D_means),
  (62, D__law_do_v4),
  (64, D_earlier),
  (65, D_later_of),
  (66, D_first_of),
  (67, D_last_of),
  (68, D__law_do_v5),
  (69, D__law_met),
  (71, D_mirrored),
  (72, D_first_met),
  (76, D_ahead_of),
  (77, D__law_first),
  (79, D_going),
  (80, D_put_at),
  (81, D_cut),
  (82, D_sizes),
  (83, D_stopped),
  (84, D_gain_at),
  (85, D_gains_of),
  (86, D_is_fair),
  (87, D_never_falls),
  (89, D_spread),
  (90, D_last_spread),
  (91, D__law_stop),
  (93, D_gain),
  (94, D_never_rises),
  (95, D_rule_through),
  (96, D_unfair),
  (97, D_is_unfair),
  (98, D__law_do_v6),
  (99, D__law_nearly),
  (100, D__law_put_worth),
  (102, D__law_do_v7),
  (104, D_drift_of),
  (105, D_drift),
  (106, D_fair_part),
  (107, D__law_do_v8),
  (109, D_ahead_in),
  (110, D_value_in),
  (111, D_best_mean),
  (112, D_worst_mean),
  (113, D_best_values),
  (114, D_stops),
  (115, D_first_best),
  (116, D_last_best),
  (117, D_is_best),
  (118, D__law_do_v9),
  (119, D__law_are_values_right),
  (121, D_are_bets_of),
  (122, D_are_bets),
  (123, D_look_bets),
  (124, D_gain_along),
  (125, D_gains),
  (126, D_mean_gain),
  (127, D__law_do_v10),
  (128, D__law_gains),
  (130, D_steps_at),
  (131, D_sure_gain),
  (132, D_is_sure_gain),
  (133, D_fair_weights),
  (134, D_are_fair_weights),
  (135, D__law_do_v11),
  (136, D__law_is_gain),
  (139, D_look_claim),
  (140, D_paid_at),
  (141, D_paid_from),
  (144, D__law_do_v12),
  (145, D__law_values),
  (146, D__law_agreed),
  (147, D__law_is_paid),
  (149, D_most_along),
  (150, D_mean_of_most),
  (151, D_chance_reached),
  (152, D_mean_square),
  (153, D_mean_steps),
  (154, D__law_do_v13),
  (155, D__law_lifted),
  (157, D_power),
  (158, D_home_chance),
  (159, D_steps_home),
  (161, D_spread_at),
  (162, D_mean_at),
  (163, D_still_going),
  (164, D_step_means),
  (169, D_game_text),
  (170, D_number_at),
  (171, D_game_at),
  (172, D_read_game),
  (173, D__law_spoilt),
  (174, D__law_do_v14),
  (175, D__law_text),
  (177, D__law_pick_v2),
  (178, D__law_class),
  (181, D__law_do_v15),
  (182, D__law_lists),
  (184, D_looked),
  (185, D_with_part),
  (186, D_with_worth),
  (188, D_raised),
  (189, D_lifted),
  (193, D_variance),
  (194, D_how_long),
  (196, D_likeliest),
  (197, D_chance_above),
  (202, D__law_deed),
  (203, D__law_behind),
  (204, D__law_there),
  (211, D_number_in),
  (215, D__law_spoilt_v2),
  (218, D__law_stays),
  (223, D__law_both_v2),
  (224, D__law_all_go)]
theorem a_is_whole : allD.lookup 0 = some D_is_whole := rfl
theorem a_is_game_in : allD.lookup 1 = some D_is_game_in := rfl
theorem a_is_game : allD.lookup 2 = some D_is_game := rfl
theorem a_look_game : allD.lookup 3 = some D_look_game := rfl
theorem a_ways_of : allD.lookup 4 = some D_ways_of := rfl
theorem a_paths_of : allD.lookup 5 = some D_paths_of := rfl
theorem a_paths : allD.lookup 6 = some D_paths := rfl
theorem a__law_cell : allD.lookup 7 = some D__law_cell := rfl
theorem a__law_pick : allD.lookup 8 = some D__law_pick := rfl
theorem a__law_game : allD.lookup 9 = some D__law_game := rfl
theorem a__law_drawn : allD.lookup 10 = some D__law_drawn := rfl
theorem a__law_ways : allD.lookup 11 = some D__law_ways := rfl
theorem a__law_walk : allD.lookup 12 = some D__law_walk := rfl
theorem a__law_low : allD.lookup 13 = some D__law_low := rfl
theorem a__law_sum : allD.lookup 14 = some D__law_sum := rfl
theorem a__law_prod : allD.lookup 15 = some D__law_prod := rfl
theorem a__law_places : allD.lookup 16 = some D__law_places := rfl
theorem a__law_put : allD.lookup 17 = some D__law_put := rfl
theorem a__law_spoilt_thing : allD.lookup 18 = some D__law_spoilt_thing := rfl
theorem a__law_whole : allD.lookup 19 = some D__law_whole := rfl
theorem a__law_is_game : allD.lookup 20 = some D__law_is_game := rfl
theorem a__law_word : allD.lookup 21 = some D__law_word := rfl
theorem a__law_do : allD.lookup 22 = some D__law_do := rfl
theorem a_divisor : allD.lookup 24 = some D_divisor := rfl
theorem a_share : allD.lookup 25 = some D_share := rfl
theorem a_times : allD.lookup 26 = some D_times := rfl
theorem a_is_end : allD.lookup 27 = some D_is_end := rfl
theorem a_part_of : allD.lookup 28 = some D_part_of := rfl
theorem a_is_path : allD.lookup 29 = some D_is_path := rfl
theorem a_look_path : allD.lookup 30 = some D_look_path := rfl
theorem a_part : allD.lookup 31 = some D_part := rfl
theorem a_worth : allD.lookup 32 = some D_worth := rfl
theorem a_ends_of : allD.lookup 33 = some D_ends_of := rfl
theorem a_ends : allD.lookup 34 = some D_ends := rfl
theorem a_shares_of : allD.lookup 35 = some D_shares_of := rfl
theorem a_chance_of : allD.lookup 36 = some D_chance_of := rfl
theorem a_chance : allD.lookup 37 = some D_chance := rfl
theorem a__law_do_v2 : allD.lookup 38 = some D__law_do_v2 := rfl
theorem a_plus : allD.lookup 40 = some D_plus := rfl
theorem a_less : allD.lookup 41 = some D_less := rfl
theorem a_parted : allD.lookup 42 = some D_parted := rfl
theorem a_is_less : allD.lookup 43 = some D_is_less := rfl
theorem a_all_plus : allD.lookup 44 = some D_all_plus := rfl
theorem a_is_rule_of : allD.lookup 46 = some D_is_rule_of := rfl
theorem a_is_rule : allD.lookup 47 = some D_is_rule := rfl
theorem a_look_rule : allD.lookup 48 = some D_look_rule := rfl
theorem a_mean_of : allD.lookup 49 = some D_mean_of := rfl
theorem a__law_rules : allD.lookup 50 = some D__law_rules := rfl
theorem a__law_mean : allD.lookup 51 = some D__law_mean := rfl
theorem a__law_do_v3 : allD.lookup 52 = some D__law_do_v3 := rfl
theorem a__law_is_rule : allD.lookup 53 = some D__law_is_rule := rfl
theorem a__law_has_truth : allD.lookup 54 = some D__law_has_truth := rfl
theorem a_how_many : allD.lookup 56 = some D_how_many := rfl
theorem a_how_many_rules : allD.lookup 57 = some D_how_many_rules := rfl
theorem a_rules_of : allD.lookup 58 = some D_rules_of := rfl
theorem a_all_rules : allD.lookup 59 = some D_all_rules := rfl
theorem a_mean_in : allD.lookup 60 = some D_mean_in := rfl
theorem a_means : allD.lookup 61 = some D_means := rfl
theorem a__law_do_v4 : allD.lookup 62 = some D__law_do_v4 := rfl
theorem a_earlier : allD.lookup 64 = some D_earlier := rfl
theorem a_later_of : allD.lookup 65 = some D_later_of := rfl
theorem a_first_of : allD.lookup 66 = some D_first_of := rfl
theorem a_last_of : allD.lookup 67 = some D_last_of := rfl
theorem a__law_do_v5 : allD.lookup 68 = some D__law_do_v5 := rfl
theorem a__law_met : allD.lookup 69 = some D__law_met := rfl
theorem a_mirrored : allD.lookup 71 = some D_mirrored := rfl
theorem a_first_met : allD.lookup 72 = some D_first_met := rfl
theorem a_ahead_of : allD.lookup 76 = some D_ahead_of := rfl
theorem a__law_first : allD.lookup 77 = some D__law_first := rfl
theorem a_going : allD.lookup 79 = some D_going := rfl
theorem a_put_at : allD.lookup 80 = some D_put_at := rfl
theorem a_cut : allD.lookup 81 = some D_cut := rfl
theorem a_sizes : allD.lookup 82 = some D_sizes := rfl
theorem a_stopped : allD.lookup 83 = some D_stopped := rfl
theorem a_gain_at : allD.lookup 84 = some D_gain_at := rfl
theorem a_gains_of : allD.lookup 85 = some D_gains_of := rfl
theorem a_is_fair : allD.lookup 86 = some D_is_fair := rfl
theorem a_never_falls : allD.lookup 87 = some D_never_falls := rfl
theorem a_spread : allD.lookup 89 = some D_spread := rfl
theorem a_last_spread : allD.lookup 90 = some D_last_spread := rfl
theorem a__law_stop : allD.lookup 91 = some D__law_stop := rfl
theorem a_gain : allD.lookup 93 = some D_gain := rfl
theorem a_never_rises : allD.lookup 94 = some D_never_rises := rfl
theorem a_rule_through : allD.lookup 95 = some D_rule_through := rfl
theorem a_unfair : allD.lookup 96 = some D_unfair := rfl
theorem a_is_unfair : allD.lookup 97 = some D_is_unfair := rfl
theorem a__law_do_v6 : allD.lookup 98 = some D__law_do_v6 := rfl
theorem a__law_nearly : allD.lookup 99 = some D__law_nearly := rfl
theorem a__law_put_worth : allD.lookup 100 = some D__law_put_worth := rfl
theorem a__law_do_v7 : allD.lookup 102 = some D__law_do_v7 := rfl
theorem a_drift_of : allD.lookup 104 = some D_drift_of := rfl
theorem a_drift : allD.lookup 105 = some D_drift := rfl
theorem a_fair_part : allD.lookup 106 = some D_fair_part := rfl
theorem a__law_do_v8 : allD.lookup 107 = some D__law_do_v8 := rfl
theorem a_ahead_in : allD.lookup 109 = some D_ahead_in := rfl
theorem a_value_in : allD.lookup 110 = some D_value_in := rfl
theorem a_best_mean : allD.lookup 111 = some D_best_mean := rfl
theorem a_worst_mean : allD.lookup 112 = some D_worst_mean := rfl
theorem a_best_values : allD.lookup 113 = some D_best_values := rfl
theorem a_stops : allD.lookup 114 = some D_stops := rfl
theorem a_first_best : allD.lookup 115 = some D_first_best := rfl
theorem a_last_best : allD.lookup 116 = some D_last_best := rfl
theorem a_is_best : allD.lookup 117 = some D_is_best := rfl
theorem a__law_do_v9 : allD.lookup 118 = some D__law_do_v9 := rfl
theorem a__law_are_values_right : allD.lookup 119 = some D__law_are_values_right := rfl
theorem a_are_bets_of : allD.lookup 121 = some D_are_bets_of := rfl
theorem a_are_bets : allD.lookup 122 = some D_are_bets := rfl
theorem a_look_bets : allD.lookup 123 = some D_look_bets := rfl
theorem a_gain_along : allD.lookup 124 = some D_gain_along := rfl
theorem a_gains : allD.lookup 125 = some D_gains := rfl
theorem a_mean_gain : allD.lookup 126 = some D_mean_gain := rfl
theorem a__law_do_v10 : allD.lookup 127 = some D__law_do_v10 := rfl
theorem a__law_gains : allD.lookup 128 = some D__law_gains := rfl
theorem a_steps_at : allD.lookup 130 = some D_steps_at := rfl
theorem a_sure_gain : allD.lookup 131 = some D_sure_gain := rfl
theorem a_is_sure_gain : allD.lookup 132 = some D_is_sure_gain := rfl
theorem a_fair_weights : allD.lookup 133 = some D_fair_weights := rfl
theorem a_are_fair_weights : allD.lookup 134 = some D_are_fair_weights := rfl
theorem a__law_do_v11 : allD.lookup 135 = some D__law_do_v11 := rfl
theorem a__law_is_gain : allD.lookup 136 = some D__law_is_gain := rfl
theorem a_look_claim : allD.lookup 139 = some D_look_claim := rfl
theorem a_paid_at : allD.lookup 140 = some D_paid_at := rfl
theorem a_paid_from : allD.lookup 141 = some D_paid_from := rfl
theorem a__law_do_v12 : allD.lookup 144 = some D__law_do_v12 := rfl
theorem a__law_values : allD.lookup 145 = some D__law_values := rfl
theorem a__law_agreed : allD.lookup 146 = some D__law_agreed := rfl
theorem a__law_is_paid : allD.lookup 147 = some D__law_is_paid := rfl
theorem a_most_along : allD.lookup 149 = some D_most_along := rfl
theorem a_mean_of_most : allD.lookup 150 = some D_mean_of_most := rfl
theorem a_chance_reached : allD.lookup 151 = some D_chance_reached := rfl
theorem a_mean_square : allD.lookup 152 = some D_mean_square := rfl
theorem a_mean_steps : allD.lookup 153 = some D_mean_steps := rfl
theorem a__law_do_v13 : allD.lookup 154 = some D__law_do_v13 := rfl
theorem a__law_lifted : allD.lookup 155 = some D__law_lifted := rfl
theorem a_power : allD.lookup 157 = some D_power := rfl
theorem a_home_chance : allD.lookup 158 = some D_home_chance := rfl
theorem a_steps_home : allD.lookup 159 = some D_steps_home := rfl
theorem a_spread_at : allD.lookup 161 = some D_spread_at := rfl
theorem a_mean_at : allD.lookup 162 = some D_mean_at := rfl
theorem a_still_going : allD.lookup 163 = some D_still_going := rfl
theorem a_step_means : allD.lookup 164 = some D_step_means := rfl
theorem a_game_text : allD.lookup 169 = some D_game_text := rfl
theorem a_number_at : allD.lookup 170 = some D_number_at := rfl
theorem a_game_at : allD.lookup 171 = some D_game_at := rfl
theorem a_read_game : allD.lookup 172 = some D_read_game := rfl
theorem a__law_spoilt : allD.lookup 173 = some D__law_spoilt := rfl
theorem a__law_do_v14 : allD.lookup 174 = some D__law_do_v14 := rfl
theorem a__law_text : allD.lookup 175 = some D__law_text := rfl
theorem a__law_pick_v2 : allD.lookup 177 = some D__law_pick_v2 := rfl
theorem a__law_class : allD.lookup 178 = some D__law_class := rfl
theorem a__law_do_v15 : allD.lookup 181 = some D__law_do_v15 := rfl
theorem a__law_lists : allD.lookup 182 = some D__law_lists := rfl
theorem a_looked : allD.lookup 184 = some D_looked := rfl
theorem a_with_part : allD.lookup 185 = some D_with_part := rfl
theorem a_with_worth : allD.lookup 186 = some D_with_worth := rfl
theorem a_raised : allD.lookup 188 = some D_raised := rfl
theorem a_lifted : allD.lookup 189 = some D_lifted := rfl
theorem a_variance : allD.lookup 193 = some D_variance := rfl
theorem a_how_long : allD.lookup 194 = some D_how_long := rfl
theorem a_likeliest : allD.lookup 196 = some D_likeliest := rfl
theorem a_chance_above : allD.lookup 197 = some D_chance_above := rfl
theorem a__law_deed : allD.lookup 202 = some D__law_deed := rfl
theorem a__law_behind : allD.lookup 203 = some D__law_behind := rfl
theorem a__law_there : allD.lookup 204 = some D__law_there := rfl
theorem a_number_in : allD.lookup 211 = some D_number_in := rfl
theorem a__law_spoilt_v2 : allD.lookup 215 = some D__law_spoilt_v2 := rfl
theorem a__law_stays : allD.lookup 218 = some D__law_stays := rfl
theorem a__law_both_v2 : allD.lookup 223 = some D__law_both_v2 := rfl
theorem a__law_all_go : allD.lookup 224 = some D__law_all_go := rfl
end Fz

/-! games, as trees: paths, what lies behind them, chances -/
namespace Fz
inductive G where
  | mk (w : Int) (ws : List (Int × G))
namespace G
def w : G → Int | .mk w _ => w
def ws : G → List (Int × G) | .mk _ ws => ws
/-- no deeper than so -/
def ok : Nat → G → Prop
  | 0, _ => False
  | n + 1, g => (-20 ≤ g.w ∧ g.w ≤ 20) ∧ g.ws.length ≤ 3 ∧ ∀ p ∈ g.ws, (1 ≤ p.1 ∧ p.1 ≤ 9) ∧ p.2.ok n
end G
def tot (ws : List (Int × G)) : Int := (ws.map (·.1)).sum
abbrev Row : Type := List Nat × G × Rat
def stepRow (t : Int) (p : (Int × G) × Nat) (x : Row) : Row := (p.2 :: x.1, x.2.1, x.2.2 * ((p.1.1 : Rat) / (t : Rat)))
namespace G
mutual
def walk : G → List Row
  | .mk w ws => ([], .mk w ws, 1) :: walks (tot ws) 0 ws
def walks (t : Int) : Nat → List (Int × G) → List Row
  | _, [] => []
  | k, (wt, g) :: r => (g.walk.map (stepRow t ((wt, g), k))) ++ walks t (k + 1) r
end
end G
def wayRows (t : Int) (p : (Int × G) × Nat) : List Row := p.1.2.walk.map (stepRow t p)
theorem walks_eq (t : Int) : ∀ (ws : List (Int × G)) (k : Nat), G.walks t k ws = (ws.zipIdx k).flatMap (wayRows t)
  | [], k => by simp [G.walks]
  | (wt, g) :: r, k => by rw [G.walks, walks_eq t r (k + 1), List.zipIdx_cons, List.flatMap_cons]; rfl
theorem walk_eq (g : G) : g.walk = ([], g, 1) :: (g.ws.zipIdx).flatMap (wayRows (tot g.ws)) := by
  cases g with
  | mk w ws => rw [G.walk, walks_eq]; rfl
namespace G
def paths (g : G) : List (List Nat) := g.walk.map (·.1)
/-- what lies behind a path -/
def sub : G → List Nat → Option G
  | g, [] => some g
  | g, i :: p => (match g.ws[i]? with | some q => q.2.sub p | none => none)
/-- the chance to come there -/
def chn : G → List Nat → Rat
  | _, [] => 1
  | g, i :: p => (match g.ws[i]? with | some q => ((q.1 : Rat) / (tot g.ws : Rat)) * q.2.chn p | none => 0)
end G
theorem sub_cons (g : G) (i : Nat) (p : List Nat) : g.sub (i :: p) = (match g.ws[i]? with | some q => q.2.sub p | none => none) := by rw [G.sub] <;> rfl
theorem sub_nil (g : G) : g.sub [] = some g := by rw [G.sub]
theorem chn_cons (g : G) (i : Nat) (p : List Nat) : g.chn (i :: p) = (match g.ws[i]? with | some q => ((q.1 : Rat) / (tot g.ws : Rat)) * q.2.chn p | none => 0) := by rw [G.chn] <;> rfl
theorem chn_nil (g : G) : g.chn [] = 1 := by rw [G.chn]
theorem mem_walk : ∀ (p : List Nat) (g h : G) (c : Rat), (p, h, c) ∈ g.walk ↔ g.sub p = some h ∧ c = g.chn p
  | [], g, h, c => by
    rw [walk_eq, sub_nil, chn_nil, List.mem_cons, List.mem_flatMap]
    constructor
    · rintro (e | ⟨q, _, h2⟩)
      · cases e; exact ⟨rfl, rfl⟩
      · unfold wayRows at h2
        rw [List.mem_map] at h2
        obtain ⟨x, _, e⟩ := h2
        cases e
    · rintro ⟨e1, e2⟩
      cases e1; rw [e2]; exact .inl rfl
  | i :: p, g, h, c => by
    rw [walk_eq, sub_cons, chn_cons, List.mem_cons, List.mem_flatMap]
    constructor
    · rintro (e | ⟨⟨q, j⟩, h1, h2⟩)
      · cases e
      · unfold wayRows at h2
        rw [List.mem_map] at h2
        obtain ⟨⟨p', h', c'⟩, hx, e⟩ := h2
        have hq := List.mem_zipIdx_iff_getElem?.mp h1
        simp only at hq
        unfold stepRow at e
        simp only [Prod.mk.injEq, List.cons.injEq] at e
        obtain ⟨⟨rfl, rfl⟩, rfl, rfl⟩ := e
        rw [hq]
        obtain ⟨a, b⟩ := (mem_walk _ _ _ _).mp hx
        exact ⟨a, by rw [b, Rat.mul_comm]⟩
    · rintro ⟨e1, e2⟩
      cases hq : g.ws[i]? with
      | none => rw [hq] at e1; cases e1
      | some q =>
        rw [hq] at e1 e2
        simp only at e1 e2
        refine .inr ⟨(q, i), List.mem_zipIdx_iff_getElem?.mpr hq, ?_⟩
        unfold wayRows
        rw [List.mem_map]
        refine ⟨(p, h, q.2.chn p), (mem_walk _ _ _ _).mpr ⟨e1, rfl⟩, ?_⟩
        unfold stepRow
        rw [e2, Rat.mul_comm]
theorem ok_way {n : Nat} {g : G} (h : g.ok (n + 1)) {q : Int × G} (hq : q ∈ g.ws) : (1 ≤ q.1 ∧ q.1 ≤ 9) ∧ q.2.ok n := h.2.2 q hq
theorem ok_mono : ∀ {m n : Nat} {g : G}, g.ok m → m ≤ n → g.ok n
  | 0, _, _, h, _ => h.elim
  | m + 1, 0, _, _, hn => by omega
  | m + 1, n + 1, g, h, hn => ⟨h.1, h.2.1, fun p hp => ⟨(h.2.2 p hp).1, ok_mono (h.2.2 p hp).2 (by omega)⟩⟩
theorem ok_sub : ∀ {n : Nat} {g h : G} {p : List Nat}, g.ok n → g.sub p = some h → p.length < n ∧ h.ok (n - p.length)
  | n, g, h, [], hg, e => by
    rw [sub_nil] at e
    cases e
    cases n with
    | zero => exact hg.elim
    | succ n => exact ⟨by simp, by simpa using hg⟩
  | 0, g, h, i :: p, hg, e => hg.elim
  | n + 1, g, h, i :: p, hg, e => by
    rw [sub_cons] at e
    cases hq : g.ws[i]? with
    | none => rw [hq] at e; cases e
    | some q =>
      rw [hq] at e
      obtain ⟨h1, h2⟩ := ok_sub (ok_way hg (List.mem_of_getElem? hq)).2 e
      refine ⟨by rw [List.length_cons]; omega, ?_⟩
      rw [List.length_cons, Nat.add_sub_add_right]
      exact h2
theorem flat_len {α β : Type} (f : α → List β) (m : Nat) : ∀ (l : List α), (∀ x ∈ l, (f x).length ≤ m) → (l.flatMap f).length ≤ l.length * m
  | [], _ => by simp
  | x :: l, h => by
    rw [List.flatMap_cons, List.length_append, List.length_cons, Nat.succ_mul]
    have := flat_len f m l fun y hy => h y (List.mem_cons_of_mem _ hy)
    have := h x (List.mem_cons_self ..)
    omega
theorem walk_len : ∀ {n : Nat} {g : G}, g.ok n → g.walk.length ≤ 4 ^ n
  | 0, g, h => h.elim
  | n + 1, g, h => by
    rw [walk_eq, List.length_cons]
    have h1 := flat_len (wayRows (tot g.ws)) (4 ^ n) g.ws.zipIdx fun x hx => by
      obtain ⟨q, i⟩ := x
      unfold wayRows
      rw [List.length_map]
      exact walk_len (ok_way h (List.mem_of_getElem? (List.mem_zipIdx_iff_getElem?.mp hx))).2
    rw [List.length_zipIdx] at h1
    have h2 : g.ws.length * 4 ^ n ≤ 3 * 4 ^ n := Nat.mul_le_mul_right _ h.2.1
    have h3 : 0 < 4 ^ n := Nat.pow_pos (by decide)
    rw [Nat.pow_succ]
    omega
theorem tot_pos {n : Nat} {g : G} (h : g.ok (n + 1)) (hn : g.ws ≠ []) : 1 ≤ tot g.ws ∧ tot g.ws ≤ 27 := by
  have key : ∀ (l : List (Int × G)), (∀ p ∈ l, 1 ≤ p.1 ∧ p.1 ≤ 9) → (l.length : Int) ≤ tot l ∧ tot l ≤ 9 * l.length := by
    intro l
    induction l with
    | nil => intro _; simp [tot]
    | cons p l ih =>
      intro hp
      have := ih fun q hq => hp q (List.mem_cons_of_mem _ hq)
      have := hp p (List.mem_cons_self ..)
      unfold tot at *
      rw [List.map_cons, List.sum_cons, List.length_cons]
      omega
  have := key g.ws fun p hp => (ok_way h hp).1
  have := h.2.1
  have : 0 < g.ws.length := List.length_pos_iff.mpr hn
  omega
/-- paths by themselves -/
theorem sub_append (g : G) : ∀ (p q : List Nat), g.sub (p ++ q) = (g.sub p).bind fun h => h.sub q := by
  intro p
  induction p generalizing g with
  | nil => intro q; rw [sub_nil]; rfl
  | cons i p ih =>
    intro q
    rw [List.cons_append, sub_cons, sub_cons]
    cases g.ws[i]? with
    | none => rfl
    | some r => exact ih r.2 q
theorem mem_paths {g : G} {p : List Nat} : p ∈ g.paths ↔ ∃ h, g.sub p = some h := by
  unfold G.paths
  rw [List.mem_map]
  constructor
  · rintro ⟨⟨q, h, c⟩, hm, rfl⟩
    exact ⟨h, ((mem_walk _ _ _ _).mp hm).1⟩
  · rintro ⟨h, e⟩
    exact ⟨(p, h, g.chn p), (mem_walk _ _ _ _).mpr ⟨e, rfl⟩, rfl⟩
end Fz

/-! rules for loops and comprehensions -/
namespace Fz
open PySem
section
variable {F : Fns} {α : Type}
theorem call_k {ds : List (Nat × Def)} {k f : Nat} {d : Def} {args : List T} (h : ds.lookup f = some d) (hl : args.length = d.np) (hk : 1 ≤ k) : callF ds k f args = finF (execs (callF ds (k - 1)) d.body (startC d args)) := by
  obtain ⟨j, rfl⟩ : ∃ j, k = j + 1 := ⟨k - 1, by omega⟩
  exact call_at h hl
/-- a loop over things told from a list, by what stands behind each turn -/
theorem forF_rule {b : Cells → T → Fl} {h : α → T} (Inv : List α → Cells → Prop) {R : Fl} : ∀ (l : List α) (pre : List α) (env : Cells), Inv pre env →
    (∀ a x post e, pre ++ l = a ++ x :: post → Inv a e → (∃ e', b e (h x) = .nx e' ∧ Inv (a ++ [x]) e') ∨ (b e (h x) = R ∧ ∀ e', R ≠ .nx e')) →
    (∃ e, forF b (l.map h) env = .nx e ∧ Inv (pre ++ l) e) ∨ (forF b (l.map h) env = R ∧ ∀ e', R ≠ .nx e')
  | [], pre, env, h0, hs => .inl ⟨env, rfl, by rw [List.append_nil]; exact h0⟩
  | x :: l, pre, env, h0, hs => by
    rw [List.map_cons, forF]
    rcases hs pre x l env rfl h0 with ⟨e', h1, h2⟩ | ⟨h1, h2⟩
    · rw [h1]
      simp only []
      have e : pre ++ x :: l = (pre ++ [x]) ++ l := by simp
      rw [e] at hs ⊢
      exact forF_rule Inv l (pre ++ [x]) e' h2 hs
    · refine .inr ⟨?_, h2⟩
      rw [h1]
      cases R with
      | nx e' => exact absurd rfl (h2 e')
      | _ => rfl
theorem xs_for {tg : Tg} {ik : IK} {es : List E} {b ss : List S} {env : Cells} {R : Fl} {l : List α} {h : α → T} (hi : ((evs F es env).bind fun as => itemsT ik as) = .ok (l.map h)) (Inv : List α → Cells → Prop) (h0 : Inv [] env)
    (hs : ∀ a x post e, l = a ++ x :: post → Inv a e → (∃ e', forB F tg b e (h x) = .nx e' ∧ Inv (a ++ [x]) e') ∨ (forB F tg b e (h x) = R ∧ ∀ e', R ≠ .nx e'))
    (hr : ∀ e, Inv l e → execs F ss e = R) : execs F (.forS tg ik es b :: ss) env = R := by
  rw [execs_cons_, exec_forS_, hi, flOf_ok_]
  rcases forF_rule (R := R) Inv l [] env h0 hs with ⟨e, h1, h2⟩ | ⟨h1, h2⟩
  · rw [h1]
    exact hr e h2
  · rw [h1]
    cases R with
    | nx e' => exact absurd rfl (h2 e')
    | _ => rfl
/-- it goes on, and so -/
def Nx (r : Fl) (P : Cells → Prop) : Prop := ∃ e', r = .nx e' ∧ P e'
theorem Nx.out {r : Fl} {P : Cells → Prop} (h : Nx r P) : ∃ e', r = .nx e' ∧ P e' := h
@[simp] theorem Nx_nx (e : Cells) (P : Cells → Prop) : Nx (.nx e) P = P e := by
  refine propext ⟨fun ⟨e', h1, h2⟩ => ?_, fun h => ⟨e, rfl, h⟩⟩
  cases h1; exact h2
/-- it goes on so, or ends with this -/
def Nr (r : Fl) (P : Cells → Prop) (R : Fl) : Prop := (∃ e', r = .nx e' ∧ P e') ∨ (r = R ∧ ∀ e', R ≠ .nx e')
theorem Nr.out {r : Fl} {P : Cells → Prop} {R : Fl} (h : Nr r P R) : (∃ e', r = .nx e' ∧ P e') ∨ (r = R ∧ ∀ e', R ≠ .nx e') := h
@[simp] theorem Nr_nx (e : Cells) (P : Cells → Prop) (t : T) : Nr (.nx e) P (.rt t) = P e := by
  refine propext ⟨fun h => ?_, fun h => .inl ⟨e, rfl, h⟩⟩
  rcases h with ⟨e', h1, h2⟩ | ⟨h1, h2⟩
  · cases h1; exact h2
  · cases h1
@[simp] theorem Nr_rt (P : Cells → Prop) (t u : T) : Nr (.rt u) P (.rt t) = (u = t) := by
  refine propext ⟨fun h => ?_, fun h => .inr ⟨by rw [h], fun _ h => by cases h⟩⟩
  rcases h with ⟨e', h1, h2⟩ | ⟨h1, h2⟩
  · cases h1
  · cases h1; rfl
theorem Nx_for {tg : Tg} {ik : IK} {es : List E} {b ss : List S} {env : Cells} {P : Cells → Prop} {l : List α} {h : α → T} (hi : ((evs F es env).bind fun as => itemsT ik as) = .ok (l.map h)) (Inv : List α → Cells → Prop) (h0 : Inv [] env)
    (hs : ∀ a x post e, l = a ++ x :: post → Inv a e → ∃ e', forB F tg b e (h x) = .nx e' ∧ Inv (a ++ [x]) e')
    (hr : ∀ e, Inv l e → Nx (execs F ss e) P) : Nx (execs F (.forS tg ik es b :: ss) env) P := by
  rw [execs_cons_, exec_forS_, hi, flOf_ok_]
  rcases forF_rule (R := .no) Inv l [] env h0 (fun a x post e h1 h2 => .inl (hs a x post e h1 h2)) with ⟨e, h1, h2⟩ | ⟨h1, h2⟩
  · rw [h1]
    exact hr e h2
  · rcases forF_rule (R := .rt .non) Inv l [] env h0 (fun a x post e h1 h2 => .inl (hs a x post e h1 h2)) with ⟨e, h3, h4⟩ | ⟨h3, h4⟩
    · rw [h3] at h1; cases h1
    · rw [h3] at h1; cases h1
theorem Nr_for {tg : Tg} {ik : IK} {es : List E} {b ss : List S} {env : Cells} {P : Cells → Prop} {R : Fl} {l : List α} {h : α → T} (hi : ((evs F es env).bind fun as => itemsT ik as) = .ok (l.map h)) (Inv : List α → Cells → Prop) (h0 : Inv [] env)
    (hs : ∀ a x post e, l = a ++ x :: post → Inv a e → (∃ e', forB F tg b e (h x) = .nx e' ∧ Inv (a ++ [x]) e') ∨ (forB F tg b e (h x) = R ∧ ∀ e', R ≠ .nx e'))
    (hr : ∀ e, Inv l e → Nr (execs F ss e) P R) : Nr (execs F (.forS tg ik es b :: ss) env) P R := by
  rw [execs_cons_, exec_forS_, hi, flOf_ok_]
  rcases forF_rule (R := R) Inv l [] env h0 hs with ⟨e, h1, h2⟩ | ⟨h1, h2⟩
  · rw [h1]
    exact hr e h2
  · rw [h1]
    refine .inr ⟨?_, h2⟩
    cases R with
    | nx e' => exact absurd rfl (h2 e')
    | _ => rfl
/-- it tells a thing, and such a one -/
def Px (r : Fl) (P : T → Prop) : Prop := ∃ t, r = .rt t ∧ P t
theorem Px.fin {r : Fl} {P : T → Prop} (h : Px r P) : ∃ t, finF r = .ok t ∧ P t := by
  obtain ⟨t, h1, h2⟩ := h
  exact ⟨t, by rw [h1]; rfl, h2⟩
@[simp] theorem Px_rt (t : T) (P : T → Prop) : Px (.rt t) P = P t := by
  refine propext ⟨fun ⟨e', h1, h2⟩ => ?_, fun h => ⟨t, rfl, h⟩⟩
  cases h1; exact h2
theorem fl_then {s : S} {ss : List S} {env e : Cells} (h : execs F [s] env = .nx e) : execs F (s :: ss) env = execs F ss e := by
  rw [execs_cons_] at h ⊢
  cases h1 : exec F s env with
  | nx e' => rw [h1] at h; simp only [execs_nil_] at h; cases h; rfl
  | _ => rw [h1] at h; cases h
theorem Px_seq {s : S} {ss : List S} {env : Cells} {P : T → Prop} (Q : Cells → Prop) (h1 : Nx (execs F [s] env) Q) (h2 : ∀ e, Q e → Px (execs F ss e) P) : Px (execs F (s :: ss) env) P := by
  obtain ⟨e, h3, h4⟩ := h1
  rw [fl_then h3]
  exact h2 e h4
theorem xs_seq {s : S} {ss : List S} {env : Cells} {R : Fl} (Q : Cells → Prop) (h1 : Nx (execs F [s] env) Q) (h2 : ∀ e, Q e → execs F ss e = R) : execs F (s :: ss) env = R := by
  obtain ⟨e, h3, h4⟩ := h1
  rw [fl_then h3]
  exact h2 e h4
theorem Nx_seq {s : S} {ss : List S} {env : Cells} {P : Cells → Prop} (Q : Cells → Prop) (h1 : Nx (execs F [s] env) Q) (h2 : ∀ e, Q e → Nx (execs F ss e) P) : Nx (execs F (s :: ss) env) P := by
  obtain ⟨e, h3, h4⟩ := h1
  rw [fl_then h3]
  exact h2 e h4
theorem Nr_seq {s : S} {ss : List S} {env : Cells} {P : Cells → Prop} {R : Fl} (Q : Cells → Prop) (h1 : Nx (execs F [s] env) Q) (h2 : ∀ e, Q e → Nr (execs F ss e) P R) : Nr (execs F (s :: ss) env) P R := by
  obtain ⟨e, h3, h4⟩ := h1
  rw [fl_then h3]
  exact h2 e h4
theorem Px_for {tg : Tg} {ik : IK} {es : List E} {b ss : List S} {env : Cells} {P : T → Prop} {l : List α} {h : α → T} (hi : ((evs F es env).bind fun as => itemsT ik as) = .ok (l.map h)) (Inv : List α → Cells → Prop) (h0 : Inv [] env)
    (hs : ∀ a x post e, l = a ++ x :: post → Inv a e → ∃ e', forB F tg b e (h x) = .nx e' ∧ Inv (a ++ [x]) e')
    (hr : ∀ e, Inv l e → Px (execs F ss e) P) : Px (execs F (.forS tg ik es b :: ss) env) P := by
  obtain ⟨e, h1, h2⟩ := Nx_for (ss := []) (P := Inv l) hi Inv h0 hs (fun e h => by rw [execs_nil_, Nx_nx]; exact h)
  rw [fl_then h1]
  exact hr e h2
theorem enumT_map (h : α → T) : ∀ (l : List α) (k : Nat), enumT k (l.map h) = (l.zipIdx k).map fun p => T.tup [.int p.2, h p.1]
  | [], k => rfl
  | x :: l, k => by rw [List.map_cons, enumT, enumT_map h l (k + 1), List.zipIdx_cons, List.map_cons]
theorem zipIdx_split' : ∀ (a : List (α × Nat)) (l : List α) (k : Nat) {x : α × Nat} {post : List (α × Nat)}, l.zipIdx k = a ++ x :: post → ∃ a' post', l = a' ++ x.1 :: post' ∧ a = a'.zipIdx k ∧ x.2 = k + a'.length
  | [], l, k, x, post, h => by
    cases l with
    | nil => simp at h
    | cons y l =>
      rw [List.zipIdx_cons, List.nil_append, List.cons.injEq] at h
      rw [← h.1]
      exact ⟨[], l, rfl, rfl, rfl⟩
  | q :: a, l, k, x, post, h => by
    cases l with
    | nil => simp at h
    | cons y l =>
      rw [List.zipIdx_cons, List.cons_append, List.cons.injEq] at h
      obtain ⟨a', post', h1, h2, h3⟩ := zipIdx_split' a l (k + 1) h.2
      refine ⟨y :: a', post', by rw [h1]; rfl, by rw [List.zipIdx_cons, ← h2, h.1], ?_⟩
      rw [h3, List.length_cons]
      omega
theorem zipIdx_split {l : List α} {a : List (α × Nat)} {x : α × Nat} {post : List (α × Nat)} (h : l.zipIdx = a ++ x :: post) : ∃ a' post', l = a' ++ x.1 :: post' ∧ a = a'.zipIdx ∧ x.2 = a'.length := by
  obtain ⟨a', post', h1, h2, h3⟩ := zipIdx_split' a l 0 h
  exact ⟨a', post', h1, h2, by omega⟩
/-- the same, told with numbers -/
theorem xs_forE {tg : Tg} {es : List E} {b ss : List S} {env : Cells} {R : Fl} {l : List α} {h : α → T} (hi : ((evs F es env).bind fun as => itemsT .enum as) = .ok (enumT 0 (l.map h))) (Inv : List α → Cells → Prop) (h0 : Inv [] env)
    (hs : ∀ a x post e, l = a ++ x :: post → Inv a e → (∃ e', forB F tg b e (.tup [.int (a.length : Nat), h x]) = .nx e' ∧ Inv (a ++ [x]) e') ∨ (forB F tg b e (.tup [.int (a.length : Nat), h x]) = R ∧ ∀ e', R ≠ .nx e'))
    (hr : ∀ e, Inv l e → execs F ss e = R) : execs F (.forS tg .enum es b :: ss) env = R := by
  rw [enumT_map] at hi
  refine xs_for hi (fun a e => ∃ a', a = a'.zipIdx ∧ Inv a' e) ⟨[], rfl, h0⟩ (fun a x post e hl hI => ?_) (fun e hI => ?_)
  · obtain ⟨a', ha, hI⟩ := hI
    obtain ⟨a2, post', e1, e2, e3⟩ := zipIdx_split hl
    have e4 : a2 = a' := by
      have := ha.symm.trans e2
      have := congrArg (List.map Prod.fst) this
      simpa using this.symm
    subst e4
    rcases hs a2 x.1 post' e e1 hI with ⟨e', h1, h2⟩ | ⟨h1, h2⟩
    · refine .inl ⟨e', by rw [e3]; exact h1, a2 ++ [x.1], ?_, h2⟩
      rw [List.zipIdx_append, ← e2]
      obtain ⟨x1, x2⟩ := x
      simp only at e3
      simp [e3]
    · exact .inr ⟨by rw [e3]; exact h1, h2⟩
  · obtain ⟨a', ha, hI⟩ := hI
    have := congrArg (List.map Prod.fst) ha
    have : l = a' := by simpa using this
    rw [this] at hr
    exact hr e hI
theorem Px_forE {tg : Tg} {es : List E} {b ss : List S} {env : Cells} {P : T → Prop} {l : List α} {h : α → T} (hi : ((evs F es env).bind fun as => itemsT .enum as) = .ok (enumT 0 (l.map h))) (Inv : List α → Cells → Prop) (h0 : Inv [] env)
    (hs : ∀ a x post e, l = a ++ x :: post → Inv a e → ∃ e', forB F tg b e (.tup [.int (a.length : Nat), h x]) = .nx e' ∧ Inv (a ++ [x]) e')
    (hr : ∀ e, Inv l e → Px (execs F ss e) P) : Px (execs F (.forS tg .enum es b :: ss) env) P := by
  have h1 : ∃ e', execs F [.forS tg .enum es b] env = .nx e' ∧ Inv l e' := by
    rw [enumT_map] at hi
    refine Nx.out (Nx_for hi (fun a e => ∃ a', a = a'.zipIdx ∧ Inv a' e) ⟨[], rfl, h0⟩ (fun a x post e hl hI => ?_) (fun e hI => ?_))
    · obtain ⟨a', ha, hI⟩ := hI
      obtain ⟨a2, post', e1, e2, e3⟩ := zipIdx_split hl
      have e4 : a2 = a' := by
        have := ha.symm.trans e2
        have := congrArg (List.map Prod.fst) this
        simpa using this.symm
      subst e4
      obtain ⟨e', h1, h2⟩ := hs a2 x.1 post' e e1 hI
      refine ⟨e', by rw [e3]; exact h1, a2 ++ [x.1], ?_, h2⟩
      rw [List.zipIdx_append, ← e2]
      obtain ⟨x1, x2⟩ := x
      simp only at e3
      simp [e3]
    · obtain ⟨a', ha, hI⟩ := hI
      have := congrArg (List.map Prod.fst) ha
      have : l = a' := by simpa using this
      rw [execs_nil_, Nx_nx, this]
      exact hI
  obtain ⟨e, h1, h2⟩ := h1
  rw [fl_then h1]
  exact hr e h2
theorem compL_l {f : T → Res (Option T)} {h g : α → T} : ∀ {l : List α}, (∀ x ∈ l, f (h x) = .ok (some (g x))) → compL f (l.map h) = .ok (l.map g)
  | [], _ => rfl
  | x :: l, hx => by
    rw [List.map_cons, compL, hx x (List.mem_cons_self ..), compL_l fun y hy => hx y (List.mem_cons_of_mem _ hy)]
    rfl
theorem compL_lf {f : T → Res (Option T)} {h g : α → T} {p : α → Bool} : ∀ {l : List α}, (∀ x ∈ l, f (h x) = .ok (if p x then some (g x) else none)) → compL f (l.map h) = .ok ((l.filter p).map g)
  | [], _ => rfl
  | x :: l, hx => by
    rw [List.map_cons, compL, hx x (List.mem_cons_self ..), compL_lf fun y hy => hx y (List.mem_cons_of_mem _ hy), List.filter_cons]
    cases p x <;> rfl
theorem compL_le {f : T → Res (Option T)} {h : α → T} {g : α × Nat → T} {l : List α} (hx : ∀ x ∈ l.zipIdx, f (.tup [.int (x.2 : Nat), h x.1]) = .ok (some (g x))) : compL f (enumT 0 (l.map h)) = .ok (l.zipIdx.map g) := by
  rw [enumT_map]
  exact compL_l hx
theorem rng_zip (l : List α) (n : Nat) (h : l.length = n) : (List.range n).map (fun i => T.int (i : Nat)) = l.zipIdx.map fun q => T.int (q.2 : Nat) := by
  have : l.zipIdx.map (fun q => T.int (q.2 : Nat)) = (l.zipIdx.map Prod.snd).map fun i => T.int (i : Nat) := by rw [List.map_map]; rfl
  rw [this, List.zipIdx_map_snd, ← h, List.range_eq_range']
theorem Nx_forR {tg : Tg} {es : List E} {b ss : List S} {env : Cells} {P : Cells → Prop} {l : List α} (hi : ((evs F es env).bind fun as => itemsT .rng1 as) = .ok ((List.range l.length).map fun i => T.int (i : Nat))) (Inv : List α → Cells → Prop) (h0 : Inv [] env)
    (hs : ∀ a x post e, l = a ++ x :: post → Inv a e → ∃ e', forB F tg b e (.int (a.length : Nat)) = .nx e' ∧ Inv (a ++ [x]) e')
    (hr : ∀ e, Inv l e → Nx (execs F ss e) P) : Nx (execs F (.forS tg .rng1 es b :: ss) env) P := by
  rw [rng_zip l _ rfl] at hi
  refine Nx_for hi (fun a e => ∃ a', a = a'.zipIdx ∧ Inv a' e) ⟨[], rfl, h0⟩ (fun a x post e hl hI => ?_) (fun e hI => ?_)
  · obtain ⟨a', ha, hI⟩ := hI
    obtain ⟨a2, post', e1, e2, e3⟩ := zipIdx_split hl
    have e4 : a2 = a' := by
      have := ha.symm.trans e2
      have := congrArg (List.map Prod.fst) this
      simpa using this.symm
    subst e4
    obtain ⟨e', h1, h2⟩ := hs a2 x.1 post' e e1 hI
    refine ⟨e', by rw [e3]; exact h1, a2 ++ [x.1], ?_, h2⟩
    rw [List.zipIdx_append, ← e2]
    obtain ⟨x1, x2⟩ := x
    simp only at e3
    simp [e3]
  · obtain ⟨a', ha, hI⟩ := hI
    have := congrArg (List.map Prod.fst) ha
    have : l = a' := by simpa using this
    rw [this] at hr
    exact hr e hI
theorem xs_forR {tg : Tg} {es : List E} {b ss : List S} {env : Cells} {R : Fl} {l : List α} (hi : ((evs F es env).bind fun as => itemsT .rng1 as) = .ok ((List.range l.length).map fun i => T.int (i : Nat))) (Inv : List α → Cells → Prop) (h0 : Inv [] env)
    (hs : ∀ a x post e, l = a ++ x :: post → Inv a e → ∃ e', forB F tg b e (.int (a.length : Nat)) = .nx e' ∧ Inv (a ++ [x]) e')
    (hr : ∀ e, Inv l e → execs F ss e = R) : execs F (.forS tg .rng1 es b :: ss) env = R := by
  obtain ⟨e, h1, h2⟩ := Nx_forR (ss := []) (P := Inv l) hi Inv h0 hs (fun e h => by rw [execs_nil_, Nx_nx]; exact h)
  rw [fl_then h1]
  exact hr e h2
theorem rng_l (n : Nat) (h : n ≤ 1000000) : itemsT .rng1 [.int n] = .ok ((List.range n).map fun i => T.int (i : Nat)) := by
  rw [items_rng1 n h, rngT_map]
  congr 1
  refine List.map_congr_left fun i _ => ?_
  rw [Int.zero_add]
@[simp] theorem wipe_nil (env : Cells) : wipeC env [] = env := rfl
@[simp] theorem wipe_cons (env : Cells) (v : Nat) (vs : List Nat) : wipeC env (v :: vs) = (wipeC env vs).set v .un := rfl
@[simp] theorem share_nil (env : Cells) : shareC env [] = env := rfl
@[simp] theorem share_cons (env : Cells) (i : Nat) (is : List Nat) : shareC env (i :: is) = (match (shareC env is)[i]? with | some (.ow t) => (shareC env is).set i (.sh t) | _ => shareC env is) := rfl
theorem whl_rule {t : E} {b ss : List S} {R : Fl} (Inv : Nat → Cells → Prop) (hs : ∀ m e, Inv m e → (∃ k, (ev F t e).bind truT = .ok k ∧ (k = true → ∃ j e', j < m ∧ execs F b e = .nx e' ∧ Inv j e') ∧ (k = false → execs F ss e = R))) :
    ∀ (m : Nat) (env : Cells), m < FUEL → Inv m env → execs F (.whl t b :: ss) env = R := by
  intro m env hm h0
  rw [execs_cons_, exec_whl_]
  have key : ∀ (n m : Nat) (env : Cells), m < n → Inv m env → (match whileF (fun env => (ev F t env).bind truT) (execs F b) n env with | .nx env' => execs F ss env' | r => r) = R := by
    intro n
    induction n with
    | zero => intro m env h; omega
    | succ n ih =>
      intro m env h hI
      obtain ⟨k, h1, h2, h3⟩ := hs m env hI
      rw [whileF, h1]
      simp only [flOf_ok_]
      cases k with
      | false => exact h3 rfl
      | true =>
        obtain ⟨j, e', hj, h4, h5⟩ := h2 rfl
        rw [if_pos rfl, h4]
        exact ih j e' (by omega) h5
  exact key FUEL m env hm h0
end
end Fz

/-! games as trees of the evaluator; what the program takes for a game -/
namespace Fz
open PySem
mutual
def G.t : G → T
  | .mk w ws => .tup (.int w :: (match G.ts ws with | [] => [] | l => [.tup l]))
def G.ts : List (Int × G) → List T
  | [] => []
  | (wt, g) :: r => .tup [.int wt, g.t] :: G.ts r
end
def wT (p : Int × G) : T := .tup [.int p.1, p.2.t]
theorem ts_map : ∀ ws : List (Int × G), G.ts ws = ws.map wT
  | [] => by rw [G.ts]; rfl
  | (wt, g) :: r => by rw [G.ts, ts_map r]; rfl
theorem t_eq (g : G) : g.t = .tup (.int g.w :: if g.ws = [] then [] else [.tup (g.ws.map wT)]) := by
  cases g with
  | mk w ws =>
    rw [G.t, ts_map]
    cases ws <;> rfl
theorem t_end {g : G} (h : g.ws = []) : g.t = .tup [.int g.w] := by rw [t_eq, if_pos h]
theorem t_go {g : G} (h : g.ws ≠ []) : g.t = .tup [.int g.w, .tup (g.ws.map wT)] := by rw [t_eq, if_neg h]
/-- things that are told -/
theorem plains_map {α : Type} {f : α → T} {m : Nat} : ∀ {l : List α}, (∀ x ∈ l, (f x).plain m = true) → T.plains (l.map f) m = true
  | [], _ => by simp
  | x :: l, h => by simp [h x (List.mem_cons_self ..), plains_map fun y hy => h y (List.mem_cons_of_mem _ hy)]
theorem plain_t : ∀ {n m : Nat} {g : G}, g.ok n → 3 * n ≤ m → g.t.plain m = true
  | 0, _, _, h, _ => h.elim
  | n + 1, m, g, h, hm => by
    obtain ⟨j, rfl⟩ : ∃ j, m = j + 3 := ⟨m - 3, by omega⟩
    rw [t_eq]
    by_cases e : g.ws = []
    · simp [e]
    · have : T.plains (g.ws.map wT) (j + 1) = true := plains_map fun p hp => by
        simp [wT, plain_t (ok_way h hp).2 (m := j) (by omega)]
      simp [e, this]
mutual
theorem eqv_self : ∀ (t : T) (n : Nat), t.plain n = true → T.eqv t t = true
  | .non, n, h => by simp [T.eqv]
  | .bl b, n, h => by simp
  | .int i, n, h => by simp
  | .str x, n, h => by simp [T.eqv]
  | .tup xs, 0, h => by simp [T.plain] at h
  | .tup xs, n + 1, h => by simp at h; simp [eqvs_self xs n h]
  | .lst xs, 0, h => by simp [T.plain] at h
  | .lst xs, n + 1, h => by simp at h; simp [eqvs_self xs n h]
  | .dct _ _, n, h => by simp [T.plain] at h
  | .fn _, n, h => by simp [T.plain] at h
  | .exc _, n, h => by simp [T.plain] at h
theorem eqvs_self : ∀ (ts : List T) (n : Nat), T.plains ts n = true → T.eqvs ts ts = true
  | [], n, h => by simp
  | t :: ts, n, h => by simp at h; simp [eqv_self t n h.1, eqvs_self ts n h.2]
end
def isW (lo hi : Int) : T → Bool
  | .int i => decide (lo ≤ i) && decide (i ≤ hi)
  | _ => false
def wayB (f : T → Bool) : T → Bool
  | .tup [b, g] => isW 1 9 b && f g
  | _ => false
def bodyG (f : T → Bool) : T → Bool
  | .tup [a] => isW (-20) 20 a
  | .tup [a, .tup ws] => isW (-20) 20 a && decide (1 ≤ ws.length) && decide (ws.length ≤ 3) && ws.all (wayB f)
  | _ => false
/-- what is a game, so deep at most -/
def isG : Nat → T → Bool
  | 0 => fun _ => false
  | n + 1 => bodyG (isG n)
section
variable {f : T → Bool} {a b d : T} {r ws : List T}
@[simp] theorem isG_0 (t : T) : isG 0 t = false := rfl
theorem isG_s (n : Nat) (t : T) : isG (n + 1) t = bodyG (isG n) t := rfl
@[simp] theorem bodyG_0 : bodyG f (.tup []) = false := rfl
@[simp] theorem bodyG_1 : bodyG f (.tup [a]) = isW (-20) 20 a := rfl
@[simp] theorem bodyG_2 : bodyG f (.tup [a, .tup ws]) = (isW (-20) 20 a && decide (1 ≤ ws.length) && decide (ws.length ≤ 3) && ws.all (wayB f)) := rfl
@[simp] theorem bodyG_3 : bodyG f (.tup (a :: b :: d :: r)) = false := by cases b <;> rfl
theorem bodyG_n (h : ∀ ws, b ≠ .tup ws) : bodyG f (.tup [a, b]) = false := by cases b <;> first | rfl | exact absurd rfl (h _)
theorem bodyG_t (h : ∀ ws, b ≠ .tup ws) : bodyG f b = false := by cases b <;> first | rfl | exact absurd rfl (h _)
theorem bodyG_w (h : isW (-20) 20 a = false) : bodyG f (.tup (a :: r)) = false := by
  cases r with
  | nil => exact h
  | cons b r =>
    cases r with
    | cons d r => exact bodyG_3
    | nil => cases b <;> first | rfl | (rw [bodyG_2, h]; rfl)
end
section
variable {k : Nat}
theorem is_whole_ok {t : T} {m : Nat} {lo hi : Int} (hk : 1 ≤ k) (ht : t.plain m = true) : callF allD k 0 [t, .int lo, .int hi] = .ok (.bl (isW lo hi t)) := by
  rw [call_k a_is_whole rfl hk]
  cases t with
  | int i =>
    by_cases h1 : lo ≤ i
    · simp (disch := first | assumption | omega) [-execs_cons_, List.getElem?_cons_zero, le_SZ, lt_SZ, kIf_dt, kIf_df, kIf_bt, kIf_bf, D_is_whole, isW, h1]
    · simp (disch := first | assumption | omega) [-execs_cons_, List.getElem?_cons_zero, le_SZ, lt_SZ, kIf_dt, kIf_df, kIf_bt, kIf_bf, D_is_whole, isW, h1]
  | bl b => simp (disch := first | assumption | omega) [-execs_cons_, List.getElem?_cons_zero, le_SZ, lt_SZ, kIf_dt, kIf_df, kIf_bt, kIf_bf, D_is_whole, isW]
  | non => simp (disch := first | assumption | omega) [-execs_cons_, List.getElem?_cons_zero, le_SZ, lt_SZ, kIf_dt, kIf_df, kIf_bt, kIf_bf, D_is_whole, isW]
  | str x => simp (disch := first | assumption | omega) [-execs_cons_, List.getElem?_cons_zero, le_SZ, lt_SZ, kIf_dt, kIf_df, kIf_bt, kIf_bf, D_is_whole, isW]
  | tup x => simp (disch := first | assumption | omega) [-execs_cons_, List.getElem?_cons_zero, le_SZ, lt_SZ, kIf_dt, kIf_df, kIf_bt, kIf_bf, D_is_whole, isW]
  | lst x => simp (disch := first | assumption | omega) [-execs_cons_, List.getElem?_cons_zero, le_SZ, lt_SZ, kIf_dt, kIf_df, kIf_bt, kIf_bf, D_is_whole, isW]
  | dct _ _ => simp [T.plain] at ht
  | fn _ => simp [T.plain] at ht
  | exc _ => simp [T.plain] at ht
end
end Fz

/-! what the program takes for a game -/
namespace Fz
open PySem
section
variable {k : Nat}
theorem plains_mem {ts : List T} {n : Nat} {t : T} (h : T.plains ts n = true) (ht : t ∈ ts) : t.plain n = true := by
  induction ts with
  | nil => cases ht
  | cons a r ih =>
    simp at h
    rcases List.mem_cons.mp ht with rfl | e
    · exact h.1
    · exact ih h.2 e
theorem isTuple_ok {t : T} {m : Nat} (h : t.plain m = true) : bltT .isTuple [t] = .ok (.bl (match t with | .tup _ => true | _ => false)) := by
  cases t <;> first | rfl | simp [T.plain] at h
theorem boolsT_map {α : Type} (p : α → Bool) : ∀ l : List α, boolsT (l.map fun x => T.bl (p x)) = some (l.map p)
  | [] => rfl
  | x :: l => by rw [List.map_cons, boolsT, boolsT_map p l]; rfl
theorem ntup {t : T} {m : Nat} (h : ∀ ws, t ≠ .tup ws) (hp : t.plain m = true) : bltT .isTuple [t] = .ok (.bl false) := by
  cases t <;> first | rfl | exact absurd rfl (h _) | simp [T.plain] at hp
theorem plain_of_tup {xs : List T} {m : Nat} (h : (T.tup xs).plain m = true) : ∃ j, m = j + 1 ∧ T.plains xs j = true := by
  cases m with
  | zero => simp [T.plain] at h
  | succ j => exact ⟨j, rfl, by simpa using h⟩
def wayHd : T → Bool
  | .tup [b, g] => isW 1 9 b
  | _ => false
theorem fin_rt {x : Fl} {t : T} (h : x = .rt t) : finF x = .ok t := by rw [h]; rfl
theorem is_game_in_ok : ∀ (n : Nat) {k m : Nat} {t : T}, n + 2 ≤ k → t.plain m = true → callF allD k 1 [t, .int n] = .ok (.bl (isG n t))
  | 0, k, m, t, hk, ht => by
    rw [call_k a_is_game_in rfl (by omega)]
    simp (disch := first | assumption | omega) [-execs_cons_, List.getElem?_cons_zero, le_SZ, lt_SZ, kIf_dt, kIf_df, kIf_bt, kIf_bf, D_is_game_in]
  | n + 1, k, m, t, hk, ht => by
    rw [call_k a_is_game_in rfl (by omega), isG_s]
    have hz : ((n : Int) + 1 == 0) = false := by rw [beq_eq_false_iff_ne]; omega
    have hz' : ¬ ((n : Int) + 1 = 0) := by omega
    by_cases hT : ∃ xs, t = .tup xs
    case neg =>
      have hT' : ∀ ws, t ≠ .tup ws := fun ws e => hT ⟨ws, e⟩
      have := ntup hT' ht
      simp (disch := first | assumption | omega) [-execs_cons_, List.getElem?_cons_zero, le_SZ, lt_SZ, kIf_dt, kIf_df, kIf_bt, kIf_bf, D_is_game_in, hz', bodyG_t hT', this]
    obtain ⟨xs, rfl⟩ := hT
    cases xs with
    | nil => simp (disch := first | assumption | omega) [-execs_cons_, List.getElem?_cons_zero, le_SZ, lt_SZ, kIf_dt, kIf_df, kIf_bt, kIf_bf, D_is_game_in, hz']
    | cons a r =>
      obtain ⟨m, rfl, hp⟩ := plain_of_tup ht
      simp only [plains_cons_, Bool.and_eq_true] at hp
      obtain ⟨ha, hr⟩ := hp
      have wa : callF allD (k - 1) 0 [a, .int (-20), .int 20] = .ok (.bl (isW (-20) 20 a)) := is_whole_ok (by omega) ha
      cases ea : isW (-20) 20 a with
      | false =>
        rw [ea] at wa
        simp (disch := first | assumption | omega) [-execs_cons_, List.getElem?_cons_zero, le_SZ, lt_SZ, kIf_dt, kIf_df, kIf_bt, kIf_bf, D_is_game_in, hz', wa, bodyG_w ea]
      | true =>
        rw [ea] at wa
        cases r with
        | nil => simp (disch := first | assumption | omega) [-execs_cons_, List.getElem?_cons_zero, le_SZ, lt_SZ, kIf_dt, kIf_df, kIf_bt, kIf_bf, D_is_game_in, hz', wa, ea]
        | cons b r =>
          cases r with
          | cons d r =>
            have h1 : ((((r.length : Int) + 1) + 1) + 1 = 1) = False := by apply eq_false; omega
            have h2 : ((((r.length : Int) + 1) + 1) + 1 = 2) = False := by apply eq_false; omega
            simp (disch := first | assumption | omega) [-execs_cons_, List.getElem?_cons_zero, le_SZ, lt_SZ, kIf_dt, kIf_df, kIf_bt, kIf_bf, D_is_game_in, hz', wa, ea, h1, h2]
          | nil =>
            simp only [plains_cons_, plains_nil_, Bool.and_true] at hr
            by_cases hB : ∃ ws, b = .tup ws
            case neg =>
              have hB' : ∀ ws, b ≠ .tup ws := fun ws e => hB ⟨ws, e⟩
              have := ntup hB' hr
              simp (disch := first | assumption | omega) [-execs_cons_, List.getElem?_cons_zero, le_SZ, lt_SZ, kIf_dt, kIf_df, kIf_bt, kIf_bf, D_is_game_in, hz', wa, ea, bodyG_n hB', this]
            obtain ⟨ws, rfl⟩ := hB
            obtain ⟨m, rfl, hw⟩ := plain_of_tup hr
            by_cases hl : 1 ≤ ws.length ∧ ws.length ≤ 3
            case neg =>
              by_cases h1 : 1 ≤ ws.length
              · have l1 : (1 : Int) ≤ (ws.length : Int) := by omega
                have l2 : ¬ (ws.length : Int) ≤ 3 := by omega
                have l3 : ¬ ws.length ≤ 3 := by omega
                simp (disch := first | assumption | omega) [-execs_cons_, List.getElem?_cons_zero, le_SZ, lt_SZ, kIf_dt, kIf_df, kIf_bt, kIf_bf, D_is_game_in, hz', wa, ea, l1, l2, l3]
              · have l1 : ¬ (1 : Int) ≤ (ws.length : Int) := by omega
                have l3 : ws = [] := by cases ws with | nil => rfl | cons a r => simp at h1
                subst l3
                simp (disch := first | assumption | omega) [-execs_cons_, List.getElem?_cons_zero, le_SZ, lt_SZ, kIf_dt, kIf_df, kIf_bt, kIf_bf, D_is_game_in, hz', wa, ea]
            have l1 : (1 : Int) ≤ (ws.length : Int) := by omega
            have l2 : (ws.length : Int) ≤ 3 := by omega
            simp (disch := first | assumption | omega) [-execs_cons_, List.getElem?_cons_zero, le_SZ, lt_SZ, kIf_dt, kIf_df, kIf_bt, kIf_bf, D_is_game_in, hz', wa, ea, l1, l2, hl.1, hl.2]
            refine fin_rt (xs_for (l := ws) (h := id) (by simp (disch := first | assumption | omega) [-execs_cons_, List.getElem?_cons_zero, le_SZ, lt_SZ, kIf_dt, kIf_df, kIf_bt, kIf_bf, ]) (fun a e => (∀ x ∈ a, wayHd x = true) ∧ ∃ c, e = [.sh (.tup [_, .tup ws]), .sh (.int (n + 1)), c]) ⟨fun _ h => (nomatch h), _, rfl⟩ (fun p x q e hl hI => ?_) (fun e hI => ?_))
            · obtain ⟨hI, c, rfl⟩ := hI
              have hx : x.plain m = true := plains_mem hw (by rw [hl]; simp)
              have out : wayHd x = false → ws.all (wayB (isG n)) = false := fun h => by
                rw [hl, List.all_append, List.all_cons]
                have : wayB (isG n) x = false := by
                  unfold wayHd at h
                  unfold wayB
                  split at h <;> first | rfl | simp_all
                rw [this]; simp
              by_cases hX : ∃ xs, x = .tup xs
              case neg =>
                have hX' : ∀ ws, x ≠ .tup ws := fun ws e => hX ⟨ws, e⟩
                have h1 := ntup hX' hx
                have h2 := out (by cases x <;> first | rfl | exact absurd rfl (hX' _))
                exact .inr ⟨by simp (disch := first | assumption | omega) [-execs_cons_, List.getElem?_cons_zero, le_SZ, lt_SZ, kIf_dt, kIf_df, kIf_bt, kIf_bf, h1, h2], fun _ => by simp⟩
              obtain ⟨xs, rfl⟩ := hX
              by_cases h2 : xs.length = 2
              case neg =>
                have h2' : ¬ (xs.length : Int) = 2 := by omega
                have h3 := out (by
                  match xs with
                  | [] => rfl
                  | [_] => rfl
                  | [_, _] => exact absurd rfl h2
                  | _ :: _ :: _ :: _ => rfl)
                exact .inr ⟨by simp (disch := first | assumption | omega) [-execs_cons_, List.getElem?_cons_zero, le_SZ, lt_SZ, kIf_dt, kIf_df, kIf_bt, kIf_bf, h2', h3], fun _ => by simp⟩
              obtain ⟨b, g, rfl⟩ : ∃ b g, xs = [b, g] := by
                match xs, h2 with
                | [b, g], _ => exact ⟨b, g, rfl⟩
              obtain ⟨m, rfl, hp⟩ := plain_of_tup hx
              simp only [plains_cons_, Bool.and_eq_true] at hp
              have wb : callF allD (k - 1) 0 [b, .int 1, .int 9] = .ok (.bl (isW 1 9 b)) := is_whole_ok (by omega) hp.1
              cases eb : isW 1 9 b with
              | false =>
                rw [eb] at wb
                have h3 := out (by simp [wayHd, eb])
                exact .inr ⟨by simp (disch := first | assumption | omega) [-execs_cons_, List.getElem?_cons_zero, le_SZ, lt_SZ, kIf_dt, kIf_df, kIf_bt, kIf_bf, wb, h3], fun _ => by simp⟩
              | true =>
                rw [eb] at wb
                refine .inl ⟨[.sh (.tup [a, .tup ws]), .sh (.int (n + 1)), .sh (.tup [b, g])], by simp (disch := first | assumption | omega) [-execs_cons_, List.getElem?_cons_zero, le_SZ, lt_SZ, kIf_dt, kIf_df, kIf_bt, kIf_bf, wb], fun y hy => ?_, _, rfl⟩
                rcases List.mem_append.mp hy with z | z
                · exact hI y z
                · rw [List.mem_singleton.mp z]; simp [wayHd, eb]
            · obtain ⟨hI, c, rfl⟩ := hI
              simp (disch := first | assumption | omega) [-execs_cons_, List.getElem?_cons_zero, le_SZ, lt_SZ, kIf_dt, kIf_df, kIf_bt, kIf_bf, ]
              rw [compL_map (g := fun x => .bl (wayB (isG n) x))]
              · simp (disch := first | assumption | omega) [-execs_cons_, List.getElem?_cons_zero, le_SZ, lt_SZ, kIf_dt, kIf_df, kIf_bt, kIf_bf, boolsT_map]
              · intro x hx
                have h1 := hI x hx
                have h2 := plains_mem hw hx
                unfold wayHd at h1
                split at h1
                · rename_i b g
                  obtain ⟨m, rfl, hp⟩ := plain_of_tup h2
                  simp only [plains_cons_, Bool.and_eq_true] at hp
                  have h3 := is_game_in_ok n (k := k - 1) (by omega) hp.2.1
                  rw [turn1]
                  simp (disch := first | assumption | omega) [-execs_cons_, List.getElem?_cons_zero, le_SZ, lt_SZ, kIf_dt, kIf_df, kIf_bt, kIf_bf, h3, wayB, h1, show ((n : Int) + 1 - 1) = n by omega]
                · cases h1
end
end Fz

/-! games: ways, paths, parts, as the program and the laws tell them -/
namespace Fz
open PySem
def pT (p : List Nat) : T := .tup (p.map fun i => .int (i : Nat))
def rowT (x : Row) : T := .tup [pT x.1, x.2.1.t, fr x.2.2]
theorem isG_t : ∀ {n : Nat} {g : G}, g.ok n → isG n g.t = true
  | 0, _, h => h.elim
  | n + 1, g, h => by
    have h0 := h.1
    rw [isG_s]
    by_cases e : g.ws = []
    · rw [t_end e, bodyG_1]
      simp [isW, h0]
    · rw [t_go e, bodyG_2]
      have h1 : 0 < g.ws.length := List.length_pos_iff.mpr e
      have h2 := h.2.1
      have h3 : (g.ws.map wT).all (wayB (isG n)) = true := by
        rw [List.all_map, List.all_eq_true]
        intro p hp
        obtain ⟨a, b⟩ := ok_way h hp
        simp [wT, wayB, isW, a, isG_t b]
      simp [isW, h0, h3]
      omega
theorem paths_eq (g : G) : g.paths = [] :: (g.ws.zipIdx).flatMap fun q => q.1.2.paths.map (q.2 :: ·) := by
  unfold G.paths
  rw [walk_eq, List.map_cons, List.map_flatMap]
  congr 1
  refine congrArg (fun f => List.flatMap f _) (funext fun q => ?_)
  unfold wayRows
  rw [List.map_map, List.map_map]
  rfl
/-- the paths by way of the first ways -/
def mpaths (a : List (Int × G)) : List (List Nat) := [] :: (a.zipIdx).flatMap fun q => q.1.2.paths.map (q.2 :: ·)
theorem mpaths_nil : mpaths [] = [[]] := rfl
theorem mpaths_snoc (p : List (Int × G)) (x : Int × G) : mpaths (p ++ [x]) = mpaths p ++ x.2.paths.map (p.length :: ·) := by
  unfold mpaths
  rw [List.zipIdx_append, List.flatMap_append, List.cons_append]
  simp
theorem mpaths_len (p q : List (Int × G)) : (mpaths p).length ≤ (mpaths (p ++ q)).length := by
  unfold mpaths
  rw [List.zipIdx_append, List.flatMap_append, List.length_cons, List.length_cons, List.length_append]
  omega
theorem paths_len {n : Nat} {g : G} (h : g.ok n) : g.paths.length ≤ 4 ^ n := by
  unfold G.paths
  rw [List.length_map]
  exact walk_len h
theorem path_len {n : Nat} {g : G} {p : List Nat} (h : g.ok n) (hp : p ∈ g.paths) : p.length < n := by
  obtain ⟨q, e⟩ := mem_paths.mp hp
  exact (ok_sub h e).1
theorem pow_le {n : Nat} (h : n ≤ 5) : 4 ^ n ≤ 1024 := Nat.pow_le_pow_right (by decide : 0 < 4) h
section
variable {k : Nat}
theorem is_game_ok {t : T} {m : Nat} (hk : 7 ≤ k) (ht : t.plain m = true) : callF allD k 2 [t] = .ok (.bl (isG 4 t)) := by
  rw [call_k a_is_game rfl (by omega)]
  have := is_game_in_ok 4 (k := k - 1) (by omega) ht
  rw [show ((4 : Nat) : Int) = 4 from rfl] at this
  simp (disch := first | assumption | omega) [-execs_cons_, List.getElem?_cons_zero, le_SZ, lt_SZ, kIf_dt, kIf_df, kIf_bt, kIf_bf, D_is_game, this]
theorem look_game_t {t : T} {m : Nat} (hk : 8 ≤ k) (ht : t.plain m = true) : callF allD k 3 [t] = if isG 4 t then .ok .non else .ex 1 := by
  rw [call_k a_look_game rfl (by omega)]
  have := is_game_ok (k := k - 1) (by omega) ht
  cases e : isG 4 t <;> simp (disch := first | assumption | omega) [-execs_cons_, List.getElem?_cons_zero, le_SZ, lt_SZ, kIf_dt, kIf_df, kIf_bt, kIf_bf, D_look_game, this, e]
theorem look_game_ok {g : G} {n : Nat} (hk : 8 ≤ k) (hg : g.ok n) (hn : n ≤ 4) : callF allD k 3 [g.t] = .ok .non := by
  rw [look_game_t hk (plain_t hg (Nat.le_refl _)), isG_t (ok_mono hg hn)]
  rfl
theorem ways_of_ok {g : G} (hk : 1 ≤ k) : callF allD k 4 [g.t] = .ok (.tup (g.ws.map wT)) := by
  rw [call_k a_ways_of rfl hk]
  by_cases h : g.ws = []
  · rw [t_end h]
    simp (disch := first | assumption | omega) [-execs_cons_, List.getElem?_cons_zero, le_SZ, lt_SZ, kIf_dt, kIf_df, kIf_bt, kIf_bf, D_ways_of, h]
  · rw [t_go h]
    simp (disch := first | assumption | omega) [-execs_cons_, List.getElem?_cons_zero, le_SZ, lt_SZ, kIf_dt, kIf_df, kIf_bt, kIf_bf, D_ways_of]
theorem lways_ok {g : G} (hk : 1 ≤ k) : callF allD k 11 [g.t] = .ok (.tup (g.ws.map wT)) := by
  rw [call_k a__law_ways rfl hk]
  by_cases h : g.ws = []
  · rw [t_end h]
    simp (disch := first | assumption | omega) [-execs_cons_, List.getElem?_cons_zero, le_SZ, lt_SZ, kIf_dt, kIf_df, kIf_bt, kIf_bf, D__law_ways, h]
  · rw [t_go h]
    simp (disch := first | assumption | omega) [-execs_cons_, List.getElem?_cons_zero, le_SZ, lt_SZ, kIf_dt, kIf_df, kIf_bt, kIf_bf, D__law_ways]
theorem is_end_ok {g : G} (hk : 1 ≤ k) : callF allD k 27 [g.t] = .ok (.bl g.ws.isEmpty) := by
  rw [call_k a_is_end rfl hk]
  by_cases h : g.ws = []
  · rw [t_end h, h]
    simp (disch := first | assumption | omega) [-execs_cons_, List.getElem?_cons_zero, le_SZ, lt_SZ, kIf_dt, kIf_df, kIf_bt, kIf_bf, D_is_end]
  · rw [t_go h]
    have : g.ws.isEmpty = false := by simp [h]
    simp (disch := first | assumption | omega) [-execs_cons_, List.getElem?_cons_zero, le_SZ, lt_SZ, kIf_dt, kIf_df, kIf_bt, kIf_bf, D_is_end, this]
theorem paths_of_ok : ∀ {n : Nat} {g : G} {k : Nat}, g.ok n → n ≤ 5 → n + 1 ≤ k → callF allD k 5 [g.t] = .ok (.lst (g.paths.map pT))
  | 0, _, _, h, _, _ => h.elim
  | n + 1, g, k, h, hn, hk => by
    rw [call_k a_paths_of rfl (by omega)]
    simp (disch := first | assumption | omega) [-execs_cons_, List.getElem?_cons_zero, le_SZ, lt_SZ, kIf_dt, kIf_df, kIf_bt, kIf_bf, D_paths_of]
    refine fin_rt (xs_forE (l := g.ws) (h := wT) (by simp (disch := first | assumption | omega) [-execs_cons_, List.getElem?_cons_zero, le_SZ, lt_SZ, kIf_dt, kIf_df, kIf_bt, kIf_bf, ways_of_ok]) (fun a e => ∃ c2 c3 c4, e = [.sh g.t, .ow (.lst ((mpaths a).map pT)), c2, c3, c4, .un]) ⟨_, _, _, rfl⟩ (fun p x q e hl hI => ?_) (fun e hI => ?_))
    · obtain ⟨c2, c3, c4, rfl⟩ := hI
      have hx := ok_way h (q := x) (by rw [hl]; simp)
      have ih := paths_of_ok (k := k - 1) hx.2 (by omega) (by omega)
      have hsz : (mpaths p).length + x.2.paths.length ≤ SZ := by
        have h1 := mpaths_len (p ++ [x]) q
        rw [mpaths_snoc, List.length_append, List.length_map, List.append_assoc, List.singleton_append, ← hl] at h1
        have h2 : mpaths g.ws = g.paths := (paths_eq g).symm
        rw [h2] at h1
        have h3 := paths_len h
        have h4 := pow_le hn
        have : SZ = 1000000 := rfl
        omega
      refine .inl ?_
      simp (disch := first | assumption | omega) [-execs_cons_, List.getElem?_cons_zero, le_SZ, lt_SZ, kIf_dt, kIf_df, kIf_bt, kIf_bf, wT, ih]
      rw [compL_l (g := fun r => pT (p.length :: r)) fun r hr => by
        rw [turn1]
        have hr' : 1 + r.length ≤ SZ := by
          have := path_len hx.2 hr
          have : SZ = 1000000 := rfl
          omega
        simp (disch := first | assumption | omega) [-execs_cons_, List.getElem?_cons_zero, le_SZ, lt_SZ, kIf_dt, kIf_df, kIf_bt, kIf_bf, pT, hr']]
      simp (disch := first | assumption | omega) [-execs_cons_, List.getElem?_cons_zero, le_SZ, lt_SZ, kIf_dt, kIf_df, kIf_bt, kIf_bf, hsz, mpaths_snoc]
    · obtain ⟨c2, c3, c4, rfl⟩ := hI
      simp (disch := first | assumption | omega) [-execs_cons_, List.getElem?_cons_zero, le_SZ, lt_SZ, kIf_dt, kIf_df, kIf_bt, kIf_bf, ]
      rw [paths_eq]
      rfl
theorem paths_ok {n : Nat} {g : G} (hg : g.ok n) (hn : n ≤ 4) (hk : 9 ≤ k) : callF allD k 6 [g.t] = .ok (.lst (g.paths.map pT)) := by
  rw [call_k a_paths rfl (by omega)]
  have h1 := look_game_ok (k := k - 1) (by omega) hg hn
  have h2 := paths_of_ok (k := k - 1) hg (by omega) (by omega)
  simp (disch := first | assumption | omega) [-execs_cons_, List.getElem?_cons_zero, le_SZ, lt_SZ, kIf_dt, kIf_df, kIf_bt, kIf_bf, D_paths, h1, h2]
theorem paths_bad {t : T} {m : Nat} (ht : t.plain m = true) (hb : isG 4 t = false) (hk : 9 ≤ k) : callF allD k 6 [t] = .ex 1 := by
  rw [call_k a_paths rfl (by omega)]
  have h1 := look_game_t (k := k - 1) (by omega) ht
  simp (disch := first | assumption | omega) [-execs_cons_, List.getElem?_cons_zero, le_SZ, lt_SZ, kIf_dt, kIf_df, kIf_bt, kIf_bf, D_paths, h1, hb]
theorem at_ways {l : List (Int × G)} {i : Nat} {q : Int × G} (h : l[i]? = some q) : atT (l.map wT) (i : Int) = .ok (wT q) := at_nn (by simp [h])
theorem part_of_ok {g h : G} {p : List Nat} (hk : 2 ≤ k) (e : g.sub p = some h) : callF allD k 28 [g.t, pT p] = .ok h.t := by
  rw [call_k a_part_of rfl (by omega)]
  simp (disch := first | assumption | omega) [-execs_cons_, List.getElem?_cons_zero, le_SZ, lt_SZ, kIf_dt, kIf_df, kIf_bt, kIf_bf, D_part_of]
  refine fin_rt (xs_for (l := p) (h := fun i => .int (i : Nat)) (by simp (disch := first | assumption | omega) [-execs_cons_, List.getElem?_cons_zero, le_SZ, lt_SZ, kIf_dt, kIf_df, kIf_bt, kIf_bf, pT]) (fun a e => ∃ g', g.sub a = some g' ∧ ∃ c, e = [.sh g'.t, .sh (pT p), c]) ⟨g, sub_nil g, _, rfl⟩ (fun a x q e' hl hI => ?_) (fun e' hI => ?_))
  · obtain ⟨g', h1, c, rfl⟩ := hI
    rw [hl, sub_append, h1] at e
    simp only [Option.bind_some, sub_cons] at e
    cases hq : g'.ws[x]? with
    | none => rw [hq] at e; cases e
    | some r =>
      have := at_ways hq
      refine .inl ⟨[.sh r.2.t, .sh (pT p), .sh (.int (x : Nat))], by simp (disch := first | assumption | omega) [-execs_cons_, List.getElem?_cons_zero, le_SZ, lt_SZ, kIf_dt, kIf_df, kIf_bt, kIf_bf, ways_of_ok, this, wT], r.2, ?_, _, rfl⟩
      rw [sub_append, h1]
      simp only [Option.bind_some, sub_cons, hq, sub_nil]
  · obtain ⟨g', h1, c, rfl⟩ := hI
    rw [h1] at e
    cases e
    simp (disch := first | assumption | omega) [-execs_cons_, List.getElem?_cons_zero, le_SZ, lt_SZ, kIf_dt, kIf_df, kIf_bt, kIf_bf, ]
/-- what lies behind what may be a path -/
def natOf : T → Option Nat
  | .int i => if 0 ≤ i then some i.toNat else none
  | _ => none
def subT : G → List T → Option G
  | g, [] => some g
  | g, t :: r => (match natOf t with | some i => (match g.ws[i]? with | some q => subT q.2 r | none => none) | none => none)
def isP (g : G) : T → Bool
  | .tup xs => (subT g xs).isSome
  | _ => false
theorem subT_map : ∀ (p : List Nat) (g : G), subT g (p.map fun i => T.int (i : Nat)) = g.sub p
  | [], g => by rw [sub_nil]; rfl
  | i :: p, g => by
    rw [List.map_cons, subT, sub_cons]
    have : natOf (.int (i : Nat)) = some i := by simp [natOf]
    rw [this]
    simp only []
    cases g.ws[i]? with
    | none => rfl
    | some q => exact subT_map p q.2
theorem isP_pT (g : G) (p : List Nat) : isP g (pT p) = (g.sub p).isSome := by
  show (subT g _).isSome = _
  rw [subT_map]
theorem natOf_some {t : T} {i : Nat} (h : natOf t = some i) : t = .int (i : Nat) := by
  unfold natOf at h
  split at h
  · rename_i j
    split at h
    · cases h
      congr 1
      omega
    · cases h
  · cases h
theorem subT_path : ∀ (xs : List T) (g h : G), subT g xs = some h → ∃ p : List Nat, xs = p.map (fun i => T.int (i : Nat)) ∧ g.sub p = some h
  | [], g, h, e => ⟨[], rfl, by rw [sub_nil]; exact e⟩
  | t :: r, g, h, e => by
    rw [subT] at e
    cases hn : natOf t with
    | none => rw [hn] at e; cases e
    | some i =>
      rw [hn] at e
      simp only [] at e
      cases hq : g.ws[i]? with
      | none => rw [hq] at e; cases e
      | some q =>
        rw [hq] at e
        obtain ⟨p, h1, h2⟩ := subT_path r q.2 h e
        exact ⟨i :: p, by rw [h1, natOf_some hn]; rfl, by rw [sub_cons, hq]; exact h2⟩
theorem isP_path {g : G} {t : T} (h : isP g t = true) : ∃ p f, t = pT p ∧ g.sub p = some f := by
  cases t with
  | tup xs =>
    obtain ⟨f, e⟩ := Option.isSome_iff_exists.mp (show (subT g xs).isSome = true from h)
    obtain ⟨p, h1, h2⟩ := subT_path xs g f e
    exact ⟨p, f, by rw [h1]; rfl, h2⟩
  | _ => cases h
theorem subT_append (g : G) : ∀ (p q : List T), subT g (p ++ q) = (subT g p).bind fun h => subT h q := by
  intro p
  induction p generalizing g with
  | nil => intro q; rfl
  | cons i p ih =>
    intro q
    rw [List.cons_append, subT, subT]
    cases natOf i with
    | none => rfl
    | some j =>
      simp only []
      cases g.ws[j]? with
      | none => rfl
      | some r => exact ih r.2 q
theorem isW_nat {l : List (Int × G)} {t : T} : isW 0 ((l.length : Int) - 1) t = (match natOf t with | some i => l[i]?.isSome | none => false) := by
  unfold isW natOf
  cases t with
  | int i =>
    simp only []
    by_cases h : 0 ≤ i
    · rw [if_pos h]
      simp only [h, decide_true, Bool.true_and]
      by_cases h2 : i ≤ (l.length : Int) - 1
      · have : i.toNat < l.length := by omega
        simp [h2, this]
      · have : l[i.toNat]? = none := List.getElem?_eq_none (by omega)
        simp [h2, this]
    · simp [h]
  | _ => rfl
theorem is_path_ok {g : G} {t : T} {m : Nat} (hk : 2 ≤ k) (ht : t.plain m = true) : callF allD k 29 [g.t, t] = .ok (.bl (isP g t)) := by
  rw [call_k a_is_path rfl (by omega)]
  by_cases hT : ∃ xs, t = .tup xs
  case neg =>
    have hT' : ∀ ws, t ≠ .tup ws := fun ws e => hT ⟨ws, e⟩
    have h1 := ntup hT' ht
    have h2 : isP g t = false := by cases t <;> first | rfl | exact absurd rfl (hT' _)
    simp (disch := first | assumption | omega) [-execs_cons_, List.getElem?_cons_zero, le_SZ, lt_SZ, kIf_dt, kIf_df, kIf_bt, kIf_bf, D_is_path, h1, h2]
  obtain ⟨xs, rfl⟩ := hT
  obtain ⟨m, rfl, hp⟩ := plain_of_tup ht
  simp (disch := first | assumption | omega) [-execs_cons_, List.getElem?_cons_zero, le_SZ, lt_SZ, kIf_dt, kIf_df, kIf_bt, kIf_bf, D_is_path]
  refine fin_rt (xs_for (l := xs) (h := id) (by simp (disch := first | assumption | omega) [-execs_cons_, List.getElem?_cons_zero, le_SZ, lt_SZ, kIf_dt, kIf_df, kIf_bt, kIf_bf, ]) (fun a e => ∃ g', subT g a = some g' ∧ ∃ c, e = [.sh g'.t, .sh (.tup xs), c]) ⟨g, rfl, _, rfl⟩ (fun a x q e' hl hI => ?_) (fun e' hI => ?_))
  · obtain ⟨g', h1, c, rfl⟩ := hI
    have hx := plains_mem hp (t := x) (by rw [hl]; simp)
    have hw : callF allD (k - 1) 0 [x, .int 0, .int ((g'.ws.length : Int) - 1)] = .ok (.bl (isW 0 ((g'.ws.length : Int) - 1) x)) := is_whole_ok (by omega) hx
    rw [isW_nat] at hw
    have hs : subT g xs = (match natOf x with | some i => (match g'.ws[i]? with | some q' => subT q'.2 q | none => none) | none => none) := by
      rw [hl, subT_append, h1]; rfl
    cases hn : natOf x with
    | none =>
      rw [hn] at hs hw
      simp only [] at hs hw
      have : isP g (.tup xs) = false := by show (subT g xs).isSome = _; rw [hs]; rfl
      exact .inr ⟨by simp (disch := first | assumption | omega) [-execs_cons_, List.getElem?_cons_zero, le_SZ, lt_SZ, kIf_dt, kIf_df, kIf_bt, kIf_bf, ways_of_ok, hw, this], fun _ => by simp⟩
    | some i =>
      rw [hn] at hs hw
      simp only [] at hs hw
      cases hq : g'.ws[i]? with
      | none =>
        rw [hq] at hs hw
        simp only [Option.isSome_none] at hs hw
        have : isP g (.tup xs) = false := by show (subT g xs).isSome = _; rw [hs]; rfl
        exact .inr ⟨by simp (disch := first | assumption | omega) [-execs_cons_, List.getElem?_cons_zero, le_SZ, lt_SZ, kIf_dt, kIf_df, kIf_bt, kIf_bf, ways_of_ok, hw, this], fun _ => by simp⟩
      | some r =>
        rw [hq] at hw
        simp only [Option.isSome_some] at hw
        have ha := at_ways hq
        have hx' := natOf_some hn
        subst hx'
        refine .inl ⟨[.sh r.2.t, .sh (.tup xs), .sh (.int (i : Nat))], by simp (disch := first | assumption | omega) [-execs_cons_, List.getElem?_cons_zero, le_SZ, lt_SZ, kIf_dt, kIf_df, kIf_bt, kIf_bf, ways_of_ok, hw, ha, wT], r.2, ?_, _, rfl⟩
        rw [subT_append, h1]
        simp only [Option.bind_some, subT, hn, hq]
  · obtain ⟨g', h1, c, rfl⟩ := hI
    have : isP g (.tup xs) = true := by show (subT g xs).isSome = _; rw [h1]; rfl
    simp (disch := first | assumption | omega) [-execs_cons_, List.getElem?_cons_zero, le_SZ, lt_SZ, kIf_dt, kIf_df, kIf_bt, kIf_bf, this]
theorem look_path_t {g : G} {t : T} {m : Nat} (hk : 3 ≤ k) (ht : t.plain m = true) : callF allD k 30 [g.t, t] = if isP g t then .ok .non else .ex 2 := by
  rw [call_k a_look_path rfl (by omega)]
  have := is_path_ok (g := g) (k := k - 1) (by omega) ht
  cases e : isP g t <;> simp (disch := first | assumption | omega) [-execs_cons_, List.getElem?_cons_zero, le_SZ, lt_SZ, kIf_dt, kIf_df, kIf_bt, kIf_bf, D_look_path, this, e]
theorem plain_pT (p : List Nat) (m : Nat) : (pT p).plain (m + 1) = true := by
  unfold pT
  rw [plain_tup_]
  exact plains_map fun x _ => by simp
theorem look_path_ok {g h : G} {p : List Nat} (hk : 3 ≤ k) (e : g.sub p = some h) : callF allD k 30 [g.t, pT p] = .ok .non := by
  rw [look_path_t hk (plain_pT p 0), isP_pT, e]
  rfl
theorem part_ok {n : Nat} {g h : G} {p : List Nat} (hk : 9 ≤ k) (hg : g.ok n) (hn : n ≤ 4) (e : g.sub p = some h) : callF allD k 31 [g.t, pT p] = .ok h.t := by
  rw [call_k a_part rfl (by omega)]
  have h1 := look_game_ok (k := k - 1) (by omega) hg hn
  have h2 := look_path_ok (k := k - 1) (by omega) e
  have h3 := part_of_ok (k := k - 1) (by omega) e
  simp (disch := first | assumption | omega) [-execs_cons_, List.getElem?_cons_zero, le_SZ, lt_SZ, kIf_dt, kIf_df, kIf_bt, kIf_bf, D_part, h1, h2, h3]
end
end Fz

/-! fractions and numbers over the table of all; the law's walk -/
namespace Fz
open PySem
section
variable {k : Nat} {p q : Rat}
theorem share' (hk : 2 ≤ k) {a b : Int} (hb : DOk b) : callF allD k 25 [.int a, .int b] = .ok (fr (Rat.divInt a b)) := by
  obtain ⟨j, rfl⟩ : ∃ j, k = j + 2 := ⟨k - 2, by omega⟩
  exact share_ok a_divisor a_share j a b hb
theorem plus' (hk : 3 ≤ k) (hp : Ok1 p) (hq : Ok1 q) : callF allD k 40 [fr p, fr q] = .ok (fr (p + q)) := by
  obtain ⟨j, rfl⟩ : ∃ j, k = j + 3 := ⟨k - 3, by omega⟩
  exact plus_ok a_divisor a_share a_plus j hp hq
theorem less' (hk : 3 ≤ k) (hp : Ok1 p) (hq : Ok1 q) : callF allD k 41 [fr p, fr q] = .ok (fr (p - q)) := by
  obtain ⟨j, rfl⟩ : ∃ j, k = j + 3 := ⟨k - 3, by omega⟩
  exact less_ok a_divisor a_share a_less j hp hq
theorem times' (hk : 3 ≤ k) (hp : Ok1 p) (hq : Ok1 q) : callF allD k 26 [fr p, fr q] = .ok (fr (p * q)) := by
  obtain ⟨j, rfl⟩ : ∃ j, k = j + 3 := ⟨k - 3, by omega⟩
  exact times_ok a_divisor a_share a_times j hp hq
theorem parted' (hk : 3 ≤ k) (hp : Ok1 p) (hq : Ok1 q) (hd : DOk (p.den * q.num)) : callF allD k 42 [fr p, fr q] = .ok (fr (p / q)) := by
  obtain ⟨j, rfl⟩ : ∃ j, k = j + 3 := ⟨k - 3, by omega⟩
  exact parted_ok a_divisor a_share a_parted j hp hq hd
theorem is_less' (hk : 1 ≤ k) (hp : Ok1 p) (hq : Ok1 q) : callF allD k 43 [fr p, fr q] = .ok (.bl (decide (p < q))) := by
  obtain ⟨j, rfl⟩ : ∃ j, k = j + 1 := ⟨k - 1, by omega⟩
  exact is_less_ok a_is_less j hp hq
theorem all_plus' (hk : 4 ≤ k) {j : Nat} {qs : List Rat} (hq : ∀ q ∈ qs, Sz j q) (hj : 1 + qs.length * (j + 1) ≤ 3900) (hj2 : j ≤ 3900) : callF allD k 44 [.lst (qs.map fr)] = .ok (fr (sumQ qs)) := by
  obtain ⟨i, rfl⟩ : ∃ i, k = i + 4 := ⟨k - 4, by omega⟩
  exact all_plus_ok a_divisor a_share a_plus a_all_plus i hq hj hj2
theorem low' (hk : 1 ≤ k) {a b : Int} (hb : b ≠ 0) (hz : b.natAbs < 2 ^ 8000) : callF allD k 13 [.int a, .int b] = .ok (fr (Rat.divInt a b)) := by
  obtain ⟨i, rfl⟩ : ∃ i, k = i + 1 := ⟨k - 1, by omega⟩
  exact low_ok a__law_low i a b hb hz
theorem prod' (hk : 2 ≤ k) (hp : Ok1 p) (hq : Ok1 q) : callF allD k 15 [fr p, fr q] = .ok (fr (p * q)) := by
  obtain ⟨i, rfl⟩ : ∃ i, k = i + 2 := ⟨k - 2, by omega⟩
  exact prod_ok a__law_low a__law_prod i hp hq
theorem sum' (hk : 2 ≤ k) {j : Nat} {qs : List Rat} (hq : ∀ q ∈ qs, Sz j q) (hj : 1 + qs.length * (j + 1) ≤ 3900) (hj2 : j ≤ 3900) : callF allD k 14 [.lst (qs.map fr)] = .ok (fr (sumQ qs)) := by
  obtain ⟨i, rfl⟩ : ∃ i, k = i + 2 := ⟨k - 2, by omega⟩
  exact sum_ok a__law_low a__law_sum i hq hj hj2
theorem pick' (hk : 2 ≤ k) (ns : List Int) {i m : Int} {j many : Nat} (hi : i = j) (hm : 0 < many) (hm2 : m = many) : callF allD k 8 [scr ns, .int i, .int m] = .ok (.int (pickZ ns j many : Nat)) := by
  obtain ⟨n, rfl⟩ : ∃ n, k = n + 2 := ⟨k - 2, by omega⟩
  exact pick_at a__law_cell a__law_pick n ns hi hm hm2
end
/-! ### the law's walk -/
theorem cons_pT (i : Nat) (p : List Nat) (h : p.length ≤ 1000) : binop .add (.tup [.int (i : Nat)]) (pT p) = .ok (pT (i :: p)) := by
  have : 1 + p.length ≤ SZ := by
    have : SZ = 1000000 := rfl
    omega
  simp [pT, this]
theorem low_step (c : Rat) (w t : Int) : Rat.divInt (c.num * w) (c.den * t) = c * ((w : Rat) / (t : Rat)) := by
  rw [← Rat.divInt_eq_div]
  conv => rhs; rw [← Rat.num_divInt_den c]
  rw [Rat.divInt_mul_divInt]
theorem sz_one : Sz 1 (1 : Rat) := ⟨by decide, by decide⟩
theorem sz_way {w t : Int} (hw : 1 ≤ w ∧ w ≤ 9) (ht : 1 ≤ t ∧ t ≤ 27) : Sz 5 ((w : Rat) / (t : Rat)) := by
  rw [← Rat.divInt_eq_div]
  exact Sz.mk_divInt (by omega) (by omega) (by omega)
theorem ws_ne {g : G} {q : Int × G} (h : q ∈ g.ws) : g.ws ≠ [] := fun e => by rw [e] at h; cases h
theorem chn_sz : ∀ {n : Nat} {g h : G} {p : List Nat}, g.ok n → g.sub p = some h → Sz (5 * n + 1) (g.chn p)
  | n, g, h, [], hg, e => by rw [chn_nil]; exact sz_one.mono (by omega)
  | 0, g, h, i :: p, hg, e => hg.elim
  | n + 1, g, h, i :: p, hg, e => by
    rw [sub_cons] at e
    rw [chn_cons]
    cases hq : g.ws[i]? with
    | none => rw [hq] at e; cases e
    | some r =>
      rw [hq] at e
      have hm := List.mem_of_getElem? hq
      have h1 := chn_sz (ok_way hg hm).2 e
      exact ((sz_way (ok_way hg hm).1 (tot_pos hg (ws_ne hm))).mul h1).mono (by omega)
theorem row_sz {n : Nat} {g : G} {x : Row} (hg : g.ok n) (hx : x ∈ g.walk) : Sz (5 * n + 1) x.2.2 := by
  obtain ⟨p, h, c⟩ := x
  obtain ⟨h1, h2⟩ := (mem_walk _ _ _ _).mp hx
  rw [h2]
  exact chn_sz hg h1
theorem row_len {n : Nat} {g : G} {x : Row} (hg : g.ok n) (hx : x ∈ g.walk) : x.1.length < n := by
  obtain ⟨p, h, c⟩ := x
  exact (ok_sub hg ((mem_walk _ _ _ _).mp hx).1).1
/-- the rows by way of the first ways -/
def mwalk (g : G) (a : List (Int × G)) : List Row := ([], g, 1) :: (a.zipIdx).flatMap (wayRows (tot g.ws))
theorem mwalk_snoc (g : G) (p : List (Int × G)) (x : Int × G) : mwalk g (p ++ [x]) = mwalk g p ++ x.2.walk.map (stepRow (tot g.ws) (x, p.length)) := by
  unfold mwalk
  rw [List.zipIdx_append, List.flatMap_append, List.cons_append]
  simp [wayRows]
theorem mwalk_len (g : G) (p q : List (Int × G)) : (mwalk g p).length ≤ (mwalk g (p ++ q)).length := by
  unfold mwalk
  rw [List.zipIdx_append, List.flatMap_append, List.length_cons, List.length_cons, List.length_append]
  omega
theorem intsT_map {α : Type} (f : α → Int) : ∀ l : List α, intsT (l.map fun x => T.int (f x)) = some (l.map f)
  | [] => rfl
  | x :: l => by rw [List.map_cons, intsT, intsT_map f l]; rfl
theorem walk_ok : ∀ {n : Nat} {g : G} {k : Nat}, g.ok n → n ≤ 5 → n + 1 ≤ k → callF allD k 12 [g.t] = .ok (.lst (g.walk.map rowT))
  | 0, _, _, h, _, _ => h.elim
  | n + 1, g, k, h, hn, hk => by
    rw [call_k a__law_walk rfl (by omega)]
    simp (disch := first | assumption | omega) [-execs_cons_, List.getElem?_cons_zero, le_SZ, lt_SZ, kIf_dt, kIf_df, kIf_bt, kIf_bf, D__law_walk, lways_ok]
    rw [compL_l (g := fun p => T.int p.1) fun p hp => by rw [turn1]; simp (disch := first | assumption | omega) [-execs_cons_, List.getElem?_cons_zero, le_SZ, lt_SZ, kIf_dt, kIf_df, kIf_bt, kIf_bf, wT]]
    simp (disch := first | assumption | omega) [-execs_cons_, List.getElem?_cons_zero, le_SZ, lt_SZ, kIf_dt, kIf_df, kIf_bt, kIf_bf, intsT_map]
    refine fin_rt (xs_forE (l := g.ws) (h := wT) (by simp (disch := first | assumption | omega) [-execs_cons_, List.getElem?_cons_zero, le_SZ, lt_SZ, kIf_dt, kIf_df, kIf_bt, kIf_bf, lways_ok]) (fun a e => ∃ c3 c4 c5 c6 c7 c8, e = [.sh g.t, .ow (.lst ((mwalk g a).map rowT)), .sh (.int (tot g.ws)), c3, c4, c5, c6, c7, c8]) ⟨_, _, _, _, _, _, rfl⟩ (fun p x q e hl hI => ?_) (fun e hI => ?_))
    · obtain ⟨c3, c4, c5, c6, c7, c8, rfl⟩ := hI
      have hm : x ∈ g.ws := by rw [hl]; simp
      have hx := ok_way h hm
      have ht := tot_pos h (ws_ne hm)
      have ih := walk_ok (k := k - 1) hx.2 (by omega) (by omega)
      have hsz : ∀ b c, x.2.walk = b ++ c → (mwalk g p).length + b.length ≤ 1024 := fun b c hbc => by
        have h1 := mwalk_len g (p ++ [x]) q
        rw [mwalk_snoc, List.length_append, List.length_map, hbc, List.length_append, List.append_assoc, List.singleton_append, ← hl] at h1
        have h2 : mwalk g g.ws = g.walk := (walk_eq g).symm
        rw [h2] at h1
        have h3 := walk_len h
        have h4 := pow_le hn
        omega
      refine .inl (Nx.out ?_)
      simp (disch := first | assumption | omega) [-execs_cons_, List.getElem?_cons_zero, le_SZ, lt_SZ, kIf_dt, kIf_df, kIf_bt, kIf_bf, wT]
      refine Nx_for (l := x.2.walk) (h := rowT) (by simp (disch := first | assumption | omega) [-execs_cons_, List.getElem?_cons_zero, le_SZ, lt_SZ, kIf_dt, kIf_df, kIf_bt, kIf_bf, ih]) (fun b e => ∃ c6 c7 c8, e = [.sh g.t, .ow (.lst ((mwalk g p ++ b.map (stepRow (tot g.ws) (x, p.length))).map rowT)), .sh (.int (tot g.ws)), .sh (.int x.1), .sh x.2.t, .sh (.int (p.length : Nat)), c6, c7, c8]) ⟨c6, c7, c8, by simp⟩ (fun b r c e hb hI => ?_) (fun e hI => ?_)
      · obtain ⟨c6, c7, c8, rfl⟩ := hI
        refine Nx.out ?_
        have hr : r ∈ x.2.walk := by rw [hb]; simp
        have sz := row_sz hx.2 hr
        have m1 : mulOk r.2.2.num x.1 = true := mulOk_r (by omega)
        have m2 : mulOk (r.2.2.den : Int) (tot g.ws) = true := mulOk_r (by omega)
        have h1 : binop .add (.tup [.int (p.length : Nat)]) (pT r.1) = .ok (pT (p.length :: r.1)) := cons_pT _ _ (by have := row_len hx.2 hr; omega)
        have hn0 : (r.2.2.den : Int) * tot g.ws ≠ 0 := Int.mul_ne_zero (den_ne _) (by omega)
        have hl1 : ((r.2.2.den : Int) * tot g.ws).natAbs < 2 ^ 8000 := by
          rw [Int.natAbs_mul, Int.natAbs_natCast]
          exact Nat.lt_of_lt_of_le (mul_lt_pow (j := 5) sz.2 (by omega)) (Nat.pow_le_pow_right (by decide) (by omega))
        have h2 := low' (k := k - 1) (by omega) (a := r.2.2.num * x.1) hn0 hl1
        rw [low_step] at h2
        have h3 : (mwalk g p).length + b.length < SZ := by
          have := hsz b _ hb
          have : SZ = 1000000 := rfl
          omega
        simp (disch := first | assumption | omega) [-execs_cons_, List.getElem?_cons_zero, le_SZ, lt_SZ, kIf_dt, kIf_df, kIf_bt, kIf_bf, rowT, m1, m2, h1, h2, h3, stepRow]
      · obtain ⟨c6, c7, c8, rfl⟩ := hI
        simp (disch := first | assumption | omega) [-execs_cons_, List.getElem?_cons_zero, le_SZ, lt_SZ, kIf_dt, kIf_df, kIf_bt, kIf_bf, mwalk_snoc]
    · obtain ⟨c3, c4, c5, c6, c7, c8, rfl⟩ := hI
      simp (disch := first | assumption | omega) [-execs_cons_, List.getElem?_cons_zero, le_SZ, lt_SZ, kIf_dt, kIf_df, kIf_bt, kIf_bf, ]
      rw [walk_eq]
      rfl
end Fz

/-! drawn games -/
namespace Fz
open PySem
/-- fair at each path -/
def G.even : Nat → G → Prop
  | 0, _ => True
  | n + 1, g => (g.ws.map fun q => q.1 * (q.2.w - g.w)).sum = 0 ∧ ∀ q ∈ g.ws, q.2.even n
/-- no step greater than 3 -/
def G.near : Nat → G → Prop
  | 0, _ => True
  | n + 1, g => ∀ q ∈ g.ws, (-3 ≤ q.2.w - g.w ∧ q.2.w - g.w ≤ 3) ∧ q.2.near n
def rwT (r : Int × Int) : T := .tup [.int r.1, .int r.2]
/-- drawn ways -/
def RowsOk (ev : Bool) (m : Nat) (rs : List (Int × Int)) : Prop := rs.length = m ∧ (∀ r ∈ rs, (1 ≤ r.1 ∧ r.1 ≤ 9) ∧ (-3 ≤ r.2 ∧ r.2 ≤ 3)) ∧ (ev = true → (rs.map fun r => r.1 * r.2).sum = 0)
theorem RowsOk.rev {ev : Bool} {m : Nat} {rs : List (Int × Int)} (h : RowsOk ev m rs) : RowsOk ev m rs.reverse :=
  ⟨by rw [List.length_reverse]; exact h.1, fun r hr => h.2.1 r (List.mem_reverse.mp hr), fun e => by rw [List.map_reverse, List.sum_reverse]; exact h.2.2 e⟩
section
variable {ns : List Int}
theorem game_ok : ∀ (d : Nat) {k at_ : Nat} {top : Int} {ev : Bool}, 1 ≤ d → d ≤ 5 → d + 2 ≤ k → -20 + 3 * (d - 1) ≤ top → top ≤ 20 - 3 * (d - 1) →
    ∃ g : G, callF allD k 9 [scr ns, .int at_, .int top, .int d, .bl ev] = .ok g.t ∧ g.ok d ∧ g.w = top ∧ (at_ = 1 → 2 ≤ d → g.ws ≠ []) ∧ (ev = true → g.even d) ∧ g.near d
  | 0, _, _, _, _, h, _, _, _, _ => by omega
  | d + 1, k, at_, top, ev, h1, h2, hk, l1, l2 => by
    have hp : ∀ {j m : Nat} {i m' : Int}, i = j → 0 < m → m' = m → callF allD (k - 1) 8 [scr ns, .int i, .int m'] = .ok (.int (pickZ ns j m : Nat)) := fun h1 h2 h3 => pick' (by omega) ns h1 h2 h3
    have e0 : ∃ m0 : Nat, m0 ≤ 3 ∧ atT [.int 0, .int 1, .int 2, .int 2, .int 3] (pickZ ns (20 * at_) 5 : Nat) = .ok (.int m0) := by
      have := pick_lt ns (20 * at_) (many := 5) (by decide)
      match pickZ ns (20 * at_) 5, this with
      | 0, _ => exact ⟨0, by decide, rfl⟩
      | 1, _ => exact ⟨1, by decide, rfl⟩
      | 2, _ => exact ⟨2, by decide, rfl⟩
      | 3, _ => exact ⟨2, by decide, rfl⟩
      | 4, _ => exact ⟨3, by decide, rfl⟩
    obtain ⟨m0, hm0, e0⟩ := e0
    have p0 := hp (j := 20 * at_) (m := 5) (i := 20 * (at_ : Int)) (m' := 5) (by omega) (by decide) rfl
    have m20 : mulOk 20 (at_ : Int) = true := mulOk_l (by decide)
    have hok1 : ¬ ((d : Int) + 1 = 1) ↔ d ≠ 0 := by omega
    suffices H : ∀ P : T → Prop, (∀ g : G, g.ok (d + 1) → g.w = top → (at_ = 1 → 2 ≤ d + 1 → g.ws ≠ []) → (ev = true → g.even (d + 1)) → g.near (d + 1) → P g.t) → ∃ t, callF allD k 9 [scr ns, .int at_, .int top, .int (d + 1 : Nat), .bl ev] = .ok t ∧ P t by
      obtain ⟨t, a, g, rfl, b⟩ := H (fun t => ∃ g : G, t = g.t ∧ g.ok (d + 1) ∧ g.w = top ∧ (at_ = 1 → 2 ≤ d + 1 → g.ws ≠ []) ∧ (ev = true → g.even (d + 1)) ∧ g.near (d + 1)) (fun g h1 h2 h3 h4 h5 => ⟨g, rfl, h1, h2, h3, h4, h5⟩)
      exact ⟨g, a, b⟩
    intro P hP
    rw [call_k a__law_game rfl (by omega)]
    refine Px.fin ?_
    show Px (execs _ (_ :: _) [.sh (scr ns), .sh (.int at_), .sh (.int top), .sh (.int (d + 1 : Nat)), .sh (.bl ev), .un, .un, .un, .un, .un, .un, .un, .un, .un]) _
    refine Px_seq (fun e => e = [.sh (scr ns), .sh (.int at_), .sh (.int top), .sh (.int (d + 1 : Nat)), .sh (.bl ev), .sh (.int (20 * (at_ : Int))), .un, .un, .un, .un, .un, .un, .un, .un]) (by simp (disch := first | assumption | omega) [-execs_cons_, List.getElem?_cons_zero, le_SZ, lt_SZ, kIf_dt, kIf_df, kIf_bt, kIf_bf, m20]) ?_
    rintro _ rfl
    refine Px_seq (fun e => e = [.sh (scr ns), .sh (.int at_), .sh (.int top), .sh (.int (d + 1 : Nat)), .sh (.bl ev), .sh (.int (20 * (at_ : Int))), .sh (.int m0), .un, .un, .un, .un, .un, .un, .un]) (by simp (disch := first | assumption | omega) [-execs_cons_, List.getElem?_cons_zero, le_SZ, lt_SZ, kIf_dt, kIf_df, kIf_bt, kIf_bf, p0, e0]) ?_
    rintro _ rfl
    obtain ⟨m, hm, hm1, hat⟩ : ∃ m : Nat, m ≤ 3 ∧ (at_ = 1 → 1 ≤ m) ∧ (m = if at_ = 1 then max 1 m0 else m0) := ⟨_, by split <;> omega, by intro h; rw [if_pos h]; omega, rfl⟩
    refine Px_seq (fun e => e = [.sh (scr ns), .sh (.int at_), .sh (.int top), .sh (.int (d + 1 : Nat)), .sh (.bl ev), .sh (.int (20 * (at_ : Int))), .sh (.int m), .un, .un, .un, .un, .un, .un, .un]) ?_ ?_
    · by_cases h : at_ = 1
      · subst h
        have : (if (m0 : Int) > 1 then (m0 : Int) else 1) = m := by rw [hat, if_pos rfl]; split <;> omega
        simp (disch := first | assumption | omega) [-execs_cons_, List.getElem?_cons_zero, le_SZ, lt_SZ, kIf_dt, kIf_df, kIf_bt, kIf_bf, this]
      · have : ¬ (at_ : Int) = 1 := by omega
        rw [if_neg h] at hat
        simp (disch := first | assumption | omega) [-execs_cons_, List.getElem?_cons_zero, le_SZ, lt_SZ, kIf_dt, kIf_df, kIf_bt, kIf_bf, this, hat]
    rintro _ rfl
    by_cases hend : d = 0 ∨ m = 0
    · have : P (T.tup [.int top]) := by
        have := hP (.mk top []) ⟨⟨by show -20 ≤ top; omega, by show top ≤ 20; omega⟩, by simp [G.ws], by simp [G.ws]⟩ rfl (fun h1 h2 => by have := hm1 h1; omega) (fun _ => ⟨rfl, by simp [G.ws]⟩) (fun q hq => by simp [G.ws] at hq)
        rwa [t_end (g := .mk top []) rfl] at this
      by_cases h : d = 0
      · subst h
        simp (disch := first | assumption | omega) [-execs_cons_, List.getElem?_cons_zero, le_SZ, lt_SZ, kIf_dt, kIf_df, kIf_bt, kIf_bf, this]
      · obtain rfl : m = 0 := by omega
        have z : ((d : Int) + 1 = 1) = False := by simp; omega
        have z' : ((d : Int) = 0) = False := by simp [h]
        simp (disch := first | assumption | omega) [-execs_cons_, List.getElem?_cons_zero, le_SZ, lt_SZ, kIf_dt, kIf_df, kIf_bt, kIf_bf, z, z', this]
    · have hd0 : d ≠ 0 := fun h => hend (.inl h)
      have hm0' : m ≠ 0 := fun h => hend (.inr h)
      have hmS : m ≤ 1000000 := by omega
      have z : ((d : Int) + 1 = 1) = False := by simp; omega
      have z' : ((d : Int) = 0) = False := by simp [hd0]
      have z2 : ((m : Int) = 0) = False := by simp [hm0']
      refine Px_seq (fun e => e = [.sh (scr ns), .sh (.int at_), .sh (.int top), .sh (.int (d + 1 : Nat)), .sh (.bl ev), .sh (.int (20 * (at_ : Int))), .sh (.int m), .un, .un, .un, .un, .un, .un, .un]) (by simp (disch := first | assumption | omega) [-execs_cons_, List.getElem?_cons_zero, le_SZ, lt_SZ, kIf_dt, kIf_df, kIf_bt, kIf_bf, z, z', z2]) ?_
      rintro _ rfl
      refine Px_seq (fun e => e = [.sh (scr ns), .sh (.int at_), .sh (.int top), .sh (.int (d + 1 : Nat)), .sh (.bl ev), .sh (.int (20 * (at_ : Int))), .sh (.int m), .ow (.lst []), .un, .un, .un, .un, .un, .un]) (by simp (disch := first | assumption | omega) [-execs_cons_, List.getElem?_cons_zero, le_SZ, lt_SZ, kIf_dt, kIf_df, kIf_bt, kIf_bf, ]) ?_
      rintro _ rfl
      obtain ⟨Q, hQ⟩ : ∃ Q : Cells → Prop, Q = fun e => ∃ rs c7 c8 c9 c10, RowsOk ev m rs ∧ (c7 = .sh (.lst (rs.map rwT)) ∨ c7 = .ow (.lst (rs.map rwT))) ∧ e = [.sh (scr ns), .sh (.int at_), .sh (.int top), .sh (.int (d + 1 : Nat)), .sh (.bl ev), .sh (.int (20 * (at_ : Int))), .sh (.int m), c7, c8, c9, c10, .un, .un, .un] := ⟨_, rfl⟩
      refine Px_seq Q ?_ ?_
      · have mk : ∀ rs c7 c8 c9 c10, RowsOk ev m rs → (c7 = .sh (.lst (rs.map rwT)) ∨ c7 = .ow (.lst (rs.map rwT))) → Q [.sh (scr ns), .sh (.int at_), .sh (.int top), .sh (.int (d + 1)), .sh (.bl ev), .sh (.int (20 * (at_ : Int))), .sh (.int m), c7, c8, c9, c10, .un, .un, .un] := fun rs c7 c8 c9 c10 h1 h2 => by
          rw [hQ]; exact ⟨rs, c7, c8, c9, c10, h1, h2, rfl⟩
        clear hQ
        cases ev with
        | true =>
          have pa := hp (j := 20 * at_ + 1) (m := 3) (i := 20 * (at_ : Int) + 1) (m' := 3) (by omega) (by decide) rfl
          have pb := hp (j := 20 * at_ + 2) (m := 3) (i := 20 * (at_ : Int) + 2) (m' := 3) (by omega) (by decide) rfl
          have pc := hp (j := 20 * at_ + 3) (m := 9) (i := 20 * (at_ : Int) + 3) (m' := 9) (by omega) (by decide) rfl
          have la := pick_lt ns (20 * at_ + 1) (many := 3) (by decide)
          have lb := pick_lt ns (20 * at_ + 2) (many := 3) (by decide)
          have lc := pick_lt ns (20 * at_ + 3) (many := 9) (by decide)
          generalize pickZ ns (20 * at_ + 1) 3 = a at pa la
          generalize pickZ ns (20 * at_ + 2) 3 = b at pb lb
          generalize pickZ ns (20 * at_ + 3) 9 = c at pc lc
          have cut1 : ∀ x y z : T, cutL [x, y, z] (some 2) none = [z] := fun _ _ _ => rfl
          have cut2 : ∀ x y z : T, cutL [x, y, z] none (some 2) = [x, y] := fun _ _ _ => rfl
          have cut3 : ∀ x y z : T, cutL [x, y, z] none (some 3) = [x, y, z] := fun _ _ _ => rfl
          have hm' : m = 1 ∨ m = 2 ∨ m = 3 := by omega
          rcases hm' with rfl | rfl | rfl
          · have hr : RowsOk true 1 [(1 + (c : Int), 0)] := ⟨rfl, fun r hr => by
              rw [List.mem_singleton.mp hr]; exact ⟨⟨by show (1 : Int) ≤ 1 + (c : Int); omega, by show 1 + (c : Int) ≤ 9; omega⟩, by show (-3 : Int) ≤ 0; decide, by show (0 : Int) ≤ 3; decide⟩, fun _ => by simp⟩
            simp (disch := first | assumption | omega) [-execs_cons_, List.getElem?_cons_zero, le_SZ, lt_SZ, kIf_dt, kIf_df, kIf_bt, kIf_bf, pa, pb, pc, cut1]
            exact mk _ _ _ _ _ hr (.inl rfl)
          · have hr : RowsOk true 2 [(1 + (b : Int), 1 + (a : Int)), (1 + (a : Int), -(1 + (b : Int)))] := ⟨rfl, fun r hr => by
              simp only [List.mem_cons, List.not_mem_nil, or_false] at hr
              rcases hr with rfl | rfl <;> simp only [] <;> omega, fun _ => by simp only [List.map_cons, List.map_nil, List.sum_cons, List.sum_nil]; grind⟩
            simp (disch := first | assumption | omega) [-execs_cons_, List.getElem?_cons_zero, le_SZ, lt_SZ, kIf_dt, kIf_df, kIf_bt, kIf_bf, pa, pb, pc, cut2]
            exact mk _ _ _ _ _ hr (.inl rfl)
          · have hr : RowsOk true 3 [(1 + (b : Int), 1 + (a : Int)), (1 + (a : Int), -(1 + (b : Int))), (1 + (c : Int), 0)] := ⟨rfl, fun r hr => by
              simp only [List.mem_cons, List.not_mem_nil, or_false] at hr
              rcases hr with rfl | rfl | rfl <;> simp only [] <;> omega, fun _ => by simp only [List.map_cons, List.map_nil, List.sum_cons, List.sum_nil]; grind⟩
            simp (disch := first | assumption | omega) [-execs_cons_, List.getElem?_cons_zero, le_SZ, lt_SZ, kIf_dt, kIf_df, kIf_bt, kIf_bf, pa, pb, pc, cut3]
            exact mk _ _ _ _ _ hr (.inl rfl)
        | false =>
          simp (disch := first | assumption | omega) [-execs_cons_, List.getElem?_cons_zero, le_SZ, lt_SZ, kIf_dt, kIf_df, kIf_bt, kIf_bf, ]
          refine Nx_for (l := List.range m) (h := fun i => T.int (i : Nat)) (by simp (disch := first | assumption | omega) [-execs_cons_, List.getElem?_cons_zero, le_SZ, lt_SZ, kIf_dt, kIf_df, kIf_bt, kIf_bf, rng_l, hmS]) (fun a e => ∃ rs c10, (rs.length = a.length ∧ ∀ r ∈ rs, (1 ≤ r.1 ∧ r.1 ≤ 9) ∧ (-3 ≤ r.2 ∧ r.2 ≤ 3)) ∧ e = [.sh (scr ns), .sh (.int at_), .sh (.int top), .sh (.int (d + 1)), .sh (.bl false), .sh (.int (20 * (at_ : Int))), .sh (.int m), .ow (.lst (rs.map rwT)), .un, .un, c10, .un, .un, .un]) ⟨[], _, ⟨rfl, fun _ h => (nomatch h)⟩, rfl⟩ (fun p x q e hl hI => ?_) (fun e hI => ?_)
          · obtain ⟨rs, c10, ⟨h1, h2⟩, rfl⟩ := hI
            have pa := hp (j := 20 * at_ + 5 + x) (m := 9) (i := 20 * (at_ : Int) + 5 + x) (m' := 9) (by omega) (by decide) rfl
            have pb := hp (j := 20 * at_ + 8 + x) (m := 7) (i := 20 * (at_ : Int) + 8 + x) (m' := 7) (by omega) (by decide) rfl
            have la := pick_lt ns (20 * at_ + 5 + x) (many := 9) (by decide)
            have lb := pick_lt ns (20 * at_ + 8 + x) (many := 7) (by decide)
            generalize pickZ ns (20 * at_ + 5 + x) 9 = a at pa la
            generalize pickZ ns (20 * at_ + 8 + x) 7 = b at pb lb
            have hpl : rs.length < SZ := by
              have := congrArg List.length hl
              rw [List.length_range, List.length_append, List.length_cons] at this
              have : SZ = 1000000 := rfl
              omega
            refine ⟨[.sh (scr ns), .sh (.int at_), .sh (.int top), .sh (.int (d + 1)), .sh (.bl false), .sh (.int (20 * (at_ : Int))), .sh (.int m), .ow (.lst (rs.map rwT ++ [.tup [.int (1 + a), .int (b - 3)]])), .un, .un, .sh (.int x), .un, .un, .un], by simp (disch := first | assumption | omega) [-execs_cons_, List.getElem?_cons_zero, le_SZ, lt_SZ, kIf_dt, kIf_df, kIf_bt, kIf_bf, pa, pb, hpl], rs ++ [(1 + (a : Int), (b : Int) - 3)], .sh (.int x), ⟨by rw [List.length_append, List.length_append, h1]; rfl, fun r hr => ?_⟩, ?_⟩
            · rcases List.mem_append.mp hr with z | z
              · exact h2 r z
              · rw [List.mem_singleton.mp z]
                simp only []
                omega
            · simp [rwT]
          · obtain ⟨rs, c10, ⟨h1, h2⟩, rfl⟩ := hI
            simp (disch := first | assumption | omega) [-execs_cons_, List.getElem?_cons_zero, le_SZ, lt_SZ, kIf_dt, kIf_df, kIf_bt, kIf_bf, ]
            exact mk _ _ _ _ _ ⟨by rw [h1, List.length_range], h2, fun h => by cases h⟩ (.inr rfl)
      · intro e he
        rw [hQ] at he
        obtain ⟨rs, c7, c8, c9, c10, hrs, hc7, rfl⟩ := he
        have pr := hp (j := 20 * at_ + 4) (m := 2) (i := 20 * (at_ : Int) + 4) (m' := 2) (by omega) (by decide) rfl
        refine Px_seq (fun e => ∃ rs c7, RowsOk ev m rs ∧ (c7 = .sh (.lst (rs.map rwT)) ∨ c7 = .ow (.lst (rs.map rwT))) ∧ e = [.sh (scr ns), .sh (.int at_), .sh (.int top), .sh (.int (d + 1 : Nat)), .sh (.bl ev), .sh (.int (20 * (at_ : Int))), .sh (.int m), c7, c8, c9, c10, .un, .un, .un]) ?_ ?_
        · refine ⟨[.sh (scr ns), .sh (.int at_), .sh (.int top), .sh (.int (d + 1 : Nat)), .sh (.bl ev), .sh (.int (20 * (at_ : Int))), .sh (.int m), if (pickZ ns (20 * at_ + 4) 2 : Int) = 0 then .sh (.lst (rs.reverse.map rwT)) else c7, c8, c9, c10, .un, .un, .un], ?_, if (pickZ ns (20 * at_ + 4) 2 : Int) = 0 then rs.reverse else rs, _, ?_, ?_, rfl⟩
          · by_cases h : (pickZ ns (20 * at_ + 4) 2 : Int) = 0
            · rcases hc7 with rfl | rfl <;> simp (disch := first | assumption | omega) [-execs_cons_, List.getElem?_cons_zero, le_SZ, lt_SZ, kIf_dt, kIf_df, kIf_bt, kIf_bf, pr, h]
            · have h' : ¬ pickZ ns (20 * at_ + 4) 2 = 0 := by omega
              rcases hc7 with rfl | rfl <;> simp (disch := first | assumption | omega) [-execs_cons_, List.getElem?_cons_zero, le_SZ, lt_SZ, kIf_dt, kIf_df, kIf_bt, kIf_bf, pr, h, h']
          · split
            · exact hrs.rev
            · exact hrs
          · split
            · exact .inl rfl
            · exact hc7
        clear hc7 hrs
        rintro _ ⟨rs, c7, hrs, hc7, rfl⟩
        refine Px_seq (fun e => e = [.sh (scr ns), .sh (.int at_), .sh (.int top), .sh (.int (d + 1 : Nat)), .sh (.bl ev), .sh (.int (20 * (at_ : Int))), .sh (.int m), c7, c8, c9, c10, .ow (.lst []), .un, .un]) (by simp (disch := first | assumption | omega) [-execs_cons_, List.getElem?_cons_zero, le_SZ, lt_SZ, kIf_dt, kIf_df, kIf_bt, kIf_bf, ]) ?_
        rintro _ rfl
        refine Px_seq (fun e => e = [.sh (scr ns), .sh (.int at_), .sh (.int top), .sh (.int (d + 1 : Nat)), .sh (.bl ev), .sh (.int (20 * (at_ : Int))), .sh (.int m), .sh (.lst (rs.map rwT)), c8, c9, c10, .ow (.lst []), .un, .un]) (by rcases hc7 with rfl | rfl <;> simp (disch := first | assumption | omega) [-execs_cons_, List.getElem?_cons_zero, le_SZ, lt_SZ, kIf_dt, kIf_df, kIf_bt, kIf_bf, ]) ?_
        rintro _ rfl
        refine Px_forE (l := rs) (h := rwT) (by simp (disch := first | assumption | omega) [-execs_cons_, List.getElem?_cons_zero, le_SZ, lt_SZ, kIf_dt, kIf_df, kIf_bt, kIf_bf, ]) (fun a e => ∃ (ws : List (Int × G)) (c10 c12 c13 : Cell), ws.map (fun q => (q.1, q.2.w - top)) = a ∧ (∀ q ∈ ws, q.2.ok d ∧ (ev = true → q.2.even d) ∧ q.2.near d) ∧ e = [.sh (scr ns), .sh (.int at_), .sh (.int top), .sh (.int (d + 1 : Nat)), .sh (.bl ev), .sh (.int (20 * (at_ : Int))), .sh (.int m), .sh (.lst (rs.map rwT)), c8, c9, c10, .ow (.lst (ws.map wT)), c12, c13])
          ⟨[], _, _, _, rfl, fun _ h => (nomatch h), rfl⟩ (fun p x q e hl hI => ?_) (fun e hI => ?_)
        · obtain ⟨ws, c10, c12, c13, hw1, hw2, rfl⟩ := hI
          have hx := hrs.2.1 x (by rw [hl]; simp)
          obtain ⟨g, ih1, ih2, ih3, _, ih5⟩ := game_ok d (k := k - 1) (at_ := 4 * at_ + 1 + p.length) (top := top + x.2) (ev := ev) (by omega) (by omega) (by omega) (by omega) (by omega)
          have m4 : mulOk 4 (at_ : Int) = true := mulOk_l (by decide)
          have ih1' : callF allD (k - 1) 9 [scr ns, .int (4 * (at_ : Int) + 1 + (p.length : Nat)), .int (top + x.2), .int d, .bl ev] = .ok g.t := by
            rw [← ih1]; congr 1
          have hpl : ws.length < SZ := by
            have h1 := congrArg List.length hw1
            have h2 := congrArg List.length hl
            rw [List.length_map] at h1
            rw [List.length_append, List.length_cons, hrs.1] at h2
            have : SZ = 1000000 := rfl
            omega
          refine ⟨[.sh (scr ns), .sh (.int at_), .sh (.int top), .sh (.int (d + 1 : Nat)), .sh (.bl ev), .sh (.int (20 * (at_ : Int))), .sh (.int m), .sh (.lst (rs.map rwT)), c8, c9, .sh (.int (p.length : Nat)), .ow (.lst (ws.map wT ++ [wT (x.1, g)])), .sh (.int x.1), .sh (.int x.2)], by simp (disch := first | assumption | omega) [-execs_cons_, List.getElem?_cons_zero, le_SZ, lt_SZ, kIf_dt, kIf_df, kIf_bt, kIf_bf, rwT, m4, ih1', hpl, wT, show ((d : Int) + 1 - 1) = d by omega], ws ++ [(x.1, g)], .sh (.int (p.length : Nat)), .sh (.int x.1), .sh (.int x.2), ?_, ?_, ?_⟩
          · rw [List.map_append, hw1]
            have : top + x.2 - top = x.2 := by omega
            simp [ih3, this]
          · intro q hq
            rcases List.mem_append.mp hq with z | z
            · exact hw2 q z
            · rw [List.mem_singleton.mp z]
              exact ⟨ih2, ih5⟩
          · rw [List.map_append]; rfl
        · obtain ⟨ws, c10, c12, c13, hw1, hw2, rfl⟩ := hI
          have hne : ws ≠ [] := fun h => by rw [h] at hw1; rw [← hw1] at hrs; exact hm0' hrs.1.symm
          have hlen : ws.length = m := by rw [← hrs.1, ← hw1, List.length_map]
          have hmem : ∀ q ∈ ws, (1 ≤ q.1 ∧ q.1 ≤ 9) := fun q hq => by
            have := hrs.2.1 (q.1, q.2.w - top) (by rw [← hw1]; exact List.mem_map_of_mem hq)
            exact this.1
          have := hP (.mk top ws) ⟨⟨by show -20 ≤ top; omega, by show top ≤ 20; omega⟩, by show ws.length ≤ 3; omega, fun q hq => ⟨hmem q hq, (hw2 q hq).1⟩⟩ rfl (fun _ _ => hne)
            (fun h => ⟨by
              have e := hrs.2.2 h
              rw [← hw1, List.map_map] at e
              exact e, fun q hq => (hw2 q hq).2.1 h⟩) (fun q hq => ⟨(hrs.2.1 (q.1, q.2.w - top) (by rw [← hw1]; exact List.mem_map_of_mem hq)).2, (hw2 q hq).2.2⟩)
          rw [t_go (g := .mk top ws) hne] at this
          simp (disch := first | assumption | omega) [-execs_cons_, List.getElem?_cons_zero, le_SZ, lt_SZ, kIf_dt, kIf_df, kIf_bt, kIf_bf, ]
          exact this
theorem drawn_ok {d k : Nat} (h1 : 1 ≤ d) (h2 : d ≤ 5) (hk : d + 3 ≤ k) : ∃ g : G, callF allD k 10 [scr ns, .int d] = .ok g.t ∧ g.ok d ∧ (-6 ≤ g.w ∧ g.w ≤ 6) ∧ (2 ≤ d → g.ws ≠ []) ∧ (pickZ ns 1 2 = 0 → g.even d) ∧ g.near d := by
  have p0 := pick' (k := k - 1) (by omega) ns (j := 0) (many := 13) (i := 0) (m := 13) rfl (by decide) rfl
  have p1 := pick' (k := k - 1) (by omega) ns (j := 1) (many := 2) (i := 1) (m := 2) rfl (by decide) rfl
  have l0 := pick_lt ns 0 (many := 13) (by decide)
  obtain ⟨g, a, b, c, e, f⟩ := game_ok (ns := ns) d (k := k - 1) (at_ := 1) (top := (pickZ ns 0 13 : Int) - 6) (ev := (pickZ ns 1 2 : Int) == 0) h1 h2 (by omega) (by omega) (by omega)
  refine ⟨g, ?_, b, by omega, e rfl, fun h => f.1 (by rw [h]; rfl), f.2⟩
  rw [call_k a__law_drawn rfl (by omega)]
  have a' : callF allD (k - 1) 9 [scr ns, .int 1, .int ((pickZ ns 0 13 : Int) - 6), .int d, .bl ((pickZ ns 1 2 : Int) == 0)] = .ok g.t := a
  simp (disch := first | assumption | omega) [-execs_cons_, List.getElem?_cons_zero, le_SZ, lt_SZ, kIf_dt, kIf_df, kIf_bt, kIf_bf, D__law_drawn, p0, p1, a']
end
end Fz

/-! a game with another one at a path -/
namespace Fz
namespace G
def put : G → List Nat → G → G
  | _, [], o => o
  | g, i :: p, o => .mk g.w (match g.ws[i]? with | some q => g.ws.set i (q.1, q.2.put p o) | none => g.ws)
end G
theorem put_nil (g o : G) : g.put [] o = o := by rw [G.put]
theorem put_cons {g o : G} {i : Nat} {p : List Nat} {q : Int × G} (h : g.ws[i]? = some q) : g.put (i :: p) o = .mk g.w (g.ws.set i (q.1, q.2.put p o)) := by rw [G.put, h]
theorem mk_eta (g : G) : G.mk g.w g.ws = g := by cases g; rfl
theorem set_get {α : Type} {l : List α} {i j : Nat} {a : α} (h : i < l.length) : (l.set i a)[j]? = if j = i then some a else l[j]? := by
  by_cases e : j = i
  · rw [if_pos e, e, List.getElem?_set_self h]
  · rw [if_neg e, List.getElem?_set_ne (fun z => e z.symm)]
theorem get_lt {α : Type} {l : List α} {i : Nat} {a : α} (h : l[i]? = some a) : i < l.length := (List.getElem?_eq_some_iff.mp h).1
theorem put_ws {g o : G} {i j : Nat} {p : List Nat} {q : Int × G} (h : g.ws[i]? = some q) : (g.put (i :: p) o).ws[j]? = if j = i then some (q.1, q.2.put p o) else g.ws[j]? := by
  rw [put_cons h]
  exact set_get (get_lt h)
theorem sub_put : ∀ {p : List Nat} {g h o : G}, g.sub p = some h → (g.put p o).sub p = some o
  | [], g, h, o, _ => by rw [put_nil, sub_nil]
  | i :: p, g, h, o, e => by
    rw [sub_cons] at e ⊢
    cases hq : g.ws[i]? with
    | none => rw [hq] at e; cases e
    | some q =>
      rw [hq] at e
      rw [put_ws hq, if_pos rfl]
      exact sub_put e
theorem put_put : ∀ {p : List Nat} {g h o u : G}, g.sub p = some h → (g.put p o).put p u = g.put p u
  | [], g, h, o, u, _ => by simp only [put_nil]
  | i :: p, g, h, o, u, e => by
    rw [sub_cons] at e
    cases hq : g.ws[i]? with
    | none => rw [hq] at e; cases e
    | some q =>
      rw [hq] at e
      have h2 : (g.put (i :: p) o).ws[i]? = some (q.1, q.2.put p o) := by rw [put_ws hq, if_pos rfl]
      rw [put_cons h2, put_cons hq, put_cons hq]
      show G.mk g.w ((g.ws.set i (q.1, q.2.put p o)).set i (q.1, (q.2.put p o).put p u)) = _
      rw [List.set_set, put_put e]
theorem put_same : ∀ {p : List Nat} {g h : G}, g.sub p = some h → g.put p h = g
  | [], g, h, e => by rw [sub_nil] at e; cases e; rw [put_nil]
  | i :: p, g, h, e => by
    rw [sub_cons] at e
    cases hq : g.ws[i]? with
    | none => rw [hq] at e; cases e
    | some q =>
      rw [hq] at e
      rw [put_cons hq, put_same e]
      have : g.ws.set i (q.1, q.2) = g.ws := by
        refine List.ext_getElem? fun j => ?_
        rw [set_get (get_lt hq)]
        split
        · rename_i e; rw [e, hq]
        · rfl
      rw [this, mk_eta]
/-- elsewhere all stays -/
theorem sub_else : ∀ {p r : List Nat} {g h o s : G}, g.sub p = some h → g.sub r = some s → r.take p.length ≠ p → ∃ s', (g.put p o).sub r = some s' ∧ s'.w = s.w ∧ s'.ws.map (·.1) = s.ws.map (·.1)
  | [], r, g, h, o, s, _, _, hn => absurd (by simp) hn
  | i :: p, [], g, h, o, s, e, er, hn => by
    rw [sub_nil] at er
    cases er
    rw [sub_cons] at e
    cases hq : g.ws[i]? with
    | none => rw [hq] at e; cases e
    | some q =>
      refine ⟨_, sub_nil _, ?_, ?_⟩
      · rw [put_cons hq]; rfl
      · rw [put_cons hq]
        show (g.ws.set i _).map _ = _
        rw [List.map_set]
        refine List.ext_getElem? fun j => ?_
        by_cases hj : j = i
        · rw [hj, List.getElem?_set_self (by rw [List.length_map]; exact get_lt hq), List.getElem?_map, hq]; rfl
        · rw [List.getElem?_set_ne (fun z => hj z.symm)]
  | i :: p, j :: r, g, h, o, s, e, er, hn => by
    rw [sub_cons] at e er
    cases hq : g.ws[i]? with
    | none => rw [hq] at e; cases e
    | some q =>
      rw [hq] at e
      rw [sub_cons, put_ws hq]
      by_cases hj : j = i
      · subst hj
        rw [hq] at er
        rw [if_pos rfl]
        refine sub_else e er fun z => hn ?_
        rw [List.length_cons, List.take_succ_cons, z]
      · rw [if_neg hj]
        exact ⟨s, er, rfl, rfl⟩
theorem ok_put : ∀ {p : List Nat} {n N : Nat} {g h o : G}, g.ok n → n ≤ N → g.sub p = some h → o.ok (N - p.length) → (g.put p o).ok N
  | [], n, N, g, h, o, hg, hn, e, ho => by rw [put_nil]; exact ho
  | i :: p, 0, N, g, h, o, hg, hn, e, ho => hg.elim
  | i :: p, n + 1, 0, g, h, o, hg, hn, e, ho => by omega
  | i :: p, n + 1, N + 1, g, h, o, hg, hn, e, ho => by
    rw [sub_cons] at e
    cases hq : g.ws[i]? with
    | none => rw [hq] at e; cases e
    | some q =>
      rw [hq] at e
      rw [put_cons hq]
      have hm := List.mem_of_getElem? hq
      refine ⟨hg.1, by show (g.ws.set i _).length ≤ 3; rw [List.length_set]; exact hg.2.1, fun r hr => ?_⟩
      have hr' : r ∈ g.ws.set i (q.1, q.2.put p o) := hr
      rcases List.mem_or_eq_of_mem_set hr' with z | z
      · exact ⟨(ok_way hg z).1, ok_mono (ok_way hg z).2 (by omega)⟩
      · rw [z]
        refine ⟨(ok_way hg hm).1, ok_put (ok_way hg hm).2 (by omega) e ?_⟩
        rw [List.length_cons, Nat.add_sub_add_right] at ho
        exact ho
theorem flat_len_eq (t : Int) : ∀ (l : List (Int × G)) (k : Nat), ((l.zipIdx k).flatMap (wayRows t)).length = (l.map fun q => q.2.walk.length).sum
  | [], k => rfl
  | q :: l, k => by
    rw [List.zipIdx_cons, List.flatMap_cons, List.length_append, flat_len_eq t l (k + 1), List.map_cons, List.sum_cons]
    unfold wayRows
    rw [List.length_map]
theorem walk_len_eq (g : G) : g.walk.length = 1 + (g.ws.map fun q => q.2.walk.length).sum := by
  rw [walk_eq, List.length_cons, flat_len_eq, Nat.add_comm]
theorem sum_set : ∀ (l : List (Int × G)) (i : Nat) (q r : Int × G), l[i]? = some q → ((l.set i r).map fun q => q.2.walk.length).sum + q.2.walk.length = (l.map fun q => q.2.walk.length).sum + r.2.walk.length
  | [], i, q, r, h => by simp at h
  | a :: l, 0, q, r, h => by
    simp at h
    subst h
    simp only [List.set_cons_zero, List.map_cons, List.sum_cons]
    omega
  | a :: l, i + 1, q, r, h => by
    simp at h
    have := sum_set l i q r h
    simp only [List.set_cons_succ, List.map_cons, List.sum_cons]
    omega
theorem put_len : ∀ {p : List Nat} {g h o : G}, g.sub p = some h → (g.put p o).walk.length + h.walk.length = g.walk.length + o.walk.length
  | [], g, h, o, e => by rw [sub_nil] at e; cases e; rw [put_nil]; omega
  | i :: p, g, h, o, e => by
    rw [sub_cons] at e
    cases hq : g.ws[i]? with
    | none => rw [hq] at e; cases e
    | some q =>
      rw [hq] at e
      have ih := put_len (o := o) e
      have h2 := sum_set g.ws i q (q.1, q.2.put p o) hq
      rw [walk_len_eq g, walk_len_eq (g.put (i :: p) o), put_cons hq]
      show 1 + ((g.ws.set i (q.1, q.2.put p o)).map fun q => q.2.walk.length).sum + _ = _
      simp only [] at h2
      omega
end Fz

/-! games changed; ends; sizes -/
namespace Fz
open PySem
theorem cut_from (xs : List T) (n : Nat) : cutL xs (some (n : Int)) none = xs.drop n := by
  unfold cutL
  rw [HT.sIx_nat, HT.sIx_none]
  by_cases h : n ≤ xs.length
  · rw [Nat.min_eq_left h, List.take_of_length_le (by rw [List.length_drop]; omega)]
  · rw [Nat.min_eq_right (by omega), List.drop_of_length_le (by omega), List.drop_of_length_le (by omega)]
    simp
theorem cut_to (xs : List T) (n : Nat) : cutL xs none (some (n : Int)) = xs.take n := by
  unfold cutL
  rw [HT.sIx_nat, HT.sIx_none, List.drop_zero, Nat.sub_zero]
  by_cases h : n ≤ xs.length
  · rw [Nat.min_eq_left h]
  · rw [Nat.min_eq_right (by omega), List.take_of_length_le (by omega), List.take_of_length_le (by omega)]
@[simp] theorem cut_1 (x : T) (xs : List T) : cutL (x :: xs) (some 1) none = xs := cut_from (x :: xs) 1
theorem pT_cons (i : Nat) (p : List Nat) : pT (i :: p) = .tup (.int (i : Nat) :: p.map fun i => .int (i : Nat)) := rfl
theorem pT_nil : pT [] = .tup [] := rfl
/-- the game that ends here -/
def G.stop (g : G) : G := .mk g.w []
def G.worthy (g : G) (i : Int) : G := .mk i g.ws
theorem stop_t (g : G) : g.stop.t = .tup [.int g.w] := t_end rfl
theorem t_w (g : G) : idxT g.t (.int 0) = .ok (.int g.w) := by rw [t_eq]; simp
theorem t_tail (g : G) (i : Int) : (g.worthy i).t = .tup (.int i :: if g.ws = [] then [] else [.tup (g.ws.map wT)]) := by rw [t_eq]; rfl
section
variable {k : Nat}
theorem put_at_ok : ∀ {p : List Nat} {k : Nat} {g h o : G}, g.sub p = some h → p.length + 2 ≤ k → callF allD k 80 [g.t, pT p, o.t] = .ok (g.put p o).t
  | [], k, g, h, o, e, hk => by
    rw [call_k a_put_at rfl (by omega), pT_nil, put_nil]
    simp (disch := first | assumption | omega) [-execs_cons_, List.getElem?_cons_zero, le_SZ, lt_SZ, kIf_dt, kIf_df, kIf_bt, kIf_bf, D_put_at]
  | i :: p, k, g, h, o, e, hk => by
    rw [List.length_cons] at hk
    rw [sub_cons] at e
    cases hq : g.ws[i]? with
    | none => rw [hq] at e; cases e
    | some q =>
      rw [hq] at e
      have ih := put_at_ok (k := k - 1) (o := o) e (by omega)
      have ha := at_ways hq
      have hlt := get_lt hq
      have hne : g.ws ≠ [] := fun z => by rw [z] at hlt; simp at hlt
      have hset : (g.ws.map wT).set i (wT (q.1, q.2.put p o)) = (g.ws.set i (q.1, q.2.put p o)).map wT := by rw [List.map_set]
      have hne2 : (G.mk g.w (g.ws.set i (q.1, q.2.put p o))).ws ≠ [] := fun z => by
        have := congrArg List.length z
        simp [G.ws] at this
        exact hne this
      have hfin : (G.mk g.w (g.ws.set i (q.1, q.2.put p o))).t = .tup [.int g.w, .tup ((g.ws.map wT).set i (.tup [.int q.1, (q.2.put p o).t]))] := by
        rw [t_go hne2]
        show T.tup [.int g.w, .tup ((g.ws.set i (q.1, q.2.put p o)).map wT)] = _
        rw [← hset]
        rfl
      rw [call_k a_put_at rfl (by omega), put_cons hq, hfin]
      have hi : (i : Int) < (g.ws.length : Int) := by omega
      have hp : (T.tup (p.map fun i => T.int (i : Nat))) = pT p := rfl
      have hpl : T.plains (p.map fun i => T.int (i : Nat)) 59 = true := plains_map fun x _ => by simp
      rw [pT_cons]
      simp (disch := first | assumption | omega) [-execs_cons_, List.getElem?_cons_zero, le_SZ, lt_SZ, kIf_dt, kIf_df, kIf_bt, kIf_bf, D_put_at, hpl, ways_of_ok, ha, wT, hp, ih, hi, t_w]
theorem looked_ok {g : G} {n : Nat} (hk : 9 ≤ k) (hg : g.ok n) (hn : n ≤ 4) : callF allD k 184 [g.t] = .ok g.t := by
  rw [call_k a_looked rfl (by omega)]
  have := look_game_ok (k := k - 1) (by omega) hg hn
  simp (disch := first | assumption | omega) [-execs_cons_, List.getElem?_cons_zero, le_SZ, lt_SZ, kIf_dt, kIf_df, kIf_bt, kIf_bf, D_looked, this]
theorem with_part_ok {n m : Nat} {g h o : G} {p : List Nat} (hk : 10 ≤ k) (hg : g.ok n) (hn : n ≤ 4) (ho : o.ok m) (hm : m ≤ 4) (e : g.sub p = some h) (hr : (g.put p o).ok 4) : callF allD k 185 [g.t, pT p, o.t] = .ok (g.put p o).t := by
  rw [call_k a_with_part rfl (by omega)]
  have hl := (ok_sub hg e).1
  have h1 := look_game_ok (k := k - 1) (by omega) hg hn
  have h2 := look_game_ok (k := k - 1) (by omega) ho hm
  have h3 := look_path_ok (k := k - 1) (by omega) e
  have h4 := put_at_ok (k := k - 1) (o := o) e (by omega)
  have h5 := looked_ok (k := k - 1) (by omega) hr (by omega)
  simp (disch := first | assumption | omega) [-execs_cons_, List.getElem?_cons_zero, le_SZ, lt_SZ, kIf_dt, kIf_df, kIf_bt, kIf_bf, D_with_part, h1, h2, h3, h4, h5]
theorem with_worth_ok {n : Nat} {g h : G} {p : List Nat} {i : Int} (hk : 10 ≤ k) (hg : g.ok n) (hn : n ≤ 4) (e : g.sub p = some h) (hr : (g.put p (h.worthy i)).ok 4) : callF allD k 186 [g.t, pT p, .int i] = .ok (g.put p (h.worthy i)).t := by
  rw [call_k a_with_worth rfl (by omega)]
  have hl := (ok_sub hg e).1
  have h1 := look_game_ok (k := k - 1) (by omega) hg hn
  have h3 := look_path_ok (k := k - 1) (by omega) e
  have h4 := put_at_ok (k := k - 1) (o := h.worthy i) e (by omega)
  have h5 := looked_ok (k := k - 1) (by omega) hr (by omega)
  have h6 := part_of_ok (k := k - 1) (by omega) e
  rw [t_tail] at h4
  rw [t_eq h] at h6
  by_cases hw : h.ws = []
  · rw [if_pos hw] at h4 h6
    simp (disch := first | assumption | omega) [-execs_cons_, List.getElem?_cons_zero, le_SZ, lt_SZ, kIf_dt, kIf_df, kIf_bt, kIf_bf, D_with_worth, h1, h3, h6, h4, h5]
  · rw [if_neg hw] at h4 h6
    simp (disch := first | assumption | omega) [-execs_cons_, List.getElem?_cons_zero, le_SZ, lt_SZ, kIf_dt, kIf_df, kIf_bt, kIf_bf, D_with_worth, h1, h3, h6, h4, h5]
theorem cut_ok {n : Nat} {g h : G} {p : List Nat} (hk : 10 ≤ k) (hg : g.ok n) (hn : n ≤ 4) (e : g.sub p = some h) : callF allD k 81 [g.t, pT p] = .ok (g.put p h.stop).t := by
  rw [call_k a_cut rfl (by omega)]
  have hl := (ok_sub hg e).1
  have h1 := look_game_ok (k := k - 1) (by omega) hg hn
  have h3 := look_path_ok (k := k - 1) (by omega) e
  have h4 := put_at_ok (k := k - 1) (o := h.stop) e (by omega)
  have h6 := part_of_ok (k := k - 1) (by omega) e
  rw [stop_t] at h4
  simp (disch := first | assumption | omega) [-execs_cons_, List.getElem?_cons_zero, le_SZ, lt_SZ, kIf_dt, kIf_df, kIf_bt, kIf_bf, D_cut, h1, h3, h6, t_w, h4]
theorem paths_rows (g : G) : g.paths.map pT = g.walk.map fun x => pT x.1 := by
  unfold G.paths
  rw [List.map_map]
  rfl
def isEnd (x : Row) : Bool := x.2.1.ws.isEmpty
theorem ends_of_ok {n : Nat} {g : G} (hk : 7 ≤ k) (hg : g.ok n) (hn : n ≤ 5) : callF allD k 33 [g.t] = .ok (.lst ((g.walk.filter isEnd).map fun x => pT x.1)) := by
  rw [call_k a_ends_of rfl (by omega)]
  have h1 := paths_of_ok (k := k - 1) hg hn (by omega)
  rw [paths_rows] at h1
  simp (disch := first | assumption | omega) [-execs_cons_, List.getElem?_cons_zero, le_SZ, lt_SZ, kIf_dt, kIf_df, kIf_bt, kIf_bf, D_ends_of, h1]
  rw [compL_lf (p := isEnd) (g := fun x => pT x.1) fun x hx => by
    have h2 := part_of_ok (k := k - 1) (by omega) (((mem_walk x.1 g x.2.1 x.2.2).mp hx).1)
    have h3 := is_end_ok (g := x.2.1) (k := k - 1) (by omega)
    rw [turn1]
    cases h4 : isEnd x
    · have h5 : x.2.1.ws.isEmpty = false := h4
      simp (disch := first | assumption | omega) [-execs_cons_, List.getElem?_cons_zero, le_SZ, lt_SZ, kIf_dt, kIf_df, kIf_bt, kIf_bf, h2, h3, h5]
    · have h5 : x.2.1.ws.isEmpty = true := h4
      simp (disch := first | assumption | omega) [-execs_cons_, List.getElem?_cons_zero, le_SZ, lt_SZ, kIf_dt, kIf_df, kIf_bt, kIf_bf, h2, h3, h5]]
  rfl
theorem ends_ok {n : Nat} {g : G} (hk : 9 ≤ k) (hg : g.ok n) (hn : n ≤ 4) : callF allD k 34 [g.t] = .ok (.lst ((g.walk.filter isEnd).map fun x => pT x.1)) := by
  rw [call_k a_ends rfl (by omega)]
  have h1 := look_game_ok (k := k - 1) (by omega) hg hn
  have h2 := ends_of_ok (k := k - 1) (by omega) hg (by omega)
  simp (disch := first | assumption | omega) [-execs_cons_, List.getElem?_cons_zero, le_SZ, lt_SZ, kIf_dt, kIf_df, kIf_bt, kIf_bf, D_ends, h1, h2]
/-- the most steps -/
def deep : List Row → Int
  | [] => 0
  | x :: r => maxI (r.map fun x => (x.1.length : Int)) x.1.length
theorem sizes_ok {n : Nat} {g : G} (hk : 9 ≤ k) (hg : g.ok n) (hn : n ≤ 4) : callF allD k 82 [g.t] = .ok (.tup [.int g.walk.length, .int (g.walk.filter isEnd).length, .int (deep g.walk)]) := by
  rw [call_k a_sizes rfl (by omega)]
  have h1 := look_game_ok (k := k - 1) (by omega) hg hn
  have h2 := ends_of_ok (k := k - 1) (by omega) hg (by omega)
  have h3 := paths_of_ok (k := k - 1) hg (by omega) (by omega)
  rw [paths_rows] at h3
  simp (disch := first | assumption | omega) [-execs_cons_, List.getElem?_cons_zero, le_SZ, lt_SZ, kIf_dt, kIf_df, kIf_bt, kIf_bf, D_sizes, h1, h2, h3]
  rw [compL_l (g := fun x => T.int (x.1.length : Nat)) fun x hx => by
    rw [turn1]
    simp (disch := first | assumption | omega) [-execs_cons_, List.getElem?_cons_zero, le_SZ, lt_SZ, kIf_dt, kIf_df, kIf_bt, kIf_bf, pT]]
  simp (disch := first | assumption | omega) [-execs_cons_, List.getElem?_cons_zero, le_SZ, lt_SZ, kIf_dt, kIf_df, kIf_bt, kIf_bf, intsT_map]
  rw [walk_eq]
  simp (disch := first | assumption | omega) [-execs_cons_, List.getElem?_cons_zero, le_SZ, lt_SZ, kIf_dt, kIf_df, kIf_bt, kIf_bf, ]
  rfl
end
end Fz

/-! small steps -/
namespace Fz
open PySem
theorem max1_deep {l : List Row} (h : l ≠ []) : bltT .max1 [.lst (l.map fun x => T.int (x.1.length : Nat))] = .ok (.int (deep l)) := by
  cases l with
  | nil => exact absurd rfl h
  | cons x r =>
    rw [blt_max1_, intsT_map]
    rfl
theorem eqv_ints (p q : List Nat) : T.eqvs (p.map fun i => T.int (i : Nat)) (q.map fun i => T.int (i : Nat)) = decide (p = q) := by
  induction p generalizing q with
  | nil => cases q <;> simp
  | cons a p ih =>
    cases q with
    | nil => simp
    | cons b q =>
      simp only [List.map_cons, eqvs_cons_, eqv_ii_, ih]
      by_cases e1 : a = b
      · subst e1; simp
      · have e2 : ¬ ((a : Int) = (b : Int)) := by omega
        simp [e1, e2]
theorem eqv_pT (p q : List Nat) : T.eqv (pT p) (pT q) = decide (p = q) := by
  unfold pT
  rw [eqv_tt_, eqv_ints]
theorem slc_pT (p : List Nat) (n : Nat) : slcT (pT p) none (some (n : Int)) = .ok (pT (p.take n)) := by
  unfold pT
  rw [slc_t_, cut_to, ← List.map_take]
theorem plain60_t {n : Nat} {g : G} (h : g.ok n) (hn : n ≤ 5) : g.t.plain 60 = true := plain_t h (by omega)
theorem self60 {t : T} {n : Nat} (h : t.plain n = true) : T.eqv t t = true := eqv_self t n h
theorem slc_t {h : G} : slcT h.t (some 1) none = .ok (.tup (if h.ws = [] then [] else [.tup (h.ws.map wT)])) := by
  rw [t_eq, slc_t_, cut_1]
theorem ok_worthy {n : Nat} {g : G} {i : Int} (h : g.ok n) (h1 : -20 ≤ i) (h2 : i ≤ 20) : (g.worthy i).ok n := by
  cases n with
  | zero => exact h
  | succ n => exact ⟨⟨h1, h2⟩, h.2⟩
theorem ok_stop {n : Nat} {g : G} (h : g.ok n) : g.stop.ok n := by
  cases n with
  | zero => exact h
  | succ n => exact ⟨h.1, by show ([] : List (Int × G)).length ≤ 3; simp, fun p hp => by cases hp⟩
theorem add_tail (h : G) (i : Int) : binop .add (.tup [.int i]) (.tup (if h.ws = [] then [] else [.tup (h.ws.map wT)])) = .ok (h.worthy i).t := by
  rw [t_tail]
  by_cases e : h.ws = []
  · simp [e, le_SZ]
  · simp [e, le_SZ]
theorem wlist (ws : List (Int × G)) : (ws.map fun p => T.int p.1) = (ws.map (·.1)).map T.int := by rw [List.map_map]; rfl
theorem plain_ints60 (l : List Int) : (T.lst (l.map T.int)).plain 60 = true := by rw [plain_lst_]; exact plains_ints 59 l
theorem t_len (g : G) : lenT g.t = .ok (.int (if g.ws.isEmpty then 1 else 2)) := by
  rw [t_eq]
  cases h : g.ws <;> simp
theorem len_pT (p : List Nat) : lenT (pT p) = .ok (.int (p.length : Nat)) := by simp [pT]
end Fz

/-! things with something else at a drawn place -/
namespace Fz
open PySem
mutual
def plc : T → List (List Nat)
  | .tup xs => [] :: plcs 0 xs
  | _ => [[]]
def plcs : Nat → List T → List (List Nat)
  | _, [] => []
  | k, x :: xs => (plc x).map (k :: ·) ++ plcs (k + 1) xs
end
theorem plcs_append : ∀ (a b : List T) (k : Nat), plcs k (a ++ b) = plcs k a ++ plcs (k + a.length) b
  | [], b, k => by simp [plcs]
  | x :: a, b, k => by
    rw [List.cons_append, plcs, plcs, plcs_append a b (k + 1), List.append_assoc, List.length_cons]
    congr 3
    omega
def atP : T → List Nat → Option T
  | t, [] => some t
  | .tup xs, i :: p => (match xs[i]? with | some x => atP x p | none => none)
  | _, _ :: _ => none
def putP : T → List Nat → T → T
  | _, [], v => v
  | .tup xs, i :: p, v => (match xs[i]? with | some x => .tup (xs.set i (putP x p v)) | none => .tup xs)
  | t, _ :: _, _ => t
theorem atP_nil (t : T) : atP t [] = some t := by cases t <;> rfl
theorem atP_cons (xs : List T) (i : Nat) (p : List Nat) : atP (.tup xs) (i :: p) = (match xs[i]? with | some x => atP x p | none => none) := by rw [atP] <;> rfl
theorem putP_nil (t v : T) : putP t [] v = v := by cases t <;> rfl
theorem putP_cons {xs : List T} {i : Nat} {p : List Nat} {v x : T} (h : xs[i]? = some x) : putP (.tup xs) (i :: p) v = .tup (xs.set i (putP x p v)) := by rw [putP, h]
theorem atP_tup {t u : T} {i : Nat} {p : List Nat} (h : atP t (i :: p) = some u) : ∃ xs x, t = .tup xs ∧ xs[i]? = some x ∧ atP x p = some u := by
  cases t with
  | tup xs =>
    rw [atP_cons] at h
    cases e : xs[i]? with
    | none => rw [e] at h; cases h
    | some x => rw [e] at h; exact ⟨xs, x, rfl, e, h⟩
  | _ => cases h
theorem mem_plcs : ∀ (xs : List T) (k : Nat) (p : List Nat), p ∈ plcs k xs → ∃ i x q, xs[i]? = some x ∧ q ∈ plc x ∧ p = (k + i) :: q
  | [], k, p, h => by simp [plcs] at h
  | x :: xs, k, p, h => by
    rw [plcs, List.mem_append] at h
    rcases h with h | h
    · obtain ⟨q, h1, rfl⟩ := List.mem_map.mp h
      exact ⟨0, x, q, rfl, h1, rfl⟩
    · obtain ⟨i, y, q, h1, h2, h3⟩ := mem_plcs xs (k + 1) p h
      exact ⟨i + 1, y, q, by simpa using h1, h2, by rw [h3]; congr 1; omega⟩
theorem atP_of : ∀ (p : List Nat) (t : T), p ∈ plc t → ∃ u, atP t p = some u
  | [], t, _ => ⟨t, atP_nil t⟩
  | i :: p, t, h => by
    cases t with
    | tup xs =>
      rw [plc, List.mem_cons] at h
      rcases h with h | h
      · cases h
      · obtain ⟨j, x, q, h1, h2, h3⟩ := mem_plcs xs 0 _ h
        rw [List.cons.injEq] at h3
        obtain ⟨rfl, rfl⟩ := h3
        obtain ⟨u, hu⟩ := atP_of _ x h2
        refine ⟨u, ?_⟩
        rw [atP_cons, Nat.zero_add, h1]
        exact hu
    | _ => simp [plc] at h
theorem plain_mono : ∀ (n : Nat) (t : T) (m : Nat), t.plain n = true → n ≤ m → t.plain m = true := by
  intro n
  induction n with
  | zero =>
    intro t m h _
    cases t with
    | tup xs => simp [T.plain] at h
    | lst xs => simp [T.plain] at h
    | str x => simpa [T.plain] using h
    | non => simp
    | bl b => simp
    | int i => simp
    | _ => simp [T.plain] at h
  | succ n ih =>
    intro t m h hm
    obtain ⟨m, rfl⟩ : ∃ j, m = j + 1 := ⟨m - 1, by omega⟩
    have key : ∀ xs : List T, T.plains xs n = true → T.plains xs m = true := fun xs => by
      induction xs with
      | nil => intro _; simp
      | cons a r ihr =>
        intro h
        simp at h
        simp [ih a m h.1 (by omega), ihr h.2]
    cases t with
    | tup xs => simp at h; simp [key xs h]
    | lst xs => simp at h; simp [key xs h]
    | str x => simpa [T.plain] using h
    | non => simp
    | bl b => simp
    | int i => simp
    | _ => simp [T.plain] at h
theorem plains_set {xs : List T} {n i : Nat} {v : T} (h : T.plains xs n = true) (hv : v.plain n = true) : T.plains (xs.set i v) n = true := by
  induction xs generalizing i with
  | nil => simp
  | cons a r ih =>
    simp at h
    cases i with
    | zero => simp [hv, h.2]
    | succ i => simp [h.1, ih h.2]
theorem plain_atP : ∀ (p : List Nat) {t u : T} {n : Nat}, t.plain n = true → atP t p = some u → p.length ≤ n ∧ u.plain (n - p.length) = true
  | [], t, u, n, h, e => by rw [atP_nil] at e; cases e; exact ⟨by simp, by simpa using h⟩
  | i :: p, t, u, n, h, e => by
    obtain ⟨xs, x, rfl, h1, h2⟩ := atP_tup e
    obtain ⟨m, rfl, hp⟩ := plain_of_tup h
    obtain ⟨h3, h4⟩ := plain_atP p (plains_mem hp (List.mem_of_getElem? h1)) h2
    rw [List.length_cons, Nat.add_sub_add_right]
    exact ⟨by omega, h4⟩
theorem plain_putP : ∀ (p : List Nat) {t u v : T} {n N : Nat}, t.plain n = true → atP t p = some u → n ≤ N → v.plain (N - p.length) = true → (putP t p v).plain N = true
  | [], t, u, v, n, N, h, e, hn, hv => by rw [putP_nil]; simpa using hv
  | i :: p, t, u, v, n, N, h, e, hn, hv => by
    obtain ⟨xs, x, rfl, h1, h2⟩ := atP_tup e
    obtain ⟨m, rfl, hp⟩ := plain_of_tup h
    obtain ⟨N, rfl⟩ : ∃ j, N = j + 1 := ⟨N - 1, by omega⟩
    rw [List.length_cons, Nat.add_sub_add_right] at hv
    rw [putP_cons h1, plain_tup_]
    have hp' : T.plains xs N = true := by
      have := plain_mono (m + 1) (.tup xs) (N + 1) h hn
      simpa using this
    exact plains_set hp' (plain_putP p (plains_mem hp (List.mem_of_getElem? h1)) h2 (by omega) hv)
theorem plcs_len : ∀ (xs : List T) (k : Nat), xs.length ≤ (plcs k xs).length ∧ ∀ x ∈ xs, (plc x).length ≤ (plcs k xs).length
  | [], k => ⟨by simp, fun x h => (nomatch h)⟩
  | x :: xs, k => by
    obtain ⟨h1, h2⟩ := plcs_len xs (k + 1)
    have hx : 1 ≤ (plc x).length := by cases x <;> simp [plc]
    rw [plcs, List.length_append, List.length_map, List.length_cons]
    refine ⟨by omega, fun y hy => ?_⟩
    rcases List.mem_cons.mp hy with rfl | hy
    · omega
    · have := h2 y hy; omega
theorem atP_len : ∀ (p : List Nat) {t u : T}, atP t p = some u → (plc u).length ≤ (plc t).length
  | [], t, u, e => by rw [atP_nil] at e; cases e; exact Nat.le_refl _
  | i :: p, t, u, e => by
    obtain ⟨xs, x, rfl, h1, h2⟩ := atP_tup e
    have h3 := atP_len p h2
    have h4 := (plcs_len xs 0).2 x (List.mem_of_getElem? h1)
    rw [plc, List.length_cons]
    omega
theorem tup_len (xs : List T) : xs.length + 1 ≤ (plc (.tup xs)).length := by
  have := (plcs_len xs 0).1
  rw [plc, List.length_cons]
  omega
section
variable {k : Nat}
theorem places_ok : ∀ (n : Nat) {k : Nat} {t : T}, t.plain n = true → n ≤ 60 → (plc t).length ≤ 100000 → n + 2 ≤ k → callF allD k 16 [t] = .ok (.lst ((plc t).map pT)) ∧ ∀ p ∈ plc t, p.length ≤ n
  | n, k, t, h, hn, hl, hk => by
    by_cases hT : ∃ xs, t = .tup xs
    case neg =>
      have hT' : ∀ ws, t ≠ .tup ws := fun ws e => hT ⟨ws, e⟩
      have h1 := ntup hT' h
      have h2 : plc t = [[]] := by cases t <;> first | rfl | exact absurd rfl (hT' _)
      rw [call_k a__law_places rfl (by omega), h2]
      refine ⟨?_, fun p hp => by rw [List.mem_singleton.mp hp]; simp⟩
      simp (disch := first | assumption | omega) [-execs_cons_, List.getElem?_cons_zero, le_SZ, lt_SZ, kIf_dt, kIf_df, kIf_bt, kIf_bf, D__law_places, h1, pT_nil]
    obtain ⟨xs, rfl⟩ := hT
    obtain ⟨m, rfl, hp⟩ := plain_of_tup h
    have ih : ∀ x ∈ xs, callF allD (k - 1) 16 [x] = .ok (.lst ((plc x).map pT)) ∧ ∀ p ∈ plc x, p.length ≤ m := fun x hx =>
      places_ok m (plains_mem hp hx) (by omega) (by
        have := (plcs_len xs 0).2 x hx
        rw [plc, List.length_cons] at hl
        omega) (by omega)
    refine ⟨?_, fun p hp => ?_⟩
    · have hxl := tup_len xs
      rw [call_k a__law_places rfl (by omega)]
      simp (disch := first | assumption | omega) [-execs_cons_, List.getElem?_cons_zero, le_SZ, lt_SZ, kIf_dt, kIf_df, kIf_bt, kIf_bf, D__law_places]
      refine fin_rt (xs_forR (l := xs) (by simp (disch := first | assumption | omega) [-execs_cons_, List.getElem?_cons_zero, le_SZ, lt_SZ, kIf_dt, kIf_df, kIf_bt, kIf_bf, rng_l]) (fun a e => ∃ c2, e = [.sh (.tup xs), .ow (.lst (([] :: plcs 0 a).map pT)), c2, .un]) ⟨_, rfl⟩ (fun a x post e hx hI => ?_) (fun e hI => ?_))
      · obtain ⟨c2, rfl⟩ := hI
        obtain ⟨i1, i2⟩ := ih x (by rw [hx]; simp)
        have ha : atT xs (a.length : Nat) = .ok x := at_nn (by rw [hx]; simp)
        have hsz : (plcs 0 a).length + 1 + (plc x).length ≤ SZ := by
          rw [plc, hx, plcs_append, plcs, List.length_cons, List.length_append, List.length_append, List.length_map] at hl
          have : SZ = 1000000 := rfl
          omega
        refine Nx.out ?_
        simp (disch := first | assumption | omega) [-execs_cons_, List.getElem?_cons_zero, le_SZ, lt_SZ, kIf_dt, kIf_df, kIf_bt, kIf_bf, ha, i1]
        rw [compL_l (g := fun r => pT (a.length :: r)) fun r hr => by
          have := cons_pT a.length r (by have := i2 r hr; omega)
          rw [turn1]
          simp (disch := first | assumption | omega) [-execs_cons_, List.getElem?_cons_zero, le_SZ, lt_SZ, kIf_dt, kIf_df, kIf_bt, kIf_bf, this]]
        have hpl : plcs 0 (a ++ [x]) = plcs 0 a ++ (plc x).map (a.length :: ·) := by
          rw [plcs_append, plcs, plcs, Nat.zero_add, List.append_nil]
        simp (disch := first | assumption | omega) [-execs_cons_, List.getElem?_cons_zero, le_SZ, lt_SZ, kIf_dt, kIf_df, kIf_bt, kIf_bf, hsz, hpl]
      · obtain ⟨c2, rfl⟩ := hI
        simp (disch := first | assumption | omega) [-execs_cons_, List.getElem?_cons_zero, le_SZ, lt_SZ, kIf_dt, kIf_df, kIf_bt, kIf_bf, ]
        rfl
    · rw [plc, List.mem_cons] at hp
      rcases hp with rfl | hp
      · simp
      · obtain ⟨i, x, q, h1, h2, rfl⟩ := mem_plcs xs 0 p hp
        have := (ih x (List.mem_of_getElem? h1)).2 q h2
        rw [List.length_cons]
        omega
end
end Fz

/-! things with something else at a drawn place, and what a law takes for a game -/
namespace Fz
open PySem
theorem cut_from' (xs : List T) (n : Nat) (i : Int) (h : i = n) : cutL xs (some i) none = xs.drop n := by rw [h, cut_from]
theorem put_ok : ∀ (p : List Nat) {k : Nat} {t u v : T} {n : Nat}, t.plain n = true → n ≤ 60 → (plc t).length ≤ 100000 → atP t p = some u → p.length + 2 ≤ k → callF allD k 17 [t, pT p, v] = .ok (putP t p v)
  | [], k, t, u, v, n, h, hn, hl, e, hk => by
    rw [call_k a__law_put rfl (by omega), putP_nil, pT_nil]
    simp (disch := first | assumption | omega) [-execs_cons_, List.getElem?_cons_zero, le_SZ, lt_SZ, kIf_dt, kIf_df, kIf_bt, kIf_bf, D__law_put]
  | i :: p, k, t, u, v, n, h, hn, hl, e, hk => by
    obtain ⟨xs, x, rfl, h1, h2⟩ := atP_tup e
    obtain ⟨m, rfl, hp⟩ := plain_of_tup h
    rw [List.length_cons] at hk
    have hx := List.mem_of_getElem? h1
    have hxl := tup_len xs
    have ih := put_ok p (k := k - 1) (v := v) (plains_mem hp hx) (by omega) (by
      have := (plcs_len xs 0).2 x hx
      rw [plc, List.length_cons] at hl
      omega) h2 (by omega)
    have hlt := get_lt h1
    have ha : atT xs (i : Nat) = .ok x := at_nn h1
    have hpl : T.plains (p.map fun i => T.int (i : Nat)) 59 = true := plains_map fun x _ => by simp
    have hp' : (T.tup (p.map fun i => T.int (i : Nat))) = pT p := rfl
    have c1 := cut_from' xs (i + 1) ((i : Int) + 1) (by omega)
    have hmin : min i xs.length = i := Nat.min_eq_left (by omega)
    have hset : xs.take i ++ (putP x p v :: xs.drop (i + 1)) = xs.set i (putP x p v) := by rw [List.set_eq_take_append_cons_drop, if_pos hlt]
    rw [call_k a__law_put rfl (by omega), putP_cons h1, pT_cons]
    simp (disch := first | assumption | omega) [-execs_cons_, List.getElem?_cons_zero, le_SZ, lt_SZ, kIf_dt, kIf_df, kIf_bt, kIf_bf, D__law_put, hpl, ha, hp', ih, c1, cut_to, hmin, hset]
/-- whole numbers, and tuples of such, come out of such -/
theorem pure_atP : ∀ (p : List Nat) {t u : T} {n : Nat}, pureT t n = true → atP t p = some u → (∃ i, u = .int i) ∨ ∃ xs, u = .tup xs
  | [], t, u, n, h, e => by
    rw [atP_nil] at e
    cases e
    cases t with
    | int i => exact .inl ⟨i, rfl⟩
    | tup xs => exact .inr ⟨xs, rfl⟩
    | _ => simp [pureT] at h
  | i :: p, t, u, n, h, e => by
    obtain ⟨xs, x, rfl, h1, h2⟩ := atP_tup e
    cases n with
    | zero => simp [pureT] at h
    | succ n =>
      simp only [pureT] at h
      have hx := List.mem_of_getElem? h1
      have : pureT x n = true := by
        clear h1 h2 e
        induction xs with
        | nil => cases hx
        | cons a r ih =>
          simp only [pureTs, Bool.and_eq_true] at h
          rcases List.mem_cons.mp hx with rfl | hx
          · exact h.1
          · exact ih h.2 hx
      exact pure_atP p this h2
section
variable {k : Nat} {ns : List Int}
theorem plains_take {xs : List T} {n : Nat} (i : Nat) (h : T.plains xs n = true) : T.plains (xs.take i) n = true := by
  induction xs generalizing i with
  | nil => simp
  | cons a r ih =>
    simp at h
    cases i with
    | zero => simp
    | succ i => simp [h.1, ih i h.2]
theorem plains_drop {xs : List T} {n : Nat} (i : Nat) (h : T.plains xs n = true) : T.plains (xs.drop i) n = true := by
  induction xs generalizing i with
  | nil => simp
  | cons a r ih =>
    cases i with
    | zero => simpa using h
    | succ i =>
      simp at h
      simpa using ih i h.2
theorem plains_app {xs ys : List T} {n : Nat} (h : T.plains xs n = true) (h2 : T.plains ys n = true) : T.plains (xs ++ ys) n = true := by
  induction xs with
  | nil => exact h2
  | cons a r ih =>
    simp at h
    simp [h.1, ih h.2]
theorem spoilt_ok {t : T} {n at_ : Nat} (hp : t.plain n = true) (hpu : pureT t n = true) (hn : n ≤ 50) (hl : (plc t).length ≤ 10000) (hk : n + 4 ≤ k) :
    ∃ t', callF allD k 18 [scr ns, .int at_, t] = .ok t' ∧ t'.plain (n + 2) = true ∧ ∀ xs, t' = .tup xs → xs.length ≤ (plc t).length + 2 := by
  suffices H : ∀ P : T → Prop, (∀ t' : T, t'.plain (n + 2) = true → (∀ xs, t' = .tup xs → xs.length ≤ (plc t).length + 2) → P t') → ∃ t', callF allD k 18 [scr ns, .int at_, t] = .ok t' ∧ P t' from H _ fun _ h h2 => ⟨h, h2⟩
  intro P hP
  have hpk : ∀ {j m : Nat} {i m' : Int}, i = j → 0 < m → m' = m → callF allD (k - 1) 8 [scr ns, .int i, .int m'] = .ok (.int (pickZ ns j m : Nat)) := fun h1 h2 h3 => pick' (by omega) ns h1 h2 h3
  obtain ⟨h1, h2⟩ := places_ok n (k := k - 1) hp (by omega) (by omega) (by omega)
  have hpos : 0 < (plc t).length := by cases t <;> simp [plc]
  have p0 := hpk (j := at_) (m := (plc t).length) (i := at_) (m' := ((plc t).length : Int)) rfl hpos rfl
  have l0 := pick_lt ns at_ hpos
  obtain ⟨p, hpp⟩ : ∃ p, (plc t)[pickZ ns at_ (plc t).length]? = some p := ⟨_, List.getElem?_eq_getElem l0⟩
  have hm := List.mem_of_getElem? hpp
  have ha : atT ((plc t).map pT) (pickZ ns at_ (plc t).length : Nat) = .ok (pT p) := at_nn (by rw [List.getElem?_map, hpp]; rfl)
  obtain ⟨u, hu⟩ := atP_of p t hm
  obtain ⟨hpn, hup⟩ := plain_atP p hp hu
  have hul := atP_len p hu
  have p1 := hpk (j := at_ + 1) (m := 23) (i := (at_ : Int) + 1) (m' := 23) (by omega) (by decide) rfl
  have l1 := pick_lt ns (at_ + 1) (many := 23) (by decide)
  generalize pickZ ns at_ (plc t).length = i0 at p0 l0 ha hpp
  generalize hw : pickZ ns (at_ + 1) 23 = w at p1 l1
  have hput : ∀ v : T, callF allD (k - 1) 17 [t, pT p, v] = .ok (putP t p v) := fun v => put_ok p hp (by omega) (by omega) hu (by omega)
  have hfin : ∀ v : T, v.plain (n - p.length + 2) = true → (∀ xs, v = .tup xs → xs.length ≤ (plc t).length + 2) → P (putP t p v) := fun v hv hb => hP _ (plain_putP p hp hu (by omega) (by
    have : n + 2 - p.length = n - p.length + 2 := by omega
    rw [this]; exact hv)) fun xs e => by
      cases p with
      | nil => rw [putP_nil] at e; exact hb xs e
      | cons i p =>
        obtain ⟨ys, y, rfl, h3, h4⟩ := atP_tup hu
        rw [putP_cons h3] at e
        cases e
        rw [List.length_set]
        have := tup_len ys
        omega
  rw [call_k a__law_spoilt_thing rfl (by omega)]
  refine Px.fin ?_
  simp (disch := first | assumption | omega) [-execs_cons_, List.getElem?_cons_zero, le_SZ, lt_SZ, kIf_dt, kIf_df, kIf_bt, kIf_bf, D__law_spoilt_thing, h1, p0, ha]
  refine Px_for (l := p) (h := fun i => .int (i : Nat)) (by simp (disch := first | assumption | omega) [-execs_cons_, List.getElem?_cons_zero, le_SZ, lt_SZ, kIf_dt, kIf_df, kIf_bt, kIf_bf, pT]) (fun a e => ∃ w c6, atP t a = some w ∧ e = [.sh (scr ns), .sh (.int at_), .sh t, .sh (.lst ((plc t).map pT)), .sh (pT p), .sh w, c6, .un, .un]) ⟨t, _, atP_nil t, rfl⟩ (fun a x post e hx hI => ?_) (fun e hI => ?_)
  · obtain ⟨w', c6, hw', rfl⟩ := hI
    have happ : ∀ (a b : List Nat) (t : T), atP t (a ++ b) = (atP t a).bind fun v => atP v b := by
      intro a
      induction a with
      | nil => intro b t; rw [atP_nil]; rfl
      | cons i a ih =>
        intro b t
        cases t with
        | tup xs =>
          rw [List.cons_append, atP_cons, atP_cons]
          cases xs[i]? with
          | none => rfl
          | some y => exact ih b y
        | _ => rfl
    have hx' := hu
    rw [hx, happ, hw'] at hx'
    simp only [Option.bind_some] at hx'
    obtain ⟨xs, y, rfl, h3, h4⟩ := atP_tup hx'
    have ha' : atT xs (x : Nat) = .ok y := at_nn h3
    refine ⟨[.sh (scr ns), .sh (.int at_), .sh t, .sh (.lst ((plc t).map pT)), .sh (pT p), .sh y, .sh (.int (x : Nat)), .un, .un], by simp (disch := first | assumption | omega) [-execs_cons_, List.getElem?_cons_zero, le_SZ, lt_SZ, kIf_dt, kIf_df, kIf_bt, kIf_bf, ha'], y, .sh (.int (x : Nat)), ?_, rfl⟩
    rw [happ, hw']
    simp only [Option.bind_some, atP_cons, h3, atP_nil]
  · obtain ⟨w', c6, hw', rfl⟩ := hI
    rw [hu] at hw'
    cases hw'
    have hup1 : u.plain (n - p.length + 1) = true := plain_mono _ u _ hup (by omega)
    by_cases hw17 : w < 17
    · obtain ⟨v, hv1, hv2, hv3⟩ : ∃ v, atT [.int 0, .int 1, .int 9, .int 10, .int 20, .int 21, .int (-20), .int (-21), .bl true, .non, .str "1", .tup [], .tup [.int 1], .tup [.int 0, .int 1], .lst [.int 0], .tup [u], .tup [u, u]] (w : Nat) = .ok v ∧ v.plain (n - p.length + 2) = true ∧ (∀ xs, v = .tup xs → xs.length ≤ (plc t).length + 2) := by
        have hlen : w < [T.int 0, .int 1, .int 9, .int 10, .int 20, .int 21, .int (-20), .int (-21), .bl true, .non, .str "1", .tup [], .tup [.int 1], .tup [.int 0, .int 1], .lst [.int 0], .tup [u], .tup [u, u]].length := hw17
        refine ⟨_, at_nn (List.getElem?_eq_getElem hlen), ?_⟩
        have hmem := List.getElem_mem hlen
        generalize [T.int 0, .int 1, .int 9, .int 10, .int 20, .int 21, .int (-20), .int (-21), .bl true, .non, .str "1", .tup [], .tup [.int 1], .tup [.int 0, .int 1], .lst [.int 0], .tup [u], .tup [u, u]][w] = v at hmem
        simp only [List.mem_cons, List.not_mem_nil, or_false] at hmem
        have hstr : (T.str "1").plain (n - p.length + 2) = true := by
          rw [T.plain]
          decide +kernel
        rcases hmem with rfl | rfl | rfl | rfl | rfl | rfl | rfl | rfl | rfl | rfl | rfl | rfl | rfl | rfl | rfl | rfl | rfl <;> first | exact ⟨hstr, fun _ h => by cases h⟩ | (refine ⟨by simp [hup1], fun xs h => ?_⟩; cases h; done) | (refine ⟨by simp [hup1], fun xs h => ?_⟩; cases h; simp only [List.length_cons, List.length_nil]; omega)
      have hwz : (w : Int) < 17 := by omega
      simp (disch := first | assumption | omega) [-execs_cons_, List.getElem?_cons_zero, le_SZ, lt_SZ, kIf_dt, kIf_df, kIf_bt, kIf_bf, p1, hv1, hput]
      exact hfin v hv2 hv3
    · have hwz : ¬ (w : Int) < 17 := by omega
      rcases pure_atP p hpu hu with ⟨i, rfl⟩ | ⟨xs, rfl⟩
      · simp (disch := first | assumption | omega) [-execs_cons_, List.getElem?_cons_zero, le_SZ, lt_SZ, kIf_dt, kIf_df, kIf_bt, kIf_bf, p1, hput]
        exact hfin _ (by simp) (fun _ h => by cases h)
      · cases xs with
        | nil =>
          simp (disch := first | assumption | omega) [-execs_cons_, List.getElem?_cons_zero, le_SZ, lt_SZ, kIf_dt, kIf_df, kIf_bt, kIf_bf, p1, hput]
          exact hfin _ (by simp) (fun _ h => by cases h)
        | cons a r =>
          have hul' : (a :: r).length + 1 ≤ 10000 := Nat.le_trans (tup_len (a :: r)) (by omega)
          obtain ⟨m, hm', hpr⟩ := plain_of_tup hup
          have hpl60 : T.plains r 59 = true ∧ a.plain 59 = true := by
            have h3 := plain_mono _ _ 60 hup (by omega)
            simp at h3
            exact ⟨h3.2, h3.1⟩
          have p2 := hpk (j := at_ + 2) (m := (a :: r).length) (i := (at_ : Int) + 2) (m' := (((a :: r).length : Nat) : Int)) (by omega) (by simp) rfl
          have l2 := pick_lt ns (at_ + 2) (many := (a :: r).length) (by simp)
          generalize pickZ ns (at_ + 2) (a :: r).length = i2 at p2 l2
          have c1 := cut_to (a :: r) i2
          have c2 := cut_from (a :: r) i2
          have c3 := cut_from' (a :: r) (i2 + 1) ((i2 : Int) + 1) (by omega)
          have c4 : cutL (a :: r) none (some ((i2 : Int) + 1)) = (a :: r).take (i2 + 1) := by
            rw [show (i2 : Int) + 1 = ((i2 + 1 : Nat) : Int) by omega, cut_to]
          have hpr' : T.plains (a :: r) (n - p.length + 1) = true := by
            have := plain_mono _ _ (n - p.length + 2) hup (by omega)
            simpa using this
          have f1 : (T.tup ((a :: r).take i2 ++ (a :: r).drop (i2 + 1))).plain (n - p.length + 2) = true := by
            rw [plain_tup_]
            exact plains_app (plains_take _ hpr') (plains_drop _ hpr')
          have f2 : (T.tup ((a :: r).take (i2 + 1) ++ (a :: r).drop i2)).plain (n - p.length + 2) = true := by
            rw [plain_tup_]
            exact plains_app (plains_take _ hpr') (plains_drop _ hpr')
          have g1 : binop .add (.tup ((a :: r).take i2)) (.tup ((a :: r).drop (i2 + 1))) = .ok (.tup ((a :: r).take i2 ++ (a :: r).drop (i2 + 1))) := by
            rw [add_tt_, if_pos]
            rw [List.length_take, List.length_drop]
            have : SZ = 1000000 := rfl
            omega
          have g2 : binop .add (.tup ((a :: r).take (i2 + 1))) (.tup ((a :: r).drop i2)) = .ok (.tup ((a :: r).take (i2 + 1) ++ (a :: r).drop i2)) := by
            rw [add_tt_, if_pos]
            rw [List.length_take, List.length_drop]
            have : SZ = 1000000 := rfl
            omega
          have hll : ∀ i j : Nat, i ≤ j + 1 → ((a :: r).take i ++ (a :: r).drop j).length ≤ (a :: r).length + 1 := fun i j h => by
            rw [List.length_append, List.length_take, List.length_drop]
            omega
          have hur := tup_len (a :: r)
          have hf1 := hfin _ f1 fun xs h => by cases h; have := hll i2 (i2 + 1) (by omega); omega
          have hf2 := hfin _ f2 fun xs h => by cases h; have := hll (i2 + 1) i2 (by omega); omega
          have hl2 : lenT (.tup (a :: r)) = .ok (.int ((a :: r).length : Nat)) := rfl
          have hne : T.eqvs (a :: r) [] = false := by simp
          have hpa : T.plains (a :: r) 59 = true := by simp [hpl60]
          have htr : truT (.tup (a :: r)) = .ok true := rfl
          clear hll hur
          generalize (a :: r) = xs at *
          by_cases hw20 : w < 20
          · have hz : (w : Int) < 20 := by omega
            simp (disch := first | assumption | omega) [-execs_cons_, List.getElem?_cons_zero, le_SZ, lt_SZ, kIf_dt, kIf_df, kIf_bt, kIf_bf, p1, p2, hput, hpa, hne, hz, c1, c3, g1]
            exact hf1
          · have hz : ¬ (w : Int) < 20 := by omega
            simp (disch := first | assumption | omega) [-execs_cons_, List.getElem?_cons_zero, le_SZ, lt_SZ, kIf_dt, kIf_df, kIf_bt, kIf_bf, p1, p2, hput, hpa, hne, hz, c2, c4, g2]
            exact hf2
end
end Fz

/-! what a law takes for a game; words for refusals -/
namespace Fz
open PySem
section
variable {k : Nat}
theorem lwhole_ok {t : T} {m : Nat} {lo hi : Int} (hk : 1 ≤ k) (ht : t.plain m = true) : callF allD k 19 [t, .int lo, .int hi] = .ok (.bl (isW lo hi t)) := by
  rw [call_k a__law_whole rfl hk]
  cases t with
  | int i =>
    by_cases h1 : lo ≤ i
    · simp (disch := first | assumption | omega) [-execs_cons_, List.getElem?_cons_zero, le_SZ, lt_SZ, kIf_dt, kIf_df, kIf_bt, kIf_bf, D__law_whole, isW, h1]
    · simp (disch := first | assumption | omega) [-execs_cons_, List.getElem?_cons_zero, le_SZ, lt_SZ, kIf_dt, kIf_df, kIf_bt, kIf_bf, D__law_whole, isW, h1]
  | bl b => simp (disch := first | assumption | omega) [-execs_cons_, List.getElem?_cons_zero, le_SZ, lt_SZ, kIf_dt, kIf_df, kIf_bt, kIf_bf, D__law_whole, isW]
  | non => simp (disch := first | assumption | omega) [-execs_cons_, List.getElem?_cons_zero, le_SZ, lt_SZ, kIf_dt, kIf_df, kIf_bt, kIf_bf, D__law_whole, isW]
  | str x => simp (disch := first | assumption | omega) [-execs_cons_, List.getElem?_cons_zero, le_SZ, lt_SZ, kIf_dt, kIf_df, kIf_bt, kIf_bf, D__law_whole, isW]
  | tup x => simp (disch := first | assumption | omega) [-execs_cons_, List.getElem?_cons_zero, le_SZ, lt_SZ, kIf_dt, kIf_df, kIf_bt, kIf_bf, D__law_whole, isW]
  | lst x => simp (disch := first | assumption | omega) [-execs_cons_, List.getElem?_cons_zero, le_SZ, lt_SZ, kIf_dt, kIf_df, kIf_bt, kIf_bf, D__law_whole, isW]
  | dct _ _ => simp [T.plain] at ht
  | fn _ => simp [T.plain] at ht
  | exc _ => simp [T.plain] at ht
theorem lis_game_ok : ∀ (n : Nat) {k m : Nat} {t : T}, n + 2 ≤ k → t.plain m = true → callF allD k 20 [t, .int n] = .ok (.bl (isG n t))
  | 0, k, m, t, hk, ht => by
    rw [call_k a__law_is_game rfl (by omega)]
    simp (disch := first | assumption | omega) [-execs_cons_, List.getElem?_cons_zero, le_SZ, lt_SZ, kIf_dt, kIf_df, kIf_bt, kIf_bf, D__law_is_game]
  | n + 1, k, m, t, hk, ht => by
    rw [call_k a__law_is_game rfl (by omega), isG_s]
    have hz' : ¬ ((n : Int) + 1 < 1) := by omega
    by_cases hT : ∃ xs, t = .tup xs
    case neg =>
      have hT' : ∀ ws, t ≠ .tup ws := fun ws e => hT ⟨ws, e⟩
      have := ntup hT' ht
      simp (disch := first | assumption | omega) [-execs_cons_, List.getElem?_cons_zero, le_SZ, lt_SZ, kIf_dt, kIf_df, kIf_bt, kIf_bf, D__law_is_game, hz', bodyG_t hT', this]
    obtain ⟨xs, rfl⟩ := hT
    cases xs with
    | nil => simp (disch := first | assumption | omega) [-execs_cons_, List.getElem?_cons_zero, le_SZ, lt_SZ, kIf_dt, kIf_df, kIf_bt, kIf_bf, D__law_is_game, hz']
    | cons a r =>
      obtain ⟨m, rfl, hp⟩ := plain_of_tup ht
      simp only [plains_cons_, Bool.and_eq_true] at hp
      obtain ⟨ha, hr⟩ := hp
      have wa : callF allD (k - 1) 19 [a, .int (-20), .int 20] = .ok (.bl (isW (-20) 20 a)) := lwhole_ok (by omega) ha
      cases r with
      | nil =>
        cases ea : isW (-20) 20 a with
        | false => rw [ea] at wa; simp (disch := first | assumption | omega) [-execs_cons_, List.getElem?_cons_zero, le_SZ, lt_SZ, kIf_dt, kIf_df, kIf_bt, kIf_bf, D__law_is_game, hz', wa, ea]
        | true => rw [ea] at wa; simp (disch := first | assumption | omega) [-execs_cons_, List.getElem?_cons_zero, le_SZ, lt_SZ, kIf_dt, kIf_df, kIf_bt, kIf_bf, D__law_is_game, hz', wa, ea]
      | cons b r =>
        cases r with
        | cons d r =>
          have h1 : (1 : Int) ≤ (r.length : Int) + 1 + 1 + 1 := by omega
          have h2 : ¬ ((r.length : Int) + 1 + 1 + 1 ≤ 2) := by omega
          simp (disch := first | assumption | omega) [-execs_cons_, List.getElem?_cons_zero, le_SZ, lt_SZ, kIf_dt, kIf_df, kIf_bt, kIf_bf, D__law_is_game, hz', h1, h2]
        | nil =>
          cases ea : isW (-20) 20 a with
          | false =>
            rw [ea] at wa
            simp (disch := first | assumption | omega) [-execs_cons_, List.getElem?_cons_zero, le_SZ, lt_SZ, kIf_dt, kIf_df, kIf_bt, kIf_bf, D__law_is_game, hz', wa, bodyG_w ea]
          | true =>
            rw [ea] at wa
            simp only [plains_cons_, plains_nil_, Bool.and_true] at hr
            by_cases hB : ∃ ws, b = .tup ws
            case neg =>
              have hB' : ∀ ws, b ≠ .tup ws := fun ws e => hB ⟨ws, e⟩
              have := ntup hB' hr
              simp (disch := first | assumption | omega) [-execs_cons_, List.getElem?_cons_zero, le_SZ, lt_SZ, kIf_dt, kIf_df, kIf_bt, kIf_bf, D__law_is_game, hz', wa, ea, bodyG_n hB', this]
            obtain ⟨ws, rfl⟩ := hB
            obtain ⟨m, rfl, hw⟩ := plain_of_tup hr
            by_cases hl : 1 ≤ ws.length ∧ ws.length ≤ 3
            case neg =>
              by_cases h1 : 1 ≤ ws.length
              · have l1 : (1 : Int) ≤ (ws.length : Int) := by omega
                have l2 : ¬ (ws.length : Int) ≤ 3 := by omega
                have l3 : ¬ ws.length ≤ 3 := by omega
                simp (disch := first | assumption | omega) [-execs_cons_, List.getElem?_cons_zero, le_SZ, lt_SZ, kIf_dt, kIf_df, kIf_bt, kIf_bf, D__law_is_game, hz', wa, ea, l1, l2, l3]
              · have l3 : ws = [] := by cases ws with | nil => rfl | cons a r => simp at h1
                subst l3
                simp (disch := first | assumption | omega) [-execs_cons_, List.getElem?_cons_zero, le_SZ, lt_SZ, kIf_dt, kIf_df, kIf_bt, kIf_bf, D__law_is_game, hz', wa, ea]
            have l1 : (1 : Int) ≤ (ws.length : Int) := by omega
            have l2 : (ws.length : Int) ≤ 3 := by omega
            simp (disch := first | assumption | omega) [-execs_cons_, List.getElem?_cons_zero, le_SZ, lt_SZ, kIf_dt, kIf_df, kIf_bt, kIf_bf, D__law_is_game, hz', wa, ea, l1, l2, hl.1, hl.2]
            refine fin_rt (xs_for (l := ws) (h := id) (by simp (disch := first | assumption | omega) [-execs_cons_, List.getElem?_cons_zero, le_SZ, lt_SZ, kIf_dt, kIf_df, kIf_bt, kIf_bf, ]) (fun a e => (∀ x ∈ a, wayB (isG n) x = true) ∧ ∃ c, e = [.sh (.tup [_, .tup ws]), .sh (.int (n + 1)), c]) ⟨fun _ h => (nomatch h), _, rfl⟩ (fun p x q e hl hI => ?_) (fun e hI => ?_))
            · obtain ⟨hI, c, rfl⟩ := hI
              have hx : x.plain m = true := plains_mem hw (by rw [hl]; simp)
              have out : wayB (isG n) x = false → ws.all (wayB (isG n)) = false := fun h => by
                rw [hl, List.all_append, List.all_cons, h]; simp
              by_cases hX : ∃ xs, x = .tup xs
              case neg =>
                have hX' : ∀ ws, x ≠ .tup ws := fun ws e => hX ⟨ws, e⟩
                have h1 := ntup hX' hx
                have h2 := out (by cases x <;> first | rfl | exact absurd rfl (hX' _))
                exact .inr ⟨by simp (disch := first | assumption | omega) [-execs_cons_, List.getElem?_cons_zero, le_SZ, lt_SZ, kIf_dt, kIf_df, kIf_bt, kIf_bf, h1, h2], fun _ => by simp⟩
              obtain ⟨xs, rfl⟩ := hX
              by_cases h2 : xs.length = 2
              case neg =>
                have h2' : ¬ (xs.length : Int) = 2 := by omega
                have h3 := out (by
                  match xs with
                  | [] => rfl
                  | [_] => rfl
                  | [_, _] => exact absurd rfl h2
                  | _ :: _ :: _ :: _ => rfl)
                exact .inr ⟨by simp (disch := first | assumption | omega) [-execs_cons_, List.getElem?_cons_zero, le_SZ, lt_SZ, kIf_dt, kIf_df, kIf_bt, kIf_bf, h2', h3], fun _ => by simp⟩
              obtain ⟨b, g, rfl⟩ : ∃ b g, xs = [b, g] := by
                match xs, h2 with
                | [b, g], _ => exact ⟨b, g, rfl⟩
              obtain ⟨m, rfl, hp⟩ := plain_of_tup hx
              simp only [plains_cons_, Bool.and_eq_true] at hp
              have wb : callF allD (k - 1) 19 [b, .int 1, .int 9] = .ok (.bl (isW 1 9 b)) := lwhole_ok (by omega) hp.1
              have ih := lis_game_ok n (k := k - 1) (by omega) hp.2.1
              cases eb : isW 1 9 b with
              | false =>
                rw [eb] at wb
                have h3 := out (by simp [wayB, eb])
                exact .inr ⟨by simp (disch := first | assumption | omega) [-execs_cons_, List.getElem?_cons_zero, le_SZ, lt_SZ, kIf_dt, kIf_df, kIf_bt, kIf_bf, wb, h3], fun _ => by simp⟩
              | true =>
                rw [eb] at wb
                have hn1 : (n : Int) + 1 - 1 = n := by omega
                cases eg : isG n g with
                | false =>
                  rw [eg] at ih
                  have h3 := out (by simp [wayB, eg])
                  exact .inr ⟨by simp (disch := first | assumption | omega) [-execs_cons_, List.getElem?_cons_zero, le_SZ, lt_SZ, kIf_dt, kIf_df, kIf_bt, kIf_bf, wb, hn1, ih, h3], fun _ => by simp⟩
                | true =>
                  rw [eg] at ih
                  refine .inl ⟨[.sh (.tup [a, .tup ws]), .sh (.int (n + 1)), .sh (.tup [b, g])], by simp (disch := first | assumption | omega) [-execs_cons_, List.getElem?_cons_zero, le_SZ, lt_SZ, kIf_dt, kIf_df, kIf_bt, kIf_bf, wb, hn1, ih], fun y hy => ?_, _, rfl⟩
                  rcases List.mem_append.mp hy with z | z
                  · exact hI y z
                  · rw [List.mem_singleton.mp z]; simp [wayB, eb, eg]
            · obtain ⟨hI, c, rfl⟩ := hI
              have : ws.all (wayB (isG n)) = true := List.all_eq_true.mpr hI
              simp (disch := first | assumption | omega) [-execs_cons_, List.getElem?_cons_zero, le_SZ, lt_SZ, kIf_dt, kIf_df, kIf_bt, kIf_bf, this]
end
/-- what is taken for a game is one -/
theorem isG_is : ∀ (n : Nat) (t : T), isG n t = true → ∃ g : G, t = g.t ∧ g.ok n
  | 0, t, h => by cases h
  | n + 1, t, h => by
    rw [isG_s] at h
    have hw : ∀ {a : T}, isW (-20) 20 a = true → ∃ i, a = .int i ∧ -20 ≤ i ∧ i ≤ 20 := fun {a} h => by
      unfold isW at h
      split at h
      · simp at h; exact ⟨_, rfl, h.1, h.2⟩
      · cases h
    have hw9 : ∀ {a : T}, isW 1 9 a = true → ∃ i, a = .int i ∧ 1 ≤ i ∧ i ≤ 9 := fun {a} h => by
      unfold isW at h
      split at h
      · simp at h; exact ⟨_, rfl, h.1, h.2⟩
      · cases h
    unfold bodyG at h
    split at h
    · obtain ⟨i, rfl, h1, h2⟩ := hw h
      exact ⟨.mk i [], (t_end (g := .mk i []) rfl).symm, ⟨h1, h2⟩, by simp [G.ws], fun p hp => by cases hp⟩
    · rename_i a ws
      simp only [Bool.and_eq_true, decide_eq_true_eq] at h
      obtain ⟨⟨⟨h1, h2⟩, h3⟩, h4⟩ := h
      obtain ⟨i, rfl, i1, i2⟩ := hw h1
      have key : ∀ l : List T, l.all (wayB (isG n)) = true → ∃ vs : List (Int × G), l = vs.map wT ∧ ∀ p ∈ vs, (1 ≤ p.1 ∧ p.1 ≤ 9) ∧ p.2.ok n := by
        intro l
        induction l with
        | nil => intro _; exact ⟨[], rfl, fun p hp => by cases hp⟩
        | cons x r ih =>
          intro h
          rw [List.all_cons, Bool.and_eq_true] at h
          obtain ⟨vs, e1, e2⟩ := ih h.2
          have hx := h.1
          unfold wayB at hx
          split at hx
          · rw [Bool.and_eq_true] at hx
            obtain ⟨j, rfl, j1, j2⟩ := hw9 hx.1
            obtain ⟨g, rfl, hg⟩ := isG_is n _ hx.2
            refine ⟨(j, g) :: vs, by rw [e1]; rfl, fun p hp => ?_⟩
            rcases List.mem_cons.mp hp with rfl | hp
            · exact ⟨⟨j1, j2⟩, hg⟩
            · exact e2 p hp
          · cases hx
      obtain ⟨vs, rfl, hv⟩ := key ws h4
      rw [List.length_map] at h2 h3
      have hne : (G.mk i vs).ws ≠ [] := fun z => by
        have : vs = [] := z
        rw [this] at h2
        simp at h2
      exact ⟨.mk i vs, (t_go hne).symm, ⟨i1, i2⟩, h3, hv⟩
    · cases h
section
variable {k : Nat}
@[simp] theorem isExc_ (cs ns : List Nat) (c : Nat) : bltT (.isExc cs ns) [.exc c] = if ns.contains c then .ok (.bl (cs.contains c)) else .no := rfl
@[simp] theorem count_ (xs : List T) (t : T) : bltT .count [.lst xs, t] = if T.plains xs 60 && t.plain 60 then .ok (.int (xs.filter fun y => T.eqv y t).length) else .no := rfl
@[simp] theorem index_ (xs : List T) (t : T) : bltT .index [.lst xs, t] = if T.plains xs 60 && t.plain 60 then (match idxOf t xs 0 with | some j => .ok (.int j) | none => .no) else .no := rfl
def wordOf : Nat → Str
  | 1 => "no game"
  | 2 => "no path"
  | 3 => "no rule"
  | 4 => "no bets"
  | 5 => "unpaid"
  | _ => "no text"
theorem word_ok {c : Nat} (hk : 1 ≤ k) (h1 : 1 ≤ c) (h6 : c ≤ 6) : callF allD k 21 [.exc c] = .ok (.str (wordOf c)) := by
  rw [call_k a__law_word rfl hk]
  have : c = 1 ∨ c = 2 ∨ c = 3 ∨ c = 4 ∨ c = 5 ∨ c = 6 := by omega
  rcases this with rfl | rfl | rfl | rfl | rfl | rfl <;> simp (disch := first | assumption | omega) [-execs_cons_, List.getElem?_cons_zero, le_SZ, lt_SZ, kIf_dt, kIf_df, kIf_bt, kIf_bf, D__law_word, idxOf, wordOf, atT, List.filter_cons]
end
end Fz

/-! drawn games as things: how great; comparisons -/
namespace Fz
open PySem
theorem plcs_bound (m : Nat) : ∀ (ws : List (Int × G)) (k : Nat), (∀ p ∈ ws, (plc p.2.t).length ≤ m) → (plcs k (ws.map wT)).length ≤ ws.length * (m + 2)
  | [], k, _ => by simp [plcs]
  | p :: ws, k, h => by
    have h1 := plcs_bound m ws (k + 1) fun q hq => h q (List.mem_cons_of_mem _ hq)
    have h2 := h p (List.mem_cons_self ..)
    rw [List.map_cons, plcs, List.length_append, List.length_map, List.length_cons, Nat.succ_mul]
    have h3 : (plc (wT p)).length = (plc p.2.t).length + 2 := by
      unfold wT
      simp [plc, plcs]
    omega
theorem plc_t : ∀ {n : Nat} {g : G}, g.ok n → (plc g.t).length + 5 ≤ 7 * 3 ^ n
  | 0, g, h => h.elim
  | n + 1, g, h => by
    by_cases e : g.ws = []
    · rw [t_end e]
      have : 0 < 3 ^ n := Nat.pow_pos (by decide)
      simp [plc, plcs, Nat.pow_succ]
      omega
    · rw [t_go e]
      obtain ⟨q, hq⟩ := List.exists_mem_of_ne_nil _ e
      have hn : 1 ≤ n := by
        cases n with
        | zero => exact (ok_way h hq).2.elim
        | succ n => omega
      have hb := plcs_bound (7 * 3 ^ n - 5) g.ws 0 fun p hp => by have := plc_t (ok_way h hp).2; omega
      have h3 : g.ws.length * (7 * 3 ^ n - 5 + 2) ≤ 3 * (7 * 3 ^ n - 5 + 2) := Nat.mul_le_mul_right _ h.2.1
      have h4 : 3 ≤ 3 ^ n := by
        have := Nat.pow_le_pow_right (by decide : 0 < 3) hn
        omega
      simp [plc, plcs, Nat.pow_succ]
      omega
theorem pure_t : ∀ {n m : Nat} {g : G}, g.ok n → 3 * n ≤ m → pureT g.t m = true
  | 0, _, _, h, _ => h.elim
  | n + 1, m, g, h, hm => by
    obtain ⟨j, rfl⟩ : ∃ j, m = j + 3 := ⟨m - 3, by omega⟩
    rw [t_eq]
    by_cases e : g.ws = []
    · simp [e, pureT, pureTs]
    · have : pureTs (g.ws.map wT) (j + 1) = true := by
        have key : ∀ l : List (Int × G), (∀ p ∈ l, pureT p.2.t j = true) → pureTs (l.map wT) (j + 1) = true := by
          intro l
          induction l with
          | nil => intro _; simp [pureTs]
          | cons p l ih =>
            intro hl
            simp [pureTs, ih fun q hq => hl q (List.mem_cons_of_mem _ hq), wT, pureT, hl p (List.mem_cons_self ..)]
        exact key _ fun p hp => pure_t (ok_way h hp).2 (by omega)
      simp [e, pureT, pureTs, this]
theorem spoilt_t {g : G} {n k at_ : Nat} {ns : List Int} (hg : g.ok n) (hn : n ≤ 5) (hk : 20 ≤ k) : ∃ t', callF allD k 18 [scr ns, .int at_, g.t] = .ok t' ∧ t'.plain 60 = true := by
  obtain ⟨t', h1, h2, _⟩ := spoilt_ok (k := k) (ns := ns) (at_ := at_) (n := 15) (plain_t hg (by omega)) (pure_t hg (by omega)) (by decide) (by
    have h1 := plc_t hg
    have h2 := Nat.pow_le_pow_right (by decide : 0 < 3) hn
    omega) (by omega)
  exact ⟨t', h1, plain_mono _ _ _ h2 (by decide)⟩
/-- lists of paths, as things -/
theorem plain_paths (l : List (List Nat)) : T.plains (l.map pT) 59 = true := plains_map fun p _ => plain_pT p 58
end Fz

/-! chances come together -/
namespace Fz
theorem sumQ_mul (c : Rat) : ∀ a : List Rat, sumQ (a.map fun x => x * c) = sumQ a * c
  | [] => by simp [sumQ]
  | x :: a => by rw [List.map_cons, sumQ, sumQ, sumQ_mul c a]; grind
theorem sumQ_mul' (c : Rat) : ∀ a : List Rat, sumQ (a.map fun x => c * x) = c * sumQ a
  | [] => by simp [sumQ]
  | x :: a => by rw [List.map_cons, sumQ, sumQ, sumQ_mul' c a]; grind
theorem sumQ_tot (t : Rat) : ∀ ws : List (Int × G), sumQ (ws.map fun p => (p.1 : Rat) / t) = (tot ws : Rat) / t
  | [] => by simp [sumQ, tot, Rat.div_def]
  | p :: ws => by
    rw [List.map_cons, sumQ, sumQ_tot t ws]
    have : tot (p :: ws) = p.1 + tot ws := by simp [tot]
    rw [this, Rat.intCast_add]
    grind
theorem sumQ_ways {n : Nat} {g : G} (h : g.ok (n + 1)) (hn : g.ws ≠ []) : sumQ (g.ws.map fun p => (p.1 : Rat) / (tot g.ws : Rat)) = 1 := by
  rw [sumQ_tot]
  have := (tot_pos h hn).1
  have hz : (tot g.ws : Rat) ≠ 0 := by
    intro z
    have : tot g.ws = 0 := by exact_mod_cast z
    omega
  rw [Rat.div_def]
  exact Rat.mul_inv_cancel _ hz
theorem chn_append : ∀ (p q : List Nat) (g h : G), g.sub p = some h → g.chn (p ++ q) = g.chn p * h.chn q
  | [], q, g, h, e => by rw [sub_nil] at e; cases e; rw [List.nil_append, chn_nil]; grind
  | i :: p, q, g, h, e => by
    rw [sub_cons] at e
    rw [List.cons_append, chn_cons, chn_cons]
    cases hq : g.ws[i]? with
    | none => rw [hq] at e; cases e
    | some r =>
      rw [hq] at e
      simp only []
      rw [chn_append p q r.2 h e]
      grind
def endR (g : G) : List Row := g.walk.filter fun x => x.2.1.ws.isEmpty
theorem filter_flat {α β : Type} (p : β → Bool) (f : α → List β) : ∀ l : List α, (l.flatMap f).filter p = l.flatMap fun x => (f x).filter p
  | [] => rfl
  | x :: l => by rw [List.flatMap_cons, List.filter_append, filter_flat p f l, List.flatMap_cons]
theorem filter_way (t : Int) (q : (Int × G) × Nat) : (wayRows t q).filter (fun x => x.2.1.ws.isEmpty) = (endR q.1.2).map (stepRow t q) := by
  unfold wayRows endR
  rw [List.filter_map]
  rfl
theorem endR_go {g : G} (h : g.ws ≠ []) : endR g = (g.ws.zipIdx).flatMap fun q => (endR q.1.2).map (stepRow (tot g.ws) q) := by
  unfold endR
  rw [walk_eq, List.filter_cons]
  have : g.ws.isEmpty = false := by simp [h]
  simp only [this]
  rw [if_neg (by decide), filter_flat]
  refine congrArg (fun f => List.flatMap f _) (funext fun q => ?_)
  exact filter_way _ _
theorem endR_stop {g : G} (h : g.ws = []) : endR g = [([], g, 1)] := by
  unfold endR
  rw [walk_eq, h]
  simp [h]
theorem sum_flat (t : Int) (F : G → List Row)   : ∀ (ws : List (Int × G)) (k : Nat), (∀ q ∈ ws, sumQ ((F q.2).map (·.2.2)) = 1) → sumQ (((ws.zipIdx k).flatMap fun q => (F q.1.2).map (stepRow t q)).map (·.2.2)) = sumQ (ws.map fun p => (p.1 : Rat) / (t : Rat))
  | [], k, _ => rfl
  | p :: ws, k, hF => by
    rw [List.zipIdx_cons, List.flatMap_cons, List.map_append, sumQ_append, sum_flat t F ws (k + 1) fun q hq => hF q (List.mem_cons_of_mem _ hq), List.map_cons, sumQ]
    congr 1
    have : (((F p.2).map (stepRow t (p, k))).map fun x => x.2.2) = (((F p.2).map (·.2.2)).map fun x => x * ((p.1 : Rat) / (t : Rat))) := by
      rw [List.map_map, List.map_map]; rfl
    rw [this, sumQ_mul, hF p (List.mem_cons_self ..)]
    grind
theorem endR_sum : ∀ (n : Nat) (g : G), g.ok n → sumQ ((endR g).map (·.2.2)) = 1
  | 0, g, h => h.elim
  | n + 1, g, h => by
    by_cases e : g.ws = []
    · rw [endR_stop e]; simp [sumQ]; grind
    · rw [endR_go e, sum_flat (tot g.ws) endR g.ws 0 fun q hq => endR_sum n q.2 (ok_way h hq).2, sumQ_ways h e]
end Fz

/-! chances, as the program tells them -/
namespace Fz
open PySem
theorem fr_one : T.tup [.int 1, .int 1] = fr 1 := rfl
theorem fr_zero : T.tup [.int 0, .int 1] = fr 0 := rfl
theorem sub_one {g : G} {i : Nat} {q : Int × G} (h : g.ws[i]? = some q) : g.sub [i] = some q.2 := by rw [sub_cons, h]; exact sub_nil _
theorem chn_one {g : G} {i : Nat} {q : Int × G} (h : g.ws[i]? = some q) : g.chn [i] = (q.1 : Rat) / (tot g.ws : Rat) := by
  rw [chn_cons, h]
  simp only [chn_nil]
  grind
section
variable {k : Nat}
theorem shares_of_ok {n : Nat} {g : G} (hg : g.ok n) (hk : 4 ≤ k) : callF allD k 35 [g.t] = .ok (.lst (g.ws.map fun p => fr ((p.1 : Rat) / (tot g.ws : Rat)))) := by
  obtain ⟨n, rfl⟩ : ∃ j, n = j + 1 := ⟨n - 1, by cases n with | zero => exact hg.elim | succ n => omega⟩
  rw [call_k a_shares_of rfl (by omega)]
  have hsh : ∀ p ∈ g.ws, callF allD (k - 1) 25 [.int p.1, .int (tot g.ws)] = .ok (fr ((p.1 : Rat) / (tot g.ws : Rat))) := fun p hp => by
    have ht := tot_pos hg (ws_ne hp)
    rw [share' (by omega) (DOk.pos ⟨by omega, by
      have : (tot g.ws).natAbs < 2 ^ 5 := by omega
      exact Nat.lt_of_lt_of_le this (Nat.pow_le_pow_right (by decide) (by decide))⟩), Rat.divInt_eq_div]
  simp (disch := first | assumption | omega) [-execs_cons_, List.getElem?_cons_zero, le_SZ, lt_SZ, kIf_dt, kIf_df, kIf_bt, kIf_bf, D_shares_of, ways_of_ok]
  rw [compL_l (g := fun p => T.int p.1) fun p hp => by rw [turn1]; simp (disch := first | assumption | omega) [-execs_cons_, List.getElem?_cons_zero, le_SZ, lt_SZ, kIf_dt, kIf_df, kIf_bt, kIf_bf, wT]]
  simp (disch := first | assumption | omega) [-execs_cons_, List.getElem?_cons_zero, le_SZ, lt_SZ, kIf_dt, kIf_df, kIf_bt, kIf_bf, intsT_map, ways_of_ok]
  rw [compL_l (g := fun p => fr ((p.1 : Rat) / (tot g.ws : Rat))) fun p hp => by
    have := hsh p hp
    unfold tot at this
    rw [turn1]
    simp (disch := first | assumption | omega) [-execs_cons_, List.getElem?_cons_zero, le_SZ, lt_SZ, kIf_dt, kIf_df, kIf_bt, kIf_bf, wT, this]
    rfl]
  rfl
theorem sz_ok1 {j : Nat} {q : Rat} (h : Sz j q) (hj : j ≤ 3900) : Ok1 q := h.mono hj
theorem chance_of_ok {n : Nat} {g h : G} {p : List Nat} (hg : g.ok n) (hn : n ≤ 100) (hk : 5 ≤ k) (e : g.sub p = some h) : callF allD k 36 [g.t, pT p] = .ok (fr (g.chn p)) := by
  rw [call_k a_chance_of rfl (by omega)]
  simp (disch := first | assumption | omega) [-execs_cons_, List.getElem?_cons_zero, le_SZ, lt_SZ, kIf_dt, kIf_df, kIf_bt, kIf_bf, D_chance_of, fr_one]
  refine fin_rt (xs_for (l := p) (h := fun i => .int (i : Nat)) (by simp (disch := first | assumption | omega) [-execs_cons_, List.getElem?_cons_zero, le_SZ, lt_SZ, kIf_dt, kIf_df, kIf_bt, kIf_bf, pT]) (fun a e => ∃ g' c, g.sub a = some g' ∧ e = [.sh g'.t, .sh (pT p), .sh (fr (g.chn a)), c]) ⟨g, _, sub_nil g, by rw [chn_nil]⟩ (fun a x q e' hl hI => ?_) (fun e' hI => ?_))
  · obtain ⟨g', c, h1, rfl⟩ := hI
    rw [hl, sub_append, h1] at e
    simp only [Option.bind_some, sub_cons] at e
    cases hq : g'.ws[x]? with
    | none => rw [hq] at e; cases e
    | some r =>
      have hm := List.mem_of_getElem? hq
      obtain ⟨hal, hg'⟩ := ok_sub hg h1
      obtain ⟨m, hm1⟩ : ∃ j, n - a.length = j + 1 := ⟨n - a.length - 1, by omega⟩
      rw [hm1] at hg'
      have ha := at_ways hq
      have hsh := shares_of_ok (k := k - 1) hg' (by omega)
      have hat : atT (g'.ws.map fun p => fr ((p.1 : Rat) / (tot g'.ws : Rat))) (x : Nat) = .ok (fr ((r.1 : Rat) / (tot g'.ws : Rat))) := at_nn (by rw [List.getElem?_map, hq]; rfl)
      have o1 : Ok1 (g.chn a) := sz_ok1 (chn_sz hg h1) (by omega)
      have o2 : Ok1 ((r.1 : Rat) / (tot g'.ws : Rat)) := sz_ok1 (sz_way (ok_way hg' hm).1 (tot_pos hg' (ws_ne hm))) (by decide)
      have ht := times' (k := k - 1) (by omega) o1 o2
      have hc : g.chn (a ++ [x]) = g.chn a * ((r.1 : Rat) / (tot g'.ws : Rat)) := by rw [chn_append a [x] g g' h1, chn_one hq]
      refine .inl ⟨[.sh r.2.t, .sh (pT p), .sh (fr (g.chn (a ++ [x]))), .sh (.int (x : Nat))], by simp (disch := first | assumption | omega) [-execs_cons_, List.getElem?_cons_zero, le_SZ, lt_SZ, kIf_dt, kIf_df, kIf_bt, kIf_bf, hsh, hat, ht, ways_of_ok, ha, wT, hc], r.2, _, ?_, rfl⟩
      rw [sub_append, h1]
      exact sub_one hq
  · obtain ⟨g', c, h1, rfl⟩ := hI
    simp (disch := first | assumption | omega) [-execs_cons_, List.getElem?_cons_zero, le_SZ, lt_SZ, kIf_dt, kIf_df, kIf_bt, kIf_bf, ]
theorem chance_ok {n : Nat} {g h : G} {p : List Nat} (hk : 9 ≤ k) (hg : g.ok n) (hn : n ≤ 4) (e : g.sub p = some h) : callF allD k 37 [g.t, pT p] = .ok (fr (g.chn p)) := by
  rw [call_k a_chance rfl (by omega)]
  have h1 := look_game_ok (k := k - 1) (by omega) hg hn
  have h2 := look_path_ok (k := k - 1) (by omega) e
  have h3 := chance_of_ok (k := k - 1) hg (by omega) (by omega) e
  simp (disch := first | assumption | omega) [-execs_cons_, List.getElem?_cons_zero, le_SZ, lt_SZ, kIf_dt, kIf_df, kIf_bt, kIf_bf, D_chance, h1, h2, h3]
theorem worth_ok {n : Nat} {g h : G} {p : List Nat} (hk : 10 ≤ k) (hg : g.ok n) (hn : n ≤ 4) (e : g.sub p = some h) : callF allD k 32 [g.t, pT p] = .ok (.int h.w) := by
  rw [call_k a_worth rfl (by omega)]
  have h1 := part_ok (k := k - 1) (by omega) hg hn e
  simp (disch := first | assumption | omega) [-execs_cons_, List.getElem?_cons_zero, le_SZ, lt_SZ, kIf_dt, kIf_df, kIf_bt, kIf_bf, D_worth, h1, t_w]
/-- no path, no game -/
theorem part_np {n m : Nat} {g : G} {t : T} (hk : 9 ≤ k) (hg : g.ok n) (hn : n ≤ 4) (ht : t.plain m = true) (hb : isP g t = false) : callF allD k 31 [g.t, t] = .ex 2 := by
  rw [call_k a_part rfl (by omega)]
  have h1 := look_game_ok (k := k - 1) (by omega) hg hn
  have h2 := look_path_t (g := g) (k := k - 1) (by omega) ht
  rw [hb] at h2
  simp (disch := first | assumption | omega) [-execs_cons_, List.getElem?_cons_zero, le_SZ, lt_SZ, kIf_dt, kIf_df, kIf_bt, kIf_bf, D_part, h1, h2]
theorem part_ng {m : Nat} {b t : T} (hk : 9 ≤ k) (hp : b.plain m = true) (hb : isG 4 b = false) : callF allD k 31 [b, t] = .ex 1 := by
  rw [call_k a_part rfl (by omega)]
  have h1 := look_game_t (k := k - 1) (by omega) hp
  rw [hb] at h1
  simp (disch := first | assumption | omega) [-execs_cons_, List.getElem?_cons_zero, le_SZ, lt_SZ, kIf_dt, kIf_df, kIf_bt, kIf_bf, D_part, h1]
theorem worth_np {n m : Nat} {g : G} {t : T} (hk : 10 ≤ k) (hg : g.ok n) (hn : n ≤ 4) (ht : t.plain m = true) (hb : isP g t = false) : callF allD k 32 [g.t, t] = .ex 2 := by
  rw [call_k a_worth rfl (by omega)]
  have h1 := part_np (k := k - 1) (by omega) hg hn ht hb
  simp (disch := first | assumption | omega) [-execs_cons_, List.getElem?_cons_zero, le_SZ, lt_SZ, kIf_dt, kIf_df, kIf_bt, kIf_bf, D_worth, h1]
theorem worth_ng {m : Nat} {b t : T} (hk : 10 ≤ k) (hp : b.plain m = true) (hb : isG 4 b = false) : callF allD k 32 [b, t] = .ex 1 := by
  rw [call_k a_worth rfl (by omega)]
  have h1 := part_ng (k := k - 1) (t := t) (by omega) hp hb
  simp (disch := first | assumption | omega) [-execs_cons_, List.getElem?_cons_zero, le_SZ, lt_SZ, kIf_dt, kIf_df, kIf_bt, kIf_bf, D_worth, h1]
theorem chance_np {n m : Nat} {g : G} {t : T} (hk : 9 ≤ k) (hg : g.ok n) (hn : n ≤ 4) (ht : t.plain m = true) (hb : isP g t = false) : callF allD k 37 [g.t, t] = .ex 2 := by
  rw [call_k a_chance rfl (by omega)]
  have h1 := look_game_ok (k := k - 1) (by omega) hg hn
  have h2 := look_path_t (g := g) (k := k - 1) (by omega) ht
  rw [hb] at h2
  simp (disch := first | assumption | omega) [-execs_cons_, List.getElem?_cons_zero, le_SZ, lt_SZ, kIf_dt, kIf_df, kIf_bt, kIf_bf, D_chance, h1, h2]
theorem chance_ng {m : Nat} {b t : T} (hk : 9 ≤ k) (hp : b.plain m = true) (hb : isG 4 b = false) : callF allD k 37 [b, t] = .ex 1 := by
  rw [call_k a_chance rfl (by omega)]
  have h1 := look_game_t (k := k - 1) (by omega) hp
  rw [hb] at h1
  simp (disch := first | assumption | omega) [-execs_cons_, List.getElem?_cons_zero, le_SZ, lt_SZ, kIf_dt, kIf_df, kIf_bt, kIf_bf, D_chance, h1]
theorem ends_ng {m : Nat} {b : T} (hk : 9 ≤ k) (hp : b.plain m = true) (hb : isG 4 b = false) : callF allD k 34 [b] = .ex 1 := by
  rw [call_k a_ends rfl (by omega)]
  have h1 := look_game_t (k := k - 1) (by omega) hp
  rw [hb] at h1
  simp (disch := first | assumption | omega) [-execs_cons_, List.getElem?_cons_zero, le_SZ, lt_SZ, kIf_dt, kIf_df, kIf_bt, kIf_bf, D_ends, h1]
end
end Fz

/-! rules of stopping, as cuts of the tree -/
namespace Fz
/-! ### paths in their order -/
def plt : List Nat → List Nat → Bool
  | _, [] => false
  | [], _ :: _ => true
  | a :: p, b :: q => decide (a < b) || (a == b && plt p q)
theorem plt_irr : ∀ p : List Nat, plt p p = false
  | [] => rfl
  | a :: p => by simp [plt, plt_irr p]
theorem plt_trans : ∀ {p q r : List Nat}, plt p q = true → plt q r = true → plt p r = true
  | _, _, [], _, h => by simp [plt] at h
  | _, [], _ :: _, h, _ => by simp [plt] at h
  | [], _ :: _, _ :: _, _, _ => rfl
  | a :: p, b :: q, c :: r, h1, h2 => by
    simp only [plt, Bool.or_eq_true, decide_eq_true_eq, Bool.and_eq_true, beq_iff_eq] at h1 h2 ⊢
    rcases h1 with h1 | ⟨rfl, h1⟩
    · rcases h2 with h2 | ⟨rfl, h2⟩
      · exact .inl (by omega)
      · exact .inl h1
    · rcases h2 with h2 | ⟨rfl, h2⟩
      · exact .inl h2
      · exact .inr ⟨rfl, plt_trans h1 h2⟩
theorem plt_tri : ∀ (p q : List Nat), p = q ∨ plt p q = true ∨ plt q p = true
  | [], [] => .inl rfl
  | [], _ :: _ => .inr (.inl rfl)
  | _ :: _, [] => .inr (.inr rfl)
  | a :: p, b :: q => by
    simp only [plt, Bool.or_eq_true, decide_eq_true_eq, Bool.and_eq_true, beq_iff_eq]
    rcases Nat.lt_trichotomy a b with h | rfl | h
    · exact .inr (.inl (.inl h))
    · rcases plt_tri p q with rfl | h | h
      · exact .inl rfl
      · exact .inr (.inl (.inr ⟨rfl, h⟩))
      · exact .inr (.inr (.inr ⟨rfl, h⟩))
    · exact .inr (.inr (.inl h))
/-- rising, each once -/
def Ris (l : List (List Nat)) : Prop := l.Pairwise fun p q => plt p q = true
theorem ris_ext : ∀ {a b : List (List Nat)}, Ris a → Ris b → (∀ p, p ∈ a ↔ p ∈ b) → a = b
  | [], [], _, _, _ => rfl
  | [], y :: b, _, _, h => absurd ((h y).mpr (List.mem_cons_self ..)) (by simp)
  | x :: a, [], _, _, h => absurd ((h x).mp (List.mem_cons_self ..)) (by simp)
  | x :: a, y :: b, ha, hb, h => by
    have ha' := List.pairwise_cons.mp ha
    have hb' := List.pairwise_cons.mp hb
    have e : x = y := by
      rcases List.mem_cons.mp ((h x).mp (List.mem_cons_self ..)) with e | hx
      · exact e
      · rcases List.mem_cons.mp ((h y).mpr (List.mem_cons_self ..)) with e | hy
        · exact e.symm
        · have h1 := plt_trans (ha'.1 y hy) (hb'.1 x hx)
          rw [plt_irr] at h1
          cases h1
    subst e
    congr 1
    refine ris_ext ha'.2 hb'.2 fun p => ?_
    have hp := h p
    rw [List.mem_cons, List.mem_cons] at hp
    constructor
    · intro hm
      rcases hp.mp (.inr hm) with e | z
      · subst e
        have := ha'.1 _ hm
        rw [plt_irr] at this
        cases this
      · exact z
    · intro hm
      rcases hp.mpr (.inr hm) with e | z
      · subst e
        have := hb'.1 _ hm
        rw [plt_irr] at this
        cases this
      · exact z
theorem Ris.nodup {l : List (List Nat)} (h : Ris l) : l.Nodup := List.Pairwise.imp (fun {a b} h e => by rw [e, plt_irr] at h; cases h) h
/-! ### cuts -/
inductive C where
  | stop
  | go (cs : List C)
namespace C
mutual
def paths : C → List (List Nat)
  | .stop => [[]]
  | .go cs => pathss 0 cs
def pathss : Nat → List C → List (List Nat)
  | _, [] => []
  | k, c :: r => c.paths.map (k :: ·) ++ pathss (k + 1) r
end
mutual
/-- a cut of this game -/
def ok : C → G → Prop
  | .stop, _ => True
  | .go cs, g => g.ws ≠ [] ∧ oks cs g.ws
def oks : List C → List (Int × G) → Prop
  | [], [] => True
  | c :: cs, q :: ws => c.ok q.2 ∧ oks cs ws
  | _, _ => False
end
mutual
def meet : C → C → C
  | .go a, .go b => .go (meets a b)
  | _, _ => .stop
def meets : List C → List C → List C
  | a :: as, b :: bs => meet a b :: meets as bs
  | _, _ => []
end
mutual
def join : C → C → C
  | .go a, .go b => .go (joins a b)
  | .stop, b => b
  | a, .stop => a
def joins : List C → List C → List C
  | a :: as, b :: bs => join a b :: joins as bs
  | _, _ => []
end
end C
theorem stop_paths : C.stop.paths = [[]] := by rw [C.paths]
theorem go_paths (cs : List C) : (C.go cs).paths = C.pathss 0 cs := by rw [C.paths]
theorem mem_pathss : ∀ (cs : List C) (k : Nat) (p : List Nat), p ∈ C.pathss k cs ↔ ∃ i c q, cs[i]? = some c ∧ q ∈ c.paths ∧ p = (k + i) :: q
  | [], k, p => by simp [C.pathss]
  | c :: cs, k, p => by
    rw [C.pathss, List.mem_append, List.mem_map, mem_pathss cs (k + 1) p]
    constructor
    · rintro (⟨q, h, rfl⟩ | ⟨i, d, q, h1, h2, rfl⟩)
      · exact ⟨0, c, q, rfl, h, rfl⟩
      · exact ⟨i + 1, d, q, by simpa using h1, h2, by congr 1; omega⟩
    · rintro ⟨i, d, q, h1, h2, rfl⟩
      cases i with
      | zero => simp at h1; subst h1; exact .inl ⟨q, h2, rfl⟩
      | succ i => exact .inr ⟨i, d, q, by simpa using h1, h2, by congr 1; omega⟩
theorem mem_go {cs : List C} {p : List Nat} : p ∈ (C.go cs).paths ↔ ∃ i c q, cs[i]? = some c ∧ q ∈ c.paths ∧ p = i :: q := by
  rw [go_paths, mem_pathss]
  simp only [Nat.zero_add]
theorem oks_get : ∀ {cs : List C} {ws : List (Int × G)}, C.oks cs ws → cs.length = ws.length ∧ ∀ (i : Nat) (c : C), cs[i]? = some c → ∃ q, ws[i]? = some q ∧ c.ok q.2
  | [], [], _ => ⟨rfl, fun i c h => by simp at h⟩
  | [], q :: ws, h => by simp [C.oks] at h
  | c :: cs, [], h => by simp [C.oks] at h
  | c :: cs, q :: ws, h => by
    rw [C.oks] at h
    obtain ⟨h1, h2⟩ := oks_get h.2
    refine ⟨by simp [h1], fun i d hd => ?_⟩
    cases i with
    | zero => simp at hd; subst hd; exact ⟨q, rfl, h.1⟩
    | succ i => exact h2 i d (by simpa using hd)
theorem oks_of : ∀ {cs : List C} {ws : List (Int × G)}, cs.length = ws.length → (∀ (i : Nat) (c : C) (q : Int × G), cs[i]? = some c → ws[i]? = some q → c.ok q.2) → C.oks cs ws
  | [], [], _, _ => by simp [C.oks]
  | [], q :: ws, h, _ => by simp at h
  | c :: cs, [], h, _ => by simp at h
  | c :: cs, q :: ws, h, hc => by
    rw [C.oks]
    exact ⟨hc 0 c q rfl rfl, oks_of (by simpa using h) fun i d r h1 h2 => hc (i + 1) d r (by simpa using h1) (by simpa using h2)⟩
theorem ok_go {cs : List C} {g : G} : (C.go cs).ok g ↔ g.ws ≠ [] ∧ C.oks cs g.ws := by rw [C.ok]
theorem ok_stop' (g : G) : C.stop.ok g := by rw [C.ok]; trivial
/-- induction over cuts -/
theorem C.ind {P : C → Prop} (h1 : P .stop) (h2 : ∀ cs, (∀ c ∈ cs, P c) → P (.go cs)) : ∀ c, P c :=
  fun c => C.rec (motive_1 := P) (motive_2 := fun cs => ∀ c ∈ cs, P c) h1 h2 (fun _ h => by cases h) (fun a r ha hr c hc => by
    rcases List.mem_cons.mp hc with rfl | hc
    · exact ha
    · exact hr c hc) c
/-! ### rising -/
theorem ris_map {l : List (List Nat)} (k : Nat) (h : Ris l) : Ris (l.map (k :: ·)) := by
  unfold Ris
  rw [List.pairwise_map]
  exact List.Pairwise.imp (fun {a b} h => by simp [plt, h]) h
theorem ris_pathss : ∀ (cs : List C) (k : Nat), (∀ c ∈ cs, Ris c.paths) → Ris (C.pathss k cs)
  | [], k, _ => by rw [C.pathss]; exact List.Pairwise.nil
  | c :: cs, k, h => by
    rw [C.pathss]
    refine List.pairwise_append.mpr ⟨ris_map k (h c (List.mem_cons_self ..)), ris_pathss cs (k + 1) fun d hd => h d (List.mem_cons_of_mem _ hd), fun p hp q hq => ?_⟩
    obtain ⟨p', _, rfl⟩ := List.mem_map.mp hp
    obtain ⟨i, d, q', _, _, rfl⟩ := (mem_pathss cs (k + 1) q).mp hq
    have : k < k + 1 + i := by omega
    simp [plt, this]
theorem ris_cut : ∀ c : C, Ris c.paths := by
  refine C.ind ?_ ?_
  · rw [stop_paths]; exact List.pairwise_singleton _ _
  · intro cs h
    rw [go_paths]
    exact ris_pathss cs 0 h
/-! ### no path goes on from another one -/
theorem anti : ∀ (c : C) (p q : List Nat), p ∈ c.paths → q ∈ c.paths → q.take p.length = p → q = p := by
  refine C.ind ?_ ?_
  · intro p q hp hq _
    rw [stop_paths, List.mem_singleton] at hp hq
    rw [hp, hq]
  · intro cs ih p q hp hq h
    obtain ⟨i, c, p', h1, h2, rfl⟩ := mem_go.mp hp
    obtain ⟨j, d, q', h3, h4, rfl⟩ := mem_go.mp hq
    rw [List.length_cons, List.take_succ_cons, List.cons.injEq] at h
    obtain ⟨rfl, h⟩ := h
    rw [h1] at h3
    cases h3
    rw [ih c (List.mem_of_getElem? h1) p' q' h2 h4 h]
/-- paths of a cut are paths of the game -/
theorem cut_sub : ∀ (c : C) (g : G), c.ok g → ∀ p ∈ c.paths, ∃ h, g.sub p = some h := by
  refine C.ind ?_ ?_
  · intro g _ p hp
    rw [stop_paths, List.mem_singleton] at hp
    exact ⟨g, by rw [hp, sub_nil]⟩
  · intro cs ih g hg p hp
    obtain ⟨i, c, q, h1, h2, rfl⟩ := mem_go.mp hp
    obtain ⟨r, h3, h4⟩ := (oks_get (ok_go.mp hg).2).2 i c h1
    obtain ⟨h, h5⟩ := ih c (List.mem_of_getElem? h1) r.2 h4 q h2
    exact ⟨h, by rw [sub_cons, h3]; exact h5⟩
theorem cut_ne : ∀ (c : C) (g : G), c.ok g → c.paths ≠ [] := by
  refine C.ind ?_ ?_
  · intro g _; rw [stop_paths]; simp
  · intro cs ih g hg
    obtain ⟨h1, h2⟩ := ok_go.mp hg
    obtain ⟨h3, h4⟩ := oks_get h2
    cases cs with
    | nil => exact absurd (List.length_eq_zero_iff.mp h3.symm) h1
    | cons c cs =>
      obtain ⟨q, h5, h6⟩ := h4 0 c rfl
      have := ih c (List.mem_cons_self ..) q.2 h6
      intro z
      obtain ⟨p, hp⟩ := List.exists_mem_of_ne_nil _ this
      have hm : (0 :: p) ∈ (C.go (c :: cs)).paths := mem_go.mpr ⟨0, c, p, rfl, hp, rfl⟩
      rw [z] at hm
      cases hm
/-! ### ends -/
def IsEnd (g : G) (e : List Nat) : Prop := ∃ u, g.sub e = some u ∧ u.ws = []
theorem end_ex : ∀ (n : Nat) (g : G), g.ok n → ∃ e, IsEnd g e
  | 0, g, h => h.elim
  | n + 1, g, h => by
    cases hw : g.ws with
    | nil => exact ⟨[], g, sub_nil g, hw⟩
    | cons q r =>
      obtain ⟨e, u, h1, h2⟩ := end_ex n q.2 (ok_way h (by rw [hw]; exact List.mem_cons_self ..)).2
      exact ⟨0 :: e, u, by rw [sub_cons, hw]; exact h1, h2⟩
theorem end_beyond {n : Nat} {g h : G} {p : List Nat} (hg : g.ok n) (e : g.sub p = some h) : ∃ e, IsEnd g (p ++ e) := by
  obtain ⟨e', u, h1, h2⟩ := end_ex _ h (ok_sub hg e).2
  exact ⟨e', u, by rw [sub_append, e]; exact h1, h2⟩
theorem end_cons {g : G} {i : Nat} {e : List Nat} {q : Int × G} (hq : g.ws[i]? = some q) : IsEnd g (i :: e) ↔ IsEnd q.2 e := by
  unfold IsEnd
  rw [sub_cons, hq]
/-- on each way to an end a cut stops once -/
def pre (e p : List Nat) : Bool := e.take p.length == p
theorem pre_cons (i j : Nat) (e p : List Nat) : pre (i :: e) (j :: p) = (i == j && pre e p) := by
  unfold pre
  rw [List.length_cons, List.take_succ_cons]
  rfl
theorem filter_map_cons (i j : Nat) (e : List Nat) (l : List (List Nat)) : ((l.map (j :: ·)).filter (pre (i :: e))).length = if i = j then (l.filter (pre e)).length else 0 := by
  rw [List.filter_map, List.length_map]
  by_cases h : i = j
  · rw [if_pos h]
    congr 2
    funext p
    simp [Function.comp, pre_cons, h]
  · rw [if_neg h]
    have : (l.filter (pre (i :: e) ∘ (j :: ·))) = [] := by
      rw [List.filter_eq_nil_iff]
      intro p _
      simp [Function.comp, pre_cons, h]
    rw [this]; rfl
theorem filter_pathss : ∀ (cs : List C) (k i : Nat) (e : List Nat), ((C.pathss k cs).filter (pre ((k + i) :: e))).length = (match cs[i]? with | some c => (c.paths.filter (pre e)).length | none => 0)
  | [], k, i, e => by simp [C.pathss]
  | c :: cs, k, i, e => by
    rw [C.pathss, List.filter_append, List.length_append, filter_map_cons]
    cases i with
    | zero =>
      rw [if_pos (by omega)]
      have : ((C.pathss (k + 1) cs).filter (pre ((k + 0) :: e))) = [] := by
        rw [List.filter_eq_nil_iff]
        intro p hp
        obtain ⟨j, d, q, _, _, rfl⟩ := (mem_pathss cs (k + 1) p).mp hp
        rw [pre_cons]
        have : ¬ (k + 0 = k + 1 + j) := by omega
        simp [this]
        omega
      rw [this]; simp
    | succ i =>
      rw [if_neg (by omega), Nat.zero_add, show k + (i + 1) = k + 1 + i by omega, filter_pathss cs (k + 1) i e]
      simp
theorem cut_once : ∀ (c : C) (g : G), c.ok g → ∀ e, IsEnd g e → (c.paths.filter (pre e)).length = 1 := by
  refine C.ind ?_ ?_
  · intro g _ e _
    rw [stop_paths]
    simp [pre]
  · intro cs ih g hg e he
    obtain ⟨h1, h2⟩ := ok_go.mp hg
    cases e with
    | nil =>
      obtain ⟨u, h3, h4⟩ := he
      rw [sub_nil] at h3
      cases h3
      exact absurd h4 h1
    | cons i e =>
      have hq : ∃ q, g.ws[i]? = some q := by
        obtain ⟨u, h3, h4⟩ := he
        rw [sub_cons] at h3
        cases hq : g.ws[i]? with
        | none => rw [hq] at h3; cases h3
        | some q => exact ⟨q, rfl⟩
      obtain ⟨q, hq⟩ := hq
      obtain ⟨h5, h6⟩ := oks_get h2
      have hi : i < cs.length := by rw [h5]; exact (List.getElem?_eq_some_iff.mp hq).1
      obtain ⟨q', h7, h8⟩ := h6 i cs[i] (List.getElem?_eq_getElem hi)
      rw [hq] at h7
      cases h7
      have hz := filter_pathss cs 0 i e
      rw [Nat.zero_add, List.getElem?_eq_getElem hi] at hz
      rw [go_paths, hz]
      exact ih cs[i] (List.getElem_mem hi) q.2 h8 e ((end_cons hq).mp he)
end Fz

/-! rules of stopping: what is one; two of them together; what they come to; all of them -/
namespace Fz
/-! ### what is a rule comes from a cut -/
def tailsAt (i : Nat) (P : List (List Nat)) : List (List Nat) := P.filterMap fun p => match p with
  | j :: q => if j = i then some q else none
  | [] => none
theorem mem_tails {i : Nat} {P : List (List Nat)} {q : List Nat} : q ∈ tailsAt i P ↔ (i :: q) ∈ P := by
  unfold tailsAt
  rw [List.mem_filterMap]
  constructor
  · rintro ⟨p, hp, h⟩
    cases p with
    | nil => cases h
    | cons j r =>
      simp only [] at h
      split at h
      · rename_i e
        cases h
        rw [← e]
        exact hp
      · cases h
  · intro h
    exact ⟨i :: q, h, by simp⟩
theorem ris_tails (i : Nat) : ∀ {P : List (List Nat)}, Ris P → Ris (tailsAt i P)
  | [], _ => List.Pairwise.nil
  | p :: P, h => by
    have h' := List.pairwise_cons.mp h
    have ih := ris_tails i h'.2
    unfold tailsAt at *
    rw [List.filterMap_cons]
    cases p with
    | nil => exact ih
    | cons j r =>
      simp only []
      by_cases e : j = i
      · rw [if_pos e]
        refine List.pairwise_cons.mpr ⟨fun q hq => ?_, ih⟩
        have := h'.1 (i :: q) (mem_tails.mp hq)
        subst e
        simpa [plt] using this
      · rw [if_neg e]
        exact ih
theorem tails_count (i : Nat) (e : List Nat) : ∀ P : List (List Nat), [] ∉ P → ((tailsAt i P).filter (pre e)).length = (P.filter (pre (i :: e))).length
  | [], _ => rfl
  | p :: P, h => by
    have ih := tails_count i e P fun z => h (List.mem_cons_of_mem _ z)
    unfold tailsAt at *
    rw [List.filterMap_cons, List.filter_cons]
    cases p with
    | nil => exact absurd (List.mem_cons_self ..) h
    | cons j r =>
      simp only [pre_cons]
      by_cases ej : j = i
      · subst ej
        simp only [if_pos, beq_self_eq_true, Bool.true_and, List.filter_cons]
        cases pre e r <;> simp [ih]
      · have : (i == j) = false := by simp; omega
        rw [if_neg ej, this]
        simpa using ih
theorem choose_list {α : Type} (R : Nat → α → Prop) : ∀ n : Nat, (∀ i, i < n → ∃ x, R i x) → ∃ l : List α, l.length = n ∧ ∀ (i : Nat) (x : α), l[i]? = some x → R i x
  | 0, _ => ⟨[], rfl, fun i x h => by simp at h⟩
  | n + 1, h => by
    obtain ⟨l, h1, h2⟩ := choose_list R n fun i hi => h i (by omega)
    obtain ⟨x, hx⟩ := h n (by omega)
    refine ⟨l ++ [x], by simp [h1], fun i y hy => ?_⟩
    by_cases hi : i < l.length
    · rw [List.getElem?_append_left hi] at hy
      exact h2 i y hy
    · rw [List.getElem?_append_right (by omega)] at hy
      by_cases hz : i - l.length = 0
      · rw [hz] at hy
        simp at hy
        subst hy
        rw [show i = n by omega]
        exact hx
      · rw [List.getElem?_eq_none (by simp; omega)] at hy
        cases hy
theorem one_mem {α : Type} {l : List α} (h : l.length = 1) {a b : α} (ha : a ∈ l) (hb : b ∈ l) : a = b := by
  match l, h with
  | [x], _ => rw [List.mem_singleton.mp ha, List.mem_singleton.mp hb]
theorem pre_append (p x : List Nat) : pre (p ++ x) p = true := by
  unfold pre
  rw [List.take_left]
  exact beq_self_eq_true _
theorem cut_of : ∀ (n : Nat) (g : G), g.ok n → ∀ P : List (List Nat), Ris P → (∀ p ∈ P, ∃ h, g.sub p = some h) → (∀ e, IsEnd g e → (P.filter (pre e)).length = 1) → ∃ c : C, c.ok g ∧ c.paths = P
  | 0, g, hg, _, _, _, _ => hg.elim
  | n + 1, g, hg, P, hr, hs, hc => by
    by_cases h0 : [] ∈ P
    · refine ⟨.stop, ok_stop' g, ?_⟩
      rw [stop_paths]
      refine ris_ext (List.pairwise_singleton _ _) hr fun p => ?_
      rw [List.mem_singleton]
      constructor
      · rintro rfl; exact h0
      · intro hp
        obtain ⟨h, e⟩ := hs p hp
        obtain ⟨x, hx⟩ := end_beyond hg e
        exact one_mem (hc _ hx) (List.mem_filter.mpr ⟨hp, pre_append p x⟩) (List.mem_filter.mpr ⟨h0, by simp [pre]⟩)
    · have hw : g.ws ≠ [] := fun z => by
        have h1 := hc [] ⟨g, sub_nil g, z⟩
        obtain ⟨p, hp⟩ := List.exists_mem_of_length_pos (l := P.filter (pre [])) (by omega)
        obtain ⟨h2, h3⟩ := List.mem_filter.mp hp
        have : p = [] := by
          unfold pre at h3
          rw [List.take_nil] at h3
          exact (eq_of_beq h3).symm
        rw [this] at h2
        exact h0 h2
      obtain ⟨cs, h1, h2⟩ := choose_list (fun i (c : C) => ∀ q, g.ws[i]? = some q → c.ok q.2 ∧ c.paths = tailsAt i P) g.ws.length fun i hi => by
        have hq : g.ws[i]? = some g.ws[i] := List.getElem?_eq_getElem hi
        obtain ⟨c, h3, h4⟩ := cut_of n g.ws[i].2 (ok_way hg (List.getElem_mem hi)).2 (tailsAt i P) (ris_tails i hr) (fun p hp => by
          obtain ⟨h, e⟩ := hs _ (mem_tails.mp hp)
          rw [sub_cons, hq] at e
          exact ⟨h, e⟩) (fun e he => by
          rw [tails_count i e P h0]
          exact hc _ ((end_cons hq).mpr he))
        refine ⟨c, fun q hq' => ?_⟩
        rw [hq] at hq'
        cases hq'
        exact ⟨h3, h4⟩
      have hok : (C.go cs).ok g := ok_go.mpr ⟨hw, oks_of h1 fun i c q h3 h4 => (h2 i c h3 q h4).1⟩
      refine ⟨.go cs, hok, ris_ext (ris_cut _) hr fun p => ?_⟩
      rw [mem_go]
      constructor
      · rintro ⟨i, c, q, h3, h4, rfl⟩
        have hi : i < g.ws.length := by rw [← h1]; exact (List.getElem?_eq_some_iff.mp h3).1
        have := (h2 i c h3 g.ws[i] (List.getElem?_eq_getElem hi)).2
        rw [this] at h4
        exact mem_tails.mp h4
      · intro hp
        cases p with
        | nil => exact absurd hp h0
        | cons i q =>
          obtain ⟨h, e⟩ := hs _ hp
          rw [sub_cons] at e
          cases hq : g.ws[i]? with
          | none => rw [hq] at e; cases e
          | some r =>
            have hi : i < cs.length := by rw [h1]; exact (List.getElem?_eq_some_iff.mp hq).1
            refine ⟨i, cs[i], q, List.getElem?_eq_getElem hi, ?_, rfl⟩
            rw [(h2 i cs[i] (List.getElem?_eq_getElem hi) r hq).2]
            exact mem_tails.mpr hp
/-! ### two rules -/
theorem meet_go (a b : List C) : C.meet (.go a) (.go b) = .go (C.meets a b) := by rw [C.meet]
theorem meet_stop (b : C) : C.meet .stop b = .stop := by rw [C.meet]; intro a c h; cases h
theorem meet_stop' (a : C) : C.meet a .stop = .stop := by rw [C.meet]; intro b c _ h; cases h
theorem join_go (a b : List C) : C.join (.go a) (.go b) = .go (C.joins a b) := by rw [C.join]
theorem join_stop (b : C) : C.join .stop b = b := by rw [C.join]
theorem join_stop' (a : List C) : C.join (.go a) .stop = .go a := by rw [C.join]; intro h; cases h
theorem meets_get : ∀ (a b : List C) (i : Nat), (C.meets a b)[i]? = (match a[i]?, b[i]? with | some x, some y => some (C.meet x y) | _, _ => none)
  | [], b, i => by simp [C.meets]
  | x :: a, [], i => by simp [C.meets]
  | x :: a, y :: b, i => by
    rw [C.meets]
    cases i with
    | zero => rfl
    | succ i => simpa using meets_get a b i
theorem joins_get : ∀ (a b : List C) (i : Nat), (C.joins a b)[i]? = (match a[i]?, b[i]? with | some x, some y => some (C.join x y) | _, _ => none)
  | [], b, i => by simp [C.joins]
  | x :: a, [], i => by simp [C.joins]
  | x :: a, y :: b, i => by
    rw [C.joins]
    cases i with
    | zero => rfl
    | succ i => simpa using joins_get a b i
def Up (a b : List (List Nat)) (p : List Nat) : Prop := (p ∈ a ∨ p ∈ b) ∧ ∀ s, (s ∈ a ∨ s ∈ b) → p.take s.length = s → p = s
def Dn (a b : List (List Nat)) (p : List Nat) : Prop := (p ∈ a ∨ p ∈ b) ∧ ∀ s, (s ∈ a ∨ s ∈ b) → s.take p.length = p → p = s
theorem len_pair : ∀ {a b : List C} {ws : List (Int × G)}, C.oks a ws → C.oks b ws → ∀ (i : Nat) (x : C), a[i]? = some x → ∃ y q, b[i]? = some y ∧ ws[i]? = some q ∧ x.ok q.2 ∧ y.ok q.2 := fun {a b ws} ha hb i x hx => by
  obtain ⟨h1, h2⟩ := oks_get ha
  obtain ⟨h3, h4⟩ := oks_get hb
  obtain ⟨q, h5, h6⟩ := h2 i x hx
  have hi : i < b.length := by rw [h3, ← h1]; exact (List.getElem?_eq_some_iff.mp hx).1
  obtain ⟨q', h7, h8⟩ := h4 i b[i] (List.getElem?_eq_getElem hi)
  rw [h5] at h7
  cases h7
  exact ⟨b[i], q, List.getElem?_eq_getElem hi, h5, h6, h8⟩
theorem oks_len {a b : List C} {ws : List (Int × G)} (ha : C.oks a ws) (hb : C.oks b ws) : a.length = b.length := by rw [(oks_get ha).1, (oks_get hb).1]
theorem meets_len : ∀ (a b : List C), a.length = b.length → (C.meets a b).length = a.length
  | [], _, _ => by simp [C.meets]
  | x :: a, [], h => by simp at h
  | x :: a, y :: b, h => by rw [C.meets]; simp [meets_len a b (by simpa using h)]
theorem joins_len : ∀ (a b : List C), a.length = b.length → (C.joins a b).length = a.length
  | [], _, _ => by simp [C.joins]
  | x :: a, [], h => by simp at h
  | x :: a, y :: b, h => by rw [C.joins]; simp [joins_len a b (by simpa using h)]
theorem meet_paths : ∀ (a b : C) (g : G), a.ok g → b.ok g → (C.meet a b).ok g ∧ ∀ p, p ∈ (C.meet a b).paths ↔ Up a.paths b.paths p := by
  refine C.ind ?_ ?_
  · intro b g _ hb
    rw [meet_stop]
    refine ⟨ok_stop' g, fun p => ?_⟩
    rw [stop_paths, List.mem_singleton]
    constructor
    · rintro rfl
      exact ⟨.inl (List.mem_singleton.mpr rfl), fun s _ h => by rw [List.take_nil] at h; exact h⟩
    · rintro ⟨_, h⟩
      exact h [] (.inl (List.mem_singleton.mpr rfl)) (by simp)
  · intro as ih b g ha hb
    cases b with
    | stop =>
      rw [meet_stop']
      refine ⟨ok_stop' g, fun p => ?_⟩
      rw [stop_paths, List.mem_singleton]
      constructor
      · rintro rfl
        exact ⟨.inr (List.mem_singleton.mpr rfl), fun s _ h => by rw [List.take_nil] at h; exact h⟩
      · rintro ⟨_, h⟩
        exact h [] (.inr (List.mem_singleton.mpr rfl)) (by simp)
    | go bs =>
      obtain ⟨hw, ha'⟩ := ok_go.mp ha
      obtain ⟨_, hb'⟩ := ok_go.mp hb
      have hl := oks_len ha' hb'
      rw [meet_go]
      constructor
      · refine ok_go.mpr ⟨hw, oks_of (by rw [meets_len _ _ hl, (oks_get ha').1]) fun i c q h1 h2 => ?_⟩
        rw [meets_get] at h1
        cases hx : as[i]? with
        | none => rw [hx] at h1; cases h1
        | some x =>
          obtain ⟨y, q', h3, h4, h5, h6⟩ := len_pair ha' hb' i x hx
          rw [hx, h3] at h1
          cases h1
          rw [h2] at h4
          cases h4
          exact (ih x (List.mem_of_getElem? hx) y q.2 h5 h6).1
      · intro p
        have key : ∀ (i : Nat) (x y : C) (q : List Nat), as[i]? = some x → bs[i]? = some y → (q ∈ (C.meet x y).paths ↔ Up (C.go as).paths (C.go bs).paths (i :: q)) := fun i x y q hx hy => by
          obtain ⟨y', r, h3, h4, h5, h6⟩ := len_pair ha' hb' i x hx
          rw [hy] at h3
          cases h3
          rw [(ih x (List.mem_of_getElem? hx) y r.2 h5 h6).2 q]
          have ma : ∀ s, (i :: s) ∈ (C.go as).paths ↔ s ∈ x.paths := fun s => by
            rw [mem_go]
            constructor
            · rintro ⟨j, c, t, h1, h2, h3⟩
              cases h3
              rw [hx] at h1; cases h1; exact h2
            · intro h; exact ⟨i, x, s, hx, h, rfl⟩
          have mb : ∀ s, (i :: s) ∈ (C.go bs).paths ↔ s ∈ y.paths := fun s => by
            rw [mem_go]
            constructor
            · rintro ⟨j, c, t, h1, h2, h3⟩
              cases h3
              rw [hy] at h1; cases h1; exact h2
            · intro h; exact ⟨i, y, s, hy, h, rfl⟩
          unfold Up
          rw [ma, mb]
          refine and_congr_right fun _ => ⟨fun h s hs ht => ?_, fun h s hs ht => ?_⟩
          · cases s with
            | nil => rcases hs with hs | hs <;> (obtain ⟨_, _, _, _, _, z⟩ := mem_go.mp hs; cases z)
            | cons j s =>
              rw [List.length_cons, List.take_succ_cons, List.cons.injEq] at ht
              obtain ⟨rfl, ht⟩ := ht
              rw [ma, mb] at hs
              rw [h s hs ht]
          · have := h (i :: s) (by rw [ma, mb]; exact hs) (by rw [List.length_cons, List.take_succ_cons, ht])
            exact (List.cons.inj this).2
        rw [mem_go]
        constructor
        · rintro ⟨i, c, q, h1, h2, rfl⟩
          rw [meets_get] at h1
          cases hx : as[i]? with
          | none => rw [hx] at h1; cases h1
          | some x =>
            cases hy : bs[i]? with
            | none => rw [hx, hy] at h1; cases h1
            | some y =>
              rw [hx, hy] at h1
              cases h1
              exact (key i x y q hx hy).mp h2
        · intro h
          obtain ⟨i, x, y, q, hx, hy, rfl⟩ : ∃ i x y q, as[i]? = some x ∧ bs[i]? = some y ∧ p = i :: q := by
            rcases h.1 with hp | hp
            · obtain ⟨i, x, q, h1, _, rfl⟩ := mem_go.mp hp
              obtain ⟨y, _, h3, _⟩ := len_pair ha' hb' i x h1
              exact ⟨i, x, y, q, h1, h3, rfl⟩
            · obtain ⟨i, y, q, h1, _, rfl⟩ := mem_go.mp hp
              obtain ⟨x, _, h3, _⟩ := len_pair hb' ha' i y h1
              exact ⟨i, x, y, q, h3, h1, rfl⟩
          exact ⟨i, C.meet x y, q, by rw [meets_get, hx, hy], (key i x y q hx hy).mpr h, rfl⟩
end Fz

/-! two rules: the later one; what rules come to; all rules -/
namespace Fz
theorem mem_at {as : List C} {i : Nat} {x : C} (hx : as[i]? = some x) (s : List Nat) : (i :: s) ∈ (C.go as).paths ↔ s ∈ x.paths := by
  rw [mem_go]
  constructor
  · rintro ⟨j, c, t, h1, h2, h3⟩
    cases h3
    rw [hx] at h1; cases h1; exact h2
  · intro h; exact ⟨i, x, s, hx, h, rfl⟩
theorem join_paths : ∀ (a b : C) (g : G), a.ok g → b.ok g → (C.join a b).ok g ∧ ∀ p, p ∈ (C.join a b).paths ↔ Dn a.paths b.paths p := by
  have one : ∀ (b : C) (g : G), b.ok g → ∀ p, p ∈ b.paths ↔ Dn C.stop.paths b.paths p := fun b g hb p => by
    rw [stop_paths]
    unfold Dn
    constructor
    · intro hp
      refine ⟨.inr hp, fun s hs ht => ?_⟩
      rcases hs with hs | hs
      · rw [List.mem_singleton] at hs
        rw [hs, List.take_nil] at ht
        rw [hs, ← ht]
      · exact (anti b p s hp hs ht).symm
    · rintro ⟨hp | hp, h⟩
      · rw [List.mem_singleton] at hp
        subst hp
        obtain ⟨q, hq⟩ := List.exists_mem_of_ne_nil _ (cut_ne b g hb)
        have := h q (.inr hq) (by simp)
        rw [this]
        exact hq
      · exact hp
  have swap : ∀ (x y : List (List Nat)) (p : List Nat), Dn x y p ↔ Dn y x p := fun x y p => by
    unfold Dn
    constructor <;> (rintro ⟨h1, h2⟩; exact ⟨h1.symm, fun s hs => h2 s hs.symm⟩)
  refine C.ind ?_ ?_
  · intro b g _ hb
    rw [join_stop]
    exact ⟨hb, one b g hb⟩
  · intro as ih b g ha hb
    cases b with
    | stop =>
      rw [join_stop']
      exact ⟨ha, fun p => (one _ g ha p).trans (swap _ _ _)⟩
    | go bs =>
      obtain ⟨hw, ha'⟩ := ok_go.mp ha
      obtain ⟨_, hb'⟩ := ok_go.mp hb
      have hl := oks_len ha' hb'
      rw [join_go]
      constructor
      · refine ok_go.mpr ⟨hw, oks_of (by rw [joins_len _ _ hl, (oks_get ha').1]) fun i c q h1 h2 => ?_⟩
        rw [joins_get] at h1
        cases hx : as[i]? with
        | none => rw [hx] at h1; cases h1
        | some x =>
          obtain ⟨y, q', h3, h4, h5, h6⟩ := len_pair ha' hb' i x hx
          rw [hx, h3] at h1
          cases h1
          rw [h2] at h4
          cases h4
          exact (ih x (List.mem_of_getElem? hx) y q.2 h5 h6).1
      · intro p
        have key : ∀ (i : Nat) (x y : C) (q : List Nat), as[i]? = some x → bs[i]? = some y → (q ∈ (C.join x y).paths ↔ Dn (C.go as).paths (C.go bs).paths (i :: q)) := fun i x y q hx hy => by
          obtain ⟨y', r, h3, h4, h5, h6⟩ := len_pair ha' hb' i x hx
          rw [hy] at h3
          cases h3
          rw [(ih x (List.mem_of_getElem? hx) y r.2 h5 h6).2 q]
          have ma := fun s => mem_at hx s
          have mb := fun s => mem_at hy s
          unfold Dn
          rw [ma, mb]
          refine and_congr_right fun _ => ⟨fun h s hs ht => ?_, fun h s hs ht => ?_⟩
          · cases s with
            | nil => rcases hs with hs | hs <;> (obtain ⟨_, _, _, _, _, z⟩ := mem_go.mp hs; cases z)
            | cons j s =>
              rw [List.length_cons, List.take_succ_cons, List.cons.injEq] at ht
              obtain ⟨rfl, ht⟩ := ht
              rw [ma, mb] at hs
              rw [h s hs ht]
          · have := h (i :: s) (by rw [ma, mb]; exact hs) (by rw [List.length_cons, List.take_succ_cons, ht])
            exact (List.cons.inj this).2
        rw [mem_go]
        constructor
        · rintro ⟨i, c, q, h1, h2, rfl⟩
          rw [joins_get] at h1
          cases hx : as[i]? with
          | none => rw [hx] at h1; cases h1
          | some x =>
            cases hy : bs[i]? with
            | none => rw [hx, hy] at h1; cases h1
            | some y =>
              rw [hx, hy] at h1
              cases h1
              exact (key i x y q hx hy).mp h2
        · intro h
          obtain ⟨i, x, y, q, hx, hy, rfl⟩ : ∃ i x y q, as[i]? = some x ∧ bs[i]? = some y ∧ p = i :: q := by
            rcases h.1 with hp | hp
            · obtain ⟨i, x, q, h1, _, rfl⟩ := mem_go.mp hp
              obtain ⟨y, _, h3, _⟩ := len_pair ha' hb' i x h1
              exact ⟨i, x, y, q, h1, h3, rfl⟩
            · obtain ⟨i, y, q, h1, _, rfl⟩ := mem_go.mp hp
              obtain ⟨x, _, h3, _⟩ := len_pair hb' ha' i y h1
              exact ⟨i, x, y, q, h3, h1, rfl⟩
          exact ⟨i, C.join x y, q, by rw [joins_get, hx, hy], (key i x y q hx hy).mpr h, rfl⟩
/-! ### laws of two rules -/
mutual
theorem meet_self : ∀ a : C, C.meet a a = a
  | .stop => meet_stop _
  | .go as => by rw [meet_go, meets_self as]
theorem meets_self : ∀ as : List C, C.meets as as = as
  | [] => by simp [C.meets]
  | a :: as => by rw [C.meets, meet_self a, meets_self as]
end
mutual
theorem join_self : ∀ a : C, C.join a a = a
  | .stop => join_stop _
  | .go as => by rw [join_go, joins_self as]
theorem joins_self : ∀ as : List C, C.joins as as = as
  | [] => by simp [C.joins]
  | a :: as => by rw [C.joins, join_self a, joins_self as]
end
mutual
theorem meet_comm : ∀ a b : C, C.meet a b = C.meet b a
  | .stop, b => by rw [meet_stop, meet_stop']
  | .go as, .stop => by rw [meet_stop, meet_stop']
  | .go as, .go bs => by rw [meet_go, meet_go, meets_comm as bs]
theorem meets_comm : ∀ as bs : List C, C.meets as bs = C.meets bs as
  | [], [] => rfl
  | [], b :: bs => by simp [C.meets]
  | a :: as, [] => by simp [C.meets]
  | a :: as, b :: bs => by rw [C.meets, C.meets, meet_comm a b, meets_comm as bs]
end
mutual
theorem join_comm : ∀ a b : C, C.join a b = C.join b a
  | .stop, .stop => rfl
  | .stop, .go bs => by rw [join_stop, join_stop']
  | .go as, .stop => by rw [join_stop, join_stop']
  | .go as, .go bs => by rw [join_go, join_go, joins_comm as bs]
theorem joins_comm : ∀ as bs : List C, C.joins as bs = C.joins bs as
  | [], [] => rfl
  | [], b :: bs => by simp [C.joins]
  | a :: as, [] => by simp [C.joins]
  | a :: as, b :: bs => by rw [C.joins, C.joins, join_comm a b, joins_comm as bs]
end
mutual
theorem meet_assoc : ∀ a b d : C, C.meet (C.meet a b) d = C.meet a (C.meet b d)
  | .stop, b, d => by rw [meet_stop, meet_stop, meet_stop]
  | .go as, .stop, d => by rw [meet_stop', meet_stop, meet_stop']
  | .go as, .go bs, .stop => by rw [meet_stop', meet_stop', meet_stop']
  | .go as, .go bs, .go ds => by rw [meet_go, meet_go, meet_go, meet_go, meets_assoc as bs ds]
theorem meets_assoc : ∀ as bs ds : List C, C.meets (C.meets as bs) ds = C.meets as (C.meets bs ds)
  | [], bs, ds => by simp [C.meets]
  | a :: as, [], ds => by simp [C.meets]
  | a :: as, b :: bs, [] => by simp [C.meets]
  | a :: as, b :: bs, d :: ds => by simp only [C.meets, meet_assoc a b d, meets_assoc as bs ds]
end
mutual
theorem join_assoc : ∀ a b d : C, C.join (C.join a b) d = C.join a (C.join b d)
  | .stop, b, d => by rw [join_stop, join_stop]
  | .go as, .stop, d => by rw [join_stop', join_stop]
  | .go as, .go bs, .stop => by rw [join_go, join_stop', join_stop', join_go]
  | .go as, .go bs, .go ds => by rw [join_go, join_go, join_go, join_go, joins_assoc as bs ds]
theorem joins_assoc : ∀ as bs ds : List C, C.joins (C.joins as bs) ds = C.joins as (C.joins bs ds)
  | [], bs, ds => by simp [C.joins]
  | a :: as, [], ds => by simp [C.joins]
  | a :: as, b :: bs, [] => by simp [C.joins]
  | a :: as, b :: bs, d :: ds => by simp only [C.joins, join_assoc a b d, joins_assoc as bs ds]
end
mutual
theorem meet_join : ∀ a b g, C.ok a g → C.ok b g → C.meet a (C.join a b) = a
  | .stop, b, g, _, _ => meet_stop _
  | .go as, .stop, g, _, _ => by rw [join_stop', meet_self]
  | .go as, .go bs, g, ha, hb => by rw [join_go, meet_go, meets_joins as bs g.ws (ok_go.mp ha).2 (ok_go.mp hb).2]
theorem meets_joins : ∀ as bs ws, C.oks as ws → C.oks bs ws → C.meets as (C.joins as bs) = as
  | [], bs, ws, _, _ => by simp [C.meets]
  | a :: as, [], [], ha, _ => by simp [C.oks] at ha
  | a :: as, [], _ :: _, _, hb => by simp [C.oks] at hb
  | a :: as, b :: bs, [], ha, _ => by simp [C.oks] at ha
  | a :: as, b :: bs, q :: ws, ha, hb => by
    rw [C.oks] at ha hb
    rw [C.joins, C.meets, meet_join a b q.2 ha.1 hb.1, meets_joins as bs ws ha.2 hb.2]
end
mutual
theorem join_meet : ∀ a b g, C.ok a g → C.ok b g → C.join a (C.meet a b) = a
  | .stop, b, g, _, _ => by rw [meet_stop, join_stop]
  | .go as, .stop, g, _, _ => by rw [meet_stop', join_stop']
  | .go as, .go bs, g, ha, hb => by rw [meet_go, join_go, joins_meets as bs g.ws (ok_go.mp ha).2 (ok_go.mp hb).2]
theorem joins_meets : ∀ as bs ws, C.oks as ws → C.oks bs ws → C.joins as (C.meets as bs) = as
  | [], bs, ws, _, _ => by simp [C.joins]
  | a :: as, [], [], ha, _ => by simp [C.oks] at ha
  | a :: as, [], _ :: _, _, hb => by simp [C.oks] at hb
  | a :: as, b :: bs, [], ha, _ => by simp [C.oks] at ha
  | a :: as, b :: bs, q :: ws, ha, hb => by
    rw [C.oks] at ha hb
    rw [C.meets, C.joins, join_meet a b q.2 ha.1 hb.1, joins_meets as bs ws ha.2 hb.2]
end
/-! ### what a rule comes to -/
namespace C
mutual
def val : C → G → Rat
  | .stop, g => g.w
  | .go cs, g => vals (tot g.ws) cs g.ws
def vals (t : Int) : List C → List (Int × G) → Rat
  | c :: cs, q :: ws => ((q.1 : Rat) / (t : Rat)) * c.val q.2 + vals t cs ws
  | _, _ => 0
end
end C
theorem val_stop (g : G) : C.stop.val g = g.w := by rw [C.val]
theorem val_go (cs : List C) (g : G) : (C.go cs).val g = C.vals (tot g.ws) cs g.ws := by rw [C.val]
mutual
theorem val_both : ∀ (a b : C) (g : G), a.ok g → b.ok g → (C.meet a b).val g + (C.join a b).val g = a.val g + b.val g
  | .stop, b, g, _, _ => by rw [meet_stop, join_stop]
  | .go as, .stop, g, _, _ => by rw [meet_stop', join_stop']; grind
  | .go as, .go bs, g, ha, hb => by rw [meet_go, join_go, val_go, val_go, val_go, val_go, vals_both (tot g.ws) as bs g.ws (ok_go.mp ha).2 (ok_go.mp hb).2]
theorem vals_both (t : Int) : ∀ (as bs : List C) (ws : List (Int × G)), C.oks as ws → C.oks bs ws → C.vals t (C.meets as bs) ws + C.vals t (C.joins as bs) ws = C.vals t as ws + C.vals t bs ws
  | [], [], _, _, _ => by simp [C.meets, C.joins, C.vals]
  | [], _ :: _, [], _, hb => by simp [C.oks] at hb
  | [], _ :: _, _ :: _, ha, _ => by simp [C.oks] at ha
  | a :: as, [], [], ha, _ => by simp [C.oks] at ha
  | a :: as, [], _ :: _, _, hb => by simp [C.oks] at hb
  | a :: as, b :: bs, [], ha, _ => by simp [C.oks] at ha
  | a :: as, b :: bs, q :: ws, ha, hb => by
    rw [C.oks] at ha hb
    have h1 := val_both a b q.2 ha.1 hb.1
    have h2 := vals_both t as bs ws ha.2 hb.2
    rw [C.meets, C.joins, C.vals, C.vals, C.vals, C.vals]
    grind
end
/-- the worth there -/
def wat (g : G) (p : List Nat) : Rat := match g.sub p with | some h => (h.w : Rat) | none => 0
theorem sum_pathss : ∀ (cs : List C) (ws : List (Int × G)) (k : Nat) (g : G), C.oks cs ws → (∀ i, g.ws[k + i]? = ws[i]?) → (∀ c ∈ cs, ∀ h : G, c.ok h → sumQ (c.paths.map fun p => h.chn p * wat h p) = c.val h) →
    sumQ ((C.pathss k cs).map fun p => g.chn p * wat g p) = C.vals (tot g.ws) cs ws
  | [], [], k, g, _, _, _ => by simp [C.pathss, C.vals, sumQ]
  | [], _ :: _, k, g, h, _, _ => by simp [C.oks] at h
  | c :: cs, [], k, g, h, _, _ => by simp [C.oks] at h
  | c :: cs, q :: ws, k, g, h, hk, hc => by
    rw [C.oks] at h
    have hq : g.ws[k]? = some q := by have := hk 0; simpa using this
    have ih := sum_pathss cs ws (k + 1) g h.2 (fun i => by have := hk (i + 1); rw [show k + 1 + i = k + (i + 1) by omega, this]; simp) fun d hd => hc d (List.mem_cons_of_mem _ hd)
    rw [C.pathss, List.map_append, sumQ_append, ih, C.vals]
    congr 1
    have e : ((c.paths.map (k :: ·)).map fun p => g.chn p * wat g p) = (c.paths.map fun p => q.2.chn p * wat q.2 p).map fun x => ((q.1 : Rat) / (tot g.ws : Rat)) * x := by
      rw [List.map_map, List.map_map]
      refine List.map_congr_left fun p _ => ?_
      show g.chn (k :: p) * wat g (k :: p) = _
      rw [chn_cons, hq]
      unfold wat
      rw [sub_cons, hq]
      simp only [Function.comp]
      grind
    rw [e, sumQ_mul', hc c (List.mem_cons_self ..) q.2 h.1]
theorem val_sum : ∀ (c : C) (g : G), c.ok g → sumQ (c.paths.map fun p => g.chn p * wat g p) = c.val g := by
  refine C.ind ?_ ?_
  · intro g _
    rw [stop_paths, val_stop]
    simp only [List.map_cons, List.map_nil, sumQ, chn_nil]
    unfold wat
    rw [sub_nil]
    grind
  · intro cs ih g hg
    rw [go_paths, val_go]
    exact sum_pathss cs g.ws 0 g (ok_go.mp hg).2 (fun i => by rw [Nat.zero_add]) ih
/-! ### all rules -/
mutual
def cuts : G → List C
  | .mk w ws => .stop :: (match ws with | [] => [] | _ => (prods ws).map .go)
def prods : List (Int × G) → List (List C)
  | [] => [[]]
  | (_, g) :: r => (cuts g).flatMap fun c => (prods r).map (c :: ·)
end
theorem cuts_eq (g : G) : cuts g = .stop :: (if g.ws = [] then [] else (prods g.ws).map .go) := by
  cases g with
  | mk w ws =>
    cases ws with
    | nil => simp [cuts, G.ws]
    | cons q r => simp [cuts, G.ws]
theorem prods_cons (q : Int × G) (r : List (Int × G)) : prods (q :: r) = (cuts q.2).flatMap fun c => (prods r).map (c :: ·) := by rw [prods]
theorem prods_snoc : ∀ (a : List (Int × G)) (q : Int × G), prods (a ++ [q]) = (prods a).flatMap fun cs => (cuts q.2).map fun c => cs ++ [c]
  | [], q => by
    rw [List.nil_append, prods_cons]
    simp only [prods, List.map_cons, List.map_nil, List.flatMap_cons, List.flatMap_nil, List.append_nil, List.nil_append]
    exact (List.map_eq_flatMap ..).symm
  | x :: a, q => by
    rw [List.cons_append, prods_cons, prods_cons, prods_snoc a q, List.flatMap_assoc]
    refine congrArg (fun f => List.flatMap f _) (funext fun c => ?_)
    rw [List.map_flatMap, List.flatMap_map]
    refine congrArg (fun f => List.flatMap f _) (funext fun cs => ?_)
    rw [List.map_map]
    rfl
mutual
theorem mem_cuts : ∀ (c : C) (g : G), c ∈ cuts g ↔ c.ok g
  | .stop, g => by rw [cuts_eq]; simp [ok_stop']
  | .go cs, g => by
    rw [cuts_eq, ok_go, List.mem_cons]
    by_cases h : g.ws = []
    · simp [h]
    · rw [if_neg h]
      simp only [List.mem_map, C.go.injEq, exists_eq_right, h, not_false_eq_true, ne_eq, true_and]
      rw [mem_prods cs g.ws]
      simp
theorem mem_prods : ∀ (cs : List C) (ws : List (Int × G)), cs ∈ prods ws ↔ C.oks cs ws
  | [], [] => by simp [prods, C.oks]
  | [], q :: ws => by rw [prods_cons]; simp [C.oks]
  | c :: cs, [] => by simp [prods, C.oks]
  | c :: cs, q :: ws => by
    rw [prods_cons, C.oks, List.mem_flatMap, ← mem_cuts c q.2, ← mem_prods cs ws]
    constructor
    · rintro ⟨d, h1, h2⟩
      obtain ⟨es, h3, h4⟩ := List.mem_map.mp h2
      cases h4
      exact ⟨h1, h3⟩
    · rintro ⟨h1, h2⟩
      exact ⟨c, h1, List.mem_map.mpr ⟨cs, h2, rfl⟩⟩
end
end Fz

/-! paths sorted, as the evaluator sorts them -/
namespace Fz
open PySem
theorem lt_cons_iff (a b : Int) (x y : List Int) : (a :: x < b :: y) ↔ (a < b ∨ (a = b ∧ x < y)) := List.cons_lt_cons_iff
theorem ltE_pT : ∀ p q : List Nat, ltE (pT p) (pT q) = plt p q := by
  have key : ∀ p q : List Nat, (encs (p.map fun i => T.int (i : Nat)) < encs (q.map fun i => T.int (i : Nat))) ↔ plt p q = true := by
    intro p
    induction p with
    | nil =>
      intro q
      cases q with
      | nil => simp [encs, plt]
      | cons b q => simp [encs, plt, lt_cons_iff]
    | cons a p ih =>
      intro q
      cases q with
      | nil => simp [encs, plt, lt_cons_iff]
      | cons b q =>
        simp only [List.map_cons, encs, enc, List.singleton_append, lt_cons_iff, ih q, plt, Bool.or_eq_true, decide_eq_true_eq, Bool.and_eq_true, beq_iff_eq, Int.lt_irrefl, true_and, false_or, Int.ofNat_lt, Int.ofNat_inj]
  intro p q
  unfold ltE
  rw [Bool.eq_iff_iff, decide_eq_true_iff, ← key p q]
  rfl
def insP (x : List Nat) : List (List Nat) → List (List Nat)
  | [] => [x]
  | y :: ys => if plt y x then y :: insP x ys else x :: y :: ys
def sortP : List (List Nat) → List (List Nat)
  | [] => []
  | x :: xs => insP x (sortP xs)
def dedP : List (List Nat) → List (List Nat)
  | [] => []
  | x :: xs => if x ∈ xs then dedP xs else x :: dedP xs
theorem insT_pT (x : List Nat) : ∀ l : List (List Nat), insT (pT x) (l.map pT) = (insP x l).map pT
  | [] => rfl
  | y :: l => by
    rw [List.map_cons, insT, insP, ltE_pT]
    cases plt y x
    · rfl
    · simp [insT_pT x l]
theorem sortT_pT : ∀ l : List (List Nat), sortT (l.map pT) = (sortP l).map pT
  | [] => rfl
  | x :: l => by rw [List.map_cons, sortT, sortP, sortT_pT l, insT_pT]
theorem inT_pT (p : List Nat) (l : List (List Nat)) : inT (pT p) (l.map pT) = decide (p ∈ l) := by
  unfold inT
  induction l with
  | nil => rfl
  | cons a l ih =>
    rw [List.map_cons, List.any_cons, ih, eqv_pT]
    by_cases h : a = p
    · subst h; simp
    · have : ¬ p = a := fun z => h z.symm
      simp [h, this]
theorem dedT_pT : ∀ l : List (List Nat), dedupT (l.map pT) = (dedP l).map pT
  | [] => rfl
  | x :: l => by
    rw [List.map_cons, dedupT, dedP, inT_pT, dedT_pT l]
    by_cases h : x ∈ l <;> simp [h]
theorem mem_insP {x p : List Nat} : ∀ {l : List (List Nat)}, p ∈ insP x l ↔ p = x ∨ p ∈ l
  | [] => by simp [insP]
  | y :: l => by
    rw [insP]
    cases plt y x
    · simp
    · simp only [if_true, List.mem_cons, mem_insP (l := l)]
      constructor <;> (intro h; rcases h with h | h | h <;> simp [h])
theorem mem_sortP {p : List Nat} : ∀ {l : List (List Nat)}, p ∈ sortP l ↔ p ∈ l
  | [] => by simp [sortP]
  | x :: l => by rw [sortP, mem_insP, mem_sortP (l := l), List.mem_cons]
theorem mem_dedP {p : List Nat} : ∀ {l : List (List Nat)}, p ∈ dedP l ↔ p ∈ l
  | [] => by simp [dedP]
  | x :: l => by
    rw [dedP]
    by_cases h : x ∈ l
    · rw [if_pos h, mem_dedP (l := l), List.mem_cons]
      constructor
      · exact .inr
      · rintro (rfl | z)
        · exact h
        · exact z
    · rw [if_neg h, List.mem_cons, List.mem_cons, mem_dedP (l := l)]
theorem dedP_nodup : ∀ l : List (List Nat), (dedP l).Nodup
  | [] => List.Pairwise.nil
  | x :: l => by
    rw [dedP]
    by_cases h : x ∈ l
    · rw [if_pos h]; exact dedP_nodup l
    · rw [if_neg h]
      exact List.nodup_cons.mpr ⟨fun z => h (mem_dedP.mp z), dedP_nodup l⟩
theorem ris_insP {x : List Nat} : ∀ {l : List (List Nat)}, Ris l → x ∉ l → Ris (insP x l)
  | [], _, _ => List.pairwise_singleton _ _
  | y :: l, h, hx => by
    have h' := List.pairwise_cons.mp h
    rw [insP]
    have hxy : x ≠ y := fun e => hx (by rw [e]; exact List.mem_cons_self ..)
    cases e : plt y x with
    | false =>
      have hlt : plt x y = true := by
        rcases plt_tri x y with z | z | z
        · exact absurd z hxy
        · exact z
        · rw [e] at z; cases z
      refine List.pairwise_cons.mpr ⟨fun p hp => ?_, h⟩
      rcases List.mem_cons.mp hp with rfl | hp
      · exact hlt
      · exact plt_trans hlt (h'.1 p hp)
    | true =>
      rw [if_pos rfl]
      refine List.pairwise_cons.mpr ⟨fun p hp => ?_, ris_insP h'.2 fun z => hx (List.mem_cons_of_mem _ z)⟩
      rcases mem_insP.mp hp with rfl | hp
      · exact e
      · exact h'.1 p hp
theorem ris_sortP : ∀ {l : List (List Nat)}, l.Nodup → Ris (sortP l)
  | [], _ => List.Pairwise.nil
  | x :: l, h => by
    have h' := List.nodup_cons.mp h
    rw [sortP]
    exact ris_insP (ris_sortP h'.2) fun z => h'.1 (mem_sortP.mp z)
/-- what is rising stays -/
theorem sortP_ris {l : List (List Nat)} (h : Ris l) : sortP l = l := ris_ext (ris_sortP h.nodup) h fun p => mem_sortP
theorem sort_set {l m : List (List Nat)} (hm : Ris m) (h : ∀ p, p ∈ m ↔ p ∈ l) : sortT (dedupT (l.map pT)) = m.map pT := by
  rw [dedT_pT, sortT_pT]
  congr 1
  exact ris_ext (ris_sortP (dedP_nodup l)) hm fun p => by rw [mem_sortP, mem_dedP, h]
theorem sort_same {m : List (List Nat)} (hm : Ris m) : sortT (m.map pT) = m.map pT := by rw [sortT_pT, sortP_ris hm]
theorem sort_mem {l m : List (List Nat)} (hm : Ris m) (hl : l.Nodup) (h : ∀ p, p ∈ m ↔ p ∈ l) : sortT (l.map pT) = m.map pT := by
  rw [sortT_pT]
  congr 1
  exact ris_ext (ris_sortP hl) hm fun p => by rw [mem_sortP, h]
/-! ### what may be sorted here -/
theorem pureTs_map {α : Type} {f : α → T} {m : Nat} : ∀ {l : List α}, (∀ x ∈ l, pureT (f x) m = true) → pureTs (l.map f) m = true
  | [], _ => by simp [pureTs]
  | x :: l, h => by simp [pureTs, h x (List.mem_cons_self ..), pureTs_map fun y hy => h y (List.mem_cons_of_mem _ hy)]
theorem pure_pT' (p : List Nat) (n : Nat) : pureT (pT p) (n + 1) = true := by
  unfold pT
  rw [pureT]
  exact pureTs_map fun x _ => by simp [pureT]
theorem cmpb_pT (p q : List Nat) : cmpb (pT p) (pT q) = true := by
  unfold pT
  rw [cmpb]
  induction p generalizing q with
  | nil => cases q <;> simp [cmpbs]
  | cons a p ih =>
    cases q with
    | nil => simp [cmpbs]
    | cons b q => rw [List.map_cons, List.map_cons, cmpbs, ih q]; rfl
theorem canSort_pT (l : List (List Nat)) : canSort (l.map pT) = true := by
  unfold canSort
  rw [Bool.and_eq_true]
  refine ⟨pureTs_map fun p _ => pure_pT' p 19, ?_⟩
  rw [List.all_map, List.all_eq_true]
  intro p _
  rw [Function.comp, List.all_map, List.all_eq_true]
  intro q _
  exact cmpb_pT p q
theorem canSet_pT {l : List (List Nat)} (h : l.length < 60) (hp : ∀ p ∈ l, p.length ≤ 60) : canSet (l.map pT) = true := by
  unfold canSet
  rw [Bool.and_eq_true, List.length_map]
  refine ⟨decide_eq_true h, ?_⟩
  rw [List.all_map, List.all_eq_true]
  intro p hpl
  unfold Function.comp pT
  rw [keyOk, Bool.and_eq_true, List.length_map]
  refine ⟨?_, decide_eq_true (hp p hpl)⟩
  rw [List.all_map, List.all_eq_true]
  intro i _
  rfl
theorem sorted_l {l m : List (List Nat)} (hm : Ris m) (hl : l.Nodup) (h : ∀ p, p ∈ m ↔ p ∈ l) : bltT .sorted [.lst (l.map pT)] = .ok (.lst (m.map pT)) := by
  show (if canSort (l.map pT) then Res.ok (T.lst (sortT (l.map pT))) else Res.no) = _
  rw [canSort_pT, if_pos rfl, sort_mem hm hl h]
theorem sorted_t {l m : List (List Nat)} (hm : Ris m) (hl : l.Nodup) (h : ∀ p, p ∈ m ↔ p ∈ l) : bltT .sorted [.tup (l.map pT)] = .ok (.lst (m.map pT)) := by
  show (if canSort (l.map pT) then Res.ok (T.lst (sortT (l.map pT))) else Res.no) = _
  rw [canSort_pT, if_pos rfl, sort_mem hm hl h]
theorem sortedSet_l {l m : List (List Nat)} (hm : Ris m) (h : ∀ p, p ∈ m ↔ p ∈ l) (h1 : l.length < 60) (h2 : ∀ p ∈ l, p.length ≤ 60) : bltT .sortedSet [.lst (l.map pT)] = .ok (.lst (m.map pT)) := by
  show (if canSet (l.map pT) && canSort (l.map pT) then Res.ok (T.lst (sortT (dedupT (l.map pT)))) else Res.no) = _
  rw [canSort_pT, canSet_pT h1 h2, Bool.and_true, if_pos rfl, sort_set hm h]
theorem sortedSet_t {l m : List (List Nat)} (hm : Ris m) (h : ∀ p, p ∈ m ↔ p ∈ l) (h1 : l.length < 60) (h2 : ∀ p ∈ l, p.length ≤ 60) : bltT .sortedSet [.tup (l.map pT)] = .ok (.lst (m.map pT)) := by
  show (if canSet (l.map pT) && canSort (l.map pT) then Res.ok (T.lst (sortT (dedupT (l.map pT)))) else Res.no) = _
  rw [canSort_pT, canSet_pT h1 h2, Bool.and_true, if_pos rfl, sort_set hm h]
end Fz

/-! rules, as the program takes them -/
namespace Fz
open PySem
def ruleT (c : C) : T := .tup (c.paths.map pT)
def IsRule (g : G) (t : T) : Prop := ∃ c : C, c.ok g ∧ t = ruleT c
theorem eqvs_pT (a b : List (List Nat)) : T.eqvs (a.map pT) (b.map pT) = decide (a = b) := by
  induction a generalizing b with
  | nil => cases b <;> simp
  | cons x a ih =>
    cases b with
    | nil => simp
    | cons y b =>
      rw [List.map_cons, List.map_cons, eqvs_cons_, ih, eqv_pT]
      by_cases h1 : x = y <;> by_cases h2 : a = b <;> simp [h1, h2]
theorem pT_inj {p q : List Nat} (h : pT p = pT q) : p = q := by
  have := eqv_pT p q
  rw [h, eqv_self (pT q) 1 (plain_pT q 0)] at this
  exact of_decide_eq_true this.symm
theorem map_pT_inj {a b : List (List Nat)} (h : a.map pT = b.map pT) : a = b := by
  have := eqvs_pT a b
  rw [h, eqvs_self (b.map pT) 1 (plains_map fun p _ => plain_pT p 0)] at this
  exact of_decide_eq_true this.symm
theorem all_paths (g : G) : ∀ xs : List T, xs.all (isP g) = true → ∃ ps : List (List Nat), xs = ps.map pT ∧ ∀ p ∈ ps, ∃ h, g.sub p = some h
  | [], _ => ⟨[], rfl, fun p h => by cases h⟩
  | x :: xs, h => by
    rw [List.all_cons, Bool.and_eq_true] at h
    obtain ⟨p, f, rfl, e⟩ := isP_path h.1
    obtain ⟨ps, rfl, hp⟩ := all_paths g xs h.2
    refine ⟨p :: ps, rfl, fun q hq => ?_⟩
    rcases List.mem_cons.mp hq with rfl | hq
    · exact ⟨f, e⟩
    · exact hp q hq
theorem end_row {g : G} {x : Row} (hx : x ∈ g.walk.filter isEnd) : IsEnd g x.1 := by
  obtain ⟨h1, h2⟩ := List.mem_filter.mp hx
  exact ⟨x.2.1, ((mem_walk x.1 g x.2.1 x.2.2).mp h1).1, by simpa [isEnd] using h2⟩
theorem row_end {g : G} {e : List Nat} (h : IsEnd g e) : ∃ x ∈ g.walk.filter isEnd, x.1 = e := by
  obtain ⟨u, h1, h2⟩ := h
  exact ⟨(e, u, g.chn e), List.mem_filter.mpr ⟨(mem_walk _ _ _ _).mpr ⟨h1, rfl⟩, by simp [isEnd, h2]⟩, rfl⟩
section
variable {k : Nat}
theorem is_rule_core {n : Nat} {g : G} {ps : List (List Nat)} {b : Bool} (hg : g.ok n) (hn : n ≤ 4) (hk : 9 ≤ k) (hl : ps.length < 60) (hp : ∀ p ∈ ps, ∃ h, g.sub p = some h)
    (hb : b = true ↔ (Ris ps ∧ ∀ e, IsEnd g e → (ps.filter (pre e)).length = 1)) : callF allD k 46 [g.t, .tup (ps.map pT)] = .ok (.bl b) := by
  rw [call_k a_is_rule_of rfl (by omega)]
  have hpl : ∀ p ∈ ps, p.length ≤ 60 := fun p h => by
    obtain ⟨u, e⟩ := hp p h
    have := (ok_sub hg e).1
    omega
  have hss := sortedSet_t (l := ps) (m := sortP (dedP ps)) (ris_sortP (dedP_nodup ps)) (fun p => by rw [mem_sortP, mem_dedP]) hl hpl
  have hP : ∀ m, T.plains (ps.map pT) (m + 1) = true := fun m => plains_map fun p _ => plain_pT p _
  have hQ : ∀ m, T.plains ((sortP (dedP ps)).map pT) (m + 1) = true := fun m => plains_map fun p _ => plain_pT p _
  simp (disch := first | assumption | omega) [-execs_cons_, List.getElem?_cons_zero, le_SZ, lt_SZ, kIf_dt, kIf_df, kIf_bt, kIf_bf, D_is_rule_of]
  rw [compL_l (g := fun _ => T.bl true) fun p hpp => by
    have h1 := is_path_ok (k := k - 1) (g := g) (by omega) (plain_pT p 0)
    obtain ⟨u, e⟩ := hp p hpp
    rw [isP_pT, e] at h1
    rw [turn1]
    simp (disch := first | assumption | omega) [-execs_cons_, List.getElem?_cons_zero, le_SZ, lt_SZ, kIf_dt, kIf_df, kIf_bt, kIf_bf, h1]]
  have hall : bltT .all [.lst (ps.map fun _ => T.bl true)] = .ok (.bl true) := by
    rw [blt_all_, boolsT_map (fun _ => true) ps]
    simp
  by_cases hr : ps = sortP (dedP ps)
  · have hris : Ris ps := by rw [hr]; exact ris_sortP (dedP_nodup ps)
    have heq := eqvs_pT ps (sortP (dedP ps))
    rw [decide_eq_true hr] at heq
    have h1 := ends_of_ok (k := k - 1) (by omega) hg (by omega)
    simp (disch := first | assumption | omega) [-execs_cons_, List.getElem?_cons_zero, le_SZ, lt_SZ, kIf_dt, kIf_df, kIf_bt, kIf_bf, hall, -blt_all_, hss, hP 58, hQ 58, heq]
    refine fin_rt (xs_for (l := g.walk.filter isEnd) (h := fun x => pT x.1) (by simp (disch := first | assumption | omega) [-execs_cons_, List.getElem?_cons_zero, le_SZ, lt_SZ, kIf_dt, kIf_df, kIf_bt, kIf_bf, h1]) (fun a e => (∀ x ∈ a, (ps.filter (pre x.1)).length = 1) ∧ ∃ c2 c3, e = [.sh g.t, .sh (.tup (ps.map pT)), c2, c3]) ⟨fun _ h => (nomatch h), _, _, rfl⟩ (fun a x post e hl hI => ?_) (fun e hI => ?_))
    · obtain ⟨hI, c2, c3, rfl⟩ := hI
      have hx : x ∈ g.walk.filter isEnd := by rw [hl]; simp
      refine Nr.out ?_
      simp (disch := first | assumption | omega) [-execs_cons_, List.getElem?_cons_zero, le_SZ, lt_SZ, kIf_dt, kIf_df, kIf_bt, kIf_bf, ]
      rw [compL_lf (p := pre x.1) (g := fun p => pT p) fun p hpp => by
        have s1 := slc_pT x.1 p.length
        have s2 := len_pT p
        have s3 := eqv_pT (x.1.take p.length) p
        have s4 : decide (x.1.take p.length = p) = pre x.1 p := by unfold pre; rw [Bool.eq_iff_iff]; simp
        rw [s4] at s3
        rw [turn1]
        cases s5 : pre x.1 p
        · rw [s5] at s3; simp (disch := first | assumption | omega) [-execs_cons_, List.getElem?_cons_zero, le_SZ, lt_SZ, kIf_dt, kIf_df, kIf_bt, kIf_bf, s1, s2, s3, plain_pT]
        · rw [s5] at s3; simp (disch := first | assumption | omega) [-execs_cons_, List.getElem?_cons_zero, le_SZ, lt_SZ, kIf_dt, kIf_df, kIf_bt, kIf_bf, s1, s2, s3, plain_pT]]
      by_cases h1 : (ps.filter (pre x.1)).length = 1
      · simp (disch := first | assumption | omega) [-execs_cons_, List.getElem?_cons_zero, le_SZ, lt_SZ, kIf_dt, kIf_df, kIf_bt, kIf_bf, h1]
        intro a1 a2 b1 hy
        rcases hy with z | rfl
        · exact hI _ z
        · exact h1
      · have hb' : b = false := by
          cases b with
          | false => rfl
          | true => exact absurd ((hb.mp rfl).2 _ (end_row hx)) h1
        have h1' : ¬ ((ps.filter (pre x.1)).length : Int) = 1 := by omega
        simp (disch := first | assumption | omega) [-execs_cons_, List.getElem?_cons_zero, le_SZ, lt_SZ, kIf_dt, kIf_df, kIf_bt, kIf_bf, h1', hb']
    · obtain ⟨hI, c2, c3, rfl⟩ := hI
      have hb' : b = true := hb.mpr ⟨hris, fun e he => by
        obtain ⟨x, hx, rfl⟩ := row_end he
        exact hI x hx⟩
      simp (disch := first | assumption | omega) [-execs_cons_, List.getElem?_cons_zero, le_SZ, lt_SZ, kIf_dt, kIf_df, kIf_bt, kIf_bf, hb']
  · have hb' : b = false := by
      cases b with
      | false => rfl
      | true =>
        have h1 := (hb.mp rfl).1
        refine absurd ?_ hr
        exact ris_ext h1 (ris_sortP (dedP_nodup ps)) fun p => by rw [mem_sortP, mem_dedP]
    have heq := eqvs_pT ps (sortP (dedP ps))
    rw [decide_eq_false hr] at heq
    simp (disch := first | assumption | omega) [-execs_cons_, List.getElem?_cons_zero, le_SZ, lt_SZ, kIf_dt, kIf_df, kIf_bt, kIf_bf, hall, -blt_all_, hss, hP 58, hQ 58, heq, hb']
end
end Fz

/-! rules, as the program takes them: any thing; what they come to; two of them -/
namespace Fz
open PySem
theorem pathss_len (m : Nat) : ∀ (cs : List C) (k : Nat), (∀ c ∈ cs, c.paths.length ≤ m) → (C.pathss k cs).length ≤ cs.length * m
  | [], k, _ => by simp [C.pathss]
  | c :: cs, k, h => by
    have := pathss_len m cs (k + 1) fun d hd => h d (List.mem_cons_of_mem _ hd)
    have := h c (List.mem_cons_self ..)
    rw [C.pathss, List.length_append, List.length_map, List.length_cons, Nat.succ_mul]
    omega
theorem cut_len : ∀ (n : Nat) (c : C) (g : G), c.ok g → g.ok (n + 1) → c.paths.length ≤ 3 ^ n
  | n, .stop, g, _, _ => by rw [stop_paths]; exact Nat.pow_pos (by decide)
  | 0, .go cs, g, hc, hg => by
    obtain ⟨h1, h2⟩ := ok_go.mp hc
    obtain ⟨q, hq⟩ := List.exists_mem_of_ne_nil _ h1
    exact (ok_way hg hq).2.elim
  | n + 1, .go cs, g, hc, hg => by
    obtain ⟨h1, h2⟩ := ok_go.mp hc
    obtain ⟨h3, h4⟩ := oks_get h2
    rw [go_paths]
    have := pathss_len (3 ^ n) cs 0 fun c hm => by
      obtain ⟨i, hi⟩ := List.getElem?_of_mem hm
      obtain ⟨q, h5, h6⟩ := h4 i c hi
      exact cut_len n c q.2 h6 (ok_way hg (List.mem_of_getElem? h5)).2
    have h5 : cs.length * 3 ^ n ≤ 3 * 3 ^ n := Nat.mul_le_mul_right _ (by rw [h3]; exact hg.2.1)
    rw [Nat.pow_succ]
    omega
theorem cut_len4 {n : Nat} {c : C} {g : G} (hc : c.ok g) (hg : g.ok n) (hn : n ≤ 4) : c.paths.length ≤ 27 := cut_len 3 c g hc (ok_mono hg hn)
theorem plain_rule (c : C) (m : Nat) : (ruleT c).plain (m + 2) = true := by
  unfold ruleT
  rw [plain_tup_]
  exact plains_map fun p _ => plain_pT p _
section
variable {k : Nat}
theorem is_rule_of_yes {n : Nat} {g : G} {c : C} (hg : g.ok n) (hn : n ≤ 4) (hk : 9 ≤ k) (hc : c.ok g) : callF allD k 46 [g.t, ruleT c] = .ok (.bl true) :=
  is_rule_core hg hn hk (Nat.lt_of_le_of_lt (cut_len4 hc hg hn) (by decide)) (cut_sub c g hc) (by simp only [true_iff]; exact ⟨ris_cut c, cut_once c g hc⟩)
theorem is_rule_of_no {n m : Nat} {g : G} {t : T} (hg : g.ok n) (hn : n ≤ 4) (hk : 9 ≤ k) (ht : t.plain m = true) (hl : ∀ xs, t = .tup xs → xs.length < 60) (h : ¬ IsRule g t) : callF allD k 46 [g.t, t] = .ok (.bl false) := by
  by_cases hT : ∃ xs, t = .tup xs
  case neg =>
    have hT' : ∀ ws, t ≠ .tup ws := fun ws e => hT ⟨ws, e⟩
    have h1 := ntup hT' ht
    rw [call_k a_is_rule_of rfl (by omega)]
    simp (disch := first | assumption | omega) [-execs_cons_, List.getElem?_cons_zero, le_SZ, lt_SZ, kIf_dt, kIf_df, kIf_bt, kIf_bf, D_is_rule_of, h1]
  obtain ⟨xs, rfl⟩ := hT
  obtain ⟨m, rfl, hp⟩ := plain_of_tup ht
  cases ha : xs.all (isP g) with
  | true =>
    obtain ⟨ps, rfl, hps⟩ := all_paths g xs ha
    refine is_rule_core hg hn hk (by have := hl _ rfl; rwa [List.length_map] at this) hps ?_
    simp only [Bool.false_eq_true, false_iff]
    rintro ⟨h1, h2⟩
    obtain ⟨c, h3, h4⟩ := cut_of n g hg ps h1 hps h2
    exact h ⟨c, h3, by unfold ruleT; rw [h4]⟩
  | false =>
    rw [call_k a_is_rule_of rfl (by omega)]
    simp (disch := first | assumption | omega) [-execs_cons_, List.getElem?_cons_zero, le_SZ, lt_SZ, kIf_dt, kIf_df, kIf_bt, kIf_bf, D_is_rule_of]
    rw [compL_map (g := fun x => T.bl (isP g x)) fun x hx => by
      have h1 := is_path_ok (k := k - 1) (g := g) (by omega) (plains_mem hp hx)
      rw [turn1]
      simp (disch := first | assumption | omega) [-execs_cons_, List.getElem?_cons_zero, le_SZ, lt_SZ, kIf_dt, kIf_df, kIf_bt, kIf_bf, h1]]
    have hall : bltT .all [.lst (xs.map fun x => T.bl (isP g x))] = .ok (.bl false) := by
      rw [blt_all_, boolsT_map (isP g) xs]
      simp only [List.all_map]
      have : (xs.all (id ∘ isP g)) = false := ha
      rw [this]
    simp (disch := first | assumption | omega) [-execs_cons_, List.getElem?_cons_zero, le_SZ, lt_SZ, kIf_dt, kIf_df, kIf_bt, kIf_bf, hall, -blt_all_]
theorem look_rule_yes {n : Nat} {g : G} {c : C} (hg : g.ok n) (hn : n ≤ 4) (hk : 11 ≤ k) (hc : c.ok g) : callF allD k 48 [g.t, ruleT c] = .ok .non := by
  have h1 := look_game_ok (k := k - 2) (by omega) hg hn
  have h2 := is_rule_of_yes (k := k - 2) hg hn (by omega) hc
  have h3 : callF allD (k - 1) 47 [g.t, ruleT c] = .ok (.bl true) := by
    rw [call_k a_is_rule rfl (by omega), show k - 1 - 1 = k - 2 by omega]
    simp (disch := first | assumption | omega) [-execs_cons_, List.getElem?_cons_zero, le_SZ, lt_SZ, kIf_dt, kIf_df, kIf_bt, kIf_bf, D_is_rule, h1, h2]
  rw [call_k a_look_rule rfl (by omega)]
  simp (disch := first | assumption | omega) [-execs_cons_, List.getElem?_cons_zero, le_SZ, lt_SZ, kIf_dt, kIf_df, kIf_bt, kIf_bf, D_look_rule, h3]
theorem look_rule_no {n m : Nat} {g : G} {t : T} (hg : g.ok n) (hn : n ≤ 4) (hk : 11 ≤ k) (ht : t.plain m = true) (hl : ∀ xs, t = .tup xs → xs.length < 60) (h : ¬ IsRule g t) : callF allD k 48 [g.t, t] = .ex 3 := by
  have h1 := look_game_ok (k := k - 2) (by omega) hg hn
  have h2 := is_rule_of_no (k := k - 2) hg hn (by omega) ht hl h
  have h3 : callF allD (k - 1) 47 [g.t, t] = .ok (.bl false) := by
    rw [call_k a_is_rule rfl (by omega), show k - 1 - 1 = k - 2 by omega]
    simp (disch := first | assumption | omega) [-execs_cons_, List.getElem?_cons_zero, le_SZ, lt_SZ, kIf_dt, kIf_df, kIf_bt, kIf_bf, D_is_rule, h1, h2]
  rw [call_k a_look_rule rfl (by omega)]
  simp (disch := first | assumption | omega) [-execs_cons_, List.getElem?_cons_zero, le_SZ, lt_SZ, kIf_dt, kIf_df, kIf_bt, kIf_bf, D_look_rule, h3]
theorem look_rule_ng {m : Nat} {b t : T} (hk : 11 ≤ k) (hp : b.plain m = true) (hb : isG 4 b = false) : callF allD k 48 [b, t] = .ex 1 := by
  have h1 := look_game_t (k := k - 2) (by omega) hp
  rw [hb] at h1
  have h3 : callF allD (k - 1) 47 [b, t] = .ex 1 := by
    rw [call_k a_is_rule rfl (by omega), show k - 1 - 1 = k - 2 by omega]
    simp (disch := first | assumption | omega) [-execs_cons_, List.getElem?_cons_zero, le_SZ, lt_SZ, kIf_dt, kIf_df, kIf_bt, kIf_bf, D_is_rule, h1]
  rw [call_k a_look_rule rfl (by omega)]
  simp (disch := first | assumption | omega) [-execs_cons_, List.getElem?_cons_zero, le_SZ, lt_SZ, kIf_dt, kIf_df, kIf_bt, kIf_bf, D_look_rule, h3]
theorem sz_int {i : Int} (h1 : -20 ≤ i) (h2 : i ≤ 20) : Sz 5 (i : Rat) := ⟨by rw [Rat.num_intCast]; omega, by rw [Rat.den_intCast]; decide⟩
theorem mean_of_ok {n : Nat} {g : G} {c : C} (hg : g.ok n) (hn : n ≤ 4) (hk : 12 ≤ k) (hc : c.ok g) : callF allD k 49 [g.t, ruleT c] = .ok (fr (c.val g)) := by
  rw [call_k a_mean_of rfl (by omega)]
  have h1 := look_rule_yes (k := k - 1) hg hn (by omega) hc
  have hs : ∀ p ∈ c.paths, Sz 26 (g.chn p * wat g p) := fun p hp => by
    obtain ⟨h, e⟩ := cut_sub c g hc p hp
    obtain ⟨_, hh⟩ := ok_sub hg e
    have hw : wat g p = (h.w : Rat) := by unfold wat; rw [e]
    rw [hw]
    obtain ⟨m, hm⟩ : ∃ j, n - p.length = j + 1 := ⟨n - p.length - 1, by have := (ok_sub hg e).1; omega⟩
    rw [hm] at hh
    exact ((chn_sz hg e).mul (sz_int hh.1.1 hh.1.2)).mono (by omega)
  have h2 := all_plus' (k := k - 1) (by omega) (j := 26) (qs := c.paths.map fun p => g.chn p * wat g p) (fun q hq => by
    obtain ⟨p, hp, rfl⟩ := List.mem_map.mp hq
    exact hs p hp) (by
    rw [List.length_map]
    have := cut_len4 hc hg hn
    omega) (by decide)
  rw [val_sum c g hc, List.map_map] at h2
  simp (disch := first | assumption | omega) [-execs_cons_, List.getElem?_cons_zero, le_SZ, lt_SZ, kIf_dt, kIf_df, kIf_bt, kIf_bf, D_mean_of, h1]
  unfold ruleT
  simp (disch := first | assumption | omega) [-execs_cons_, List.getElem?_cons_zero, le_SZ, lt_SZ, kIf_dt, kIf_df, kIf_bt, kIf_bf, ]
  rw [compL_l (g := fun p => fr (g.chn p * wat g p)) fun p hp => by
    obtain ⟨h, e⟩ := cut_sub c g hc p hp
    obtain ⟨_, hh⟩ := ok_sub hg e
    have hw : wat g p = (h.w : Rat) := by unfold wat; rw [e]
    obtain ⟨m, hm⟩ : ∃ j, n - p.length = j + 1 := ⟨n - p.length - 1, by have := (ok_sub hg e).1; omega⟩
    rw [hm] at hh
    have g1 := chance_of_ok (k := k - 1) hg (by omega) (by omega) e
    have g2 := part_of_ok (k := k - 1) (by omega) e
    have g3 := times' (k := k - 1) (by omega) (sz_ok1 (chn_sz hg e) (by omega)) (sz_ok1 (sz_int hh.1.1 hh.1.2) (by decide))
    rw [fr_int] at g3
    rw [turn1, hw]
    simp (disch := first | assumption | omega) [-execs_cons_, List.getElem?_cons_zero, le_SZ, lt_SZ, kIf_dt, kIf_df, kIf_bt, kIf_bf, g1, g2, t_w, g3]]
  have h2' : callF allD (k - 1) 44 [.lst (c.paths.map fun p => fr (g.chn p * wat g p))] = .ok (fr (c.val g)) := h2
  simp (disch := first | assumption | omega) [-execs_cons_, List.getElem?_cons_zero, le_SZ, lt_SZ, kIf_dt, kIf_df, kIf_bt, kIf_bf, h2']
/-- a path that goes on from another one -/
def badE (p s : List Nat) : Bool := decide (p ≠ s) && decide (p.take s.length = s)
def badL (p s : List Nat) : Bool := decide (p ≠ s) && decide (s.take p.length = p)
theorem blt_any_map {α : Type} (p : α → Bool) (l : List α) : bltT .any [.lst (l.map fun x => T.bl (p x))] = .ok (.bl (l.any p)) := by
  rw [blt_any_, boolsT_map p l]
  simp [List.any_map]
theorem add_rules (a b : C) (ha : a.paths.length ≤ 27) (hb : b.paths.length ≤ 27) : binop .add (ruleT a) (ruleT b) = .ok (.tup ((a.paths ++ b.paths).map pT)) := by
  have : a.paths.length + b.paths.length ≤ SZ := by
    have : SZ = 1000000 := rfl
    omega
  simp [ruleT, this]
theorem earlier_core {a b : T} {L m : List (List Nat)} (hk : 1 ≤ k) (hadd : binop .add a b = .ok (.tup (L.map pT))) (hl : L.length < 60) (hp : ∀ p ∈ L, p.length ≤ 60) (hm : Ris m) (h : ∀ p, p ∈ m ↔ p ∈ L ∧ L.any (badE p) = false) : callF allD k 64 [a, b] = .ok (.tup (m.map pT)) := by
  rw [call_k a_earlier rfl hk]
  simp (disch := first | assumption | omega) [-execs_cons_, List.getElem?_cons_zero, le_SZ, lt_SZ, kIf_dt, kIf_df, kIf_bt, kIf_bf, D_earlier]
  refine fin_rt (xs_for (l := L) (h := pT) (by simp (disch := first | assumption | omega) [-execs_cons_, List.getElem?_cons_zero, le_SZ, lt_SZ, kIf_dt, kIf_df, kIf_bt, kIf_bf, hadd]) (fun p e => ∃ c3, e = [.sh a, .sh b, .ow (.lst ((p.filter fun p => !L.any (badE p)).map pT)), c3, .un]) ⟨_, rfl⟩ (fun p x q e hl' hI => ?_) (fun e hI => ?_))
  · obtain ⟨c3, rfl⟩ := hI
    have hlen : (p.filter fun p => !L.any (badE p)).length < SZ := by
      have h1 := List.length_filter_le (fun p => !L.any (badE p)) p
      have h2 := congrArg List.length hl'
      rw [List.length_append, List.length_cons] at h2
      have : SZ = 1000000 := rfl
      omega
    have hany := blt_any_map (badE x) L
    refine .inl (Nx.out ?_)
    simp (disch := first | assumption | omega) [-execs_cons_, List.getElem?_cons_zero, le_SZ, lt_SZ, kIf_dt, kIf_df, kIf_bt, kIf_bf, hadd]
    rw [compL_l (l := L) (g := fun s => T.bl (badE x s)) fun s hs => by
      have s1 := slc_pT x s.length
      have s2 := len_pT s
      rw [turn1]
      by_cases e1 : x = s
      · subst e1
        simp (disch := first | assumption | omega) [-execs_cons_, List.getElem?_cons_zero, le_SZ, lt_SZ, kIf_dt, kIf_df, kIf_bt, kIf_bf, plain_pT, eqv_pT, badE]
      · simp (disch := first | assumption | omega) [-execs_cons_, List.getElem?_cons_zero, le_SZ, lt_SZ, kIf_dt, kIf_df, kIf_bt, kIf_bf, plain_pT, eqv_pT, badE, e1, s1, s2]]
    cases hx : L.any (badE x) with
    | true =>
      rw [hx] at hany
      simp (disch := first | assumption | omega) [-execs_cons_, List.getElem?_cons_zero, le_SZ, lt_SZ, kIf_dt, kIf_df, kIf_bt, kIf_bf, hany, -blt_any_, hx, List.filter_cons]
    | false =>
      rw [hx] at hany
      simp (disch := first | assumption | omega) [-execs_cons_, List.getElem?_cons_zero, le_SZ, lt_SZ, kIf_dt, kIf_df, kIf_bt, kIf_bf, hany, -blt_any_, hx, hlen, List.filter_cons]
  · obtain ⟨c3, rfl⟩ := hI
    have hss := sortedSet_l (l := L.filter fun p => !L.any (badE p)) (m := m) hm (fun p => by rw [h, List.mem_filter]; simp) (Nat.lt_of_le_of_lt (List.length_filter_le _ _) hl) (fun p hpl => hp p (List.mem_filter.mp hpl).1)
    generalize (L.filter fun p => !L.any (badE p)).map pT = zz at hss
    simp (disch := first | assumption | omega) [-execs_cons_, List.getElem?_cons_zero, le_SZ, lt_SZ, kIf_dt, kIf_df, kIf_bt, kIf_bf, hss]
theorem later_core {a b : T} {L m : List (List Nat)} (hk : 1 ≤ k) (hadd : binop .add a b = .ok (.tup (L.map pT))) (hl : L.length < 60) (hp : ∀ p ∈ L, p.length ≤ 60) (hm : Ris m) (h : ∀ p, p ∈ m ↔ p ∈ L ∧ L.any (badL p) = false) : callF allD k 65 [a, b] = .ok (.tup (m.map pT)) := by
  rw [call_k a_later_of rfl hk]
  simp (disch := first | assumption | omega) [-execs_cons_, List.getElem?_cons_zero, le_SZ, lt_SZ, kIf_dt, kIf_df, kIf_bt, kIf_bf, D_later_of]
  refine fin_rt (xs_for (l := L) (h := pT) (by simp (disch := first | assumption | omega) [-execs_cons_, List.getElem?_cons_zero, le_SZ, lt_SZ, kIf_dt, kIf_df, kIf_bt, kIf_bf, hadd]) (fun p e => ∃ c3, e = [.sh a, .sh b, .ow (.lst ((p.filter fun p => !L.any (badL p)).map pT)), c3, .un]) ⟨_, rfl⟩ (fun p x q e hl' hI => ?_) (fun e hI => ?_))
  · obtain ⟨c3, rfl⟩ := hI
    have hlen : (p.filter fun p => !L.any (badL p)).length < SZ := by
      have h1 := List.length_filter_le (fun p => !L.any (badL p)) p
      have h2 := congrArg List.length hl'
      rw [List.length_append, List.length_cons] at h2
      have : SZ = 1000000 := rfl
      omega
    have hany := blt_any_map (badL x) L
    refine .inl (Nx.out ?_)
    simp (disch := first | assumption | omega) [-execs_cons_, List.getElem?_cons_zero, le_SZ, lt_SZ, kIf_dt, kIf_df, kIf_bt, kIf_bf, hadd]
    rw [compL_l (l := L) (g := fun s => T.bl (badL x s)) fun s hs => by
      have s1 := slc_pT s x.length
      have s2 := len_pT x
      rw [turn1]
      by_cases e1 : x = s
      · subst e1
        simp (disch := first | assumption | omega) [-execs_cons_, List.getElem?_cons_zero, le_SZ, lt_SZ, kIf_dt, kIf_df, kIf_bt, kIf_bf, plain_pT, eqv_pT, badL]
      · simp (disch := first | assumption | omega) [-execs_cons_, List.getElem?_cons_zero, le_SZ, lt_SZ, kIf_dt, kIf_df, kIf_bt, kIf_bf, plain_pT, eqv_pT, badL, e1, s1, s2]]
    cases hx : L.any (badL x) with
    | true =>
      rw [hx] at hany
      simp (disch := first | assumption | omega) [-execs_cons_, List.getElem?_cons_zero, le_SZ, lt_SZ, kIf_dt, kIf_df, kIf_bt, kIf_bf, hany, -blt_any_, hx, List.filter_cons]
    | false =>
      rw [hx] at hany
      simp (disch := first | assumption | omega) [-execs_cons_, List.getElem?_cons_zero, le_SZ, lt_SZ, kIf_dt, kIf_df, kIf_bt, kIf_bf, hany, -blt_any_, hx, hlen, List.filter_cons]
  · obtain ⟨c3, rfl⟩ := hI
    have hss := sortedSet_l (l := L.filter fun p => !L.any (badL p)) (m := m) hm (fun p => by rw [h, List.mem_filter]; simp) (Nat.lt_of_le_of_lt (List.length_filter_le _ _) hl) (fun p hpl => hp p (List.mem_filter.mp hpl).1)
    generalize (L.filter fun p => !L.any (badL p)).map pT = zz at hss
    simp (disch := first | assumption | omega) [-execs_cons_, List.getElem?_cons_zero, le_SZ, lt_SZ, kIf_dt, kIf_df, kIf_bt, kIf_bf, hss]
theorem cut_path_len {n : Nat} {g : G} {c : C} (hg : g.ok n) (hn : n ≤ 4) (hc : c.ok g) : ∀ p ∈ c.paths, p.length ≤ 60 := fun p hp => by
  obtain ⟨h, e⟩ := cut_sub c g hc p hp
  have := (ok_sub hg e).1
  omega
theorem first_of_ok {n : Nat} {g : G} {a b : C} (hg : g.ok n) (hn : n ≤ 4) (hk : 12 ≤ k) (ha : a.ok g) (hb : b.ok g) : callF allD k 66 [g.t, ruleT a, ruleT b] = .ok (ruleT (C.meet a b)) := by
  have la := cut_len4 ha hg hn
  have lb := cut_len4 hb hg hn
  have hadd := add_rules a b la lb
  obtain ⟨hm, hmp⟩ := meet_paths a b g ha hb
  rw [call_k a_first_of rfl (by omega)]
  have h1 := look_rule_yes (k := k - 1) hg hn (by omega) ha
  have h2 := look_rule_yes (k := k - 1) hg hn (by omega) hb
  have h3 := earlier_core (k := k - 1) (m := (C.meet a b).paths) (by omega) hadd (by rw [List.length_append]; omega) (fun p hp => by
    rcases List.mem_append.mp hp with z | z
    · exact cut_path_len hg hn ha p z
    · exact cut_path_len hg hn hb p z) (ris_cut _) (fun p => by
    rw [hmp]
    unfold Up
    rw [List.mem_append, List.any_eq_false]
    refine and_congr_right fun _ => forall_congr' fun s => ?_
    rw [List.mem_append]
    refine imp_congr_right fun _ => ?_
    unfold badE
    by_cases e : p = s <;> simp [e])
  simp (disch := first | assumption | omega) [-execs_cons_, List.getElem?_cons_zero, le_SZ, lt_SZ, kIf_dt, kIf_df, kIf_bt, kIf_bf, D_first_of, h1, h2, h3]
  rfl
theorem last_of_ok {n : Nat} {g : G} {a b : C} (hg : g.ok n) (hn : n ≤ 4) (hk : 12 ≤ k) (ha : a.ok g) (hb : b.ok g) : callF allD k 67 [g.t, ruleT a, ruleT b] = .ok (ruleT (C.join a b)) := by
  have la := cut_len4 ha hg hn
  have lb := cut_len4 hb hg hn
  have hadd := add_rules a b la lb
  obtain ⟨hm, hmp⟩ := join_paths a b g ha hb
  rw [call_k a_last_of rfl (by omega)]
  have h1 := look_rule_yes (k := k - 1) hg hn (by omega) ha
  have h2 := look_rule_yes (k := k - 1) hg hn (by omega) hb
  have h3 := later_core (k := k - 1) (m := (C.join a b).paths) (by omega) hadd (by rw [List.length_append]; omega) (fun p hp => by
    rcases List.mem_append.mp hp with z | z
    · exact cut_path_len hg hn ha p z
    · exact cut_path_len hg hn hb p z) (ris_cut _) (fun p => by
    rw [hmp]
    unfold Dn
    rw [List.mem_append, List.any_eq_false]
    refine and_congr_right fun _ => forall_congr' fun s => ?_
    rw [List.mem_append]
    refine imp_congr_right fun _ => ?_
    unfold badL
    by_cases e : p = s <;> simp [e])
  simp (disch := first | assumption | omega) [-execs_cons_, List.getElem?_cons_zero, le_SZ, lt_SZ, kIf_dt, kIf_df, kIf_bt, kIf_bf, D_last_of, h1, h2, h3]
  rfl
/-- refusals -/
theorem first_nr1 {n m : Nat} {g : G} {t u : T} (hg : g.ok n) (hn : n ≤ 4) (hk : 12 ≤ k) (ht : t.plain m = true) (hl : ∀ xs, t = .tup xs → xs.length < 60) (h : ¬ IsRule g t) : callF allD k 66 [g.t, t, u] = .ex 3 := by
  rw [call_k a_first_of rfl (by omega)]
  have h1 := look_rule_no (k := k - 1) hg hn (by omega) ht hl h
  simp (disch := first | assumption | omega) [-execs_cons_, List.getElem?_cons_zero, le_SZ, lt_SZ, kIf_dt, kIf_df, kIf_bt, kIf_bf, D_first_of, h1]
theorem last_nr1 {n m : Nat} {g : G} {t u : T} (hg : g.ok n) (hn : n ≤ 4) (hk : 12 ≤ k) (ht : t.plain m = true) (hl : ∀ xs, t = .tup xs → xs.length < 60) (h : ¬ IsRule g t) : callF allD k 67 [g.t, t, u] = .ex 3 := by
  rw [call_k a_last_of rfl (by omega)]
  have h1 := look_rule_no (k := k - 1) hg hn (by omega) ht hl h
  simp (disch := first | assumption | omega) [-execs_cons_, List.getElem?_cons_zero, le_SZ, lt_SZ, kIf_dt, kIf_df, kIf_bt, kIf_bf, D_last_of, h1]
theorem first_nr2 {n m : Nat} {g : G} {t : T} {a : C} (hg : g.ok n) (hn : n ≤ 4) (hk : 12 ≤ k) (ha : a.ok g) (ht : t.plain m = true) (hl : ∀ xs, t = .tup xs → xs.length < 60) (h : ¬ IsRule g t) : callF allD k 66 [g.t, ruleT a, t] = .ex 3 := by
  rw [call_k a_first_of rfl (by omega)]
  have h0 := look_rule_yes (k := k - 1) hg hn (by omega) ha
  have h1 := look_rule_no (k := k - 1) hg hn (by omega) ht hl h
  simp (disch := first | assumption | omega) [-execs_cons_, List.getElem?_cons_zero, le_SZ, lt_SZ, kIf_dt, kIf_df, kIf_bt, kIf_bf, D_first_of, h0, h1]
theorem last_nr2 {n m : Nat} {g : G} {t : T} {a : C} (hg : g.ok n) (hn : n ≤ 4) (hk : 12 ≤ k) (ha : a.ok g) (ht : t.plain m = true) (hl : ∀ xs, t = .tup xs → xs.length < 60) (h : ¬ IsRule g t) : callF allD k 67 [g.t, ruleT a, t] = .ex 3 := by
  rw [call_k a_last_of rfl (by omega)]
  have h0 := look_rule_yes (k := k - 1) hg hn (by omega) ha
  have h1 := look_rule_no (k := k - 1) hg hn (by omega) ht hl h
  simp (disch := first | assumption | omega) [-execs_cons_, List.getElem?_cons_zero, le_SZ, lt_SZ, kIf_dt, kIf_df, kIf_bt, kIf_bf, D_last_of, h0, h1]
theorem first_ng {m : Nat} {b t u : T} (hk : 12 ≤ k) (hp : b.plain m = true) (hb : isG 4 b = false) : callF allD k 66 [b, t, u] = .ex 1 := by
  rw [call_k a_first_of rfl (by omega)]
  have h1 := look_rule_ng (k := k - 1) (t := t) (by omega) hp hb
  simp (disch := first | assumption | omega) [-execs_cons_, List.getElem?_cons_zero, le_SZ, lt_SZ, kIf_dt, kIf_df, kIf_bt, kIf_bf, D_first_of, h1]
theorem last_ng {m : Nat} {b t u : T} (hk : 12 ≤ k) (hp : b.plain m = true) (hb : isG 4 b = false) : callF allD k 67 [b, t, u] = .ex 1 := by
  rw [call_k a_last_of rfl (by omega)]
  have h1 := look_rule_ng (k := k - 1) (t := t) (by omega) hp hb
  simp (disch := first | assumption | omega) [-execs_cons_, List.getElem?_cons_zero, le_SZ, lt_SZ, kIf_dt, kIf_df, kIf_bt, kIf_bf, D_last_of, h1]
end
end Fz

/-! all rules, as the laws find them -/
namespace Fz
open PySem
theorem pathss_append : ∀ (a b : List C) (k : Nat), C.pathss k (a ++ b) = C.pathss k a ++ C.pathss (k + a.length) b
  | [], b, k => by simp [C.pathss]
  | c :: a, b, k => by
    rw [List.cons_append, C.pathss, C.pathss, pathss_append a b (k + 1), List.append_assoc, List.length_cons]
    congr 3
    omega
theorem pathss_snoc (cs : List C) (c : C) : C.pathss 0 (cs ++ [c]) = C.pathss 0 cs ++ c.paths.map (cs.length :: ·) := by
  rw [pathss_append, C.pathss, C.pathss, List.append_nil, Nat.zero_add]
def bigB : Nat → Nat
  | 0 => 1
  | n + 1 => 1 + bigB n ^ 3
theorem bigB_pos : ∀ n, 1 ≤ bigB n
  | 0 => Nat.le_refl _
  | n + 1 => by rw [bigB]; omega
theorem prods_len (m : Nat) : ∀ ws : List (Int × G), (∀ q ∈ ws, (cuts q.2).length ≤ m) → (prods ws).length ≤ m ^ ws.length
  | [], _ => by simp [prods]
  | q :: ws, h => by
    rw [prods_cons, List.length_flatMap, List.length_cons, Nat.pow_succ]
    have h1 := prods_len m ws fun r hr => h r (List.mem_cons_of_mem _ hr)
    have h2 := h q (List.mem_cons_self ..)
    have h3 : ((cuts q.2).map fun c => ((prods ws).map (c :: ·)).length).sum = (cuts q.2).length * (prods ws).length := by
      induction (cuts q.2) with
      | nil => simp
      | cons c l ih => rw [List.map_cons, List.sum_cons, ih, List.length_map, List.length_cons, Nat.succ_mul, Nat.add_comm]
    rw [h3, Nat.mul_comm]
    exact Nat.mul_le_mul h1 h2
theorem cuts_len : ∀ (n : Nat) (g : G), g.ok (n + 1) → (cuts g).length ≤ bigB n
  | n, g, h => by
    rw [cuts_eq, List.length_cons]
    by_cases e : g.ws = []
    · rw [if_pos e]
      have := bigB_pos n
      simpa using this
    · rw [if_neg e, List.length_map]
      cases n with
      | zero =>
        obtain ⟨q, hq⟩ := List.exists_mem_of_ne_nil _ e
        exact (ok_way h hq).2.elim
      | succ n =>
        have h1 := prods_len (bigB n) g.ws fun q hq => cuts_len n q.2 (ok_way h hq).2
        have h2 : bigB n ^ g.ws.length ≤ bigB n ^ 3 := Nat.pow_le_pow_right (bigB_pos n) h.2.1
        rw [bigB]
        omega
def rlT (c : C) : T := .lst (c.paths.map pT)
def psT (cs : List C) : T := .lst ((C.pathss 0 cs).map pT)
section
variable {k : Nat}
theorem rules_ok : ∀ {n : Nat} {g : G} {k : Nat}, g.ok n → n ≤ 4 → n + 1 ≤ k → callF allD k 50 [g.t] = .ok (.lst ((cuts g).map rlT))
  | 0, _, _, h, _, _ => h.elim
  | n + 1, g, k, h, hn, hk => by
    rw [call_k a__law_rules rfl (by omega)]
    simp (disch := first | assumption | omega) [-execs_cons_, List.getElem?_cons_zero, le_SZ, lt_SZ, kIf_dt, kIf_df, kIf_bt, kIf_bf, D__law_rules]
    have hB : bigB n ≤ 730 := by
      have : n = 0 ∨ n = 1 ∨ n = 2 ∨ n = 3 := by omega
      rcases this with rfl | rfl | rfl | rfl <;> decide
    refine fin_rt (xs_forE (l := g.ws) (h := wT) (by simp (disch := first | assumption | omega) [-execs_cons_, List.getElem?_cons_zero, le_SZ, lt_SZ, kIf_dt, kIf_df, kIf_bt, kIf_bf, lways_ok]) (fun a e => ∃ c3 c4 c5 c6 c9 c10, e = [.sh g.t, .sh (.lst [.lst [.tup []]]), .sh (.lst ((prods a).map psT)), c3, c4, c5, c6, .un, .un, c9, c10]) ⟨.un, .un, .un, .un, .un, .un, by simp [prods, psT, C.pathss]⟩ (fun p x q e hl hI => ?_) (fun e hI => ?_))
    · obtain ⟨c3, c4, c5, c6, c9, c10, rfl⟩ := hI
      have hx := ok_way h (q := x) (by rw [hl]; simp)
      have ih := rules_ok (k := k - 1) hx.2 (by omega) (by omega)
      obtain ⟨n, rfl⟩ : ∃ j, n = j + 1 := ⟨n - 1, by cases n with | zero => exact hx.2.elim | succ n => omega⟩
      have hcl := cuts_len n x.2 hx.2
      have hbn : bigB n ≤ 9 := by
        have : n = 0 ∨ n = 1 ∨ n = 2 := by omega
        rcases this with rfl | rfl | rfl <;> decide
      have hpl : (prods p).length ≤ 9 ^ 3 := by
        have h1 := prods_len 9 p fun r hr => Nat.le_trans (cuts_len n r.2 (ok_way h (by rw [hl]; simp [hr])).2) hbn
        refine Nat.le_trans h1 (Nat.pow_le_pow_right (by decide) ?_)
        have h2 := congrArg List.length hl
        rw [List.length_append, List.length_cons] at h2
        have := h.2.1
        omega
      have hlen : ∀ cs ∈ prods p, cs.length = p.length := fun cs hcs => (oks_get ((mem_prods cs p).mp hcs)).1
      have hpaths : ∀ c ∈ cuts x.2, ∀ r ∈ c.paths, r.length ≤ 1000 := fun c hc r hr => by
        obtain ⟨u, e⟩ := cut_sub c x.2 ((mem_cuts c x.2).mp hc) r hr
        have := (ok_sub hx.2 e).1
        omega
      have hcnt : ∀ c ∈ cuts x.2, c.paths.length ≤ 27 := fun c hc => cut_len4 ((mem_cuts c x.2).mp hc) hx.2 (by omega)
      have hcnt2 : ∀ cs ∈ prods p, (C.pathss 0 cs).length ≤ 100 := fun cs hcs => by
        have h1 := (mem_prods cs p).mp hcs
        obtain ⟨h2, h3⟩ := oks_get h1
        have h4 := pathss_len 27 cs 0 fun c hc => by
          obtain ⟨i, hi⟩ := List.getElem?_of_mem hc
          obtain ⟨r, h5, h6⟩ := h3 i c hi
          exact cut_len4 h6 (ok_way h (q := r) (by rw [hl]; exact List.mem_append_left _ (List.mem_of_getElem? h5))).2 (by omega)
        have h5 := congrArg List.length hl
        rw [List.length_append, List.length_cons] at h5
        have := h.2.1
        have : cs.length * 27 ≤ 3 * 27 := Nat.mul_le_mul_right _ (by omega)
        omega
      refine .inl (Nx.out ?_)
      simp (disch := first | assumption | omega) [-execs_cons_, List.getElem?_cons_zero, le_SZ, lt_SZ, kIf_dt, kIf_df, kIf_bt, kIf_bf, wT, ih]
      rw [compL_l (g := fun c => T.lst ((c.paths.map (p.length :: ·)).map pT)) fun c hc => by
        rw [turn1]
        simp (disch := first | assumption | omega) [-execs_cons_, List.getElem?_cons_zero, le_SZ, lt_SZ, kIf_dt, kIf_df, kIf_bt, kIf_bf, rlT]
        rw [compL_l (g := fun r => pT (p.length :: r)) fun r hr => by
          have := cons_pT p.length r (hpaths c hc r hr)
          rw [turn1]
          simp (disch := first | assumption | omega) [-execs_cons_, List.getElem?_cons_zero, le_SZ, lt_SZ, kIf_dt, kIf_df, kIf_bt, kIf_bf, this]]
        simp (disch := first | assumption | omega) [-execs_cons_, List.getElem?_cons_zero, le_SZ, lt_SZ, kIf_dt, kIf_df, kIf_bt, kIf_bf, ]]
      simp (disch := first | assumption | omega) [-execs_cons_, List.getElem?_cons_zero, le_SZ, lt_SZ, kIf_dt, kIf_df, kIf_bt, kIf_bf, ]
      refine Nx_for (l := prods p) (h := psT) (by simp (disch := first | assumption | omega) [-execs_cons_, List.getElem?_cons_zero, le_SZ, lt_SZ, kIf_dt, kIf_df, kIf_bt, kIf_bf, ]) (fun b e => ∃ c10, e = [.sh g.t, .sh (.lst [.lst [.tup []]]), .sh (.lst ((prods p).map psT)), .sh (.int (p.length : Nat)), .sh (.int x.1), .sh x.2.t, .sh (.lst ((cuts x.2).map fun c => T.lst ((c.paths.map (p.length :: ·)).map pT))), .un, .un, .ow (.lst ((b.flatMap fun cs => (cuts x.2).map fun c => cs ++ [c]).map psT)), c10]) ⟨c10, by simp [Function.comp_def]⟩ (fun b cs r e hb hI => ?_) (fun e hI => ?_)
      · obtain ⟨c10, rfl⟩ := hI
        have hcs : cs ∈ prods p := by rw [hb]; simp
        have hsz : ((b.flatMap fun cs => (cuts x.2).map fun c => cs ++ [c])).length + (cuts x.2).length ≤ SZ := by
          have h1 := flat_len (fun cs => (cuts x.2).map fun c => cs ++ [c]) 9 b fun y _ => by rw [List.length_map]; omega
          have h2 := congrArg List.length hb
          rw [List.length_append, List.length_cons] at h2
          have : SZ = 1000000 := rfl
          omega
        have hl2 := hlen cs hcs
        have hc2 := hcnt2 cs hcs
        refine Nx.out ?_
        simp (disch := first | assumption | omega) [-execs_cons_, List.getElem?_cons_zero, le_SZ, lt_SZ, kIf_dt, kIf_df, kIf_bt, kIf_bf, psT]
        rw [compL_l (l := cuts x.2) (g := fun c => psT (cs ++ [c])) fun c hc => by
          have h1 := hcnt c hc
          have : (C.pathss 0 cs).length + c.paths.length ≤ SZ := by
            have : SZ = 1000000 := rfl
            omega
          rw [turn1]
          unfold psT
          rw [pathss_snoc, hl2]
          simp (disch := first | assumption | omega) [-execs_cons_, List.getElem?_cons_zero, le_SZ, lt_SZ, kIf_dt, kIf_df, kIf_bt, kIf_bf, this]]
        obtain ⟨zz, hzz⟩ : ∃ zz, (b.flatMap fun cs => (cuts x.2).map fun c => cs ++ [c]).map psT = zz := ⟨_, rfl⟩
        have hz : zz.length + (cuts x.2).length ≤ SZ := by rw [← hzz, List.length_map]; exact hsz
        rw [hzz]
        simp (disch := first | assumption | omega) [-execs_cons_, List.getElem?_cons_zero, le_SZ, lt_SZ, kIf_dt, kIf_df, kIf_bt, kIf_bf, hz]
      · obtain ⟨c10, rfl⟩ := hI
        simp (disch := first | assumption | omega) [-execs_cons_, List.getElem?_cons_zero, le_SZ, lt_SZ, kIf_dt, kIf_df, kIf_bt, kIf_bf, prods_snoc]
    · obtain ⟨c3, c4, c5, c6, c9, c10, rfl⟩ := hI
      rw [cuts_eq]
      by_cases e : g.ws = []
      · have h2 : lenT g.t = .ok (.int 1) := by rw [t_len, e]; rfl
        simp (disch := first | assumption | omega) [-execs_cons_, List.getElem?_cons_zero, le_SZ, lt_SZ, kIf_dt, kIf_df, kIf_bt, kIf_bf, h2, e, rlT, stop_paths, pT_nil]
      · have h2 : lenT g.t = .ok (.int 2) := by rw [t_len]; cases hw : g.ws with | nil => exact absurd hw e | cons a r => rfl
        have h3 : 1 + (prods g.ws).length ≤ SZ := by
          have h1 := cuts_len n g h
          rw [cuts_eq, if_neg e, List.length_cons, List.length_map] at h1
          have : SZ = 1000000 := rfl
          omega
        have h4 : ((prods g.ws).map psT) = ((prods g.ws).map C.go).map rlT := by
          rw [List.map_map]
          refine List.map_congr_left fun cs _ => ?_
          show psT cs = rlT (.go cs)
          unfold psT rlT
          rw [go_paths]
        simp (disch := first | assumption | omega) [-execs_cons_, List.getElem?_cons_zero, le_SZ, lt_SZ, kIf_dt, kIf_df, kIf_bt, kIf_bf, h2, e, h3, h4, rlT, stop_paths, pT_nil]
end
end Fz

/-! two rules way by way, as the law finds them -/
namespace Fz
open PySem
theorem pre_take {e p : List Nat} (h : pre e p = true) : e.take p.length = p := eq_of_beq h
theorem pfx {g : G} {c : C} {e : List Nat} (hc : c.ok g) (he : IsEnd g e) : ∃ p, c.paths.filter (pre e) = [p] ∧ p ∈ c.paths ∧ pre e p = true ∧ ∀ q ∈ c.paths, pre e q = true → q = p := by
  have h := cut_once c g hc e he
  match hf : c.paths.filter (pre e), h with
  | [p], _ =>
    have hm : p ∈ c.paths.filter (pre e) := by rw [hf]; exact List.mem_singleton.mpr rfl
    obtain ⟨h1, h2⟩ := List.mem_filter.mp hm
    refine ⟨p, rfl, h1, h2, fun q hq hp => ?_⟩
    have : q ∈ c.paths.filter (pre e) := List.mem_filter.mpr ⟨hq, hp⟩
    rw [hf, List.mem_singleton] at this
    exact this
theorem pre_of_take {e p : List Nat} {n : Nat} (h : e.take n = p) : pre e p = true := by
  unfold pre
  rw [← h, List.length_take]
  by_cases hn : n ≤ e.length
  · rw [Nat.min_eq_left hn]; exact beq_self_eq_true _
  · rw [Nat.min_eq_right (by omega), List.take_of_length_le (Nat.le_refl _), List.take_of_length_le (by omega)]
    exact beq_self_eq_true _
theorem pre_le {e p q : List Nat} (hp : pre e p = true) (hq : pre e q = true) (h : q.length ≤ p.length) : p.take q.length = q := by
  have h1 := pre_take hp
  have h2 := pre_take hq
  rw [← h1, List.take_take, Nat.min_eq_left h]
  exact h2
theorem pre_len {e p q : List Nat} (hp : pre e p = true) (hq : pre e q = true) (h : q.length = p.length) : p = q := by
  rw [← pre_take hp, ← pre_take hq, h]
/-- where the one stops that stops sooner, and later -/
theorem up_place {g : G} {a b : C} {n : Nat} (hg : g.ok n) (ha : a.ok g) (hb : b.ok g) (p : List Nat) : Up a.paths b.paths p ↔ ∃ e pa pb, IsEnd g e ∧ a.paths.filter (pre e) = [pa] ∧ b.paths.filter (pre e) = [pb] ∧ p = e.take (min pa.length pb.length) := by
  constructor
  · rintro ⟨h1, h2⟩
    obtain ⟨u, hu⟩ : ∃ u, g.sub p = some u := by
      rcases h1 with h | h
      · exact cut_sub a g ha p h
      · exact cut_sub b g hb p h
    obtain ⟨x, hx⟩ := end_beyond hg hu
    obtain ⟨pa, a1, a2, a3, a4⟩ := pfx ha hx
    obtain ⟨pb, b1, b2, b3, b4⟩ := pfx hb hx
    have hpre := pre_append p x
    refine ⟨p ++ x, pa, pb, hx, a1, b1, ?_⟩
    rcases h1 with h | h
    · have e1 := a4 p h hpre
      subst e1
      by_cases hl : p.length ≤ pb.length
      · rw [Nat.min_eq_left hl, pre_take hpre]
      · have := h2 pb (.inr b2) (pre_le hpre b3 (by omega))
        rw [this] at hl
        omega
    · have e1 := b4 p h hpre
      subst e1
      by_cases hl : p.length ≤ pa.length
      · rw [Nat.min_eq_right hl, pre_take hpre]
      · have := h2 pa (.inl a2) (pre_le hpre a3 (by omega))
        rw [this] at hl
        omega
  · rintro ⟨e, pa, pb, he, a1, b1, rfl⟩
    obtain ⟨pa', a1', a2, a3, a4⟩ := pfx ha he
    obtain ⟨pb', b1', b2, b3, b4⟩ := pfx hb he
    rw [a1] at a1'; cases a1'
    rw [b1] at b1'; cases b1'
    have key : ∀ s, (s ∈ a.paths ∨ s ∈ b.paths) → pre e s = true → s = pa ∨ s = pb := fun s hs hp => by
      rcases hs with hs | hs
      · exact .inl (a4 s hs hp)
      · exact .inr (b4 s hs hp)
    have trans : ∀ {p s : List Nat}, pre e p = true → p.take s.length = s → pre e s = true := fun {p s} hp hs => by
      have h1 := pre_take hp
      have hl : s.length ≤ p.length := by
        have := congrArg List.length hs
        rw [List.length_take] at this
        omega
      rw [← h1, List.take_take, Nat.min_eq_left hl] at hs
      exact pre_of_take hs
    by_cases hl : pa.length ≤ pb.length
    · rw [Nat.min_eq_left hl, pre_take a3]
      refine ⟨.inl a2, fun s hs ht => ?_⟩
      rcases key s hs (trans a3 ht) with rfl | rfl
      · rfl
      · have := congrArg List.length ht
        rw [List.length_take] at this
        exact pre_len a3 b3 (by omega)
    · rw [Nat.min_eq_right (by omega), pre_take b3]
      refine ⟨.inr b2, fun s hs ht => ?_⟩
      rcases key s hs (trans b3 ht) with rfl | rfl
      · have := congrArg List.length ht
        rw [List.length_take] at this
        exact pre_len b3 a3 (by omega)
      · rfl
theorem dn_place {g : G} {a b : C} {n : Nat} (hg : g.ok n) (ha : a.ok g) (hb : b.ok g) (p : List Nat) : Dn a.paths b.paths p ↔ ∃ e pa pb, IsEnd g e ∧ a.paths.filter (pre e) = [pa] ∧ b.paths.filter (pre e) = [pb] ∧ p = e.take (max pa.length pb.length) := by
  constructor
  · rintro ⟨h1, h2⟩
    obtain ⟨u, hu⟩ : ∃ u, g.sub p = some u := by
      rcases h1 with h | h
      · exact cut_sub a g ha p h
      · exact cut_sub b g hb p h
    obtain ⟨x, hx⟩ := end_beyond hg hu
    obtain ⟨pa, a1, a2, a3, a4⟩ := pfx ha hx
    obtain ⟨pb, b1, b2, b3, b4⟩ := pfx hb hx
    have hpre := pre_append p x
    refine ⟨p ++ x, pa, pb, hx, a1, b1, ?_⟩
    rcases h1 with h | h
    · have e1 := a4 p h hpre
      subst e1
      by_cases hl : pb.length ≤ p.length
      · rw [Nat.max_eq_left hl, pre_take hpre]
      · have := h2 pb (.inr b2) (pre_le b3 hpre (by omega))
        rw [this] at hl
        omega
    · have e1 := b4 p h hpre
      subst e1
      by_cases hl : pa.length ≤ p.length
      · rw [Nat.max_eq_right hl, pre_take hpre]
      · have := h2 pa (.inl a2) (pre_le a3 hpre (by omega))
        rw [this] at hl
        omega
  · rintro ⟨e, pa, pb, he, a1, b1, rfl⟩
    obtain ⟨pa', a1', a2, a3, a4⟩ := pfx ha he
    obtain ⟨pb', b1', b2, b3, b4⟩ := pfx hb he
    rw [a1] at a1'; cases a1'
    rw [b1] at b1'; cases b1'
    by_cases hl : pb.length ≤ pa.length
    · rw [Nat.max_eq_left hl, pre_take a3]
      refine ⟨.inl a2, fun s hs ht => ?_⟩
      rcases hs with hs | hs
      · exact (anti a pa s a2 hs ht).symm
      · -- s of the other one goes on from pa, which goes on from pb
        have h1 : s.take pb.length = pb := by
          rw [← pre_le a3 b3 hl]
          conv => rhs; rw [← ht]
          rw [List.take_take, List.length_take]
        have h2 := anti b pb s b2 hs h1
        rw [h2] at ht ⊢
        have := congrArg List.length ht
        rw [List.length_take] at this
        exact pre_len a3 b3 (by omega)
    · rw [Nat.max_eq_right (by omega), pre_take b3]
      refine ⟨.inr b2, fun s hs ht => ?_⟩
      rcases hs with hs | hs
      · have h1 : s.take pa.length = pa := by
          rw [← pre_le b3 a3 (by omega)]
          conv => rhs; rw [← ht]
          rw [List.take_take, List.length_take]
        have h2 := anti a pa s a2 hs h1
        rw [h2] at ht ⊢
        have := congrArg List.length ht
        rw [List.length_take] at this
        exact pre_len b3 a3 (by omega)
      · exact (anti b pb s b2 hs ht).symm
theorem sort2 (x y : Nat) : bltT .sorted [.lst [.int x, .int y]] = .ok (.lst [.int (min x y : Nat), .int (max x y : Nat)]) := by
  have h : sortT [T.int x, T.int y] = [.int (min x y : Nat), .int (max x y : Nat)] := by
    have e : ltE (.int y) (.int x) = decide (y < x) := by
      unfold ltE
      rw [Bool.eq_iff_iff, decide_eq_true_iff, decide_eq_true_iff]
      show ([(y : Int)] < [(x : Int)]) ↔ _
      rw [List.cons_lt_cons_iff]
      simp
    show insT (.int x) (insT (.int y) []) = _
    rw [insT, insT, insT, e]
    by_cases h : y < x
    · rw [decide_eq_true h, if_pos rfl, Nat.min_eq_right (by omega), Nat.max_eq_left (by omega)]
    · rw [decide_eq_false h, if_neg (by decide), Nat.min_eq_left (by omega), Nat.max_eq_right (by omega)]
  show (if canSort [T.int x, T.int y] then Res.ok (T.lst (sortT [T.int x, T.int y])) else Res.no) = _
  rw [h, if_pos (by simp [canSort, pureTs, pureT, cmpb])]
end Fz

/-! the rule of all ends; paths rise; dicts by paths -/
namespace Fz
open PySem
/-! ### paths rise -/
theorem ris_walks : ∀ (ws : List (Int × G)) (k : Nat), (∀ q ∈ ws, Ris q.2.paths) → Ris ((ws.zipIdx k).flatMap fun q => q.1.2.paths.map (q.2 :: ·))
  | [], k, _ => List.Pairwise.nil
  | q :: ws, k, h => by
    rw [List.zipIdx_cons, List.flatMap_cons]
    refine List.pairwise_append.mpr ⟨ris_map k (h q (List.mem_cons_self ..)), ris_walks ws (k + 1) fun d hd => h d (List.mem_cons_of_mem _ hd), fun p hp r hr => ?_⟩
    obtain ⟨p', _, rfl⟩ := List.mem_map.mp hp
    obtain ⟨⟨s, j⟩, h1, h2⟩ := List.mem_flatMap.mp hr
    obtain ⟨r', _, rfl⟩ := List.mem_map.mp h2
    have := List.le_snd_of_mem_zipIdx h1
    have : k < j := by simp only at this; omega
    simp [plt, this]
theorem ris_paths : ∀ (n : Nat) (g : G), g.ok n → Ris g.paths
  | 0, _, h => h.elim
  | n + 1, g, h => by
    rw [paths_eq]
    refine List.pairwise_cons.mpr ⟨fun r hr => ?_, ris_walks g.ws 0 fun q hq => ris_paths n q.2 (ok_way h hq).2⟩
    obtain ⟨q, _, h2⟩ := List.mem_flatMap.mp hr
    obtain ⟨r', _, rfl⟩ := List.mem_map.mp h2
    rfl
theorem nodup_paths {n : Nat} {g : G} (h : g.ok n) : g.paths.Nodup := (ris_paths n g h).nodup
/-! ### dicts by paths -/
theorem keyOk_pT {p : List Nat} (h : p.length ≤ 60) : keyOk true (pT p) = true := by
  unfold pT keyOk
  simp only [List.length_map, Bool.and_eq_true, decide_eq_true_eq]
  exact ⟨by simp [intKey], h⟩
section
variable {α : Type}
theorem getD_map (f : α → List Nat) (v : α → T) : ∀ {l : List α} {x : α}, x ∈ l → (l.map f).Nodup → getD (l.map fun y => (pT (f y), v y)) (pT (f x)) = some (v x)
  | y :: l, x, hx, hn => by
    rw [List.map_cons, getD, eqv_pT]
    rw [List.map_cons, List.nodup_cons] at hn
    by_cases e : f y = f x
    · rw [if_pos (by simpa using e)]
      rcases List.mem_cons.mp hx with rfl | hx
      · rfl
      · exact absurd (e ▸ List.mem_map_of_mem hx) hn.1
    · rw [if_neg (by simpa using e)]
      rcases List.mem_cons.mp hx with rfl | hx
      · exact absurd rfl e
      · exact getD_map f v hx hn.2
theorem getD_none (f : α → List Nat) (v : α → T) (p : List Nat) : ∀ {l : List α}, (∀ x ∈ l, f x ≠ p) → getD (l.map fun y => (pT (f y), v y)) (pT p) = none
  | [], _ => rfl
  | y :: l, h => by
    rw [List.map_cons, getD, eqv_pT, if_neg (by simpa using h y (List.mem_cons_self ..))]
    exact getD_none f v p fun x hx => h x (List.mem_cons_of_mem _ hx)
theorem putD_new (f : α → List Nat) (v : α → T) (p : List Nat) (u : T) {l : List α} (h : ∀ x ∈ l, f x ≠ p) : putD (l.map fun y => (pT (f y), v y)) (pT p) u = (l.map fun y => (pT (f y), v y)) ++ [(pT p, u)] := by
  unfold putD
  rw [if_neg]
  intro hh
  obtain ⟨q, hq, e⟩ := List.any_eq_true.mp hh
  obtain ⟨x, hx, rfl⟩ := List.mem_map.mp hq
  rw [eqv_pT] at e
  exact h x hx (by simpa using e)
theorem pairs_map' (f : α → List Nat) (v : α → T) : ∀ (l a : List α), ((a ++ l).map f).Nodup → (∀ x ∈ l, (f x).length ≤ 60) → pairsD true (l.map fun x => T.tup [pT (f x), v x]) (a.map fun y => (pT (f y), v y)) = .ok ((a ++ l).map fun y => (pT (f y), v y))
  | [], a, _, _ => by rw [List.append_nil]; rfl
  | x :: l, a, hn, hl => by
    rw [List.map_cons, pairsD, if_pos (keyOk_pT (hl x (List.mem_cons_self ..))), putD_new f v (f x) (v x) (fun y hy e => ?_)]
    · have h1 := pairs_map' f v l (a ++ [x]) (by simpa using hn) fun y hy => hl y (List.mem_cons_of_mem _ hy)
      rw [List.map_append] at h1
      simpa using h1
    · rw [List.map_append, List.nodup_append] at hn
      exact hn.2.2 _ (List.mem_map_of_mem hy) _ (List.mem_map_of_mem (List.mem_cons_self ..)) e
theorem dict_map (f : α → List Nat) (v : α → T) {l : List α} (hn : (l.map f).Nodup) (hl : ∀ x ∈ l, (f x).length ≤ 60) : bltT (.dict true) [.lst (l.map fun x => T.tup [pT (f x), v x])] = .ok (.dct true (l.map fun y => (pT (f y), v y))) := by
  show (pairsD true (l.map fun x => T.tup [pT (f x), v x]) []).bind _ = _
  rw [show ([] : List (T × T)) = ([] : List α).map (fun y => (pT (f y), v y)) from rfl, pairs_map' f v l [] (by simpa using hn) hl]
  rfl
theorem dct_at (f : α → List Nat) (v : α → T) {l : List α} {x : α} (hx : x ∈ l) (hn : (l.map f).Nodup) (hl : (f x).length ≤ 60) : idxT (.dct true (l.map fun y => (pT (f y), v y))) (pT (f x)) = .ok (v x) := by
  show (if keyOk true (pT (f x)) then (match getD _ (pT (f x)) with | some t => Res.ok t | none => .no) else .no) = _
  rw [if_pos (keyOk_pT hl), getD_map f v hx hn]
end
/-! ### the rule of all ends -/
mutual
def endC : G → C
  | .mk _ ws => (match ws with | [] => .stop | q :: r => .go (endCs (q :: r)))
def endCs : List (Int × G) → List C
  | [] => []
  | (_, g) :: r => endC g :: endCs r
end
theorem endCs_eq : ∀ ws : List (Int × G), endCs ws = ws.map fun q => endC q.2
  | [] => by rw [endCs]; rfl
  | (w, g) :: r => by rw [endCs, endCs_eq r]; rfl
theorem endC_stop {g : G} (h : g.ws = []) : endC g = .stop := by
  cases g with
  | mk w ws =>
    have : ws = [] := h
    subst this
    simp [endC]
theorem endC_go {g : G} (h : g.ws ≠ []) : endC g = .go (g.ws.map fun q => endC q.2) := by
  cases g with
  | mk w ws =>
    cases ws with
    | nil => exact absurd rfl h
    | cons q r => rw [endC, endCs_eq]; rfl
theorem endC_ok : ∀ (n : Nat) (g : G), g.ok n → (endC g).ok g
  | 0, _, h => h.elim
  | n + 1, g, h => by
    by_cases e : g.ws = []
    · rw [endC_stop e]; exact ok_stop' g
    · rw [endC_go e]
      refine ok_go.mpr ⟨e, oks_of (by simp) fun i c q h1 h2 => ?_⟩
      rw [List.getElem?_map, h2] at h1
      cases h1
      exact endC_ok n q.2 (ok_way h (List.mem_of_getElem? h2)).2
theorem isEnd_eq (g : G) : g.walk.filter isEnd = endR g := rfl
theorem endC_paths : ∀ (n : Nat) (g : G), g.ok n → (endC g).paths = (endR g).map (·.1)
  | 0, _, h => h.elim
  | n + 1, g, h => by
    by_cases e : g.ws = []
    · rw [endC_stop e, endR_stop e, stop_paths]; rfl
    · rw [endC_go e, endR_go e, go_paths]
      have key : ∀ (l : List (Int × G)) (k : Nat), (∀ q ∈ l, q ∈ g.ws) → C.pathss k (l.map fun q => endC q.2) = ((l.zipIdx k).flatMap fun q => (endR q.1.2).map (stepRow (tot g.ws) q)).map (·.1) := by
        intro l
        induction l with
        | nil => intro k _; rfl
        | cons q l ih =>
          intro k hl
          rw [List.map_cons, C.pathss, List.zipIdx_cons, List.flatMap_cons, List.map_append, ih (k + 1) fun r hr => hl r (List.mem_cons_of_mem _ hr), endC_paths n q.2 (ok_way h (hl q (List.mem_cons_self ..))).2, List.map_map, List.map_map]
          rfl
      exact key g.ws 0 fun q hq => hq
/-- what a game comes to at its ends -/
def G.mean (g : G) : Rat := (endC g).val g
theorem mean_stop {g : G} (h : g.ws = []) : g.mean = g.w := by unfold G.mean; rw [endC_stop h, val_stop]
theorem vals_map (t : Int) (f : G → C) : ∀ ws : List (Int × G), C.vals t (ws.map fun q => f q.2) ws = sumQ (ws.map fun q => ((q.1 : Rat) / (t : Rat)) * (f q.2).val q.2)
  | [] => by simp [C.vals, sumQ]
  | q :: ws => by rw [List.map_cons, C.vals, vals_map t f ws, List.map_cons, sumQ]
theorem mean_go {g : G} (h : g.ws ≠ []) : g.mean = sumQ (g.ws.map fun q => ((q.1 : Rat) / (tot g.ws : Rat)) * q.2.mean) := by
  unfold G.mean
  rw [endC_go h, val_go, vals_map]
end Fz

/-! means, all rules, truths within -/
namespace Fz
open PySem
theorem compL_f {f : T → Res (Option T)} {p : T → Bool} {xs : List T} (h : ∀ x ∈ xs, f x = .ok (if p x then some x else none)) : compL f xs = .ok (xs.filter p) := by
  have := compL_lf (l := xs) (h := id) (g := id) (p := p) (f := f) h
  simpa using this
theorem eqvs_nil_r' (l : List T) : T.eqvs l [] = l.isEmpty := by cases l <;> simp
theorem zipT_map {α : Type} (f g : α → T) : ∀ l : List α, zipT (l.map f) (l.map g) = l.map fun x => T.tup [f x, g x]
  | [] => rfl
  | x :: l => by rw [List.map_cons, List.map_cons, zipT, zipT_map f g l]; rfl
theorem plains_filter {xs : List T} {n : Nat} (p : T → Bool) (h : T.plains xs n = true) : T.plains (xs.filter p) n = true := by
  induction xs with
  | nil => simp
  | cons x xs ih =>
    rw [plains_cons_, Bool.and_eq_true] at h
    rw [List.filter_cons]
    split
    · rw [plains_cons_, h.1, ih h.2]; rfl
    · exact ih h.2
section
variable {k : Nat}
theorem val_sz' {n : Nat} {g : G} {c : C} (hg : g.ok n) (hn : n ≤ 4) (hc : c.ok g) : Sz 800 (c.val g) := by
  rw [← val_sum c g hc]
  have h := Sz.sum (j := 26) (qs := c.paths.map fun p => g.chn p * wat g p) fun q hq => by
    obtain ⟨p, hp, rfl⟩ := List.mem_map.mp hq
    obtain ⟨h, e⟩ := cut_sub c g hc p hp
    obtain ⟨_, hh⟩ := ok_sub hg e
    have hw : wat g p = (h.w : Rat) := by unfold wat; rw [e]
    rw [hw]
    obtain ⟨m, hm⟩ : ∃ j, n - p.length = j + 1 := ⟨n - p.length - 1, by have := (ok_sub hg e).1; omega⟩
    rw [hm] at hh
    exact ((chn_sz hg e).mul (sz_int hh.1.1 hh.1.2)).mono (by omega)
  refine h.mono ?_
  rw [List.length_map]
  have := cut_len4 hc hg hn
  omega
theorem mean_sz {n : Nat} {g : G} (hg : g.ok n) (hn : n ≤ 4) : Sz 800 g.mean := val_sz' hg hn (endC_ok n g hg)
/-! ### what a rule comes to, as the laws reckon -/
theorem lmean_core {n : Nat} {g : G} {t : T} {ps : List (List Nat)} (hg : g.ok n) (hn : n ≤ 4) (hk : 8 ≤ k) (hi : itemsT .seq [t] = .ok (ps.map pT)) (hp : ∀ p ∈ ps, ∃ h, g.sub p = some h) (hl : ps.length ≤ 100) :
    callF allD k 51 [g.t, t] = .ok (fr (sumQ (ps.map fun p => g.chn p * wat g p))) := by
  rw [call_k a__law_mean rfl (by omega)]
  have hw := walk_ok (k := k - 1) hg (by omega) (by omega)
  have hnd : (g.walk.map (·.1)).Nodup := nodup_paths hg
  have hd : bltT (.dict true) [.lst (g.walk.map fun x => T.tup [pT x.1, T.tup [x.2.1.t, fr x.2.2]])] = .ok (.dct true (g.walk.map fun x => (pT x.1, T.tup [x.2.1.t, fr x.2.2]))) := dict_map (fun x : Row => x.1) (fun x => T.tup [x.2.1.t, fr x.2.2]) hnd (fun x hx => by have := row_len hg hx; omega)
  have hat : ∀ p h, g.sub p = some h → idxT (.dct true (g.walk.map fun x => (pT x.1, T.tup [x.2.1.t, fr x.2.2]))) (pT p) = .ok (T.tup [h.t, fr (g.chn p)]) := fun p h e =>
    dct_at (x := (p, h, g.chn p)) (fun x : Row => x.1) (fun x => T.tup [x.2.1.t, fr x.2.2]) ((mem_walk _ _ _ _).mpr ⟨e, rfl⟩) hnd (by have := (ok_sub hg e).1; show p.length ≤ 60; omega)
  have hs : ∀ p ∈ ps, Sz 26 (g.chn p * wat g p) := fun p hpp => by
    obtain ⟨h, e⟩ := hp p hpp
    obtain ⟨_, hh⟩ := ok_sub hg e
    have hw : wat g p = (h.w : Rat) := by unfold wat; rw [e]
    rw [hw]
    obtain ⟨m, hm⟩ : ∃ j, n - p.length = j + 1 := ⟨n - p.length - 1, by have := (ok_sub hg e).1; omega⟩
    rw [hm] at hh
    exact ((chn_sz hg e).mul (sz_int hh.1.1 hh.1.2)).mono (by omega)
  have h2 := sum' (k := k - 1) (by omega) (j := 26) (qs := ps.map fun p => g.chn p * wat g p) (fun q hq => by
    obtain ⟨p, hp, rfl⟩ := List.mem_map.mp hq
    exact hs p hp) (by
    rw [List.length_map]
    omega) (by decide)
  rw [List.map_map] at h2
  have h2' : callF allD (k - 1) 14 [.lst (ps.map fun p => fr (g.chn p * wat g p))] = .ok (fr (sumQ (ps.map fun p => g.chn p * wat g p))) := h2
  simp (disch := first | assumption | omega) [-execs_cons_, List.getElem?_cons_zero, le_SZ, lt_SZ, kIf_dt, kIf_df, kIf_bt, kIf_bf, D__law_mean, hw]
  rw [compL_l (g := fun x : Row => T.tup [pT x.1, T.tup [x.2.1.t, fr x.2.2]]) fun x hx => by rw [turn1]; simp (disch := first | assumption | omega) [-execs_cons_, List.getElem?_cons_zero, le_SZ, lt_SZ, kIf_dt, kIf_df, kIf_bt, kIf_bf, rowT]]
  simp (disch := first | assumption | omega) [-execs_cons_, List.getElem?_cons_zero, le_SZ, lt_SZ, kIf_dt, kIf_df, kIf_bt, kIf_bf, hd, hi]
  rw [compL_l (l := ps) (g := fun p => fr (g.chn p * wat g p)) fun p hpp => by
    obtain ⟨h, e⟩ := hp p hpp
    obtain ⟨_, hh⟩ := ok_sub hg e
    have hw : wat g p = (h.w : Rat) := by unfold wat; rw [e]
    obtain ⟨m, hm⟩ : ∃ j, n - p.length = j + 1 := ⟨n - p.length - 1, by have := (ok_sub hg e).1; omega⟩
    rw [hm] at hh
    have g1 := hat p h e
    have g3 := prod' (k := k - 1) (by omega) (sz_ok1 (chn_sz hg e) (by omega)) (sz_ok1 (sz_int hh.1.1 hh.1.2) (by decide))
    rw [fr_int] at g3
    rw [turn1, hw]
    simp (disch := first | assumption | omega) [-execs_cons_, List.getElem?_cons_zero, le_SZ, lt_SZ, kIf_dt, kIf_df, kIf_bt, kIf_bf, g1, t_w, g3]]
  simp (disch := first | assumption | omega) [-execs_cons_, List.getElem?_cons_zero, le_SZ, lt_SZ, kIf_dt, kIf_df, kIf_bt, kIf_bf, h2']
theorem lmean_rule {n : Nat} {g : G} {c : C} (hg : g.ok n) (hn : n ≤ 4) (hk : 8 ≤ k) (hc : c.ok g) : callF allD k 51 [g.t, ruleT c] = .ok (fr (c.val g)) := by
  rw [lmean_core hg hn hk (t := ruleT c) (ps := c.paths) rfl (cut_sub c g hc) (by have := cut_len4 hc hg hn; omega), val_sum c g hc]
theorem lmean_list {n : Nat} {g : G} {c : C} (hg : g.ok n) (hn : n ≤ 4) (hk : 8 ≤ k) (hc : c.ok g) : callF allD k 51 [g.t, .lst (c.paths.map pT)] = .ok (fr (c.val g)) := by
  rw [lmean_core hg hn hk (t := .lst (c.paths.map pT)) (ps := c.paths) rfl (cut_sub c g hc) (by have := cut_len4 hc hg hn; omega), val_sum c g hc]
/-! ### truths within -/
mutual
def hasT : T → Bool
  | .bl _ => true
  | .tup xs => hasTs xs
  | _ => false
def hasTs : List T → Bool
  | [] => false
  | x :: xs => hasT x || hasTs xs
end
theorem hasTs_eq : ∀ xs : List T, hasTs xs = xs.any hasT
  | [] => by rw [hasTs]; rfl
  | x :: xs => by rw [hasTs, hasTs_eq xs]; rfl
theorem filter_any {p : T → Bool} (xs : List T) : (xs.filter p).isEmpty = !xs.any p := by
  induction xs with
  | nil => rfl
  | cons x xs ih =>
    rw [List.filter_cons, List.any_cons]
    cases p x
    · simpa using ih
    · rfl
theorem has_truth_ok : ∀ (n : Nat) {k : Nat} {t : T}, t.plain n = true → n ≤ 60 → n + 1 ≤ k → callF allD k 54 [t] = .ok (.bl (hasT t))
  | n, k, .tup xs, hp, hn, hk => by
    obtain ⟨m, rfl, hx⟩ := plain_of_tup hp
    have h60 : T.plains xs 59 = true := by
      have := plain_mono _ _ 60 hp hn
      rwa [plain_tup_] at this
    have hf := plains_filter hasT h60
    have hl : hasT (.tup xs) = !(xs.filter hasT).isEmpty := by rw [hasT, hasTs_eq, filter_any, Bool.not_not]
    rw [hl, call_k a__law_has_truth rfl (by omega)]
    simp (disch := first | assumption | omega) [-execs_cons_, List.getElem?_cons_zero, le_SZ, lt_SZ, kIf_dt, kIf_df, kIf_bt, kIf_bf, D__law_has_truth]
    rw [compL_f (p := hasT) fun x hx' => by
      have := has_truth_ok m (k := k - 1) (plains_mem hx hx') (by omega) (by omega)
      rw [turn1]
      simp (disch := first | assumption | omega) [-execs_cons_, List.getElem?_cons_zero, le_SZ, lt_SZ, kIf_dt, kIf_df, kIf_bt, kIf_bf, this]
      cases hasT x <;> rfl]
    simp (disch := first | assumption | omega) [-execs_cons_, List.getElem?_cons_zero, le_SZ, lt_SZ, kIf_dt, kIf_df, kIf_bt, kIf_bf, hf, eqvs_nil_r']
  | n, k, .non, hp, hn, hk => by rw [call_k a__law_has_truth rfl (by omega)]; simp (disch := first | assumption | omega) [-execs_cons_, List.getElem?_cons_zero, le_SZ, lt_SZ, kIf_dt, kIf_df, kIf_bt, kIf_bf, D__law_has_truth, hasT]
  | n, k, .bl b, hp, hn, hk => by rw [call_k a__law_has_truth rfl (by omega)]; simp (disch := first | assumption | omega) [-execs_cons_, List.getElem?_cons_zero, le_SZ, lt_SZ, kIf_dt, kIf_df, kIf_bt, kIf_bf, D__law_has_truth, hasT]
  | n, k, .int i, hp, hn, hk => by rw [call_k a__law_has_truth rfl (by omega)]; simp (disch := first | assumption | omega) [-execs_cons_, List.getElem?_cons_zero, le_SZ, lt_SZ, kIf_dt, kIf_df, kIf_bt, kIf_bf, D__law_has_truth, hasT]
  | n, k, .str x, hp, hn, hk => by rw [call_k a__law_has_truth rfl (by omega)]; simp (disch := first | assumption | omega) [-execs_cons_, List.getElem?_cons_zero, le_SZ, lt_SZ, kIf_dt, kIf_df, kIf_bt, kIf_bf, D__law_has_truth, hasT]
  | n, k, .lst xs, hp, hn, hk => by rw [call_k a__law_has_truth rfl (by omega)]; simp (disch := first | assumption | omega) [-execs_cons_, List.getElem?_cons_zero, le_SZ, lt_SZ, kIf_dt, kIf_df, kIf_bt, kIf_bf, D__law_has_truth, hasT]
  | n, k, .dct a b, hp, hn, hk => by simp [T.plain] at hp
  | n, k, .fn f, hp, hn, hk => by simp [T.plain] at hp
  | n, k, .exc c, hp, hn, hk => by simp [T.plain] at hp
mutual
theorem eqvP_ : ∀ (x y : T) (n : Nat), pureT x n = true → hasT y = false → T.eqv x y = true → y = x
  | .int i, y, n, _, hy, e => by
    cases y with
    | int j => rw [eqv_ii_] at e; rw [eq_of_beq e]
    | bl b => simp [hasT] at hy
    | _ => simp [T.eqv] at e
  | .tup xs, y, n, hp, hy, e => by
    cases y with
    | tup ys =>
      rw [eqv_tt_] at e
      cases n with
      | zero => simp [pureT] at hp
      | succ n =>
        rw [pureT] at hp
        rw [hasT] at hy
        rw [eqvsP_ xs ys n hp hy e]
    | _ => simp [T.eqv] at e
  | .non, y, n, hp, _, _ => by simp [pureT] at hp
  | .bl b, y, n, hp, _, _ => by simp [pureT] at hp
  | .str x, y, n, hp, _, _ => by simp [pureT] at hp
  | .lst xs, y, n, hp, _, _ => by simp [pureT] at hp
  | .dct a b, y, n, hp, _, _ => by simp [pureT] at hp
  | .fn f, y, n, hp, _, _ => by simp [pureT] at hp
  | .exc c, y, n, hp, _, _ => by simp [pureT] at hp
theorem eqvsP_ : ∀ (xs ys : List T) (n : Nat), pureTs xs n = true → hasTs ys = false → T.eqvs xs ys = true → ys = xs
  | [], ys, n, _, _, e => by
    cases ys with
    | nil => rfl
    | cons y ys => simp at e
  | x :: xs, ys, n, hp, hy, e => by
    cases ys with
    | nil => simp at e
    | cons y ys =>
      rw [eqvs_cons_, Bool.and_eq_true] at e
      rw [pureTs, Bool.and_eq_true] at hp
      rw [hasTs, Bool.or_eq_false_iff] at hy
      rw [eqvP_ x y n hp.1 hy.1 e.1, eqvsP_ xs ys n hp.2 hy.2 e.2]
end
theorem hasT_pT (p : List Nat) : hasT (pT p) = false := by
  unfold pT
  rw [hasT, hasTs_eq]
  induction p with
  | nil => rfl
  | cons i p ih => rw [List.map_cons, List.any_cons, ih]; simp [hasT]
theorem hasT_rule (c : C) : hasT (ruleT c) = false := by
  unfold ruleT
  rw [hasT, hasTs_eq, List.any_eq_false]
  intro x hx
  obtain ⟨p, _, rfl⟩ := List.mem_map.mp hx
  rw [hasT_pT]
  exact Bool.false_ne_true
theorem pure_rule' (c : C) (n : Nat) : pureT (ruleT c) (n + 2) = true := by
  unfold ruleT
  rw [pureT]
  exact pureTs_map fun p _ => pure_pT' p n
theorem in_rules {g : G} {t : T} (h : inT t ((cuts g).map ruleT) = true) (ht : hasT t = false) : IsRule g t := by
  unfold inT at h
  obtain ⟨y, hy, e⟩ := List.any_eq_true.mp h
  obtain ⟨c, hc, rfl⟩ := List.mem_map.mp hy
  exact ⟨c, (mem_cuts _ _).mp hc, eqvP_ _ _ 2 (pure_rule' c 0) ht e⟩
theorem in_self {t : T} {l : List T} {n : Nat} (h : t ∈ l) (hp : t.plain n = true) : inT t l = true := by
  unfold inT
  exact List.any_eq_true.mpr ⟨t, h, eqv_self t n hp⟩
theorem rule_in {g : G} {c : C} (hc : c.ok g) : inT (ruleT c) ((cuts g).map ruleT) = true := in_self (List.mem_map_of_mem ((mem_cuts _ _).mpr hc)) (plain_rule c 0)
theorem plains_rules (g : G) (n : Nat) : T.plains ((cuts g).map ruleT) (n + 2) = true := plains_map fun c _ => plain_rule c n
/-- whether a thing is a rule, as the laws find -/
theorem lis_rule_ok {n m : Nat} {g : G} {t : T} (hg : g.ok n) (hn : n ≤ 4) (ht : t.plain m = true) (hm : m ≤ 30) (hk : 33 ≤ k) : ∃ b, callF allD k 53 [g.t, t] = .ok (.bl b) ∧ (b = true ↔ IsRule g t) := by
  have hr := rules_ok (k := k - 1) hg hn (by omega)
  have h1 := has_truth_ok m (k := k - 1) ht (by omega) (by omega)
  have h60 := plain_mono _ _ 60 ht (by omega)
  have hpr := plains_rules g 58
  rw [call_k a__law_is_rule rfl (by omega)]
  by_cases htu : ∃ xs, t = .tup xs
  · obtain ⟨xs, rfl⟩ := htu
    cases hh : hasT (.tup xs) with
    | true =>
      rw [hh] at h1
      refine ⟨false, by simp (disch := first | assumption | omega) [-execs_cons_, List.getElem?_cons_zero, le_SZ, lt_SZ, kIf_dt, kIf_df, kIf_bt, kIf_bf, D__law_is_rule, h1], by simp, fun ⟨c, _, e⟩ => ?_⟩
      rw [e, hasT_rule] at hh
      cases hh
    | false =>
      rw [hh] at h1
      refine ⟨inT (.tup xs) ((cuts g).map ruleT), ?_, fun h => in_rules h hh, fun ⟨c, hc, e⟩ => by rw [e]; exact rule_in hc⟩
      rw [plain_tup_] at h60
      simp (disch := first | assumption | omega) [-execs_cons_, List.getElem?_cons_zero, le_SZ, lt_SZ, kIf_dt, kIf_df, kIf_bt, kIf_bf, D__law_is_rule, h1, hr]
      rw [compL_l (g := ruleT) fun c hc => by
        have h1 := sorted_l (ris_cut c) (ris_cut c).nodup fun p => Iff.rfl
        rw [turn1]
        simp (disch := first | assumption | omega) [-execs_cons_, List.getElem?_cons_zero, le_SZ, lt_SZ, kIf_dt, kIf_df, kIf_bt, kIf_bf, rlT, h1]
        rfl]
      simp (disch := first | assumption | omega) [-execs_cons_, List.getElem?_cons_zero, le_SZ, lt_SZ, kIf_dt, kIf_df, kIf_bt, kIf_bf, h60, hpr]
  · have h2 := ntup (fun ws e => htu ⟨ws, e⟩) ht
    refine ⟨false, by simp (disch := first | assumption | omega) [-execs_cons_, List.getElem?_cons_zero, le_SZ, lt_SZ, kIf_dt, kIf_df, kIf_bt, kIf_bf, D__law_is_rule, h2], by simp, fun ⟨c, _, e⟩ => ?_⟩
    exact absurd ⟨_, e⟩ htu
/-- whether it is, asked -/
theorem is_rule_ok {n m : Nat} {g : G} {t : T} (hg : g.ok n) (hn : n ≤ 4) (hk : 10 ≤ k) (ht : t.plain m = true) (hl : ∀ xs, t = .tup xs → xs.length < 60) : ∃ b, callF allD k 47 [g.t, t] = .ok (.bl b) ∧ (b = true ↔ IsRule g t) := by
  have h1 := look_game_ok (k := k - 1) (by omega) hg hn
  rw [call_k a_is_rule rfl (by omega)]
  by_cases h : IsRule g t
  · obtain ⟨c, hc, rfl⟩ := h
    have h2 := is_rule_of_yes (k := k - 1) hg hn (by omega) hc
    exact ⟨true, by simp (disch := first | assumption | omega) [-execs_cons_, List.getElem?_cons_zero, le_SZ, lt_SZ, kIf_dt, kIf_df, kIf_bt, kIf_bf, D_is_rule, h1, h2], ⟨fun _ => ⟨c, hc, rfl⟩, fun _ => rfl⟩⟩
  · have h2 := is_rule_of_no (k := k - 1) hg hn (by omega) ht hl h
    exact ⟨false, by simp (disch := first | assumption | omega) [-execs_cons_, List.getElem?_cons_zero, le_SZ, lt_SZ, kIf_dt, kIf_df, kIf_bt, kIf_bf, D_is_rule, h1, h2], ⟨fun z => (nomatch z), fun z => absurd z h⟩⟩
theorem is_rule_ng {m : Nat} {b t : T} (hk : 10 ≤ k) (hp : b.plain m = true) (hb : isG 4 b = false) : callF allD k 47 [b, t] = .ex 1 := by
  have h1 := look_game_t (k := k - 1) (by omega) hp
  rw [if_neg (by simp [hb])] at h1
  rw [call_k a_is_rule rfl (by omega)]
  simp (disch := first | assumption | omega) [-execs_cons_, List.getElem?_cons_zero, le_SZ, lt_SZ, kIf_dt, kIf_df, kIf_bt, kIf_bf, D_is_rule, h1]
theorem mean_of_no {n m : Nat} {g : G} {t : T} (hg : g.ok n) (hn : n ≤ 4) (hk : 12 ≤ k) (ht : t.plain m = true) (hl : ∀ xs, t = .tup xs → xs.length < 60) (h : ¬ IsRule g t) : callF allD k 49 [g.t, t] = .ex 3 := by
  have h1 := look_rule_no (k := k - 1) hg hn (by omega) ht hl h
  rw [call_k a_mean_of rfl (by omega)]
  simp (disch := first | assumption | omega) [-execs_cons_, List.getElem?_cons_zero, le_SZ, lt_SZ, kIf_dt, kIf_df, kIf_bt, kIf_bf, D_mean_of, h1]
theorem mean_of_ng {m : Nat} {b t : T} (hk : 12 ≤ k) (hp : b.plain m = true) (hb : isG 4 b = false) : callF allD k 49 [b, t] = .ex 1 := by
  have h1 := look_rule_ng (k := k - 1) (t := t) (by omega) hp hb
  rw [call_k a_mean_of rfl (by omega)]
  simp (disch := first | assumption | omega) [-execs_cons_, List.getElem?_cons_zero, le_SZ, lt_SZ, kIf_dt, kIf_df, kIf_bt, kIf_bf, D_mean_of, h1]
/-- the rules, as tuples -/
theorem rules_sorted {F : Fns} {env : Cells} {g : G} {i : Nat} (hi : i < env.length) : compL (turn1 F (.blt .tuple [.blt .sorted [.var i]]) (.nm i) [] [i] env) ((cuts g).map rlT) = .ok ((cuts g).map ruleT) :=
  compL_l fun c hc => by
    have h1 := sorted_l (ris_cut c) (ris_cut c).nodup fun p => Iff.rfl
    have h2 : i < (env.set i .un).length := by rw [List.length_set]; exact hi
    rw [turn1]
    simp [rlT, h1, hi]
    rfl
theorem plain_fr (q : Rat) (n : Nat) : (fr q).plain (n + 1) = true := by unfold fr; simp
theorem eqv_fr (q : Rat) : T.eqv (fr q) (fr q) = true := eqv_self _ 1 (plain_fr q 0)
end
end Fz

/-! all rules, how many, means -/
namespace Fz
open PySem
theorem bigB_le {n : Nat} (h : n ≤ 3) : bigB n ≤ 730 := by
  have : n = 0 ∨ n = 1 ∨ n = 2 ∨ n = 3 := by omega
  rcases this with rfl | rfl | rfl | rfl <;> decide
theorem bigB_le2 {n : Nat} (h : n ≤ 2) : bigB n ≤ 9 := by
  have : n = 0 ∨ n = 1 ∨ n = 2 := by omega
  rcases this with rfl | rfl | rfl <;> decide
theorem rules_of_ok : ∀ {n : Nat} {g : G} {k : Nat}, g.ok n → n ≤ 4 → n + 1 ≤ k → callF allD k 58 [g.t] = .ok (.lst ((cuts g).map rlT))
  | 0, _, _, h, _, _ => h.elim
  | n + 1, g, k, h, hn, hk => by
    rw [call_k a_rules_of rfl (by omega)]
    have hB : bigB n ≤ 730 := bigB_le (by omega)
    have hie := is_end_ok (k := k - 1) (g := g) (by omega)
    by_cases e : g.ws = []
    · rw [cuts_eq, if_pos e]
      have e' : g.ws.isEmpty = true := by rw [e]; rfl
      rw [e'] at hie
      simp (disch := first | assumption | omega) [-execs_cons_, List.getElem?_cons_zero, le_SZ, lt_SZ, kIf_dt, kIf_df, kIf_bt, kIf_bf, D_rules_of, hie, rlT, stop_paths, pT_nil]
    have e' : g.ws.isEmpty = false := by cases hw : g.ws with | nil => exact absurd hw e | cons a r => rfl
    rw [e'] at hie
    simp (disch := first | assumption | omega) [-execs_cons_, List.getElem?_cons_zero, le_SZ, lt_SZ, kIf_dt, kIf_df, kIf_bt, kIf_bf, D_rules_of, hie]
    refine fin_rt (xs_forE (l := g.ws) (h := wT) (by simp (disch := first | assumption | omega) [-execs_cons_, List.getElem?_cons_zero, le_SZ, lt_SZ, kIf_dt, kIf_df, kIf_bt, kIf_bf, ways_of_ok]) (fun a e => ∃ c3 c4 c5 c6 c7, e = [.sh g.t, .sh (.lst [.lst [.tup []]]), .sh (.lst ((prods a).map psT)), c3, c4, c5, c6, c7, .un, .un]) ⟨.un, .un, .un, .un, .un, by simp [prods, psT, C.pathss]⟩ (fun p x q e hl hI => ?_) (fun e hI => ?_))
    · obtain ⟨c3, c4, c5, c6, c7, rfl⟩ := hI
      have hx := ok_way h (q := x) (by rw [hl]; simp)
      have ih := rules_of_ok (k := k - 1) hx.2 (by omega) (by omega)
      obtain ⟨n, rfl⟩ : ∃ j, n = j + 1 := ⟨n - 1, by cases n with | zero => exact hx.2.elim | succ n => omega⟩
      have hcl := cuts_len n x.2 hx.2
      have hbn : bigB n ≤ 9 := bigB_le2 (by omega)
      have hpl : (prods p).length ≤ 9 ^ 3 := by
        have h1 := prods_len 9 p fun r hr => Nat.le_trans (cuts_len n r.2 (ok_way h (by rw [hl]; simp [hr])).2) hbn
        refine Nat.le_trans h1 (Nat.pow_le_pow_right (by decide) ?_)
        have h2 := congrArg List.length hl
        rw [List.length_append, List.length_cons] at h2
        have := h.2.1
        omega
      have hlen : ∀ cs ∈ prods p, cs.length = p.length := fun cs hcs => (oks_get ((mem_prods cs p).mp hcs)).1
      have hpaths : ∀ c ∈ cuts x.2, ∀ r ∈ c.paths, r.length ≤ 1000 := fun c hc r hr => by
        obtain ⟨u, e⟩ := cut_sub c x.2 ((mem_cuts c x.2).mp hc) r hr
        have := (ok_sub hx.2 e).1
        omega
      have hcnt : ∀ c ∈ cuts x.2, c.paths.length ≤ 27 := fun c hc => cut_len4 ((mem_cuts c x.2).mp hc) hx.2 (by omega)
      have hcnt2 : ∀ cs ∈ prods p, (C.pathss 0 cs).length ≤ 100 := fun cs hcs => by
        have h1 := (mem_prods cs p).mp hcs
        obtain ⟨h2, h3⟩ := oks_get h1
        have h4 := pathss_len 27 cs 0 fun c hc => by
          obtain ⟨i, hi⟩ := List.getElem?_of_mem hc
          obtain ⟨r, h5, h6⟩ := h3 i c hi
          exact cut_len4 h6 (ok_way h (q := r) (by rw [hl]; exact List.mem_append_left _ (List.mem_of_getElem? h5))).2 (by omega)
        have h5 := congrArg List.length hl
        rw [List.length_append, List.length_cons] at h5
        have := h.2.1
        have : cs.length * 27 ≤ 3 * 27 := Nat.mul_le_mul_right _ (by omega)
        omega
      refine .inl (Nx.out ?_)
      simp (disch := first | assumption | omega) [-execs_cons_, List.getElem?_cons_zero, le_SZ, lt_SZ, kIf_dt, kIf_df, kIf_bt, kIf_bf, wT]
      refine Nx_for (l := prods p) (h := psT) (by simp (disch := first | assumption | omega) [-execs_cons_, List.getElem?_cons_zero, le_SZ, lt_SZ, kIf_dt, kIf_df, kIf_bt, kIf_bf, ]) (fun b e => ∃ c7, e = [.sh g.t, .sh (.lst [.lst [.tup []]]), .sh (.lst ((prods p).map psT)), .sh (.int (p.length : Nat)), .sh (.int x.1), .sh x.2.t, .ow (.lst ((b.flatMap fun cs => (cuts x.2).map fun c => cs ++ [c]).map psT)), c7, .un, .un]) ⟨c7, by simp [Function.comp_def]⟩ (fun b cs r e hb hI => ?_) (fun e hI => ?_)
      · obtain ⟨c7, rfl⟩ := hI
        have hcs : cs ∈ prods p := by rw [hb]; simp
        have hsz : ((b.flatMap fun cs => (cuts x.2).map fun c => cs ++ [c])).length + (cuts x.2).length ≤ SZ := by
          have h1 := flat_len (fun cs => (cuts x.2).map fun c => cs ++ [c]) 9 b fun y _ => by rw [List.length_map]; omega
          have h2 := congrArg List.length hb
          rw [List.length_append, List.length_cons] at h2
          have : SZ = 1000000 := rfl
          omega
        have hl2 := hlen cs hcs
        have hc2 := hcnt2 cs hcs
        refine Nx.out ?_
        simp (disch := first | assumption | omega) [-execs_cons_, List.getElem?_cons_zero, le_SZ, lt_SZ, kIf_dt, kIf_df, kIf_bt, kIf_bf, ih]
        rw [compL_l (l := cuts x.2) (h := rlT) (g := fun c => psT (cs ++ [c])) fun c hc => by
          have h1 := hcnt c hc
          have : (C.pathss 0 cs).length + c.paths.length ≤ SZ := by
            have : SZ = 1000000 := rfl
            omega
          rw [turn1]
          simp (disch := first | assumption | omega) [-execs_cons_, List.getElem?_cons_zero, le_SZ, lt_SZ, kIf_dt, kIf_df, kIf_bt, kIf_bf, psT, rlT]
          rw [compL_l (g := fun r => pT (p.length :: r)) fun r hr => by
            have := cons_pT p.length r (hpaths c hc r hr)
            rw [turn1]
            simp (disch := first | assumption | omega) [-execs_cons_, List.getElem?_cons_zero, le_SZ, lt_SZ, kIf_dt, kIf_df, kIf_bt, kIf_bf, this]]
          simp (disch := first | assumption | omega) [-execs_cons_, List.getElem?_cons_zero, le_SZ, lt_SZ, kIf_dt, kIf_df, kIf_bt, kIf_bf, this, pathss_snoc, hl2]]
        obtain ⟨zz, hzz⟩ : ∃ zz, (b.flatMap fun cs => (cuts x.2).map fun c => cs ++ [c]).map psT = zz := ⟨_, rfl⟩
        have hz : zz.length + (cuts x.2).length ≤ SZ := by rw [← hzz, List.length_map]; exact hsz
        rw [hzz]
        simp (disch := first | assumption | omega) [-execs_cons_, List.getElem?_cons_zero, le_SZ, lt_SZ, kIf_dt, kIf_df, kIf_bt, kIf_bf, hz]
      · obtain ⟨c7, rfl⟩ := hI
        simp (disch := first | assumption | omega) [-execs_cons_, List.getElem?_cons_zero, le_SZ, lt_SZ, kIf_dt, kIf_df, kIf_bt, kIf_bf, prods_snoc]
    · obtain ⟨c3, c4, c5, c6, c7, rfl⟩ := hI
      rw [cuts_eq]
      have h3 : 1 + (prods g.ws).length ≤ SZ := by
        have h1 := cuts_len n g h
        rw [cuts_eq, if_neg e, List.length_cons, List.length_map] at h1
        have : SZ = 1000000 := rfl
        omega
      have h4 : ((prods g.ws).map psT) = ((prods g.ws).map C.go).map rlT := by
        rw [List.map_map]
        refine List.map_congr_left fun cs _ => ?_
        show psT cs = rlT (.go cs)
        unfold psT rlT
        rw [go_paths]
      simp (disch := first | assumption | omega) [-execs_cons_, List.getElem?_cons_zero, le_SZ, lt_SZ, kIf_dt, kIf_df, kIf_bt, kIf_bf, e, h3, h4, rlT, stop_paths, pT_nil]
/-! ### sorted rules -/
theorem cmpbs_pT : ∀ (a b : List (List Nat)), cmpbs (a.map pT) (b.map pT) = true
  | [], _ => by simp [cmpbs]
  | _ :: _, [] => by simp [cmpbs]
  | p :: a, q :: b => by rw [List.map_cons, List.map_cons, cmpbs, cmpb_pT, cmpbs_pT a b]; rfl
theorem canSort_rules (l : List C) : canSort (l.map ruleT) = true := by
  unfold canSort
  rw [Bool.and_eq_true]
  refine ⟨pureTs_map fun c _ => pure_rule' c 18, ?_⟩
  refine List.all_eq_true.mpr fun x hx => List.all_eq_true.mpr fun y hy => ?_
  obtain ⟨c, _, rfl⟩ := List.mem_map.mp hx
  obtain ⟨d, _, rfl⟩ := List.mem_map.mp hy
  unfold ruleT
  rw [cmpb]
  exact cmpbs_pT _ _
theorem mem_insT {x y : T} : ∀ {l : List T}, y ∈ insT x l ↔ y = x ∨ y ∈ l
  | [] => by simp [insT]
  | z :: l => by
    rw [insT]
    split
    · rw [List.mem_cons, mem_insT (l := l), List.mem_cons]
      constructor
      · rintro (h | h | h)
        · exact .inr (.inl h)
        · exact .inl h
        · exact .inr (.inr h)
      · rintro (h | h | h)
        · exact .inr (.inl h)
        · exact .inl h
        · exact .inr (.inr h)
    · rw [List.mem_cons]
theorem mem_sortT {y : T} : ∀ {l : List T}, y ∈ sortT l ↔ y ∈ l
  | [] => by simp [sortT]
  | x :: l => by rw [sortT, mem_insT, mem_sortT (l := l), List.mem_cons]
theorem len_insT (x : T) : ∀ l : List T, (insT x l).length = l.length + 1
  | [] => rfl
  | y :: l => by
    rw [insT]
    split
    · rw [List.length_cons, len_insT x l, List.length_cons]
    · rfl
theorem len_sortT : ∀ l : List T, (sortT l).length = l.length
  | [] => rfl
  | x :: l => by rw [sortT, len_insT, len_sortT l, List.length_cons]
theorem plains_sortT {l : List T} {n : Nat} (h : T.plains l n = true) : T.plains (sortT l) n = true := by
  have key : ∀ m : List T, (∀ x ∈ m, x.plain n = true) → T.plains m n = true := fun m hm => by
    have := plains_map (f := id) (l := m) (m := n) hm
    simpa using this
  exact key _ fun x hx => plains_mem h (mem_sortT.mp hx)
section
variable {k : Nat}
theorem sorted_rules (l : List C) : bltT .sorted [.lst (l.map ruleT)] = .ok (.lst (sortT (l.map ruleT))) := by
  show (if canSort (l.map ruleT) then Res.ok (T.lst (sortT (l.map ruleT))) else .no) = _
  rw [if_pos (canSort_rules l)]
theorem all_rules_ok {n : Nat} {g : G} (hg : g.ok n) (hn : n ≤ 4) (hk : 9 ≤ k) : callF allD k 59 [g.t] = .ok (.lst (sortT ((cuts g).map ruleT))) := by
  have h1 := look_game_ok (k := k - 1) (by omega) hg hn
  have h2 := rules_of_ok (k := k - 1) hg hn (by omega)
  have h3 := sorted_rules (cuts g)
  rw [call_k a_all_rules rfl (by omega)]
  simp (disch := first | assumption | omega) [-execs_cons_, List.getElem?_cons_zero, le_SZ, lt_SZ, kIf_dt, kIf_df, kIf_bt, kIf_bf, D_all_rules, h1, h2]
  rw [rules_sorted (by simp)]
  simp (disch := first | assumption | omega) [-execs_cons_, List.getElem?_cons_zero, le_SZ, lt_SZ, kIf_dt, kIf_df, kIf_bt, kIf_bf, h3]
theorem prods_len_snoc (a : List (Int × G)) (q : Int × G) : (prods (a ++ [q])).length = (prods a).length * (cuts q.2).length := by
  rw [prods_snoc, List.length_flatMap]
  induction (prods a) with
  | nil => simp
  | cons c l ih => rw [List.map_cons, List.sum_cons, ih, List.length_map, List.length_cons, Nat.succ_mul, Nat.add_comm]
theorem how_many_ok : ∀ {n : Nat} {g : G} {k : Nat}, g.ok n → n ≤ 4 → n + 1 ≤ k → callF allD k 56 [g.t] = .ok (.int ((cuts g).length : Nat))
  | 0, _, _, h, _, _ => h.elim
  | n + 1, g, k, h, hn, hk => by
    rw [call_k a_how_many rfl (by omega)]
    have hie := is_end_ok (k := k - 1) (g := g) (by omega)
    by_cases e : g.ws = []
    · rw [cuts_eq, if_pos e]
      have e' : g.ws.isEmpty = true := by rw [e]; rfl
      rw [e'] at hie
      simp (disch := first | assumption | omega) [-execs_cons_, List.getElem?_cons_zero, le_SZ, lt_SZ, kIf_dt, kIf_df, kIf_bt, kIf_bf, D_how_many, hie]
    have e' : g.ws.isEmpty = false := by cases hw : g.ws with | nil => exact absurd hw e | cons a r => rfl
    rw [e'] at hie
    simp (disch := first | assumption | omega) [-execs_cons_, List.getElem?_cons_zero, le_SZ, lt_SZ, kIf_dt, kIf_df, kIf_bt, kIf_bf, D_how_many, hie]
    refine fin_rt (xs_for (l := g.ws) (h := wT) (by simp (disch := first | assumption | omega) [-execs_cons_, List.getElem?_cons_zero, le_SZ, lt_SZ, kIf_dt, kIf_df, kIf_bt, kIf_bf, ways_of_ok]) (fun a e => ∃ c2 c3, e = [.sh g.t, .sh (.int ((prods a).length : Nat)), c2, c3]) ⟨.un, .un, by simp [prods]⟩ (fun p x q e hl hI => ?_) (fun e hI => ?_))
    · obtain ⟨c2, c3, rfl⟩ := hI
      have hx := ok_way h (q := x) (by rw [hl]; simp)
      have ih := how_many_ok (k := k - 1) hx.2 (by omega) (by omega)
      obtain ⟨n, rfl⟩ : ∃ j, n = j + 1 := ⟨n - 1, by cases n with | zero => exact hx.2.elim | succ n => omega⟩
      have hcl := cuts_len n x.2 hx.2
      have hbn : bigB n ≤ 9 := bigB_le2 (by omega)
      have m1 : mulOk ((prods p).length : Nat) ((cuts x.2).length : Nat) = true := mulOk_r (by omega)
      have h2 : (((prods p).length * (cuts x.2).length : Nat) : Int) = ((prods p).length : Int) * ((cuts x.2).length : Int) := Int.natCast_mul ..
      refine .inl (Nx.out ?_)
      simp (disch := first | assumption | omega) [-execs_cons_, List.getElem?_cons_zero, le_SZ, lt_SZ, kIf_dt, kIf_df, kIf_bt, kIf_bf, wT, ih, m1, prods_len_snoc, h2]
    · obtain ⟨c2, c3, rfl⟩ := hI
      rw [cuts_eq, if_neg e]
      simp (disch := first | assumption | omega) [-execs_cons_, List.getElem?_cons_zero, le_SZ, lt_SZ, kIf_dt, kIf_df, kIf_bt, kIf_bf, ]
theorem how_many_rules_ok {n : Nat} {g : G} (hg : g.ok n) (hn : n ≤ 4) (hk : 9 ≤ k) : callF allD k 57 [g.t] = .ok (.int ((cuts g).length : Nat)) := by
  have h1 := look_game_ok (k := k - 1) (by omega) hg hn
  have h2 := how_many_ok (k := k - 1) hg hn (by omega)
  rw [call_k a_how_many_rules rfl (by omega)]
  simp (disch := first | assumption | omega) [-execs_cons_, List.getElem?_cons_zero, le_SZ, lt_SZ, kIf_dt, kIf_df, kIf_bt, kIf_bf, D_how_many_rules, h1, h2]
theorem mean_in_ok : ∀ {n : Nat} {g : G} {k : Nat}, g.ok n → n ≤ 4 → n + 6 ≤ k → callF allD k 60 [g.t] = .ok (fr g.mean)
  | 0, _, _, h, _, _ => h.elim
  | n + 1, g, k, h, hn, hk => by
    rw [call_k a_mean_in rfl (by omega)]
    have hie := is_end_ok (k := k - 1) (g := g) (by omega)
    by_cases e : g.ws = []
    · rw [mean_stop e, fr_int]
      have e' : g.ws.isEmpty = true := by rw [e]; rfl
      rw [e'] at hie
      simp (disch := first | assumption | omega) [-execs_cons_, List.getElem?_cons_zero, le_SZ, lt_SZ, kIf_dt, kIf_df, kIf_bt, kIf_bf, D_mean_in, hie, t_w]
    have e' : g.ws.isEmpty = false := by cases hw : g.ws with | nil => exact absurd hw e | cons a r => rfl
    rw [e'] at hie
    have hsh := shares_of_ok (k := k - 1) h (by omega)
    have ht := tot_pos h e
    have hzip := zipT_map wT (fun p : Int × G => fr ((p.1 : Rat) / (tot g.ws : Rat))) g.ws
    obtain ⟨hh, hhh⟩ : ∃ hh : Int × G → T, hh = fun p => T.tup [wT p, fr ((p.1 : Rat) / (tot g.ws : Rat))] := ⟨_, rfl⟩
    rw [← hhh] at hzip
    have sz1 : ∀ q ∈ g.ws, Sz 805 (((q.1 : Rat) / (tot g.ws : Rat)) * q.2.mean) := fun q hq => by
      have hx := ok_way h hq
      exact ((sz_way hx.1 ht).mul (mean_sz hx.2 (by omega))).mono (by omega)
    simp (disch := first | assumption | omega) [-execs_cons_, List.getElem?_cons_zero, le_SZ, lt_SZ, kIf_dt, kIf_df, kIf_bt, kIf_bf, D_mean_in, hie]
    refine fin_rt (xs_for (l := g.ws) (h := hh) (by simp (disch := first | assumption | omega) [-execs_cons_, List.getElem?_cons_zero, le_SZ, lt_SZ, kIf_dt, kIf_df, kIf_bt, kIf_bf, ways_of_ok, hsh, hzip]) (fun a e => ∃ c2 c3 c4, e = [.sh g.t, .sh (fr (sumQ (a.map fun q => ((q.1 : Rat) / (tot g.ws : Rat)) * q.2.mean))), c2, c3, c4]) ⟨.un, .un, .un, rfl⟩ (fun p x q e hl hI => ?_) (fun e hI => ?_))
    · obtain ⟨c2, c3, c4, rfl⟩ := hI
      have hm : x ∈ g.ws := by rw [hl]; simp
      have hx := ok_way h hm
      have ih := mean_in_ok (k := k - 1) hx.2 (by omega) (by omega)
      have t1 := times' (k := k - 1) (by omega) (sz_ok1 (sz_way hx.1 ht) (by decide)) (sz_ok1 (mean_sz hx.2 (by omega)) (by decide))
      have hsum : Sz 3000 (sumQ (p.map fun q => ((q.1 : Rat) / (tot g.ws : Rat)) * q.2.mean)) := by
        have h1 := Sz.sum (j := 805) (qs := p.map fun q => ((q.1 : Rat) / (tot g.ws : Rat)) * q.2.mean) fun q hq => by
          obtain ⟨r, hr, rfl⟩ := List.mem_map.mp hq
          exact sz1 r (by rw [hl]; exact List.mem_append_left _ hr)
        refine h1.mono ?_
        rw [List.length_map]
        have h2 := congrArg List.length hl
        rw [List.length_append, List.length_cons] at h2
        have := h.2.1
        have : p.length * (805 + 1) ≤ 2 * (805 + 1) := Nat.mul_le_mul_right _ (by omega)
        omega
      have t2 := plus' (k := k - 1) (by omega) (sz_ok1 hsum (by decide)) (sz_ok1 (sz1 x hm) (by decide))
      refine .inl (Nx.out ?_)
      rw [hhh]
      simp (disch := first | assumption | omega) [-execs_cons_, List.getElem?_cons_zero, le_SZ, lt_SZ, kIf_dt, kIf_df, kIf_bt, kIf_bf, wT, ih, t1, t2, sumQ_append, sumQ, Rat.add_zero]
    · obtain ⟨c2, c3, c4, rfl⟩ := hI
      simp (disch := first | assumption | omega) [-execs_cons_, List.getElem?_cons_zero, le_SZ, lt_SZ, kIf_dt, kIf_df, kIf_bt, kIf_bf, mean_go e]
theorem means_ok {n : Nat} {g : G} (hg : g.ok n) (hn : n ≤ 4) (hk : 12 ≤ k) : callF allD k 61 [g.t] = .ok (.lst (g.walk.map fun x => T.tup [pT x.1, fr x.2.1.mean])) := by
  have h1 := look_game_ok (k := k - 1) (by omega) hg hn
  have h2 := paths_of_ok (k := k - 1) hg (by omega) (by omega)
  rw [call_k a_means rfl (by omega)]
  simp (disch := first | assumption | omega) [-execs_cons_, List.getElem?_cons_zero, le_SZ, lt_SZ, kIf_dt, kIf_df, kIf_bt, kIf_bf, D_means, h1, h2]
  rw [show g.paths.map pT = g.walk.map fun x => pT x.1 from paths_rows g]
  rw [compL_l (g := fun x : Row => T.tup [pT x.1, fr x.2.1.mean]) fun x hx => by
    obtain ⟨p, h, c⟩ := x
    obtain ⟨e, _⟩ := (mem_walk _ _ _ _).mp hx
    have hs := ok_sub hg e
    have h3 := part_of_ok (k := k - 1) (by omega) e
    have h4 := mean_in_ok (k := k - 1) hs.2 (by omega) (by omega)
    rw [turn1]
    simp (disch := first | assumption | omega) [-execs_cons_, List.getElem?_cons_zero, le_SZ, lt_SZ, kIf_dt, kIf_df, kIf_bt, kIf_bf, h3, h4]]
  simp (disch := first | assumption | omega) [-execs_cons_, List.getElem?_cons_zero, le_SZ, lt_SZ, kIf_dt, kIf_df, kIf_bt, kIf_bf, ]
theorem all_rules_ng {m : Nat} {b : T} (hk : 9 ≤ k) (hp : b.plain m = true) (hb : isG 4 b = false) : callF allD k 59 [b] = .ex 1 := by
  have h1 := look_game_t (k := k - 1) (by omega) hp
  rw [if_neg (by simp [hb])] at h1
  rw [call_k a_all_rules rfl (by omega)]
  simp (disch := first | assumption | omega) [-execs_cons_, List.getElem?_cons_zero, le_SZ, lt_SZ, kIf_dt, kIf_df, kIf_bt, kIf_bf, D_all_rules, h1]
theorem how_many_rules_ng {m : Nat} {b : T} (hk : 9 ≤ k) (hp : b.plain m = true) (hb : isG 4 b = false) : callF allD k 57 [b] = .ex 1 := by
  have h1 := look_game_t (k := k - 1) (by omega) hp
  rw [if_neg (by simp [hb])] at h1
  rw [call_k a_how_many_rules rfl (by omega)]
  simp (disch := first | assumption | omega) [-execs_cons_, List.getElem?_cons_zero, le_SZ, lt_SZ, kIf_dt, kIf_df, kIf_bt, kIf_bf, D_how_many_rules, h1]
theorem means_ng {m : Nat} {b : T} (hk : 9 ≤ k) (hp : b.plain m = true) (hb : isG 4 b = false) : callF allD k 61 [b] = .ex 1 := by
  have h1 := look_game_t (k := k - 1) (by omega) hp
  rw [if_neg (by simp [hb])] at h1
  rw [call_k a_means rfl (by omega)]
  simp (disch := first | assumption | omega) [-execs_cons_, List.getElem?_cons_zero, le_SZ, lt_SZ, kIf_dt, kIf_df, kIf_bt, kIf_bf, D_means, h1]
end
end Fz

/-! the body of the law: printed by gen.py -/
namespace Fz
open PySem
def I_law_k11 : Nat := 63
def D_law_k11 : Def := ⟨1, 15, [(.asg (.nm 1) (.call 10 [(.var 0), (.cst (.int 3))])), (.asg (.nm 2) (.blt .sorted [(.comp (.blt .tuple [(.blt .sorted [(.var 3)])]) (.nm 3) .seq [(.call 50 [(.var 1)])] [] [3])])), (.ifS (.bor (.cmp .ne (.call 62 [(.cst (.int 0)), (.var 1)]) (.var 2)) (.cmp .ne (.call 62 [(.cst (.int 1)), (.var 1)]) (.len (.var 2)))) [(.ret (.cst (.bl false)))] []), (.forS (.nm 4) .rng1 [(.blt .min2 [(.cst (.int 4)), (.len (.var 2))])] [(.asg (.nm 3) (.idx (.var 2) (.call 8 [(.var 0), (.bin .add (.cst (.int 9000)) (.var 4)), (.len (.var 2))]))), (.ifS (.cmp .ne (.call 49 [(.var 1), (.var 3)]) (.call 51 [(.var 1), (.var 3)])) [(.ret (.cst (.bl false)))] [])]), (.own 5 (.lst [])), (.forS (.tp [(.nm 6), (.nm 7), (.nm 8)]) .seq [(.call 12 [(.var 1)])] [(.asg (.nm 9) (.comp (.idx (.var 10) (.cst (.int 0))) (.nm 10) .seq [(.call 12 [(.var 7)])] [(.cmp .eq (.len (.idx (.var 10) (.cst (.int 1)))) (.cst (.int 1)))] [10])), (.app 5 (.tup [(.var 6), (.call 51 [(.var 7), (.var 9)])]))]), (.ifS (.bor (.cmp .ne (.call 62 [(.cst (.int 2)), (.var 1)]) (.var 5)) (.cmp .ne (.call 49 [(.var 1), (.blt .tuple [(.blt .sorted [(.call 34 [(.var 1)])])])]) (.idx (.idxV 5 (.cst (.int 0))) (.cst (.int 1))))) [(.ret (.cst (.bl false)))] []), (.asg (.nm 11) (.call 10 [(.comp (.bin .add (.var 12) (.cst (.int 1))) (.nm 12) .seq [(.var 0)] [] [12]), (.cst (.int 4))])), (.ifS (.bor (.cmp .lt (.call 57 [(.var 11)]) (.cst (.int 1))) (.band (.cmp .lt (.len (.call 12 [(.var 11)])) (.cst (.int 20))) (.cmp .ne (.call 57 [(.var 11)]) (.len (.call 50 [(.var 11)]))))) [(.ret (.cst (.bl false)))] []), (.asg (.nm 13) (.call 18 [(.var 0), (.cst (.int 9050)), (.var 1)])), (.ret (.bor (.call 20 [(.var 13), (.cst (.int 4))]) (.cmp .eq (.comp (.call 62 [(.var 14), (.var 13)]) (.nm 14) .rng1 [(.cst (.int 3))] [] [14]) (.bin .mul (.lst [(.cst (.str "no game"))]) (.cst (.int 3))))))]⟩
end Fz

/-! law k11, by the evaluator -/
namespace Fz
open PySem
theorem str_ng (n : Nat) : T.plain (.str "no game") n = true := by
  have : PyData.strOk ("no game" : Str) = true := by decide +kernel
  simpa [T.plain] using this
theorem str_eq (x : Str) : T.eqv (.str x) (.str x) = true := by simp [T.eqv]
section
variable {k : Nat}
theorem do4_0 {n : Nat} {g : G} (hg : g.ok n) (hn : n ≤ 4) (hk : 14 ≤ k) : callF allD k 62 [.int 0, g.t] = .ok (.lst (sortT ((cuts g).map ruleT))) := by
  have h := all_rules_ok (k := k - 1) hg hn (by omega)
  rw [call_k a__law_do_v4 rfl (by omega)]
  simp (disch := first | assumption | omega) [-execs_cons_, List.getElem?_cons_zero, le_SZ, lt_SZ, kIf_dt, kIf_df, kIf_bt, kIf_bf, D__law_do_v4, h, isSame]
theorem do4_1 {n : Nat} {g : G} (hg : g.ok n) (hn : n ≤ 4) (hk : 14 ≤ k) : callF allD k 62 [.int 1, g.t] = .ok (.int ((cuts g).length : Nat)) := by
  have h := how_many_rules_ok (k := k - 1) hg hn (by omega)
  rw [call_k a__law_do_v4 rfl (by omega)]
  simp (disch := first | assumption | omega) [-execs_cons_, List.getElem?_cons_zero, le_SZ, lt_SZ, kIf_dt, kIf_df, kIf_bt, kIf_bf, D__law_do_v4, h, isSame]
theorem do4_2 {n : Nat} {g : G} (hg : g.ok n) (hn : n ≤ 4) (hk : 14 ≤ k) : callF allD k 62 [.int 2, g.t] = .ok (.lst (g.walk.map fun x => T.tup [pT x.1, fr x.2.1.mean])) := by
  have h := means_ok (k := k - 1) hg hn (by omega)
  rw [call_k a__law_do_v4 rfl (by omega)]
  simp (disch := first | assumption | omega) [-execs_cons_, List.getElem?_cons_zero, le_SZ, lt_SZ, kIf_dt, kIf_df, kIf_bt, kIf_bf, D__law_do_v4, h, isSame]
theorem do4_ng {m : Nat} {b : T} (hk : 14 ≤ k) (hp : b.plain m = true) (hb : isG 4 b = false) (w : Int) (hw : w = 0 ∨ w = 1 ∨ w = 2) : callF allD k 62 [.int w, b] = .ok (.str "no game") := by
  have h1 := all_rules_ng (k := k - 1) (by omega) hp hb
  have h2 := how_many_rules_ng (k := k - 1) (by omega) hp hb
  have h3 := means_ng (k := k - 1) (by omega) hp hb
  have h4 := word_ok (k := k - 1) (c := 1) (by omega) (by decide) (by decide)
  rw [call_k a__law_do_v4 rfl (by omega)]
  rcases hw with rfl | rfl | rfl <;> simp (disch := first | assumption | omega) [-execs_cons_, List.getElem?_cons_zero, le_SZ, lt_SZ, kIf_dt, kIf_df, kIf_bt, kIf_bf, D__law_do_v4, h1, h2, h3, h4, isSame, wordOf]
end
theorem law11 (ns : List Int) : finF (execs (callF allD 40) D_law_k11.body (startC D_law_k11 [scr ns])) = .ok (.bl true) := by
  obtain ⟨g, hd, hg, _, hne, _⟩ := drawn_ok (ns := ns) (d := 3) (k := 40) (by decide) (by decide) (by decide)
  have hd' : callF allD 40 10 [scr ns, .int 3] = .ok g.t := hd
  obtain ⟨g4, hd4, hg4, _, _, _⟩ := drawn_ok (ns := ns.map (· + 1)) (d := 4) (k := 40) (by decide) (by decide) (by decide)
  have hd4' : callF allD 40 10 [.lst (ns.map fun i => T.int (i + 1)), .int 4] = .ok g4.t := by
    have : scr (ns.map (· + 1)) = .lst (ns.map fun i => T.int (i + 1)) := by unfold scr; rw [List.map_map]; rfl
    rw [← this]; exact hd4
  have hr := rules_ok (k := 40) hg (by decide) (by decide)
  have hr4 := rules_ok (k := 40) hg4 (by decide) (by decide)
  have hpk : ∀ {j m : Nat} {i m' : Int}, i = j → 0 < m → m' = m → callF allD 40 8 [scr ns, .int i, .int m'] = .ok (.int (pickZ ns j m : Nat)) := fun h1 h2 h3 => pick' (by decide) ns h1 h2 h3
  have hpos : 0 < (cuts g).length := by rw [cuts_eq]; simp
  have hso := sorted_rules (cuts g)
  obtain ⟨R, hR⟩ : ∃ R, sortT ((cuts g).map ruleT) = R := ⟨_, rfl⟩
  have hRl : R.length = (cuts g).length := by rw [← hR, len_sortT, List.length_map]
  have hRp : T.plains R 59 = true := by rw [← hR]; exact plains_sortT (plains_rules g 57)
  have hRe : T.eqvs R R = true := eqvs_self R 59 hRp
  have pick3 : ∀ j, ∃ c : C, c.ok g ∧ atT R (pickZ ns j (cuts g).length : Nat) = .ok (ruleT c) := fun j => by
    have l := pick_lt ns j hpos
    obtain ⟨t, ht⟩ : ∃ t, R[pickZ ns j (cuts g).length]? = some t := ⟨_, List.getElem?_eq_getElem (by rw [hRl]; exact l)⟩
    have hm := List.mem_of_getElem? ht
    rw [← hR] at hm
    obtain ⟨c, hc, rfl⟩ := List.mem_map.mp (mem_sortT.mp hm)
    exact ⟨c, (mem_cuts _ g).mp hc, at_nn ht⟩
  have f0 := do4_0 (k := 40) hg (by decide) (by decide)
  have f1 := do4_1 (k := 40) hg (by decide) (by decide)
  have f2 := do4_2 (k := 40) hg (by decide) (by decide)
  rw [hR] at hso f0
  have hw := walk_ok (k := 40) hg (by decide) (by decide)
  have hcl := cuts_len 2 g hg
  simp (disch := first | assumption | omega) [-execs_cons_, List.getElem?_cons_zero, le_SZ, lt_SZ, kIf_dt, kIf_df, kIf_bt, kIf_bf, D_law_k11, hd', hr]
  rw [rules_sorted (by simp)]
  have hRl' : (R.length : Int) = ((cuts g).length : Int) := by rw [hRl]
  simp (disch := first | assumption | omega) [-execs_cons_, List.getElem?_cons_zero, le_SZ, lt_SZ, kIf_dt, kIf_df, kIf_bt, kIf_bf, hso, f0, f1, hRp, hRe, hRl']
  obtain ⟨mn, hmn⟩ : ∃ mn : Nat, (if ((cuts g).length : Int) < 4 then ((cuts g).length : Int) else 4) = (mn : Int) ∧ mn ≤ 4 := by
    by_cases h : ((cuts g).length : Int) < 4
    · exact ⟨(cuts g).length, by rw [if_pos h], by omega⟩
    · exact ⟨4, by rw [if_neg h]; rfl, by decide⟩
  obtain ⟨dm, hdm⟩ : ∃ l, g.walk.map (fun x => T.tup [pT x.1, fr x.2.1.mean]) = l := ⟨_, rfl⟩
  refine fin_rt (xs_for (l := List.range mn) (h := fun i => T.int (i : Nat)) (by have := rng_l mn (by omega); simp (disch := first | assumption | omega) [-execs_cons_, List.getElem?_cons_zero, le_SZ, lt_SZ, kIf_dt, kIf_df, kIf_bt, kIf_bf, hRl', hmn.1]; exact this) (fun l e => ∃ c3 c4, e = [.sh (scr ns), .sh g.t, .sh (.lst R), c3, c4, .un, .un, .un, .un, .un, .un, .un, .un, .un, .un]) ⟨_, _, rfl⟩ (fun l x r e hl hI => ?_) (fun e hI => ?_))
  · obtain ⟨c3, c4, rfl⟩ := hI
    obtain ⟨c, hc, ac⟩ := pick3 (9000 + x)
    have p1 := hpk (j := 9000 + x) (m := (cuts g).length) (i := 9000 + (x : Int)) (m' := ((cuts g).length : Int)) (by omega) hpos rfl
    have m1 := mean_of_ok (k := 40) hg (by decide) (by decide) hc
    have m2 := lmean_rule (k := 40) hg (by decide) (by decide) hc
    refine .inl (Nx.out ?_)
    simp (disch := first | assumption | omega) [-execs_cons_, List.getElem?_cons_zero, le_SZ, lt_SZ, kIf_dt, kIf_df, kIf_bt, kIf_bf, p1, ac, m1, m2, hRl', plain_fr, eqv_fr]
  · obtain ⟨c3, c4, rfl⟩ := hI
    simp (disch := first | assumption | omega) [-execs_cons_, List.getElem?_cons_zero, le_SZ, lt_SZ, kIf_dt, kIf_df, kIf_bt, kIf_bf, ]
    refine xs_for (l := g.walk) (h := rowT) (by simp (disch := first | assumption | omega) [-execs_cons_, List.getElem?_cons_zero, le_SZ, lt_SZ, kIf_dt, kIf_df, kIf_bt, kIf_bf, hw]) (fun a e => ∃ c6 c7 c8 c9, e = [.sh (scr ns), .sh g.t, .sh (.lst R), c3, c4, .ow (.lst (a.map fun x => T.tup [pT x.1, fr x.2.1.mean])), c6, c7, c8, c9, .un, .un, .un, .un, .un]) ⟨_, _, _, _, rfl⟩ (fun a x r e hl hI => ?_) (fun e hI => ?_)
    · obtain ⟨c6, c7, c8, c9, rfl⟩ := hI
      have hx : x ∈ g.walk := by rw [hl]; simp
      obtain ⟨p, h, c⟩ := x
      obtain ⟨e, _⟩ := (mem_walk _ _ _ _).mp hx
      obtain ⟨hpl, hh⟩ := ok_sub hg e
      have hw2 := walk_ok (k := 40) hh (by omega) (by omega)
      have he := endC_ok _ h hh
      have hm := lmean_list (k := 40) hh (by omega) (by decide) he
      rw [endC_paths _ h hh] at hm
      have hal : a.length < SZ := by
        have h1 := walk_len hg
        have h2 := congrArg List.length hl
        rw [List.length_append, List.length_cons] at h2
        have : SZ = 1000000 := rfl
        have : 4 ^ 3 = 64 := rfl
        omega
      have hm' : callF allD 40 51 [h.t, .lst ((endR h).map fun x => pT x.1)] = .ok (fr h.mean) := by
        rw [List.map_map] at hm; exact hm
      refine .inl (Nx.out ?_)
      simp (disch := first | assumption | omega) [-execs_cons_, List.getElem?_cons_zero, le_SZ, lt_SZ, kIf_dt, kIf_df, kIf_bt, kIf_bf, rowT, hw2]
      rw [compL_lf (p := isEnd) (g := fun x => pT x.1) fun x hx => by
        rw [turn1]
        cases h4 : isEnd x
        · have h5 : x.2.1.ws.isEmpty = false := h4
          simp (disch := first | assumption | omega) [-execs_cons_, List.getElem?_cons_zero, le_SZ, lt_SZ, kIf_dt, kIf_df, kIf_bt, kIf_bf, rowT, t_len, h5]
        · have h5 : x.2.1.ws.isEmpty = true := h4
          simp (disch := first | assumption | omega) [-execs_cons_, List.getElem?_cons_zero, le_SZ, lt_SZ, kIf_dt, kIf_df, kIf_bt, kIf_bf, rowT, t_len, h5]]
      rw [isEnd_eq]
      simp (disch := first | assumption | omega) [-execs_cons_, List.getElem?_cons_zero, le_SZ, lt_SZ, kIf_dt, kIf_df, kIf_bt, kIf_bf, hm', hal]
    · obtain ⟨c6, c7, c8, c9, rfl⟩ := hI
      have hends := ends_ok (k := 40) (by decide) hg (by decide)
      have hE := endC_ok 3 g hg
      have hEp := endC_paths 3 g hg
      have hso2 : bltT .sorted [.lst ((g.walk.filter isEnd).map fun x => pT x.1)] = .ok (.lst ((endC g).paths.map pT)) := by
        have h1 := sorted_l (ris_cut (endC g)) (ris_cut (endC g)).nodup fun p => Iff.rfl
        rw [← h1, hEp, List.map_map]
        rfl
      have hmo : callF allD 40 49 [g.t, .tup ((endC g).paths.map pT)] = .ok (fr g.mean) := mean_of_ok hg (by decide) (by decide) hE
      have hdp : T.plains dm 59 = true := by rw [← hdm]; exact plains_map fun x _ => by simp [plain_pT, plain_fr]
      have hde : T.eqvs dm dm = true := eqvs_self dm 59 hdp
      have hat : atT dm 0 = .ok (.tup [pT [], fr g.mean]) := by
        rw [← hdm, walk_eq, List.map_cons]
        simp
      rw [hdm] at f2
      have g4n := how_many_rules_ok (k := 40) hg4 (by decide) (by decide)
      have hw4 := walk_ok (k := 40) hg4 (by decide) (by decide)
      have hpos4 : ¬ ((cuts g4).length : Int) < 1 := by
        have : 0 < (cuts g4).length := by rw [cuts_eq]; simp
        omega
      obtain ⟨u', r1, r2⟩ := spoilt_t (k := 40) (ns := ns) (at_ := 9050) hg (by decide) (by decide)
      have r1' : callF allD 40 18 [scr ns, .int 9050, g.t] = .ok u' := r1
      have z := lis_game_ok 4 (k := 40) (by decide) r2
      rw [show ((4 : Nat) : Int) = 4 from rfl] at z
      have zr : itemsT .rng1 [.int 3] = .ok [.int 0, .int 1, .int 2] := by rfl
      have mul3 : ∀ t : T, binop .mul (.lst [t]) (.int 3) = .ok (.lst [t, t, t]) := fun t => by rfl
      have hcase : ∀ b : Bool, truT (.bl b) = .ok b := fun b => rfl
      rw [hdm]
      simp (disch := first | assumption | omega) [-execs_cons_, List.getElem?_cons_zero, le_SZ, lt_SZ, kIf_dt, kIf_df, kIf_bt, kIf_bf, f2, hdp, hde, hends, hso2, hmo, hat, plain_fr, eqv_fr]
      have hci : compL (turn1 (callF allD 40) (.bin .add (.var 12) (.cst (.int 1))) (.nm 12) [] [12] [.sh (scr ns), .sh g.t, .sh (.lst R), c3, c4, .ow (.lst dm), c6, c7, c8, c9, .un, .un, .un, .un, .un]) (ns.map T.int) = .ok (ns.map fun i => T.int (i + 1)) := compL_l fun i hi => by
        rw [turn1]
        simp (disch := first | assumption | omega) [-execs_cons_, List.getElem?_cons_zero, le_SZ, lt_SZ, kIf_dt, kIf_df, kIf_bt, kIf_bf, ]
      have hsc : itemsT .seq [scr ns] = .ok (ns.map T.int) := rfl
      simp (disch := first | assumption | omega) [-execs_cons_, List.getElem?_cons_zero, le_SZ, lt_SZ, kIf_dt, kIf_df, kIf_bt, kIf_bf, hsc, hci, hd4', g4n, hpos4, hw4]
      by_cases h20 : g4.walk.length < 20
      · have h20' : (g4.walk.length : Int) < 20 := by omega
        cases hb : isG 4 u' with
        | true => rw [hb] at z; simp (disch := first | assumption | omega) [-execs_cons_, List.getElem?_cons_zero, le_SZ, lt_SZ, kIf_dt, kIf_df, kIf_bt, kIf_bf, h20', hr4, r1', z]
        | false =>
          rw [hb] at z
          have n0 := do4_ng (k := 40) (by decide) r2 hb 0 (by decide)
          have n1 := do4_ng (k := 40) (by decide) r2 hb 1 (by decide)
          have n2 := do4_ng (k := 40) (by decide) r2 hb 2 (by decide)
          simp (disch := first | assumption | omega) [-execs_cons_, List.getElem?_cons_zero, le_SZ, lt_SZ, kIf_dt, kIf_df, kIf_bt, kIf_bf, h20', hr4, r1', z, zr, compL, turn1, n0, n1, n2, mul3, str_ng, str_eq]
      · have h20' : ¬ (g4.walk.length : Int) < 20 := by omega
        cases hb : isG 4 u' with
        | true => rw [hb] at z; simp (disch := first | assumption | omega) [-execs_cons_, List.getElem?_cons_zero, le_SZ, lt_SZ, kIf_dt, kIf_df, kIf_bt, kIf_bf, h20', r1', z]
        | false =>
          rw [hb] at z
          have n0 := do4_ng (k := 40) (by decide) r2 hb 0 (by decide)
          have n1 := do4_ng (k := 40) (by decide) r2 hb 1 (by decide)
          have n2 := do4_ng (k := 40) (by decide) r2 hb 2 (by decide)
          simp (disch := first | assumption | omega) [-execs_cons_, List.getElem?_cons_zero, le_SZ, lt_SZ, kIf_dt, kIf_df, kIf_bt, kIf_bf, h20', r1', z, zr, compL, turn1, n0, n1, n2, mul3, str_ng, str_eq]
end Fz

/-! the table of the law: printed by gen.py -/
namespace Fz
open PySem PySem.Spec L2
def top (i : Nat) : Stmt := PySem.Challenge.pw_fairstops_k11_whole_rules.main.body.getD i (.Pass ⟨0, 0, 0, 0⟩)
def d_divisor : DefT := { id := 24, x := "divisor", N := ["one", "other"], ps := ["one", "other"], acc := [], tkd := true, fvs := [], st := top 9, d := D_divisor }
def d_share : DefT := { id := 25, x := "share", N := ["up", "down", "by"], ps := ["up", "down"], acc := [], tkd := true, fvs := [], st := top 10, d := D_share }
def d_plus : DefT := { id := 40, x := "plus", N := ["one", "other"], ps := ["one", "other"], acc := [], tkd := true, fvs := [], st := top 11, d := D_plus }
def d_times : DefT := { id := 26, x := "times", N := ["one", "other"], ps := ["one", "other"], acc := [], tkd := true, fvs := [], st := top 12, d := D_times }
def d_all_plus : DefT := { id := 44, x := "all_plus", N := ["some", "made", "one"], ps := ["some"], acc := [], tkd := true, fvs := [], st := top 13, d := D_all_plus }
def d_is_whole : DefT := { id := 0, x := "is_whole", N := ["thing", "low", "high"], ps := ["thing", "low", "high"], acc := [], tkd := true, fvs := [], st := top 19, d := D_is_whole }
def d_is_game_in : DefT := { id := 1, x := "is_game_in", N := ["thing", "deep", "way"], ps := ["thing", "deep"], acc := [], tkd := true, fvs := [], st := top 20, d := D_is_game_in }
def d_is_game : DefT := { id := 2, x := "is_game", N := ["thing"], ps := ["thing"], acc := [], tkd := true, fvs := [], st := top 21, d := D_is_game }
def d_look_game : DefT := { id := 3, x := "look_game", N := ["game"], ps := ["game"], acc := [], tkd := true, fvs := [], st := top 22, d := D_look_game }
def d_is_end : DefT := { id := 27, x := "is_end", N := ["game"], ps := ["game"], acc := [], tkd := true, fvs := [], st := top 23, d := D_is_end }
def d_ways_of : DefT := { id := 4, x := "ways_of", N := ["game"], ps := ["game"], acc := [], tkd := true, fvs := [], st := top 24, d := D_ways_of }
def d_paths_of : DefT := { id := 5, x := "paths_of", N := ["game", "made", "number", "weight", "later", "path"], ps := ["game"], acc := [1], tkd := true, fvs := [], st := top 25, d := D_paths_of }
def d_part_of : DefT := { id := 28, x := "part_of", N := ["game", "path", "number"], ps := ["game", "path"], acc := [], tkd := true, fvs := [], st := top 26, d := D_part_of }
def d_is_path : DefT := { id := 29, x := "is_path", N := ["game", "thing", "number"], ps := ["game", "thing"], acc := [], tkd := true, fvs := [], st := top 27, d := D_is_path }
def d_ends_of : DefT := { id := 33, x := "ends_of", N := ["game", "path"], ps := ["game"], acc := [], tkd := true, fvs := [], st := top 28, d := D_ends_of }
def d_ends : DefT := { id := 34, x := "ends", N := ["game"], ps := ["game"], acc := [], tkd := true, fvs := [], st := top 29, d := D_ends }
def d_shares_of : DefT := { id := 35, x := "shares_of", N := ["game", "total", "weight", "later"], ps := ["game"], acc := [], tkd := true, fvs := [], st := top 30, d := D_shares_of }
def d_chance_of : DefT := { id := 36, x := "chance_of", N := ["game", "path", "made", "number"], ps := ["game", "path"], acc := [], tkd := true, fvs := [], st := top 31, d := D_chance_of }
def d_is_rule_of : DefT := { id := 46, x := "is_rule_of", N := ["game", "thing", "path", "end"], ps := ["game", "thing"], acc := [], tkd := true, fvs := [], st := top 33, d := D_is_rule_of }
def d_is_rule : DefT := { id := 47, x := "is_rule", N := ["game", "thing"], ps := ["game", "thing"], acc := [], tkd := true, fvs := [], st := top 34, d := D_is_rule }
def d_look_rule : DefT := { id := 48, x := "look_rule", N := ["game", "rule"], ps := ["game", "rule"], acc := [], tkd := true, fvs := [], st := top 35, d := D_look_rule }
def d_how_many : DefT := { id := 56, x := "how_many", N := ["game", "made", "weight", "later"], ps := ["game"], acc := [], tkd := true, fvs := [], st := top 36, d := D_how_many }
def d_how_many_rules : DefT := { id := 57, x := "how_many_rules", N := ["game"], ps := ["game"], acc := [], tkd := true, fvs := [], st := top 37, d := D_how_many_rules }
def d_rules_of : DefT := { id := 58, x := "rules_of", N := ["game", "made", "some", "number", "weight", "later", "longer", "ahead", "path", "rule"], ps := ["game"], acc := [6], tkd := true, fvs := [], st := top 38, d := D_rules_of }
def d_all_rules : DefT := { id := 59, x := "all_rules", N := ["game", "rule"], ps := ["game"], acc := [], tkd := true, fvs := [], st := top 39, d := D_all_rules }
def d_mean_of : DefT := { id := 49, x := "mean_of", N := ["game", "rule", "path"], ps := ["game", "rule"], acc := [], tkd := true, fvs := [], st := top 40, d := D_mean_of }
def d_mean_in : DefT := { id := 60, x := "mean_in", N := ["game", "made", "weight", "later", "here"], ps := ["game"], acc := [], tkd := true, fvs := [], st := top 41, d := D_mean_in }
def d_means : DefT := { id := 61, x := "means", N := ["game", "path"], ps := ["game"], acc := [], tkd := true, fvs := [], st := top 42, d := D_means }
def d__law_cell : DefT := { id := 7, x := "_law_cell", N := ["_law_script", "_law_k"], ps := ["_law_script", "_law_k"], acc := [], tkd := true, fvs := [], st := top 44, d := D__law_cell }
def d__law_pick : DefT := { id := 8, x := "_law_pick", N := ["_law_script", "_law_k", "_law_many", "_law_drawn_here"], ps := ["_law_script", "_law_k", "_law_many"], acc := [], tkd := true, fvs := [], st := top 45, d := D__law_pick }
def d__law_game : DefT := { id := 9, x := "_law_game", N := ["_law_script", "_law_at", "_law_top", "_law_deep", "_law_is_even", "_law_base", "_law_many", "_law_rows", "_law_a", "_law_b", "_law_k", "_law_some", "_law_weight", "_law_step"], ps := ["_law_script", "_law_at", "_law_top", "_law_deep", "_law_is_even"], acc := [7, 11], tkd := true, fvs := [], st := top 46, d := D__law_game }
def d__law_drawn : DefT := { id := 10, x := "_law_drawn", N := ["_law_script", "_law_deep"], ps := ["_law_script", "_law_deep"], acc := [], tkd := true, fvs := [], st := top 47, d := D__law_drawn }
def d__law_ways : DefT := { id := 11, x := "_law_ways", N := ["_law_game_here"], ps := ["_law_game_here"], acc := [], tkd := true, fvs := [], st := top 48, d := D__law_ways }
def d__law_walk : DefT := { id := 12, x := "_law_walk", N := ["_law_game_here", "_law_made", "_law_total", "_law_weight", "_law_later", "_law_k", "_law_path", "_law_some", "_law_chance_here"], ps := ["_law_game_here"], acc := [1], tkd := true, fvs := [], st := top 49, d := D__law_walk }
def d__law_low : DefT := { id := 13, x := "_law_low", N := ["_law_up", "_law_down", "_law_one", "_law_other"], ps := ["_law_up", "_law_down"], acc := [], tkd := true, fvs := [], st := top 50, d := D__law_low }
def d__law_sum : DefT := { id := 14, x := "_law_sum", N := ["_law_some", "_law_up", "_law_down", "_law_one"], ps := ["_law_some"], acc := [], tkd := true, fvs := [], st := top 51, d := D__law_sum }
def d__law_prod : DefT := { id := 15, x := "_law_prod", N := ["_law_one", "_law_other"], ps := ["_law_one", "_law_other"], acc := [], tkd := true, fvs := [], st := top 52, d := D__law_prod }
def d__law_rules : DefT := { id := 50, x := "_law_rules", N := ["_law_game_here", "_law_made", "_law_some", "_law_k", "_law_weight", "_law_later", "_law_inner", "_law_path", "_law_rule", "_law_longer", "_law_ahead"], ps := ["_law_game_here"], acc := [9], tkd := true, fvs := [], st := top 53, d := D__law_rules }
def d__law_mean : DefT := { id := 51, x := "_law_mean", N := ["_law_game_here", "_law_rule", "_law_walk_here", "_law_path", "_law_some", "_law_here"], ps := ["_law_game_here", "_law_rule"], acc := [], tkd := true, fvs := [], st := top 54, d := D__law_mean }
def d__law_places : DefT := { id := 16, x := "_law_places", N := ["_law_thing", "_law_made", "_law_k", "_law_place"], ps := ["_law_thing"], acc := [1], tkd := true, fvs := [], st := top 55, d := D__law_places }
def d__law_put : DefT := { id := 17, x := "_law_put", N := ["_law_thing", "_law_place", "_law_new", "_law_k"], ps := ["_law_thing", "_law_place", "_law_new"], acc := [], tkd := true, fvs := [], st := top 56, d := D__law_put }
def d__law_spoilt_thing : DefT := { id := 18, x := "_law_spoilt_thing", N := ["_law_script", "_law_at", "_law_thing", "_law_places_here", "_law_place", "_law_here", "_law_k", "_law_some", "_law_way"], ps := ["_law_script", "_law_at", "_law_thing"], acc := [], tkd := true, fvs := [], st := top 57, d := D__law_spoilt_thing }
def d__law_whole : DefT := { id := 19, x := "_law_whole", N := ["_law_thing", "_law_low_here", "_law_high"], ps := ["_law_thing", "_law_low_here", "_law_high"], acc := [], tkd := true, fvs := [], st := top 58, d := D__law_whole }
def d__law_is_game : DefT := { id := 20, x := "_law_is_game", N := ["_law_thing", "_law_deep", "_law_way"], ps := ["_law_thing", "_law_deep"], acc := [], tkd := true, fvs := [], st := top 59, d := D__law_is_game }
def d__law_word : DefT := { id := 21, x := "_law_word", N := ["_law_kept", "_law_kinds"], ps := ["_law_kept"], acc := [1], tkd := true, fvs := [], st := top 60, d := D__law_word }
def d__law_do : DefT := { id := 62, x := "_law_do", N := ["_law_what", "_law_game_here", "_law_kept", "_law_answer", "e"], ps := ["_law_what", "_law_game_here"], acc := [], tkd := true, fvs := [59, 57, 61], st := top 61, d := D__law_do_v4 }
def d_law : DefT := { id := 63, x := "law", N := ["_law_script", "_law_game_here", "_law_rules_here", "_law_rule", "_law_k", "_law_due", "_law_path", "_law_some", "_law_here", "_law_last", "_law_row", "_law_great", "_law_one", "_law_bad", "_law_what"], ps := ["_law_script"], acc := [5], tkd := true, fvs := [], st := top 62, d := D_law_k11 }
def tab : List DefT := [d_divisor, d_share, d_plus, d_times, d_all_plus, d_is_whole, d_is_game_in, d_is_game, d_look_game, d_is_end, d_ways_of, d_paths_of, d_part_of, d_is_path, d_ends_of, d_ends, d_shares_of, d_chance_of, d_is_rule_of, d_is_rule, d_look_rule, d_how_many, d_how_many_rules, d_rules_of, d_all_rules, d_mean_of, d_mean_in, d_means, d__law_cell, d__law_pick, d__law_game, d__law_drawn, d__law_ways, d__law_walk, d__law_low, d__law_sum, d__law_prod, d__law_rules, d__law_mean, d__law_places, d__law_put, d__law_spoilt_thing, d__law_whole, d__law_is_game, d__law_word, d__law_do, d_law]
def mo : Mo := { tab := tab, gc := [("DEEPEST", .int 4), ("GREATEST", .int 20), ("HEAVIEST", .int 9), ("MOST_WAYS", .int 3)], gx := [("StopError", 0), ("NoGame", 1), ("NoPath", 2), ("NoRule", 3), ("NoBets", 4), ("Unpaid", 5), ("NoText", 6)], bl := ["set", "abs", "max", "min", "sum", "all", "list", "tuple", "int", "sorted", "dict", "len", "isinstance", "range", "enumerate", "zip", "bool"], gs := [("NoBets", [4]), ("NoGame", [1]), ("NoPath", [2]), ("NoRule", [3]), ("NoText", [6]), ("Unpaid", [5]), ("ValueError", [0, 1, 2, 3, 4, 5, 6])], gt := [("StopError", [0, 1, 2, 3, 4, 5, 6])], gn := [0, 1, 2, 3, 4, 5, 6] }
theorem c_divisor : DefC mo d_divisor := ⟨⟨rfl, rfl, rfl, by decide +kernel, rfl, by decide +kernel, by decide +kernel⟩, by kernel_rfl, rfl, rfl, by decide +kernel, fun _ _ _ _ _ _ us hl => match us, hl with | [_, _], _ => rfl⟩
theorem c_share : DefC mo d_share := ⟨⟨rfl, rfl, rfl, by decide +kernel, rfl, by decide +kernel, by decide +kernel⟩, by kernel_rfl, rfl, rfl, by decide +kernel, fun _ _ _ _ _ _ us hl => match us, hl with | [_, _], _ => rfl⟩
theorem c_plus : DefC mo d_plus := ⟨⟨rfl, rfl, rfl, by decide +kernel, rfl, by decide +kernel, by decide +kernel⟩, by kernel_rfl, rfl, rfl, by decide +kernel, fun _ _ _ _ _ _ us hl => match us, hl with | [_, _], _ => rfl⟩
theorem c_times : DefC mo d_times := ⟨⟨rfl, rfl, rfl, by decide +kernel, rfl, by decide +kernel, by decide +kernel⟩, by kernel_rfl, rfl, rfl, by decide +kernel, fun _ _ _ _ _ _ us hl => match us, hl with | [_, _], _ => rfl⟩
theorem c_all_plus : DefC mo d_all_plus := ⟨⟨rfl, rfl, rfl, by decide +kernel, rfl, by decide +kernel, by decide +kernel⟩, by kernel_rfl, rfl, rfl, by decide +kernel, fun _ _ _ _ _ _ us hl => match us, hl with | [_], _ => rfl⟩
theorem c_is_whole : DefC mo d_is_whole := ⟨⟨rfl, rfl, rfl, by decide +kernel, rfl, by decide +kernel, by decide +kernel⟩, by kernel_rfl, rfl, rfl, by decide +kernel, fun _ _ _ _ _ _ us hl => match us, hl with | [_, _, _], _ => rfl⟩
theorem c_is_game_in : DefC mo d_is_game_in := ⟨⟨rfl, rfl, rfl, by decide +kernel, rfl, by decide +kernel, by decide +kernel⟩, by kernel_rfl, rfl, rfl, by decide +kernel, fun _ _ _ _ _ _ us hl => match us, hl with | [_, _], _ => rfl⟩
theorem c_is_game : DefC mo d_is_game := ⟨⟨rfl, rfl, rfl, by decide +kernel, rfl, by decide +kernel, by decide +kernel⟩, by kernel_rfl, rfl, rfl, by decide +kernel, fun _ _ _ _ _ _ us hl => match us, hl with | [_], _ => rfl⟩
theorem c_look_game : DefC mo d_look_game := ⟨⟨rfl, rfl, rfl, by decide +kernel, rfl, by decide +kernel, by decide +kernel⟩, by kernel_rfl, rfl, rfl, by decide +kernel, fun _ _ _ _ _ _ us hl => match us, hl with | [_], _ => rfl⟩
theorem c_is_end : DefC mo d_is_end := ⟨⟨rfl, rfl, rfl, by decide +kernel, rfl, by decide +kernel, by decide +kernel⟩, by kernel_rfl, rfl, rfl, by decide +kernel, fun _ _ _ _ _ _ us hl => match us, hl with | [_], _ => rfl⟩
theorem c_ways_of : DefC mo d_ways_of := ⟨⟨rfl, rfl, rfl, by decide +kernel, rfl, by decide +kernel, by decide +kernel⟩, by kernel_rfl, rfl, rfl, by decide +kernel, fun _ _ _ _ _ _ us hl => match us, hl with | [_], _ => rfl⟩
theorem c_paths_of : DefC mo d_paths_of := ⟨⟨rfl, rfl, rfl, by decide +kernel, rfl, by decide +kernel, by decide +kernel⟩, by kernel_rfl, rfl, rfl, by decide +kernel, fun _ _ _ _ _ _ us hl => match us, hl with | [_], _ => rfl⟩
theorem c_part_of : DefC mo d_part_of := ⟨⟨rfl, rfl, rfl, by decide +kernel, rfl, by decide +kernel, by decide +kernel⟩, by kernel_rfl, rfl, rfl, by decide +kernel, fun _ _ _ _ _ _ us hl => match us, hl with | [_, _], _ => rfl⟩
theorem c_is_path : DefC mo d_is_path := ⟨⟨rfl, rfl, rfl, by decide +kernel, rfl, by decide +kernel, by decide +kernel⟩, by kernel_rfl, rfl, rfl, by decide +kernel, fun _ _ _ _ _ _ us hl => match us, hl with | [_, _], _ => rfl⟩
theorem c_ends_of : DefC mo d_ends_of := ⟨⟨rfl, rfl, rfl, by decide +kernel, rfl, by decide +kernel, by decide +kernel⟩, by kernel_rfl, rfl, rfl, by decide +kernel, fun _ _ _ _ _ _ us hl => match us, hl with | [_], _ => rfl⟩
theorem c_ends : DefC mo d_ends := ⟨⟨rfl, rfl, rfl, by decide +kernel, rfl, by decide +kernel, by decide +kernel⟩, by kernel_rfl, rfl, rfl, by decide +kernel, fun _ _ _ _ _ _ us hl => match us, hl with | [_], _ => rfl⟩
theorem c_shares_of : DefC mo d_shares_of := ⟨⟨rfl, rfl, rfl, by decide +kernel, rfl, by decide +kernel, by decide +kernel⟩, by kernel_rfl, rfl, rfl, by decide +kernel, fun _ _ _ _ _ _ us hl => match us, hl with | [_], _ => rfl⟩
theorem c_chance_of : DefC mo d_chance_of := ⟨⟨rfl, rfl, rfl, by decide +kernel, rfl, by decide +kernel, by decide +kernel⟩, by kernel_rfl, rfl, rfl, by decide +kernel, fun _ _ _ _ _ _ us hl => match us, hl with | [_, _], _ => rfl⟩
theorem c_is_rule_of : DefC mo d_is_rule_of := ⟨⟨rfl, rfl, rfl, by decide +kernel, rfl, by decide +kernel, by decide +kernel⟩, by kernel_rfl, rfl, rfl, by decide +kernel, fun _ _ _ _ _ _ us hl => match us, hl with | [_, _], _ => rfl⟩
theorem c_is_rule : DefC mo d_is_rule := ⟨⟨rfl, rfl, rfl, by decide +kernel, rfl, by decide +kernel, by decide +kernel⟩, by kernel_rfl, rfl, rfl, by decide +kernel, fun _ _ _ _ _ _ us hl => match us, hl with | [_, _], _ => rfl⟩
theorem c_look_rule : DefC mo d_look_rule := ⟨⟨rfl, rfl, rfl, by decide +kernel, rfl, by decide +kernel, by decide +kernel⟩, by kernel_rfl, rfl, rfl, by decide +kernel, fun _ _ _ _ _ _ us hl => match us, hl with | [_, _], _ => rfl⟩
theorem c_how_many : DefC mo d_how_many := ⟨⟨rfl, rfl, rfl, by decide +kernel, rfl, by decide +kernel, by decide +kernel⟩, by kernel_rfl, rfl, rfl, by decide +kernel, fun _ _ _ _ _ _ us hl => match us, hl with | [_], _ => rfl⟩
theorem c_how_many_rules : DefC mo d_how_many_rules := ⟨⟨rfl, rfl, rfl, by decide +kernel, rfl, by decide +kernel, by decide +kernel⟩, by kernel_rfl, rfl, rfl, by decide +kernel, fun _ _ _ _ _ _ us hl => match us, hl with | [_], _ => rfl⟩
theorem c_rules_of : DefC mo d_rules_of := ⟨⟨rfl, rfl, rfl, by decide +kernel, rfl, by decide +kernel, by decide +kernel⟩, by kernel_rfl, rfl, rfl, by decide +kernel, fun _ _ _ _ _ _ us hl => match us, hl with | [_], _ => rfl⟩
theorem c_all_rules : DefC mo d_all_rules := ⟨⟨rfl, rfl, rfl, by decide +kernel, rfl, by decide +kernel, by decide +kernel⟩, by kernel_rfl, rfl, rfl, by decide +kernel, fun _ _ _ _ _ _ us hl => match us, hl with | [_], _ => rfl⟩
theorem c_mean_of : DefC mo d_mean_of := ⟨⟨rfl, rfl, rfl, by decide +kernel, rfl, by decide +kernel, by decide +kernel⟩, by kernel_rfl, rfl, rfl, by decide +kernel, fun _ _ _ _ _ _ us hl => match us, hl with | [_, _], _ => rfl⟩
theorem c_mean_in : DefC mo d_mean_in := ⟨⟨rfl, rfl, rfl, by decide +kernel, rfl, by decide +kernel, by decide +kernel⟩, by kernel_rfl, rfl, rfl, by decide +kernel, fun _ _ _ _ _ _ us hl => match us, hl with | [_], _ => rfl⟩
theorem c_means : DefC mo d_means := ⟨⟨rfl, rfl, rfl, by decide +kernel, rfl, by decide +kernel, by decide +kernel⟩, by kernel_rfl, rfl, rfl, by decide +kernel, fun _ _ _ _ _ _ us hl => match us, hl with | [_], _ => rfl⟩
theorem c__law_cell : DefC mo d__law_cell := ⟨⟨rfl, rfl, rfl, by decide +kernel, rfl, by decide +kernel, by decide +kernel⟩, by kernel_rfl, rfl, rfl, by decide +kernel, fun _ _ _ _ _ _ us hl => match us, hl with | [_, _], _ => rfl⟩
theorem c__law_pick : DefC mo d__law_pick := ⟨⟨rfl, rfl, rfl, by decide +kernel, rfl, by decide +kernel, by decide +kernel⟩, by kernel_rfl, rfl, rfl, by decide +kernel, fun _ _ _ _ _ _ us hl => match us, hl with | [_, _, _], _ => rfl⟩
theorem c__law_game : DefC mo d__law_game := ⟨⟨rfl, rfl, rfl, by decide +kernel, rfl, by decide +kernel, by decide +kernel⟩, by kernel_rfl, rfl, rfl, by decide +kernel, fun _ _ _ _ _ _ us hl => match us, hl with | [_, _, _, _, _], _ => rfl⟩
theorem c__law_drawn : DefC mo d__law_drawn := ⟨⟨rfl, rfl, rfl, by decide +kernel, rfl, by decide +kernel, by decide +kernel⟩, by kernel_rfl, rfl, rfl, by decide +kernel, fun _ _ _ _ _ _ us hl => match us, hl with | [_, _], _ => rfl⟩
theorem c__law_ways : DefC mo d__law_ways := ⟨⟨rfl, rfl, rfl, by decide +kernel, rfl, by decide +kernel, by decide +kernel⟩, by kernel_rfl, rfl, rfl, by decide +kernel, fun _ _ _ _ _ _ us hl => match us, hl with | [_], _ => rfl⟩
theorem c__law_walk : DefC mo d__law_walk := ⟨⟨rfl, rfl, rfl, by decide +kernel, rfl, by decide +kernel, by decide +kernel⟩, by kernel_rfl, rfl, rfl, by decide +kernel, fun _ _ _ _ _ _ us hl => match us, hl with | [_], _ => rfl⟩
theorem c__law_low : DefC mo d__law_low := ⟨⟨rfl, rfl, rfl, by decide +kernel, rfl, by decide +kernel, by decide +kernel⟩, by kernel_rfl, rfl, rfl, by decide +kernel, fun _ _ _ _ _ _ us hl => match us, hl with | [_, _], _ => rfl⟩
theorem c__law_sum : DefC mo d__law_sum := ⟨⟨rfl, rfl, rfl, by decide +kernel, rfl, by decide +kernel, by decide +kernel⟩, by kernel_rfl, rfl, rfl, by decide +kernel, fun _ _ _ _ _ _ us hl => match us, hl with | [_], _ => rfl⟩
theorem c__law_prod : DefC mo d__law_prod := ⟨⟨rfl, rfl, rfl, by decide +kernel, rfl, by decide +kernel, by decide +kernel⟩, by kernel_rfl, rfl, rfl, by decide +kernel, fun _ _ _ _ _ _ us hl => match us, hl with | [_, _], _ => rfl⟩
theorem c__law_rules : DefC mo d__law_rules := ⟨⟨rfl, rfl, rfl, by decide +kernel, rfl, by decide +kernel, by decide +kernel⟩, by kernel_rfl, rfl, rfl, by decide +kernel, fun _ _ _ _ _ _ us hl => match us, hl with | [_], _ => rfl⟩
theorem c__law_mean : DefC mo d__law_mean := ⟨⟨rfl, rfl, rfl, by decide +kernel, rfl, by decide +kernel, by decide +kernel⟩, by kernel_rfl, rfl, rfl, by decide +kernel, fun _ _ _ _ _ _ us hl => match us, hl with | [_, _], _ => rfl⟩
theorem c__law_places : DefC mo d__law_places := ⟨⟨rfl, rfl, rfl, by decide +kernel, rfl, by decide +kernel, by decide +kernel⟩, by kernel_rfl, rfl, rfl, by decide +kernel, fun _ _ _ _ _ _ us hl => match us, hl with | [_], _ => rfl⟩
theorem c__law_put : DefC mo d__law_put := ⟨⟨rfl, rfl, rfl, by decide +kernel, rfl, by decide +kernel, by decide +kernel⟩, by kernel_rfl, rfl, rfl, by decide +kernel, fun _ _ _ _ _ _ us hl => match us, hl with | [_, _, _], _ => rfl⟩
theorem c__law_spoilt_thing : DefC mo d__law_spoilt_thing := ⟨⟨rfl, rfl, rfl, by decide +kernel, rfl, by decide +kernel, by decide +kernel⟩, by kernel_rfl, rfl, rfl, by decide +kernel, fun _ _ _ _ _ _ us hl => match us, hl with | [_, _, _], _ => rfl⟩
theorem c__law_whole : DefC mo d__law_whole := ⟨⟨rfl, rfl, rfl, by decide +kernel, rfl, by decide +kernel, by decide +kernel⟩, by kernel_rfl, rfl, rfl, by decide +kernel, fun _ _ _ _ _ _ us hl => match us, hl with | [_, _, _], _ => rfl⟩
theorem c__law_is_game : DefC mo d__law_is_game := ⟨⟨rfl, rfl, rfl, by decide +kernel, rfl, by decide +kernel, by decide +kernel⟩, by kernel_rfl, rfl, rfl, by decide +kernel, fun _ _ _ _ _ _ us hl => match us, hl with | [_, _], _ => rfl⟩
theorem c__law_word : DefC mo d__law_word := ⟨⟨rfl, rfl, rfl, by decide +kernel, rfl, by decide +kernel, by decide +kernel⟩, by kernel_rfl, rfl, rfl, by decide +kernel, fun _ _ _ _ _ _ us hl => match us, hl with | [_], _ => rfl⟩
theorem c__law_do : DefC mo d__law_do := ⟨⟨rfl, rfl, rfl, by decide +kernel, rfl, by decide +kernel, by decide +kernel⟩, by kernel_rfl, rfl, rfl, by decide +kernel, fun _ _ _ _ _ _ us hl => match us, hl with | [_, _], _ => rfl⟩
theorem c_law : DefC mo d_law := ⟨⟨rfl, rfl, rfl, by decide +kernel, rfl, by decide +kernel, by decide +kernel⟩, by kernel_rfl, rfl, rfl, by decide +kernel, fun _ _ _ _ _ _ us hl => match us, hl with | [_], _ => rfl⟩
theorem chk : ∀ t ∈ mo.tab, DefC mo t := by
  intro t h
  simp only [mo, tab, List.mem_cons, List.not_mem_nil, or_false] at h
  rcases h with rfl | rfl | rfl | rfl | rfl | rfl | rfl | rfl | rfl | rfl | rfl | rfl | rfl | rfl | rfl | rfl | rfl | rfl | rfl | rfl | rfl | rfl | rfl | rfl | rfl | rfl | rfl | rfl | rfl | rfl | rfl | rfl | rfl | rfl | rfl | rfl | rfl | rfl | rfl | rfl | rfl | rfl | rfl | rfl | rfl | rfl | rfl
  · exact c_divisor
  · exact c_share
  · exact c_plus
  · exact c_times
  · exact c_all_plus
  · exact c_is_whole
  · exact c_is_game_in
  · exact c_is_game
  · exact c_look_game
  · exact c_is_end
  · exact c_ways_of
  · exact c_paths_of
  · exact c_part_of
  · exact c_is_path
  · exact c_ends_of
  · exact c_ends
  · exact c_shares_of
  · exact c_chance_of
  · exact c_is_rule_of
  · exact c_is_rule
  · exact c_look_rule
  · exact c_how_many
  · exact c_how_many_rules
  · exact c_rules_of
  · exact c_all_rules
  · exact c_mean_of
  · exact c_mean_in
  · exact c_means
  · exact c__law_cell
  · exact c__law_pick
  · exact c__law_game
  · exact c__law_drawn
  · exact c__law_ways
  · exact c__law_walk
  · exact c__law_low
  · exact c__law_sum
  · exact c__law_prod
  · exact c__law_rules
  · exact c__law_mean
  · exact c__law_places
  · exact c__law_put
  · exact c__law_spoilt_thing
  · exact c__law_whole
  · exact c__law_is_game
  · exact c__law_word
  · exact c__law_do
  · exact c_law
end Fz

/-! the last step of the law: printed by gen.py -/
namespace Fz
open PySem
def ds_l : List (Nat × Def) := [(24, D_divisor), (25, D_share), (40, D_plus), (26, D_times), (44, D_all_plus), (0, D_is_whole), (1, D_is_game_in), (2, D_is_game), (3, D_look_game), (27, D_is_end), (4, D_ways_of), (5, D_paths_of), (28, D_part_of), (29, D_is_path), (33, D_ends_of), (34, D_ends), (35, D_shares_of), (36, D_chance_of), (46, D_is_rule_of), (47, D_is_rule), (48, D_look_rule), (56, D_how_many), (57, D_how_many_rules), (58, D_rules_of), (59, D_all_rules), (49, D_mean_of), (60, D_mean_in), (61, D_means), (7, D__law_cell), (8, D__law_pick), (9, D__law_game), (10, D__law_drawn), (11, D__law_ways), (12, D__law_walk), (13, D__law_low), (14, D__law_sum), (15, D__law_prod), (50, D__law_rules), (51, D__law_mean), (16, D__law_places), (17, D__law_put), (18, D__law_spoilt_thing), (19, D__law_whole), (20, D__law_is_game), (21, D__law_word), (62, D__law_do_v4)]
theorem q_divisor : allD.lookup 24 = some D_divisor ∧ (cSs D_divisor.body).all (fun f => (ds_l.map (·.1)).contains f) = true := ⟨a_divisor, by decide +kernel⟩
theorem q_share : allD.lookup 25 = some D_share ∧ (cSs D_share.body).all (fun f => (ds_l.map (·.1)).contains f) = true := ⟨a_share, by decide +kernel⟩
theorem q_plus : allD.lookup 40 = some D_plus ∧ (cSs D_plus.body).all (fun f => (ds_l.map (·.1)).contains f) = true := ⟨a_plus, by decide +kernel⟩
theorem q_times : allD.lookup 26 = some D_times ∧ (cSs D_times.body).all (fun f => (ds_l.map (·.1)).contains f) = true := ⟨a_times, by decide +kernel⟩
theorem q_all_plus : allD.lookup 44 = some D_all_plus ∧ (cSs D_all_plus.body).all (fun f => (ds_l.map (·.1)).contains f) = true := ⟨a_all_plus, by decide +kernel⟩
theorem q_is_whole : allD.lookup 0 = some D_is_whole ∧ (cSs D_is_whole.body).all (fun f => (ds_l.map (·.1)).contains f) = true := ⟨a_is_whole, by decide +kernel⟩
theorem q_is_game_in : allD.lookup 1 = some D_is_game_in ∧ (cSs D_is_game_in.body).all (fun f => (ds_l.map (·.1)).contains f) = true := ⟨a_is_game_in, by decide +kernel⟩
theorem q_is_game : allD.lookup 2 = some D_is_game ∧ (cSs D_is_game.body).all (fun f => (ds_l.map (·.1)).contains f) = true := ⟨a_is_game, by decide +kernel⟩
theorem q_look_game : allD.lookup 3 = some D_look_game ∧ (cSs D_look_game.body).all (fun f => (ds_l.map (·.1)).contains f) = true := ⟨a_look_game, by decide +kernel⟩
theorem q_is_end : allD.lookup 27 = some D_is_end ∧ (cSs D_is_end.body).all (fun f => (ds_l.map (·.1)).contains f) = true := ⟨a_is_end, by decide +kernel⟩
theorem q_ways_of : allD.lookup 4 = some D_ways_of ∧ (cSs D_ways_of.body).all (fun f => (ds_l.map (·.1)).contains f) = true := ⟨a_ways_of, by decide +kernel⟩
theorem q_paths_of : allD.lookup 5 = some D_paths_of ∧ (cSs D_paths_of.body).all (fun f => (ds_l.map (·.1)).contains f) = true := ⟨a_paths_of, by decide +kernel⟩
theorem q_part_of : allD.lookup 28 = some D_part_of ∧ (cSs D_part_of.body).all (fun f => (ds_l.map (·.1)).contains f) = true := ⟨a_part_of, by decide +kernel⟩
theorem q_is_path : allD.lookup 29 = some D_is_path ∧ (cSs D_is_path.body).all (fun f => (ds_l.map (·.1)).contains f) = true := ⟨a_is_path, by decide +kernel⟩
theorem q_ends_of : allD.lookup 33 = some D_ends_of ∧ (cSs D_ends_of.body).all (fun f => (ds_l.map (·.1)).contains f) = true := ⟨a_ends_of, by decide +kernel⟩
theorem q_ends : allD.lookup 34 = some D_ends ∧ (cSs D_ends.body).all (fun f => (ds_l.map (·.1)).contains f) = true := ⟨a_ends, by decide +kernel⟩
theorem q_shares_of : allD.lookup 35 = some D_shares_of ∧ (cSs D_shares_of.body).all (fun f => (ds_l.map (·.1)).contains f) = true := ⟨a_shares_of, by decide +kernel⟩
theorem q_chance_of : allD.lookup 36 = some D_chance_of ∧ (cSs D_chance_of.body).all (fun f => (ds_l.map (·.1)).contains f) = true := ⟨a_chance_of, by decide +kernel⟩
theorem q_is_rule_of : allD.lookup 46 = some D_is_rule_of ∧ (cSs D_is_rule_of.body).all (fun f => (ds_l.map (·.1)).contains f) = true := ⟨a_is_rule_of, by decide +kernel⟩
theorem q_is_rule : allD.lookup 47 = some D_is_rule ∧ (cSs D_is_rule.body).all (fun f => (ds_l.map (·.1)).contains f) = true := ⟨a_is_rule, by decide +kernel⟩
theorem q_look_rule : allD.lookup 48 = some D_look_rule ∧ (cSs D_look_rule.body).all (fun f => (ds_l.map (·.1)).contains f) = true := ⟨a_look_rule, by decide +kernel⟩
theorem q_how_many : allD.lookup 56 = some D_how_many ∧ (cSs D_how_many.body).all (fun f => (ds_l.map (·.1)).contains f) = true := ⟨a_how_many, by decide +kernel⟩
theorem q_how_many_rules : allD.lookup 57 = some D_how_many_rules ∧ (cSs D_how_many_rules.body).all (fun f => (ds_l.map (·.1)).contains f) = true := ⟨a_how_many_rules, by decide +kernel⟩
theorem q_rules_of : allD.lookup 58 = some D_rules_of ∧ (cSs D_rules_of.body).all (fun f => (ds_l.map (·.1)).contains f) = true := ⟨a_rules_of, by decide +kernel⟩
theorem q_all_rules : allD.lookup 59 = some D_all_rules ∧ (cSs D_all_rules.body).all (fun f => (ds_l.map (·.1)).contains f) = true := ⟨a_all_rules, by decide +kernel⟩
theorem q_mean_of : allD.lookup 49 = some D_mean_of ∧ (cSs D_mean_of.body).all (fun f => (ds_l.map (·.1)).contains f) = true := ⟨a_mean_of, by decide +kernel⟩
theorem q_mean_in : allD.lookup 60 = some D_mean_in ∧ (cSs D_mean_in.body).all (fun f => (ds_l.map (·.1)).contains f) = true := ⟨a_mean_in, by decide +kernel⟩
theorem q_means : allD.lookup 61 = some D_means ∧ (cSs D_means.body).all (fun f => (ds_l.map (·.1)).contains f) = true := ⟨a_means, by decide +kernel⟩
theorem q__law_cell : allD.lookup 7 = some D__law_cell ∧ (cSs D__law_cell.body).all (fun f => (ds_l.map (·.1)).contains f) = true := ⟨a__law_cell, by decide +kernel⟩
theorem q__law_pick : allD.lookup 8 = some D__law_pick ∧ (cSs D__law_pick.body).all (fun f => (ds_l.map (·.1)).contains f) = true := ⟨a__law_pick, by decide +kernel⟩
theorem q__law_game : allD.lookup 9 = some D__law_game ∧ (cSs D__law_game.body).all (fun f => (ds_l.map (·.1)).contains f) = true := ⟨a__law_game, by decide +kernel⟩
theorem q__law_drawn : allD.lookup 10 = some D__law_drawn ∧ (cSs D__law_drawn.body).all (fun f => (ds_l.map (·.1)).contains f) = true := ⟨a__law_drawn, by decide +kernel⟩
theorem q__law_ways : allD.lookup 11 = some D__law_ways ∧ (cSs D__law_ways.body).all (fun f => (ds_l.map (·.1)).contains f) = true := ⟨a__law_ways, by decide +kernel⟩
theorem q__law_walk : allD.lookup 12 = some D__law_walk ∧ (cSs D__law_walk.body).all (fun f => (ds_l.map (·.1)).contains f) = true := ⟨a__law_walk, by decide +kernel⟩
theorem q__law_low : allD.lookup 13 = some D__law_low ∧ (cSs D__law_low.body).all (fun f => (ds_l.map (·.1)).contains f) = true := ⟨a__law_low, by decide +kernel⟩
theorem q__law_sum : allD.lookup 14 = some D__law_sum ∧ (cSs D__law_sum.body).all (fun f => (ds_l.map (·.1)).contains f) = true := ⟨a__law_sum, by decide +kernel⟩
theorem q__law_prod : allD.lookup 15 = some D__law_prod ∧ (cSs D__law_prod.body).all (fun f => (ds_l.map (·.1)).contains f) = true := ⟨a__law_prod, by decide +kernel⟩
theorem q__law_rules : allD.lookup 50 = some D__law_rules ∧ (cSs D__law_rules.body).all (fun f => (ds_l.map (·.1)).contains f) = true := ⟨a__law_rules, by decide +kernel⟩
theorem q__law_mean : allD.lookup 51 = some D__law_mean ∧ (cSs D__law_mean.body).all (fun f => (ds_l.map (·.1)).contains f) = true := ⟨a__law_mean, by decide +kernel⟩
theorem q__law_places : allD.lookup 16 = some D__law_places ∧ (cSs D__law_places.body).all (fun f => (ds_l.map (·.1)).contains f) = true := ⟨a__law_places, by decide +kernel⟩
theorem q__law_put : allD.lookup 17 = some D__law_put ∧ (cSs D__law_put.body).all (fun f => (ds_l.map (·.1)).contains f) = true := ⟨a__law_put, by decide +kernel⟩
theorem q__law_spoilt_thing : allD.lookup 18 = some D__law_spoilt_thing ∧ (cSs D__law_spoilt_thing.body).all (fun f => (ds_l.map (·.1)).contains f) = true := ⟨a__law_spoilt_thing, by decide +kernel⟩
theorem q__law_whole : allD.lookup 19 = some D__law_whole ∧ (cSs D__law_whole.body).all (fun f => (ds_l.map (·.1)).contains f) = true := ⟨a__law_whole, by decide +kernel⟩
theorem q__law_is_game : allD.lookup 20 = some D__law_is_game ∧ (cSs D__law_is_game.body).all (fun f => (ds_l.map (·.1)).contains f) = true := ⟨a__law_is_game, by decide +kernel⟩
theorem q__law_word : allD.lookup 21 = some D__law_word ∧ (cSs D__law_word.body).all (fun f => (ds_l.map (·.1)).contains f) = true := ⟨a__law_word, by decide +kernel⟩
theorem q__law_do : allD.lookup 62 = some D__law_do_v4 ∧ (cSs D__law_do_v4.body).all (fun f => (ds_l.map (·.1)).contains f) = true := ⟨a__law_do_v4, by decide +kernel⟩
theorem part_l : Part allD (ds_l.map (·.1)) ds_l := ⟨q_divisor, q_share, q_plus, q_times, q_all_plus, q_is_whole, q_is_game_in, q_is_game, q_look_game, q_is_end, q_ways_of, q_paths_of, q_part_of, q_is_path, q_ends_of, q_ends, q_shares_of, q_chance_of, q_is_rule_of, q_is_rule, q_look_rule, q_how_many, q_how_many_rules, q_rules_of, q_all_rules, q_mean_of, q_mean_in, q_means, q__law_cell, q__law_pick, q__law_game, q__law_drawn, q__law_ways, q__law_walk, q__law_low, q__law_sum, q__law_prod, q__law_rules, q__law_mean, q__law_places, q__law_put, q__law_spoilt_thing, q__law_whole, q__law_is_game, q__law_word, q__law_do, trivial⟩
theorem law_main (ns : List Int) (h : ns.length ≤ 63) : mo.F 41 d_law.id [.lst (ns.map T.int)] = .ok (.bl true) := by
  show callF (dsOf tab) 41 63 [scr ns] = _
  have e : dsOf tab = ds_l ++ [(63, D_law_k11)] := rfl
  rw [e, law_all part_l (by decide +kernel) (by decide +kernel) 40 _ rfl]
  exact law11 ns
end Fz

open PySem PySem.W PyProof.Rows
set_option maxRecDepth 100000 in
set_option maxHeartbeats 0 in
theorem PySem.Challenge.cw_fairstops_k11_whole_rules_holds : PySem.Challenge.rw_fairstops_k11_whole_rules.Holds := by
  w_on; o_law; k_head; (case hw => w_witness2)
  k_fill
  refine Fz.law_holds (l := PySem.Challenge.rw_fairstops_k11_whole_rules) (M := Fz.mo) (t := Fz.d_law) (n := 40) (x := "_law_script") rfl rfl ⟨rfl, by decide, by decide⟩ (fun w h Y => PySem.W.kIn_of Y) (by decide +kernel) (by simp [Fz.mo, Fz.tab]) rfl rfl (by decide +kernel) (by decide +kernel) Fz.chk Fz.law_main ?F
  case F =>
    intro w
    refine' Fz.facts_mk ?h1 ?h2 ?h3 ?h4 ?h5 ?h6
    case' h1 => skip
    refine' Fz.FnsF.cons (Fz.fnF_mk ?a ?l ?c ?k) ?r1
    (case a => k_is); (case l => k_is); (case c => k_is); (case k => k_is)
    case' r1 => skip
    refine' Fz.FnsF.cons (Fz.fnF_mk ?a ?l ?c ?k) ?r2
    (case a => k_is); (case l => k_is); (case c => k_is); (case k => k_is)
    case' r2 => skip
    refine' Fz.FnsF.cons (Fz.fnF_mk ?a ?l ?c ?k) ?r3
    (case a => k_is); (case l => k_is); (case c => k_is); (case k => k_is)
    case' r3 => skip
    refine' Fz.FnsF.cons (Fz.fnF_mk ?a ?l ?c ?k) ?r4
    (case a => k_is); (case l => k_is); (case c => k_is); (case k => k_is)
    case' r4 => skip
    refine' Fz.FnsF.cons (Fz.fnF_mk ?a ?l ?c ?k) ?r5
    (case a => k_is); (case l => k_is); (case c => k_is); (case k => k_is)
    case' r5 => skip
    refine' Fz.FnsF.cons (Fz.fnF_mk ?a ?l ?c ?k) ?r6
    (case a => k_is); (case l => k_is); (case c => k_is); (case k => k_is)
    case' r6 => skip
    refine' Fz.FnsF.cons (Fz.fnF_mk ?a ?l ?c ?k) ?r7
    (case a => k_is); (case l => k_is); (case c => k_is); (case k => k_is)
    case' r7 => skip
    refine' Fz.FnsF.cons (Fz.fnF_mk ?a ?l ?c ?k) ?r8
    (case a => k_is); (case l => k_is); (case c => k_is); (case k => k_is)
    case' r8 => skip
    refine' Fz.FnsF.cons (Fz.fnF_mk ?a ?l ?c ?k) ?r9
    (case a => k_is); (case l => k_is); (case c => k_is); (case k => k_is)
    case' r9 => skip
    refine' Fz.FnsF.cons (Fz.fnF_mk ?a ?l ?c ?k) ?r10
    (case a => k_is); (case l => k_is); (case c => k_is); (case k => k_is)
    case' r10 => skip
    refine' Fz.FnsF.cons (Fz.fnF_mk ?a ?l ?c ?k) ?r11
    (case a => k_is); (case l => k_is); (case c => k_is); (case k => k_is)
    case' r11 => skip
    refine' Fz.FnsF.cons (Fz.fnF_mk ?a ?l ?c ?k) ?r12
    (case a => k_is); (case l => k_is); (case c => k_is); (case k => k_is)
    case' r12 => skip
    refine' Fz.FnsF.cons (Fz.fnF_mk ?a ?l ?c ?k) ?r13
    (case a => k_is); (case l => k_is); (case c => k_is); (case k => k_is)
    case' r13 => skip
    refine' Fz.FnsF.cons (Fz.fnF_mk ?a ?l ?c ?k) ?r14
    (case a => k_is); (case l => k_is); (case c => k_is); (case k => k_is)
    case' r14 => skip
    refine' Fz.FnsF.cons (Fz.fnF_mk ?a ?l ?c ?k) ?r15
    (case a => k_is); (case l => k_is); (case c => k_is); (case k => k_is)
    case' r15 => skip
    refine' Fz.FnsF.cons (Fz.fnF_mk ?a ?l ?c ?k) ?r16
    (case a => k_is); (case l => k_is); (case c => k_is); (case k => k_is)
    case' r16 => skip
    refine' Fz.FnsF.cons (Fz.fnF_mk ?a ?l ?c ?k) ?r17
    (case a => k_is); (case l => k_is); (case c => k_is); (case k => k_is)
    case' r17 => skip
    refine' Fz.FnsF.cons (Fz.fnF_mk ?a ?l ?c ?k) ?r18
    (case a => k_is); (case l => k_is); (case c => k_is); (case k => k_is)
    case' r18 => skip
    refine' Fz.FnsF.cons (Fz.fnF_mk ?a ?l ?c ?k) ?r19
    (case a => k_is); (case l => k_is); (case c => k_is); (case k => k_is)
    case' r19 => skip
    refine' Fz.FnsF.cons (Fz.fnF_mk ?a ?l ?c ?k) ?r20
    (case a => k_is); (case l => k_is); (case c => k_is); (case k => k_is)
    case' r20 => skip
    refine' Fz.FnsF.cons (Fz.fnF_mk ?a ?l ?c ?k) ?r21
    (case a => k_is); (case l => k_is); (case c => k_is); (case k => k_is)
    case' r21 => skip
    refine' Fz.FnsF.cons (Fz.fnF_mk ?a ?l ?c ?k) ?r22
    (case a => k_is); (case l => k_is); (case c => k_is); (case k => k_is)
    case' r22 => skip
    refine' Fz.FnsF.cons (Fz.fnF_mk ?a ?l ?c ?k) ?r23
    (case a => k_is); (case l => k_is); (case c => k_is); (case k => k_is)
    case' r23 => skip
    refine' Fz.FnsF.cons (Fz.fnF_mk ?a ?l ?c ?k) ?r24
    (case a => k_is); (case l => k_is); (case c => k_is); (case k => k_is)
    case' r24 => skip
    refine' Fz.FnsF.cons (Fz.fnF_mk ?a ?l ?c ?k) ?r25
    (case a => k_is); (case l => k_is); (case c => k_is); (case k => k_is)
    case' r25 => skip
    refine' Fz.FnsF.cons (Fz.fnF_mk ?a ?l ?c ?k) ?r26
    (case a => k_is); (case l => k_is); (case c => k_is); (case k => k_is)
    case' r26 => skip
    refine' Fz.FnsF.cons (Fz.fnF_mk ?a ?l ?c ?k) ?r27
    (case a => k_is); (case l => k_is); (case c => k_is); (case k => k_is)
    case' r27 => skip
    refine' Fz.FnsF.cons (Fz.fnF_mk ?a ?l ?c ?k) ?r28
    (case a => k_is); (case l => k_is); (case c => k_is); (case k => k_is)
    case' r28 => skip
    refine' Fz.FnsF.cons (Fz.fnF_mk ?a ?l ?c ?k) ?r29
    (case a => k_is); (case l => k_is); (case c => k_is); (case k => k_is)
    case' r29 => skip
    refine' Fz.FnsF.cons (Fz.fnF_mk ?a ?l ?c ?k) ?r30
    (case a => k_is); (case l => k_is); (case c => k_is); (case k => k_is)
    case' r30 => skip
    refine' Fz.FnsF.cons (Fz.fnF_mk ?a ?l ?c ?k) ?r31
    (case a => k_is); (case l => k_is); (case c => k_is); (case k => k_is)
    case' r31 => skip
    refine' Fz.FnsF.cons (Fz.fnF_mk ?a ?l ?c ?k) ?r32
    (case a => k_is); (case l => k_is); (case c => k_is); (case k => k_is)
    case' r32 => skip
    refine' Fz.FnsF.cons (Fz.fnF_mk ?a ?l ?c ?k) ?r33
    (case a => k_is); (case l => k_is); (case c => k_is); (case k => k_is)
    case' r33 => skip
    refine' Fz.FnsF.cons (Fz.fnF_mk ?a ?l ?c ?k) ?r34
    (case a => k_is); (case l => k_is); (case c => k_is); (case k => k_is)
    case' r34 => skip
    refine' Fz.FnsF.cons (Fz.fnF_mk ?a ?l ?c ?k) ?r35
    (case a => k_is); (case l => k_is); (case c => k_is); (case k => k_is)
    case' r35 => skip
    refine' Fz.FnsF.cons (Fz.fnF_mk ?a ?l ?c ?k) ?r36
    (case a => k_is); (case l => k_is); (case c => k_is); (case k => k_is)
    case' r36 => skip
    refine' Fz.FnsF.cons (Fz.fnF_mk ?a ?l ?c ?k) ?r37
    (case a => k_is); (case l => k_is); (case c => k_is); (case k => k_is)
    case' r37 => skip
    refine' Fz.FnsF.cons (Fz.fnF_mk ?a ?l ?c ?k) ?r38
    (case a => k_is); (case l => k_is); (case c => k_is); (case k => k_is)
    case' r38 => skip
    refine' Fz.FnsF.cons (Fz.fnF_mk ?a ?l ?c ?k) ?r39
    (case a => k_is); (case l => k_is); (case c => k_is); (case k => k_is)
    case' r39 => skip
    refine' Fz.FnsF.cons (Fz.fnF_mk ?a ?l ?c ?k) ?r40
    (case a => k_is); (case l => k_is); (case c => k_is); (case k => k_is)
    case' r40 => skip
    refine' Fz.FnsF.cons (Fz.fnF_mk ?a ?l ?c ?k) ?r41
    (case a => k_is); (case l => k_is); (case c => k_is); (case k => k_is)
    case' r41 => skip
    refine' Fz.FnsF.cons (Fz.fnF_mk ?a ?l ?c ?k) ?r42
    (case a => k_is); (case l => k_is); (case c => k_is); (case k => k_is)
    case' r42 => skip
    refine' Fz.FnsF.cons (Fz.fnF_mk ?a ?l ?c ?k) ?r43
    (case a => k_is); (case l => k_is); (case c => k_is); (case k => k_is)
    case' r43 => skip
    refine' Fz.FnsF.cons (Fz.fnF_mk ?a ?l ?c ?k) ?r44
    (case a => k_is); (case l => k_is); (case c => k_is); (case k => k_is)
    case' r44 => skip
    refine' Fz.FnsF.cons (Fz.fnF_mk ?a ?l ?c ?k) ?r45
    (case a => k_is); (case l => k_is); (case c => k_is); (case k => k_is)
    case' r45 => skip
    refine' Fz.FnsF.cons (Fz.fnF_mk ?a ?l ?c ?k) ?r46
    (case a => k_is); (case l => k_is); (case c => k_is); (case k => k_is)
    case' r46 => skip
    refine' Fz.FnsF.cons (Fz.fnF_mk ?a ?l ?c ?k) ?r47
    (case a => k_is); (case l => k_is); (case c => k_is); (case k => k_is)
    case' r47 => skip
    exact Fz.FnsF.nil
    case' h2 => skip
    refine' Fz.ExsF.cons (Fz.exF_mk PySem.F.excBase_ValueError ?a ?kp ?x ?sb ?ty ?hg ?hk ?hd ?ha ?hn ?ht ?hm) ?r48
    (case a => k_is); (case kp => k_is); (case x => k_exc); (case sb => k_is); (case ty => k_is); (case hg => k_is); (case hk => k_is); (case hd => k_is); (case ha => k_is); (case hn => k_is); (case ht => k_is); (case hm => k_is)
    case' r48 => skip
    refine' Fz.ExsF.cons (Fz.exF_mk PySem.F.excBase_ValueError ?a ?kp ?x ?sb ?ty ?hg ?hk ?hd ?ha ?hn ?ht ?hm) ?r49
    (case a => k_is); (case kp => k_is); (case x => k_exc); (case sb => k_is); (case ty => k_is); (case hg => k_is); (case hk => k_is); (case hd => k_is); (case ha => k_is); (case hn => k_is); (case ht => k_is); (case hm => k_is)
    case' r49 => skip
    refine' Fz.ExsF.cons (Fz.exF_mk PySem.F.excBase_ValueError ?a ?kp ?x ?sb ?ty ?hg ?hk ?hd ?ha ?hn ?ht ?hm) ?r50
    (case a => k_is); (case kp => k_is); (case x => k_exc); (case sb => k_is); (case ty => k_is); (case hg => k_is); (case hk => k_is); (case hd => k_is); (case ha => k_is); (case hn => k_is); (case ht => k_is); (case hm => k_is)
    case' r50 => skip
    refine' Fz.ExsF.cons (Fz.exF_mk PySem.F.excBase_ValueError ?a ?kp ?x ?sb ?ty ?hg ?hk ?hd ?ha ?hn ?ht ?hm) ?r51
    (case a => k_is); (case kp => k_is); (case x => k_exc); (case sb => k_is); (case ty => k_is); (case hg => k_is); (case hk => k_is); (case hd => k_is); (case ha => k_is); (case hn => k_is); (case ht => k_is); (case hm => k_is)
    case' r51 => skip
    refine' Fz.ExsF.cons (Fz.exF_mk PySem.F.excBase_ValueError ?a ?kp ?x ?sb ?ty ?hg ?hk ?hd ?ha ?hn ?ht ?hm) ?r52
    (case a => k_is); (case kp => k_is); (case x => k_exc); (case sb => k_is); (case ty => k_is); (case hg => k_is); (case hk => k_is); (case hd => k_is); (case ha => k_is); (case hn => k_is); (case ht => k_is); (case hm => k_is)
    case' r52 => skip
    refine' Fz.ExsF.cons (Fz.exF_mk PySem.F.excBase_ValueError ?a ?kp ?x ?sb ?ty ?hg ?hk ?hd ?ha ?hn ?ht ?hm) ?r53
    (case a => k_is); (case kp => k_is); (case x => k_exc); (case sb => k_is); (case ty => k_is); (case hg => k_is); (case hk => k_is); (case hd => k_is); (case ha => k_is); (case hn => k_is); (case ht => k_is); (case hm => k_is)
    case' r53 => skip
    refine' Fz.ExsF.cons (Fz.exF_mk PySem.F.excBase_ValueError ?a ?kp ?x ?sb ?ty ?hg ?hk ?hd ?ha ?hn ?ht ?hm) ?r54
    (case a => k_is); (case kp => k_is); (case x => k_exc); (case sb => k_is); (case ty => k_is); (case hg => k_is); (case hk => k_is); (case hd => k_is); (case ha => k_is); (case hn => k_is); (case ht => k_is); (case hm => k_is)
    case' r54 => skip
    exact Fz.ExsF.nil
    case' h3 => skip
    refine' Fz.CstF.int ?a ?r55
    (case a => k_is)
    case' r55 => skip
    refine' Fz.CstF.int ?a ?r56
    (case a => k_is)
    case' r56 => skip
    refine' Fz.CstF.int ?a ?r57
    (case a => k_is)
    case' r57 => skip
    refine' Fz.CstF.int ?a ?r58
    (case a => k_is)
    case' r58 => skip
    exact Fz.CstF.nil
    case' h4 => skip
    refine' Fz.NoF.cons ?a ?r59
    (case a => k_is)
    case' r59 => skip
    refine' Fz.NoF.cons ?a ?r60
    (case a => k_is)
    case' r60 => skip
    refine' Fz.NoF.cons ?a ?r61
    (case a => k_is)
    case' r61 => skip
    refine' Fz.NoF.cons ?a ?r62
    (case a => k_is)
    case' r62 => skip
    refine' Fz.NoF.cons ?a ?r63
    (case a => k_is)
    case' r63 => skip
    refine' Fz.NoF.cons ?a ?r64
    (case a => k_is)
    case' r64 => skip
    refine' Fz.NoF.cons ?a ?r65
    (case a => k_is)
    case' r65 => skip
    refine' Fz.NoF.cons ?a ?r66
    (case a => k_is)
    case' r66 => skip
    refine' Fz.NoF.cons ?a ?r67
    (case a => k_is)
    case' r67 => skip
    refine' Fz.NoF.cons ?a ?r68
    (case a => k_is)
    case' r68 => skip
    refine' Fz.NoF.cons ?a ?r69
    (case a => k_is)
    case' r69 => skip
    refine' Fz.NoF.cons ?a ?r70
    (case a => k_is)
    case' r70 => skip
    refine' Fz.NoF.cons ?a ?r71
    (case a => k_is)
    case' r71 => skip
    refine' Fz.NoF.cons ?a ?r72
    (case a => k_is)
    case' r72 => skip
    refine' Fz.NoF.cons ?a ?r73
    (case a => k_is)
    case' r73 => skip
    refine' Fz.NoF.cons ?a ?r74
    (case a => k_is)
    case' r74 => skip
    refine' Fz.NoF.cons ?a ?r75
    (case a => k_is)
    case' r75 => skip
    exact Fz.NoF.nil
    case' h5 => skip
    refine' Fz.IsF.own ?a ?p76 ?r76
    (case a => k_is)
    case' r76 => skip
    refine' Fz.IsF.own ?a ?p77 ?r77
    (case a => k_is)
    case' r77 => skip
    refine' Fz.IsF.own ?a ?p78 ?r78
    (case a => k_is)
    case' r78 => skip
    refine' Fz.IsF.own ?a ?p79 ?r79
    (case a => k_is)
    case' r79 => skip
    refine' Fz.IsF.own ?a ?p80 ?r80
    (case a => k_is)
    case' r80 => skip
    refine' Fz.IsF.own ?a ?p81 ?r81
    (case a => k_is)
    case' r81 => skip
    refine' Fz.IsF.blt ?a ?b ?p82 ?r82
    (case a => k_is); (case b => rfl)
    case' r82 => skip
    exact Fz.IsF.nil
    case' p76 => skip
    refine' Fz.KitF.cons (x := "StopError") ?a ?e (by rfl) ?kh ?r83
    (case a => k_is); (case e => rfl); (case kh => kit_is)
    case' r83 => skip
    refine' Fz.KitF.cons (x := "NoGame") ?a ?e (by rfl) ?kh ?r84
    (case a => k_is); (case e => rfl); (case kh => kit_is)
    case' r84 => skip
    refine' Fz.KitF.cons (x := "NoPath") ?a ?e (by rfl) ?kh ?r85
    (case a => k_is); (case e => rfl); (case kh => kit_is)
    case' r85 => skip
    refine' Fz.KitF.cons (x := "NoRule") ?a ?e (by rfl) ?kh ?r86
    (case a => k_is); (case e => rfl); (case kh => kit_is)
    case' r86 => skip
    refine' Fz.KitF.cons (x := "NoBets") ?a ?e (by rfl) ?kh ?r87
    (case a => k_is); (case e => rfl); (case kh => kit_is)
    case' r87 => skip
    refine' Fz.KitF.cons (x := "Unpaid") ?a ?e (by rfl) ?kh ?r88
    (case a => k_is); (case e => rfl); (case kh => kit_is)
    case' r88 => skip
    refine' Fz.KitF.cons (x := "NoText") ?a ?e (by rfl) ?kh ?r89
    (case a => k_is); (case e => rfl); (case kh => kit_is)
    case' r89 => skip
    exact Fz.KitF.nil
    case' p77 => skip
    refine' Fz.KitF.cons (x := "StopError") ?a ?e (by rfl) ?kh ?r90
    (case a => k_is); (case e => rfl); (case kh => kit_is)
    case' r90 => skip
    refine' Fz.KitF.cons (x := "NoGame") ?a ?e (by rfl) ?kh ?r91
    (case a => k_is); (case e => rfl); (case kh => kit_is)
    case' r91 => skip
    refine' Fz.KitF.cons (x := "NoPath") ?a ?e (by rfl) ?kh ?r92
    (case a => k_is); (case e => rfl); (case kh => kit_is)
    case' r92 => skip
    refine' Fz.KitF.cons (x := "NoRule") ?a ?e (by rfl) ?kh ?r93
    (case a => k_is); (case e => rfl); (case kh => kit_is)
    case' r93 => skip
    refine' Fz.KitF.cons (x := "NoBets") ?a ?e (by rfl) ?kh ?r94
    (case a => k_is); (case e => rfl); (case kh => kit_is)
    case' r94 => skip
    refine' Fz.KitF.cons (x := "Unpaid") ?a ?e (by rfl) ?kh ?r95
    (case a => k_is); (case e => rfl); (case kh => kit_is)
    case' r95 => skip
    refine' Fz.KitF.cons (x := "NoText") ?a ?e (by rfl) ?kh ?r96
    (case a => k_is); (case e => rfl); (case kh => kit_is)
    case' r96 => skip
    exact Fz.KitF.nil
    case' p78 => skip
    refine' Fz.KitF.cons (x := "StopError") ?a ?e (by rfl) ?kh ?r97
    (case a => k_is); (case e => rfl); (case kh => kit_is)
    case' r97 => skip
    refine' Fz.KitF.cons (x := "NoGame") ?a ?e (by rfl) ?kh ?r98
    (case a => k_is); (case e => rfl); (case kh => kit_is)
    case' r98 => skip
    refine' Fz.KitF.cons (x := "NoPath") ?a ?e (by rfl) ?kh ?r99
    (case a => k_is); (case e => rfl); (case kh => kit_is)
    case' r99 => skip
    refine' Fz.KitF.cons (x := "NoRule") ?a ?e (by rfl) ?kh ?r100
    (case a => k_is); (case e => rfl); (case kh => kit_is)
    case' r100 => skip
    refine' Fz.KitF.cons (x := "NoBets") ?a ?e (by rfl) ?kh ?r101
    (case a => k_is); (case e => rfl); (case kh => kit_is)
    case' r101 => skip
    refine' Fz.KitF.cons (x := "Unpaid") ?a ?e (by rfl) ?kh ?r102
    (case a => k_is); (case e => rfl); (case kh => kit_is)
    case' r102 => skip
    refine' Fz.KitF.cons (x := "NoText") ?a ?e (by rfl) ?kh ?r103
    (case a => k_is); (case e => rfl); (case kh => kit_is)
    case' r103 => skip
    exact Fz.KitF.nil
    case' p79 => skip
    refine' Fz.KitF.cons (x := "StopError") ?a ?e (by rfl) ?kh ?r104
    (case a => k_is); (case e => rfl); (case kh => kit_is)
    case' r104 => skip
    refine' Fz.KitF.cons (x := "NoGame") ?a ?e (by rfl) ?kh ?r105
    (case a => k_is); (case e => rfl); (case kh => kit_is)
    case' r105 => skip
    refine' Fz.KitF.cons (x := "NoPath") ?a ?e (by rfl) ?kh ?r106
    (case a => k_is); (case e => rfl); (case kh => kit_is)
    case' r106 => skip
    refine' Fz.KitF.cons (x := "NoRule") ?a ?e (by rfl) ?kh ?r107
    (case a => k_is); (case e => rfl); (case kh => kit_is)
    case' r107 => skip
    refine' Fz.KitF.cons (x := "NoBets") ?a ?e (by rfl) ?kh ?r108
    (case a => k_is); (case e => rfl); (case kh => kit_is)
    case' r108 => skip
    refine' Fz.KitF.cons (x := "Unpaid") ?a ?e (by rfl) ?kh ?r109
    (case a => k_is); (case e => rfl); (case kh => kit_is)
    case' r109 => skip
    refine' Fz.KitF.cons (x := "NoText") ?a ?e (by rfl) ?kh ?r110
    (case a => k_is); (case e => rfl); (case kh => kit_is)
    case' r110 => skip
    exact Fz.KitF.nil
    case' p80 => skip
    refine' Fz.KitF.cons (x := "StopError") ?a ?e (by rfl) ?kh ?r111
    (case a => k_is); (case e => rfl); (case kh => kit_is)
    case' r111 => skip
    refine' Fz.KitF.cons (x := "NoGame") ?a ?e (by rfl) ?kh ?r112
    (case a => k_is); (case e => rfl); (case kh => kit_is)
    case' r112 => skip
    refine' Fz.KitF.cons (x := "NoPath") ?a ?e (by rfl) ?kh ?r113
    (case a => k_is); (case e => rfl); (case kh => kit_is)
    case' r113 => skip
    refine' Fz.KitF.cons (x := "NoRule") ?a ?e (by rfl) ?kh ?r114
    (case a => k_is); (case e => rfl); (case kh => kit_is)
    case' r114 => skip
    refine' Fz.KitF.cons (x := "NoBets") ?a ?e (by rfl) ?kh ?r115
    (case a => k_is); (case e => rfl); (case kh => kit_is)
    case' r115 => skip
    refine' Fz.KitF.cons (x := "Unpaid") ?a ?e (by rfl) ?kh ?r116
    (case a => k_is); (case e => rfl); (case kh => kit_is)
    case' r116 => skip
    refine' Fz.KitF.cons (x := "NoText") ?a ?e (by rfl) ?kh ?r117
    (case a => k_is); (case e => rfl); (case kh => kit_is)
    case' r117 => skip
    exact Fz.KitF.nil
    case' p81 => skip
    refine' Fz.KitF.cons (x := "StopError") ?a ?e (by rfl) ?kh ?r118
    (case a => k_is); (case e => rfl); (case kh => kit_is)
    case' r118 => skip
    refine' Fz.KitF.cons (x := "NoGame") ?a ?e (by rfl) ?kh ?r119
    (case a => k_is); (case e => rfl); (case kh => kit_is)
    case' r119 => skip
    refine' Fz.KitF.cons (x := "NoPath") ?a ?e (by rfl) ?kh ?r120
    (case a => k_is); (case e => rfl); (case kh => kit_is)
    case' r120 => skip
    refine' Fz.KitF.cons (x := "NoRule") ?a ?e (by rfl) ?kh ?r121
    (case a => k_is); (case e => rfl); (case kh => kit_is)
    case' r121 => skip
    refine' Fz.KitF.cons (x := "NoBets") ?a ?e (by rfl) ?kh ?r122
    (case a => k_is); (case e => rfl); (case kh => kit_is)
    case' r122 => skip
    refine' Fz.KitF.cons (x := "Unpaid") ?a ?e (by rfl) ?kh ?r123
    (case a => k_is); (case e => rfl); (case kh => kit_is)
    case' r123 => skip
    refine' Fz.KitF.cons (x := "NoText") ?a ?e (by rfl) ?kh ?r124
    (case a => k_is); (case e => rfl); (case kh => kit_is)
    case' r124 => skip
    exact Fz.KitF.nil
    case' p82 => skip
    refine' Fz.KitF.cons (x := "StopError") ?a ?e (by rfl) ?kh ?r125
    (case a => k_is); (case e => rfl); (case kh => kit_is)
    case' r125 => skip
    refine' Fz.KitF.cons (x := "NoGame") ?a ?e (by rfl) ?kh ?r126
    (case a => k_is); (case e => rfl); (case kh => kit_is)
    case' r126 => skip
    refine' Fz.KitF.cons (x := "NoPath") ?a ?e (by rfl) ?kh ?r127
    (case a => k_is); (case e => rfl); (case kh => kit_is)
    case' r127 => skip
    refine' Fz.KitF.cons (x := "NoRule") ?a ?e (by rfl) ?kh ?r128
    (case a => k_is); (case e => rfl); (case kh => kit_is)
    case' r128 => skip
    refine' Fz.KitF.cons (x := "NoBets") ?a ?e (by rfl) ?kh ?r129
    (case a => k_is); (case e => rfl); (case kh => kit_is)
    case' r129 => skip
    refine' Fz.KitF.cons (x := "Unpaid") ?a ?e (by rfl) ?kh ?r130
    (case a => k_is); (case e => rfl); (case kh => kit_is)
    case' r130 => skip
    refine' Fz.KitF.cons (x := "NoText") ?a ?e (by rfl) ?kh ?r131
    (case a => k_is); (case e => rfl); (case kh => kit_is)
    case' r131 => skip
    exact Fz.KitF.nil
    case' h6 => skip
    refine' Fz.TrF.own ?a ?p132 ?r132
    (case a => k_is)
    case' r132 => skip
    exact Fz.TrF.nil
    case' p132 => skip
    refine' Fz.ExmF.cons (x := "StopError") ?a ?e (by rfl) ?eh ?r133
    (case a => k_is); (case e => rfl); (case eh => kts_exm)
    case' r133 => skip
    refine' Fz.ExmF.cons (x := "NoGame") ?a ?e (by rfl) ?eh ?r134
    (case a => k_is); (case e => rfl); (case eh => kts_exm)
    case' r134 => skip
    refine' Fz.ExmF.cons (x := "NoPath") ?a ?e (by rfl) ?eh ?r135
    (case a => k_is); (case e => rfl); (case eh => kts_exm)
    case' r135 => skip
    refine' Fz.ExmF.cons (x := "NoRule") ?a ?e (by rfl) ?eh ?r136
    (case a => k_is); (case e => rfl); (case eh => kts_exm)
    case' r136 => skip
    refine' Fz.ExmF.cons (x := "NoBets") ?a ?e (by rfl) ?eh ?r137
    (case a => k_is); (case e => rfl); (case eh => kts_exm)
    case' r137 => skip
    refine' Fz.ExmF.cons (x := "Unpaid") ?a ?e (by rfl) ?eh ?r138
    (case a => k_is); (case e => rfl); (case eh => kts_exm)
    case' r138 => skip
    refine' Fz.ExmF.cons (x := "NoText") ?a ?e (by rfl) ?eh ?r139
    (case a => k_is); (case e => rfl); (case eh => kts_exm)
    case' r139 => skip
    exact Fz.ExmF.nil

