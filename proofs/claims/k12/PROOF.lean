import PyProof.Rows.All
import Wide.All
import OpenK.AllK
import Wide.FinOn
import HandS.ForMost
import HandS.Lambda
import HandS.ExcCtx
import HandS.HeadHook4
import KE.KDictKeyed
import KE.KeyNested
import HandS.TupAny
import HandS.TupMul
import HandS.Deep
import HandS.Style
import HandS.Replace
import HandS.IsInst
import HandS.Codes
import HandS.ForExc
import HandS.CallLocal
import HandS.CallSlots
import HandS.Walk
import HandS.Words
import HandS.Defaults
import HandS.Iter
import KE.KDictWalk
import HandS.HeadEnd
import KE.GoesEnum
import PyProof.Draws
import HandS.Text
import HandS.Conv
import KE.KDictDisplayH
import HandS.HotCalls
import KE.GoesComp
import HandS.ExcIs
import HandS.HeadHook1
import HandS.HeadWalk
import KE.KDictSum
import KE.KIndexOf
import KE.GoesZip
import KE.GoesMore
import PyProof.MeetsSeq
import KE.KPop
import KE.SortData
import HandS.Wide
import HandS.Head0
import HandS.Head1
import HandS.Head2
import HandS.HeadHook2
import PySem.Challenge.RW_turnedlogs_k12_whole_lines_that_are_alwa
set_option Elab.async false
set_option linter.all false
set_option maxRecDepth 100000
set_option maxHeartbeats 2000000
/-! Cor0: the core language: values D, slots, terms CE, CS, what they evaluate to (plain functions). -/
namespace Cor
open PySem L2

inductive D where
  | non | bl (b : Bool) | int (i : Int) | str (x : List Nat) | tup (xs : List D) | lst (xs : List D) | dct (tk : Bool) (ks vs : List D) | fn (x : Str)
  deriving Inhabited

/-- an exception: its class's name, what it was made with -/
structure XC where
  cls : Str
  args : List D

inductive Slot where
  | no | val (d : D) | own (d : D) | io (d : D) | raw (v : L2.V)
  deriving Inhabited
abbrev Env := List Slot
def Slot.get : Slot → Option D
  | .no => none
  | .val d => some d
  | .own d => some d
  | .io d => some d
  | .raw _ => none

inductive RE where
  | ok (d : D) (fr : Bool) (env : Env) | ex (c : XC) (env : Env) | no
inductive REs where
  | ok (ds : List D) (env : Env) | ex (c : XC) (env : Env) | no
inductive RS where
  | nx (env : Env) | rt (d : D) (fr : Bool) (env : Env) | bk (env : Env) | ct (env : Env) | ex (c : XC) (env : Env) | no
inductive FR where
  | ret (d : D) (fr : Bool) (io : Option D) | exc (c : XC) (io : Option D) | no
abbrev Sem := List D → FR

def lim : Nat := 1000000

/-! ### values -/
mutual
def D.eqv : D → D → Bool
  | .non, .non => true
  | .bl a, .bl b => a == b
  | .bl a, .int j => (if a then 1 else 0) == j
  | .int i, .bl b => i == (if b then 1 else 0)
  | .int i, .int j => i == j
  | .str x, .str y => decide (x = y)
  | .lst xs, .lst ys => eqvs xs ys
  | .tup xs, .tup ys => eqvs xs ys
  | _, _ => false
def eqvs : List D → List D → Bool
  | [], [] => true
  | x :: xs, y :: ys => D.eqv x y && eqvs xs ys
  | _, _ => false
end
/-- data of at most n levels -/
def D.okN : Nat → D → Bool
  | _, .non => true
  | _, .bl _ => true
  | _, .int _ => true
  | _, .str x => x.all fun c => decide (c < 1114112)
  | n + 1, .tup xs => xs.all (okN n)
  | n + 1, .lst xs => xs.all (okN n)
  | _, _ => false
def D.isAtom : D → Bool
  | .non => true
  | .bl _ => true
  | .int _ => true
  | .str _ => true
  | _ => false
def intsOf : List D → Option (List Int)
  | [] => some []
  | .int i :: ds => (intsOf ds).map (i :: ·)
  | _ => none
def blsOf : List D → Option (List Bool)
  | [] => some []
  | .bl i :: ds => (blsOf ds).map (i :: ·)
  | _ => none
def strsOf : List D → Option (List (List Nat))
  | [] => some []
  | .str i :: ds => (strsOf ds).map (i :: ·)
  | _ => none
def maxI : List Int → Option Int
  | [] => none
  | [a] => some a
  | a :: as => (maxI as).map fun b => if a < b then b else a
def minI : List Int → Option Int
  | [] => none
  | [a] => some a
  | a :: as => (minI as).map fun b => if b < a then b else a

/-! ### keys of dicts -/
/-- data that can be keys: ints, tuples of such -/
def okK : Nat → D → Bool
  | _, .int _ => true
  | n + 1, .tup xs => xs.all (okK n)
  | _, _ => false
def isTupK (d : D) : Bool := match d with
  | .tup _ => okK 8 d
  | _ => false
def isNumK (d : D) : Bool := match d with
  | .int _ => true
  | _ => false
/-- which key it is -/
def findK (ks : List D) (k : D) : Option Nat := ks.findIdx? fun x => D.eqv x k
def keyB (tk : Bool) (k : D) : Bool := if tk then isTupK k else isNumK k
def lookD (ks ds : List D) (k : D) : Option D := (findK ks k).bind fun i => ds[i]?
/-- the keys behind d[k] = y; the values -/
def putKs {α : Type} (ks : List D) (k : D) (l : List α) (y : α) : List α := match findK ks k with
  | some _ => l
  | none => l ++ [y]
def putVs {α : Type} (ks : List D) (k : D) (ds : List α) (y : α) : List α := match findK ks k with
  | some i => ds.set i y
  | none => ds ++ [y]
def binD : Operator → D → D → Option (D × Bool)
  | .Add, .int i, .int j => some (.int (i + j), false)
  | .Add, .str a, .str b => if a.length + b.length ≤ lim then some (.str (a ++ b), false) else none
  | .Add, .tup a, .tup b => if a.length + b.length ≤ lim then some (.tup (a ++ b), false) else none
  | .Add, .lst a, .lst b => if a.length + b.length ≤ lim then some (.lst (a ++ b), true) else none
  | .Sub, .int i, .int j => some (.int (i - j), false)
  | .Mult, .int i, .int j => if i.natAbs < 2 ^ 64 ∨ j.natAbs < 2 ^ 64 then some (.int (i * j), false) else none
  | .Mult, .lst a, .int j => if a.length * j.toNat ≤ lim ∧ j < 1000000 ∧ -1000000 < j then some (.lst (List.replicate j.toNat a).flatten, true) else none
  | .Mult, .str a, .int j => if -1000 ≤ j ∧ j ≤ 1000 ∧ a.length ≤ 1000 then some (.str (List.replicate j.toNat a).flatten, false) else none
  | .Mult, .tup a, .int j => if 2 ≤ j ∧ j ≤ 1000 ∧ 1 ≤ a.length ∧ a.length ≤ 1000 then some (.tup (List.replicate j.toNat a).flatten, false) else none
  | .Mod, .int i, .int j => if j ≠ 0 then some (.int (i.fmod j), false) else none
  | .FloorDiv, .int i, .int j => if j ≠ 0 ∧ j.natAbs < 1073741824 then some (.int (i.fdiv j), false) else none
  | .Pow, .int i, .int j => if 0 ≤ j ∧ j ≤ 1000000 ∧ i.natAbs < 2 ^ 64 then some (.int (i ^ j.toNat), false) else none
  | _, _, _ => none
def isNon : D → Bool
  | .non => true
  | _ => false
def memD (a : D) : List D → Bool
  | [] => false
  | b :: bs => D.eqv b a || memD a bs
def cmpD : CmpOp → D → D → Option Bool
  | .Eq, a, b => if a.okN 8 && b.okN 8 then some (a.eqv b) else none
  | .NotEq, a, b => if a.okN 8 && b.okN 8 then some (!a.eqv b) else none
  | .Lt, .int i, .int j => some (decide (i < j))
  | .LtE, .int i, .int j => some (decide (i ≤ j))
  | .Gt, .int i, .int j => some (decide (j < i))
  | .GtE, .int i, .int j => some (decide (j ≤ i))
  | .Is, a, .non => some (isNon a)
  | .IsNot, a, .non => some (!isNon a)
  | .Is, .bl a, .bl b => some (a == b)
  | .IsNot, .bl a, .bl b => some (!(a == b))
  | .In, a, .tup bs => if a.okN 8 && bs.all (D.okN 8) then some (memD a bs) else none
  | .In, a, .lst bs => if a.okN 8 && bs.all (D.okN 8) then some (memD a bs) else none
  | .NotIn, a, .tup bs => if a.okN 8 && bs.all (D.okN 8) then some (!memD a bs) else none
  | .NotIn, a, .lst bs => if a.okN 8 && bs.all (D.okN 8) then some (!memD a bs) else none
  | .In, a, .dct tk ks _ => if keyB tk a then some (findK ks a).isSome else none
  | .NotIn, a, .dct tk ks _ => if keyB tk a then some (!(findK ks a).isSome) else none
  | .In, .str [c], .str b => some (decide (c ∈ b))
  | .NotIn, .str [c], .str b => some (!decide (c ∈ b))
  | _, _, _ => none
def subD : D → D → Option D
  | .tup xs, .int i => atI xs i
  | .lst xs, .int i => atI xs i
  | .dct tk ks ds, k => if keyB tk k then lookD ks ds k else none
  | .str xs, .int i => if xs.length ≤ lim then (atI xs i).map fun c => .str [c] else none
  | _, _ => none
def cutD {α : Type} (xs : List α) (lo hi : Option Int) : List α := (xs.drop (HT.sIx xs.length 0 lo)).take (HT.sIx xs.length xs.length hi - HT.sIx xs.length 0 lo)
def slcD : D → Option Int → Option Int → Option (D × Bool)
  | .tup xs, lo, hi => some (.tup (cutD xs lo hi), false)
  | .lst xs, lo, hi => some (.lst (cutD xs lo hi), true)
  | .str xs, lo, hi => if xs.length ≤ lim then some (.str (cutD xs lo hi), false) else none
  | _, _, _ => none

/-! ### built-ins -/
inductive BF where
  | len | sum | max | min | any | all | tuple | list | int | str | bool | abs | isInt | isBool | isStr | isTup | isLst
  deriving DecidableEq
def b1D : BF → D → Option (D × Bool)
  | .len, .tup xs => some (.int xs.length, false)
  | .len, .lst xs => some (.int xs.length, false)
  | .len, .dct _ ks _ => some (.int ks.length, false)
  | .len, .str xs => if xs.length ≤ lim then some (.int xs.length, false) else none
  | .sum, .lst xs => (intsOf xs).map fun is => (.int is.sum, false)
  | .sum, .tup xs => (intsOf xs).map fun is => (.int is.sum, false)
  | .max, .lst xs => ((intsOf xs).bind maxI).map fun i => (.int i, false)
  | .min, .lst xs => ((intsOf xs).bind minI).map fun i => (.int i, false)
  | .any, .lst xs => (blsOf xs).map fun bs => (.bl (bs.any id), false)
  | .all, .lst xs => (blsOf xs).map fun bs => (.bl (bs.all id), false)
  | .tuple, .lst xs => some (.tup xs, false)
  | .tuple, .tup xs => some (.tup xs, false)
  | .list, .lst xs => some (.lst xs, true)
  | .list, .tup xs => some (.lst xs, true)
  | .int, .int i => some (.int i, false)
  | .int, .bl b => some (.int (if b then 1 else 0), false)
  | .bool, .bl b => some (.bl b, false)
  | .abs, .int i => some (.int (if i < 0 then -i else i), false)
  | .str, .int i => if i.natAbs < 2 ^ 1900 then some (.str ((toString i).toList.map Char.toNat), false) else none
  | .isInt, d => match d with
    | .int _ => some (.bl true, false)
    | .bl _ => some (.bl true, false)
    | .dct _ _ _ => none
    | .fn _ => none
    | _ => some (.bl false, false)
  | .isBool, d => match d with
    | .bl _ => some (.bl true, false)
    | .dct _ _ _ => none
    | .fn _ => none
    | _ => some (.bl false, false)
  | .isStr, d => match d with
    | .str _ => some (.bl true, false)
    | .dct _ _ _ => none
    | .fn _ => none
    | _ => some (.bl false, false)
  | .isTup, d => match d with
    | .tup _ => some (.bl true, false)
    | .dct _ _ _ => none
    | .fn _ => none
    | _ => some (.bl false, false)
  | .isLst, d => match d with
    | .lst _ => some (.bl true, false)
    | .dct _ _ _ => none
    | .fn _ => none
    | _ => some (.bl false, false)
  | _, _ => none
inductive MF where
  | find | index | count | join | indexL
  deriving DecidableEq
def findIx (c : Nat) : List Nat → Nat → Option Nat
  | [], _ => none
  | x :: xs, k => if x = c then some k else findIx c xs (k + 1)
def joinL (sep : List Nat) : List (List Nat) → List Nat
  | [] => []
  | [a] => a
  | a :: b :: as => a ++ sep ++ joinL sep (b :: as)
def indexD (a : D) : List D → Nat → Option Nat
  | [], _ => none
  | b :: bs, k => if D.eqv b a then some k else indexD a bs (k + 1)
def m1D : MF → D → D → Option D
  | .find, .str [45, 97, 98], .str [c] => (findIx c [45, 97, 98] 0).map fun (k : Nat) => D.int (k : Int)
  | .index, .str [45, 97, 98], .str [c] => (findIx c [45, 97, 98] 0).map fun (k : Nat) => D.int (k : Int)
  | .count, .str xs, .str [c] => some (.int ((xs.filter fun x => x == c).length : Nat))
  | .join, .str sep, .lst xs => (strsOf xs).bind fun ys => if (ys.map List.length).sum + ys.length * sep.length ≤ lim then some (.str (joinL sep ys)) else none
  | .indexL, .lst xs, a => if a.okN 8 && xs.all (D.okN 8) then (indexD a xs 0).map fun (k : Nat) => D.int (k : Int) else none
  | _, _, _ => none

/-! ### terms -/
inductive TG where
  | nm (i : Nat) | tup (ts : List TG)
mutual
inductive CE where
  | lit (d : D) | var (i : Nat) | rd (i : Nat) | glob (x : Str) (d : D)
  | bin (op : Operator) (a b : CE) | neg (a : CE) | not (a : CE)
  | cmp (op : CmpOp) (a b : CE) | chain (o1 o2 : CmpOp) (a b c : CE)
  | and (a b : CE) | or (a b : CE) | ife (c a b : CE)
  | tup (es : List CE) | lst (es : List CE)
  | sub (a b : CE) | subR (i : Nat) (b : CE)
  | slc (a : CE) (lo hi : Option CE)
  | call (x : Str) (brw : Bool) (f : Sem) (args : List CE)
  | callIo (x : Str) (f : Sem) (i : Nat) (args : List CE)
  | b1 (f : BF) (a : CE) | m1 (m : MF) (o a : CE)
  | comp (own : List (Str × Nat)) (it : CI) (tg : TG) (cond : Option CE) (elt : CE)
inductive CI where
  | lst (e : CE) | tup (e : CE) | str (e : CE) | rng1 (e : CE) | rng2 (a b : CE) | enumL (e : CE)
end
inductive CS where
  | expr (e : CE) | set (i : Nat) (e : CE) | unp (ts : List TG) (e : CE) | par (i j : Nat) (a b : CE) | par3 (i j l : Nat) (a b c : CE)
  | app (i : Nat) (e : CE) | stI (i : Nat) (k v : CE)
  | ret (e : CE) | retV (i : Nat) | ifs (c : CE) (a b : List CS)
  | fors (it : CI) (tg : TG) (body : List CS) | whl (c : CE) (body : List CS)
  | aug (i : Nat) (op : Operator) (e : CE) | rais (cls : Str) (args : List D)
  | brk | cnt | pass

/-! ### what they do -/
def getS (env : Env) (i : Nat) : Slot := env.getD i .no
def varE (env : Env) (i : Nat) : RE :=
  match getS env i with
  | .val d => .ok d false env
  | .own d => .ok d false (env.set i (.val d))
  | _ => .no
def rdE (env : Env) (i : Nat) : RE :=
  match (getS env i).get with
  | some d => .ok d false env
  | none => .no
def RE.bind (r : RE) (k : D → Bool → Env → RE) : RE :=
  match r with
  | .ok d fr env => k d fr env
  | .ex c env => .ex c env
  | .no => .no
def outE (o : Option (D × Bool)) (env : Env) : RE :=
  match o with
  | some (d, fr) => .ok d fr env
  | none => .no
def outB (o : Option Bool) (env : Env) : RE :=
  match o with
  | some b => .ok (.bl b) false env
  | none => .no
def outD (o : Option D) (env : Env) : RE :=
  match o with
  | some b => .ok b false env
  | none => .no
mutual
/-- a target takes a value (its parts are frozen) -/
def asg : TG → D → Env → Option Env
  | .nm i, d, env => match getS env i with
    | .io _ => none
    | _ => some (env.set i (.val d))
  | .tup ts, .tup ds, env => asgs ts ds env
  | _, _, _ => none
def asgs : List TG → List D → Env → Option Env
  | [], [], env => some env
  | t :: ts, d :: ds, env => match asg t d env with
    | some env' => asgs ts ds env'
    | none => none
  | _, _, _ => none
end
/-- a comprehension's own names: nothing that is owned stands in them -/
def wipeE (env : Env) : List Nat → Option Env
  | [] => some env
  | v :: vs => match getS env v with
    | .own _ => none
    | .io _ => none
    | _ => (wipeE env vs).map fun e => e.set v .no
/-- behind it: what stood there -/
def backE (old env : Env) : List Nat → Env
  | [] => env
  | v :: vs => (backE old env vs).set v (getS old v)
/-- the loop of a comprehension: g the target, c the test, f the element -/
def compL (vs : List Nat) (base : Env) (tg : TG) (c : Env → RE) (f : Env → RE) : List D → Env → List D → REs
  | [], env, acc => .ok acc env
  | x :: xs, env, acc => match asg tg x env with
    | none => .no
    | some e1 => match c e1 with
      | .ok (.bl true) _ e2 => match f e2 with
        | .ok d _ e3 => if acc.length < lim then (match wipeE e3 vs with
          | some e4 => compL vs base tg c f xs e4 (acc ++ [d])
          | none => .no) else .no
        | _ => .no
      | .ok (.bl false) _ e2 => (match wipeE e2 vs with
        | some e4 => compL vs base tg c f xs e4 acc
        | none => .no)
      | _ => .no
def rngD (lo hi : Int) : Option (List D) :=
  if -(2 ^ 62) ≤ lo ∧ lo < 2 ^ 62 ∧ -(2 ^ 62) ≤ hi ∧ hi < 2 ^ 62 then some ((List.range (hi - lo).toNat).map fun k => .int (lo + (k : Nat))) else none
def outI (o : Option (List D)) (env : Env) : REs :=
  match o with
  | some b => .ok b env
  | none => .no
def REs.bind (r : REs) (k : List D → Env → RE) : RE :=
  match r with
  | .ok d env => k d env
  | .ex c env => .ex c env
  | .no => .no
def RE.bindI (r : RE) (k : D → Bool → Env → REs) : REs :=
  match r with
  | .ok d fr env => k d fr env
  | .ex c env => .ex c env
  | .no => .no
def intO : Option D → Option (Option Int)
  | none => some none
  | some (.int i) => some (some i)
  | _ => none
def callR (brw : Bool) (r : FR) (env : Env) : RE :=
  match r with
  | .ret d fr none => if brw && !d.isAtom then .no else .ok d fr env
  | .exc c none => .ex c env
  | _ => .no
def putBack (s : Slot) (d : D) : Slot :=
  match s with
  | .own _ => .own d
  | .io _ => .io d
  | s => s
def callRio (i : Nat) (r : FR) (env : Env) : RE :=
  match r with
  | .ret d fr (some z) => .ok d fr (env.set i (putBack (getS env i) z))
  | .exc c (some z) => .ex c (env.set i (putBack (getS env i) z))
  | _ => .no
def ioGet (env : Env) (i : Nat) : Option D :=
  match getS env i with
  | .own d => some d
  | .io d => some d
  | _ => none
mutual
def evE : CE → Env → RE
  | .lit d, env => .ok d false env
  | .var i, env => varE env i
  | .rd i, env => rdE env i
  | .glob _ d, env => .ok d false env
  | .bin op a b, env => (evE a env).bind fun x _ e1 => (evE b e1).bind fun y _ e2 => outE (binD op x y) e2
  | .neg a, env => (evE a env).bind fun x _ e1 => match x with
    | .int i => .ok (.int (-i)) false e1
    | _ => .no
  | .not a, env => (evE a env).bind fun x _ e1 => match x with
    | .bl b => .ok (.bl (!b)) false e1
    | _ => .no
  | .cmp op a b, env => (evE a env).bind fun x _ e1 => (evE b e1).bind fun y _ e2 => outB (cmpD op x y) e2
  | .chain o1 o2 a b c, env => (evE a env).bind fun x _ e1 => (evE b e1).bind fun y _ e2 => match cmpD o1 x y with
    | some true => (evE c e2).bind fun z _ e3 => outB (cmpD o2 y z) e3
    | some false => .ok (.bl false) false e2
    | none => .no
  | .and a b, env => (evE a env).bind fun x _ e1 => match x with
    | .bl true => evE b e1
    | .bl false => .ok (.bl false) false e1
    | _ => .no
  | .or a b, env => (evE a env).bind fun x _ e1 => match x with
    | .bl true => .ok (.bl true) false e1
    | .bl false => evE b e1
    | _ => .no
  | .ife c a b, env => (evE c env).bind fun x _ e1 => match x with
    | .bl true => evE a e1
    | .bl false => evE b e1
    | _ => .no
  | .tup es, env => (evEs es env).bind fun ds e1 => if ds.length ≤ lim then .ok (.tup ds) false e1 else .no
  | .lst es, env => (evEs es env).bind fun ds e1 => if ds.length ≤ lim then .ok (.lst ds) true e1 else .no
  | .sub a b, env => (evE a env).bind fun x _ e1 => (evE b e1).bind fun y _ e2 => outD (subD x y) e2
  | .subR i b, env => match (getS env i).get with
    | none => .no
    | some _ => (evE b env).bind fun y _ e1 => match (getS e1 i).get with
      | some x => outD (subD x y) e1
      | none => .no
  | .slc a lo hi, env => (evE a env).bind fun x _ e1 => (evO lo e1).bind fun l e2 => (evO hi e2).bind fun h e3 => match intO l.head?, intO h.head? with
    | some l', some h' => outE (slcD x l' h') e3
    | _, _ => .no
  | .call _ brw f args, env => (evEs args env).bind fun ds e1 => callR brw (f ds) e1
  | .callIo _ f i args, env => match ioGet env i with
    | none => .no
    | some _ => (evEs args env).bind fun ds e1 => match ioGet e1 i with
      | some d => callRio i (f (d :: ds)) e1
      | none => .no
  | .b1 f a, env => (evE a env).bind fun x _ e1 => outE (b1D f x) e1
  | .m1 m o a, env => (evE o env).bind fun x _ e1 => match x with
    | .str z => (evE a e1).bind fun y _ e2 => outD (m1D m (.str z) y) e2
    | _ => .no
  | .comp own it tg cond elt, env => (evI it env).bind fun ds e1 => match wipeE e1 (own.map (·.2)) with
    | none => .no
    | some e2 => (compL (own.map (·.2)) e1 tg (evC cond) (evE elt) ds e2 []).bind fun rs e3 => .ok (.lst rs) true (backE e1 e3 (own.map (·.2)))
def evC : Option CE → Env → RE
  | none, env => .ok (.bl true) false env
  | some c, env => evE c env
def evO : Option CE → Env → REs
  | none, env => .ok [] env
  | some e, env => (evE e env).bindI fun x _ e1 => match x with
    | .int i => .ok [.int i] e1
    | _ => .no
def evEs : List CE → Env → REs
  | [], env => .ok [] env
  | e :: es, env => (evE e env).bindI fun x _ e1 => match evEs es e1 with
    | .ok ds e2 => .ok (x :: ds) e2
    | .ex c e2 => .ex c e2
    | .no => .no
def evI : CI → Env → REs
  | .lst e, env => (evE e env).bindI fun x _ e1 => match x with
    | .lst xs => .ok xs e1
    | _ => .no
  | .tup e, env => (evE e env).bindI fun x _ e1 => match x with
    | .tup xs => .ok xs e1
    | _ => .no
  | .str e, env => (evE e env).bindI fun x _ e1 => match x with
    | .str xs => if xs.length ≤ lim then .ok (xs.map fun c => .str [c]) e1 else .no
    | _ => .no
  | .rng1 e, env => (evE e env).bindI fun x _ e1 => match x with
    | .int n => outI (rngD 0 n) e1
    | _ => .no
  | .rng2 a b, env => (evE a env).bindI fun x _ e1 => (evE b e1).bindI fun y _ e2 => match x, y with
    | .int n, .int m => outI (rngD n m) e2
    | _, _ => .no
  | .enumL e, env => (evE e env).bindI fun x _ e1 => match x with
    | .lst xs => .ok (xs.mapIdx fun k y => .tup [.int (k : Nat), y]) e1
    | .tup xs => .ok (xs.mapIdx fun k y => .tup [.int (k : Nat), y]) e1
    | _ => .no
end
/-- a loop over items -/
def forL (f : D → Env → RS) : List D → Env → RS
  | [], env => .nx env
  | x :: xs, env => match f x env with
    | .nx e => forL f xs e
    | .ct e => forL f xs e
    | .bk e => .nx e
    | r => r
/-- while: none where it never ends -/
def whlL (c : Env → RE) (f : Env → RS) (env : Env) : Option RS :=
  match c env with
  | .ok (.bl true) _ e1 => match f e1 with
    | .nx e => whlL c f e
    | .ct e => whlL c f e
    | .bk e => some (.nx e)
    | r => some r
  | .ok (.bl false) _ e1 => some (.nx e1)
  | .ex x e1 => some (.ex x e1)
  | _ => some .no
partial_fixpoint
def RE.bindS (r : RE) (k : D → Bool → Env → RS) : RS :=
  match r with
  | .ok d fr env => k d fr env
  | .ex c env => .ex c env
  | .no => .no
def REs.bindS (r : REs) (k : List D → Env → RS) : RS :=
  match r with
  | .ok d env => k d env
  | .ex c env => .ex c env
  | .no => .no
def putS (env : Env) (i : Nat) (d : D) (fr : Bool) : RS :=
  match getS env i with
  | .io _ => .no
  | _ => .nx (env.set i (if fr then .own d else .val d))
def nxO (o : Option Env) : RS :=
  match o with
  | some e => .nx e
  | none => .no
mutual
def evS : CS → Env → RS
  | .expr e, env => (evE e env).bindS fun _ _ e1 => .nx e1
  | .set i e, env => (evE e env).bindS fun d fr e1 => putS e1 i d fr
  | .unp ts e, env => (evE e env).bindS fun d _ e1 => nxO (asg (.tup ts) d e1)
  | .par i j a b, env => (evE a env).bindS fun x fx e1 => (evE b e1).bindS fun y fy e2 => match putS e2 i x fx with
    | .nx e3 => putS e3 j y fy
    | _ => .no
  | .par3 i j l a b c, env => (evE a env).bindS fun x fx e1 => (evE b e1).bindS fun y fy e2 => (evE c e2).bindS fun z fz e3 => match putS e3 i x fx with
    | .nx e4 => match putS e4 j y fy with
      | .nx e5 => putS e5 l z fz
      | _ => .no
    | _ => .no
  | .app i e, env => match ioGet env i with
    | none => .no
    | some _ => (evE e env).bindS fun d _ e1 => match ioGet e1 i with
      | some (.lst xs) => if xs.length < lim then .nx (e1.set i (putBack (getS e1 i) (.lst (xs ++ [d])))) else .no
      | _ => .no
  | .stI i k v, env => (evE v env).bindS fun d _ e1 => match ioGet e1 i with
    | none => .no
    | some _ => (evE k e1).bindS fun z _ e2 => match ioGet e2 i, z with
      | some (.lst xs), .int n => match ixN xs.length n with
        | some j => .nx (e2.set i (putBack (getS e2 i) (.lst (xs.set j d))))
        | none => .no
      | _, _ => .no
  | .ret e, env => (evE e env).bindS fun d fr e1 => .rt d fr e1
  | .retV i, env => match getS env i with
    | .own d => .rt d true (env.set i .no)
    | .val d => .rt d false env
    | _ => .no
  | .ifs c a b, env => (evE c env).bindS fun x _ e1 => match x with
    | .bl true => evSs a e1
    | .bl false => evSs b e1
    | _ => .no
  | .fors it tg body, env => (evI it env).bindS fun ds e1 => forL (fun x e => match asg tg x e with
      | some e2 => evSs body e2
      | none => .no) ds e1
  | .whl c body, env => (whlL (evE c) (evSs body) env).getD .no
  | .aug i op e, env => match getS env i with
    | .val (.int x) => (evE e env).bindS fun y _ e1 => match y with
      | .int y => (match binD op (.int x) (.int y) with
        | some (z, _) => .nx (e1.set i (.val z))
        | none => .no)
      | _ => .no
    | _ => .no
  | .rais cls args, env => .ex ⟨cls, args⟩ env
  | .brk, env => .bk env
  | .cnt, env => .ct env
  | .pass, env => .nx env
def evSs : List CS → Env → RS
  | [], env => .nx env
  | s :: ss, env => match evS s env with
    | .nx e1 => evSs ss e1
    | r => r
end
def startE (n : Nat) (io : Bool) (ds : List D) : Env :=
  (match io, ds with
  | true, d :: ds => .io d :: ds.map Slot.val
  | _, ds => ds.map Slot.val) ++ List.replicate (n - ds.length) .no
/-- what a def is worth: n names in all, io: the first argument is handed in to be changed -/
def semOf (n : Nat) (io : Bool) (body : List CS) : Sem := fun ds =>
  let z := fun (env : Env) => if io then (match getS env 0 with
    | .io d => some (some d)
    | _ => none) else some none
  match evSs body (startE n io ds) with
  | .rt d fr env => match z env with
    | some o => .ret d fr o
    | none => .no
  | .nx env => match z env with
    | some o => .ret .non false o
    | none => .no
  | .ex c env => match z env with
    | some o => .exc c o
    | none => .no
  | _ => .no
end Cor
set_option Elab.async false
set_option linter.all false
set_option maxRecDepth 100000
set_option maxHeartbeats 2000000
/-! Cor1: how data stand in the abstract heap: Rep; a frame's slots: ER; what an evaluation may change: Tr. -/
namespace Cor
open PySem PySem.Spec L2

/-- a lambda that is a value: its code's name, its parameters, what it gives, its names -/
structure LamI where
  qual : Str
  params : Arguments
  body : Expr
  scope : Scope
/-- the defs of the law in which a lambda is made -/
class LamDefs where
  names : List Str
  /-- the error classes that may be caught there -/
  excs : List Str
  /-- the lambdas that are values -/
  lams : List (Str × LamI) := []
/-- the function made of the lambda L stands at f, its code object at c -/
def LamO (f c : Addr) (L : LamI) : HO := .ext fun h => ∃ pm ctv : Value, h.get? f = some (PySem.W.kla_obj "<lambda>" L.qual L.params L.body L.scope [] pm c ctv)
/-- where their tables of code objects stand, what the code objects are called -/
def tabsL [LamDefs] (K : PySem.W.Frag) : List (Addr × Str) := LamDefs.names.map fun n => ((He.cT K (n, none)).2, n ++ ".<locals>." ++ "<lambda>")
def Tb [LamDefs] (K : PySem.W.Frag) (H : Hp) : Prop := LamX.Tabs (tabsL K) H
theorem Tb.same [LamDefs] {K : PySem.W.Frag} {H H' : Hp} (t : Tb K H) (e : Same H H') : Tb K H' := t.ext e
/-- the object o stands at a -/
def DObj (a : Addr) (o : Obj) : HO := .ext fun h => h.get? a = some o
theorem heap_with (a : Addr) (o : Obj) (h : o.isFreed = false) : ∃ hp : Heap, hp.get? a = some o := by
  refine ⟨⟨(Array.replicate a (default : Obj)).push o, default⟩, ?_⟩
  have e : ((Array.replicate a (default : Obj)).push o)[a]? = some o := by
    have := Array.getElem?_push_size (xs := Array.replicate a (default : Obj)) (x := o)
    simpa using this
  unfold Heap.get?
  rw [e]
  obtain ⟨c, d, dt, sl⟩ := o
  cases dt <;> first | rfl | simp [Obj.isFreed] at h
theorem dobj_code {a c : Addr} {o : Obj} {q : Str} {es : Array DictEntry} {ep : Nat} (hd : o.data = .dict es ep) (ha : a = c) : DObj a o ≠ LamX.CodeO c q := fun e => by
  subst ha
  unfold DObj LamX.CodeO at e
  injection e with e
  obtain ⟨h, hh⟩ := heap_with a o (by
    obtain ⟨x, y, dt, z⟩ := o
    dsimp only at hd
    subst hd; rfl)
  have h2 := congrFun e h
  rw [h2] at hh
  obtain ⟨oc, vs, t, g1, g2, g3⟩ := hh
  have h3 : h.get? a = some o := by rw [h2]; exact ⟨oc, vs, t, g1, g2, g3⟩
  rw [g1] at h3
  cases h3
  rw [hd] at g2
  cases g2

/-! ### dicts -/
mutual
def nk : D → NestedKey
  | .int i => .num i
  | .tup xs => .tup (nks xs)
  | _ => .none
def nks : List D → List NestedKey
  | [] => []
  | d :: ds => nk d :: nks ds
end
/-- the object o is a dict: its keys ks (at kvv), its values vvs -/
def DShT (o : Obj) (ks : List D) (kvv vvs : List V) : Prop := ∃ (es : Array DictEntry) (ep : Nat) (xs : List (NestedKey × Addr × Value)), o.ExactDict ∧ o.data = .dict es ep ∧ (∀ (P : Program) (w : World), es.toList = xs.map (entryOfKey (nestedKind P w))) ∧
  (xs.map (·.1)).Nodup ∧ xs.map (·.1) = nks ks ∧ (∀ k ∈ ks, isTupK k = true) ∧ kvv = xs.map (fun x => V.ref x.2.1) ∧ Vals vvs (xs.map (·.2.2))
def DShN (o : Obj) (ks : List D) (kvv vvs : List V) : Prop := ∃ (es : Array DictEntry) (ep : Nat) (kvs : List (Key × Value)), o.ExactDict ∧ o.data = .dict es ep ∧ (∀ (P : Program) (w : World), PySem.KeysOf (mixKind P w) es ∧ Pairs (mixKind P w) es.toList kvs) ∧
  (kvs.map (·.1)).Nodup ∧ kvs.map (fun x => kV x.1) = kvv ∧ (∀ k ∈ ks, isNumK k = true) ∧ Vals vvs (kvs.map (·.2))
def DSh (tk : Bool) (o : Obj) (ks : List D) (kvv vvs : List V) : Prop := if tk = true then DShT o ks kvv vvs else DShN o ks kvv vvs
theorem DSh.dict {tk : Bool} {o : Obj} {ks : List D} {kvv vvs : List V} (h : DSh tk o ks kvv vvs) : ∃ es ep, o.data = .dict es ep := by
  unfold DSh at h
  split at h
  · obtain ⟨es, ep, _, _, e, _⟩ := h; exact ⟨es, ep, e⟩
  · obtain ⟨es, ep, _, _, e, _⟩ := h; exact ⟨es, ep, e⟩

section
variable [LamDefs] (K : PySem.W.Frag) (mg : Str → Option Value)
mutual
/-- the value v is the datum d; what it leans on stands in H and stays -/
inductive Rep (H : Hp) : D → V → Prop
  | non : Rep H .non .non
  | bl (b : Bool) : Rep H (.bl b) (.bl b)
  | int (i : Int) : Rep H (.int i) (.int i)
  | str (x : List Nat) : Rep H (.str x) (.str ⟨x.toArray⟩)
  | tup {a : Addr} {vs : List V} {ds : List D} : SqT K H a vs → Reps H ds vs → Rep H (.tup ds) (.ref a)
  | lst {a : Addr} {vs : List V} {ds : List D} : SqL K H a vs → Reps H ds vs → Rep H (.lst ds) (.ref a)
  | dct {a : Addr} {o : Obj} {tk : Bool} {ks ds : List D} {kvv vvs : List V} : H a = some (DObj a o) → (a == sysModules) = false → ks.length ≤ lim → DSh tk o ks kvv vvs → Reps H ks kvv → Reps H ds vvs → Rep H (.dct tk ks ds) (.ref a)
  | fn {x : Str} {f : Addr} : mg x = some (.ref f) → Rep H (.fn x) (.ref f)
  | lam {x : Str} {f c : Addr} {L : LamI} : LamDefs.lams.lookup x = some L → H f = some (LamO f c L) → H c = some (LamX.CodeO c L.qual) → Rep H (.fn x) (.ref f)
inductive Reps (H : Hp) : List D → List V → Prop
  | nil : Reps H [] []
  | cons {d : D} {ds : List D} {v : V} {vs : List V} : Rep H d v → Reps H ds vs → Reps H (d :: ds) (v :: vs)
end
end

section
variable [LamDefs] {K : PySem.W.Frag} {mg : Str → Option Value} {H H' Hf Hf' : Hp}
/-- all but the tables stays -/
abbrev Kep (H H' : Hp) : Prop := ∀ b o, H b = some o → (∀ ps, o ≠ .tbl ps) → H' b = some o
theorem Kep.trans {H H' H'' : Hp} (e : Kep H H') (e' : Kep H' H'') : Kep H H'' := fun b o h n => e' b o (e b o h n) n
theorem Kep.of {Hf H H' : Hp} (e : Kep H H') (le : Same Hf H) (nt : ∀ b ps, Hf b ≠ some (.tbl ps)) : Same Hf H' := fun b o h => e b o (le b o h) fun ps z => nt b ps (z ▸ h)
theorem kep_t {a : Addr} {vs : List V} (e : Kep H H') (h : SqT K H a vs) : SqT K H' a vs := by
  rcases h with (h | ⟨o, h⟩) | h
  · exact .inl (.inl (e _ _ h (fun ps z => nomatch z)))
  · exact .inl (.inr ⟨o, e _ _ h (fun ps z => nomatch z)⟩)
  · exact .inr h
theorem kep_l {a : Addr} {vs : List V} (e : Kep H H') (h : SqL K H a vs) : SqL K H' a vs := by
  rcases h with (h | ⟨o, h⟩) | h
  · exact .inl (.inl (e _ _ h (fun ps z => nomatch z)))
  · exact .inl (.inr ⟨o, e _ _ h (fun ps z => nomatch z)⟩)
  · exact .inr h
theorem same_t {a : Addr} {vs : List V} (e : Same H H') (h : SqT K H a vs) : SqT K H' a vs := kep_t (fun b o q _ => e b o q) h
mutual
theorem Rep.upN (e : Kep H H') : ∀ {d : D} {v : V}, Rep K mg H d v → Rep K mg H' d v
  | _, _, .non => .non
  | _, _, .bl b => .bl b
  | _, _, .int i => .int i
  | _, _, .str x => .str x
  | _, _, .tup h hs => .tup (kep_t e h) (Reps.upN e hs)
  | _, _, .lst h hs => .lst (kep_l e h) (Reps.upN e hs)
  | _, _, .dct h hm hl hd h1 h2 => .dct (e _ _ h (fun ps z => nomatch z)) hm hl hd (Reps.upN e h1) (Reps.upN e h2)
  | _, _, .fn h => .fn h
  | _, _, .lam h1 h2 h3 => .lam h1 (e _ _ h2 (fun ps z => nomatch z)) (e _ _ h3 (fun ps z => nomatch z))
theorem Reps.upN (e : Kep H H') : ∀ {ds : List D} {vs : List V}, Reps K mg H ds vs → Reps K mg H' ds vs
  | _, _, .nil => .nil
  | _, _, .cons h hs => .cons (Rep.upN e h) (Reps.upN e hs)
end
theorem Rep.up (e : Same H H') {d : D} {v : V} (h : Rep K mg H d v) : Rep K mg H' d v := h.upN fun b o q _ => e b o q
theorem Reps.up (e : Same H H') {ds : List D} {vs : List V} (h : Reps K mg H ds vs) : Reps K mg H' ds vs := h.upN fun b o q _ => e b o q
/-- the heap without its tables -/
def noT (H : Hp) : Hp := fun a => match H a with
  | some (.tbl _) => none
  | o => o
theorem noT_kep : Kep H (noT H) := fun b o h n => by
  unfold noT
  rw [h]
  cases o <;> first | rfl | exact absurd rfl (n _)
theorem noT_same : Same (noT H) H := fun b o h => by
  unfold noT at h
  cases q : H b with
  | none => rw [q] at h; cases h
  | some u => rw [q] at h; cases u <;> first | exact h | cases h
theorem noT_nt : ∀ b ps, noT H b ≠ some (.tbl ps) := fun b ps h => by
  unfold noT at h
  cases q : H b with
  | none => rw [q] at h; cases h
  | some u => rw [q] at h; cases u <;> cases h
open Classical in
/-- .. and without code objects -/
noncomputable def noC (H : Hp) : Hp := fun a => if ∃ q, H a = some (LamX.CodeO a q) then none else noT H a
theorem lst_code {xs : List V} {a : Addr} {q : Str} : HO.lst xs ≠ LamX.CodeO a q := fun e => by unfold LamX.CodeO at e; cases e
theorem noC_none {a : Addr} (h : noT H a = none) : noC H a = none := by
  unfold noC
  split
  · rfl
  · exact h
theorem noC_code {a : Addr} {q : Str} (h : H a = some (LamX.CodeO a q)) : noC H a = none := by
  unfold noC
  rw [if_pos ⟨q, h⟩]
theorem noC_some {a : Addr} {o : HO} (h : H a = some o) (n : ∀ ps, o ≠ .tbl ps) (m : ∀ q, o ≠ LamX.CodeO a q) : noC H a = some o := by
  unfold noC
  rw [if_neg fun ⟨q, e⟩ => m q (by rw [h] at e; exact Option.some.inj e)]
  exact noT_kep a o h n
theorem noC_get {a : Addr} {o : HO} (h : noC H a = some o) : H a = some o ∧ (∀ ps, o ≠ .tbl ps) ∧ ∀ q, o ≠ LamX.CodeO a q := by
  unfold noC at h
  split at h
  · cases h
  · rename_i z
    have g := noT_same a o h
    exact ⟨g, fun ps e => noT_nt a ps (e ▸ h), fun q e => z ⟨q, e ▸ g⟩⟩
theorem Reps.length : ∀ {ds : List D} {vs : List V}, Reps K mg H ds vs → ds.length = vs.length
  | _, _, .nil => rfl
  | _, _, .cons _ hs => congrArg Nat.succ (Reps.length hs)
theorem Reps.app : ∀ {ds es : List D} {vs ws : List V}, Reps K mg H ds vs → Reps K mg H es ws → Reps K mg H (ds ++ es) (vs ++ ws)
  | _, _, _, _, .nil, h => h
  | _, _, _, _, .cons h hs, h' => .cons h (Reps.app hs h')
theorem Reps.one {d : D} {v : V} (h : Rep K mg H d v) : Reps K mg H [d] [v] := .cons h .nil
theorem Reps.get : ∀ {ds : List D} {vs : List V} {i : Nat} {d : D}, Reps K mg H ds vs → ds[i]? = some d → ∃ v, vs[i]? = some v ∧ Rep K mg H d v
  | _, _, _, _, .nil, e => by simp at e
  | _, _, 0, _, .cons h _, e => by simp at e; subst e; exact ⟨_, rfl, h⟩
  | _, _, i + 1, _, .cons _ hs, e => by
    obtain ⟨v, a, b⟩ := Reps.get (i := i) hs (by simpa using e)
    exact ⟨v, by simpa using a, b⟩
theorem Reps.getV : ∀ {ds : List D} {vs : List V} {i : Nat} {v : V}, Reps K mg H ds vs → vs[i]? = some v → ∃ d, ds[i]? = some d ∧ Rep K mg H d v
  | _, _, _, _, .nil, e => by simp at e
  | _, _, 0, _, .cons h _, e => by simp at e; subst e; exact ⟨_, rfl, h⟩
  | _, _, i + 1, _, .cons _ hs, e => by
    obtain ⟨v, a, b⟩ := Reps.getV (i := i) hs (by simpa using e)
    exact ⟨v, by simpa using a, b⟩
theorem Reps.set : ∀ {ds : List D} {vs : List V} {d : D} {v : V} (i : Nat), Reps K mg H ds vs → Rep K mg H d v → Reps K mg H (ds.set i d) (vs.set i v)
  | _, _, _, _, _, .nil, _ => .nil
  | _, _, _, _, 0, .cons _ hs, h => .cons h hs
  | _, _, _, _, i + 1, .cons h' hs, h => .cons h' (Reps.set i hs h)
theorem Reps.drop : ∀ {ds : List D} {vs : List V} (n : Nat), Reps K mg H ds vs → Reps K mg H (ds.drop n) (vs.drop n)
  | _, _, 0, h => h
  | _, _, _ + 1, .nil => .nil
  | _, _, n + 1, .cons _ hs => Reps.drop n hs
theorem Reps.take : ∀ {ds : List D} {vs : List V} (n : Nat), Reps K mg H ds vs → Reps K mg H (ds.take n) (vs.take n)
  | _, _, 0, _ => .nil
  | _, _, _ + 1, .nil => .nil
  | _, _, n + 1, .cons h hs => .cons h (Reps.take n hs)
theorem Reps.rep {ds : List D} {vs : List V} (h : Reps K mg H ds vs) : ∀ k : Nat, Reps K mg H (List.replicate k ds).flatten (List.replicate k vs).flatten
  | 0 => .nil
  | k + 1 => by
    rw [List.replicate_succ, List.replicate_succ, List.flatten_cons, List.flatten_cons]
    exact h.app (h.rep k)
theorem Reps.ints : ∀ {is : List Int} {ds : List D} {vs : List V}, Reps K mg H ds vs → intsOf ds = some is → vs = is.map V.int
  | is, [], _, .nil, e => by simp [intsOf] at e; subst e; rfl
  | is, d :: ds, _, .cons h hs, e => by
    cases h with
    | int i =>
      rw [intsOf, Option.map_eq_some_iff] at e
      obtain ⟨js, e1, rfl⟩ := e
      rw [Reps.ints hs e1]; rfl
    | _ => simp [intsOf] at e
theorem Reps.bls : ∀ {is : List Bool} {ds : List D} {vs : List V}, Reps K mg H ds vs → blsOf ds = some is → vs = is.map V.bl
  | is, [], _, .nil, e => by simp [blsOf] at e; subst e; rfl
  | is, d :: ds, _, .cons h hs, e => by
    cases h with
    | bl i =>
      rw [blsOf, Option.map_eq_some_iff] at e
      obtain ⟨js, e1, rfl⟩ := e
      rw [Reps.bls hs e1]; rfl
    | _ => simp [blsOf] at e
theorem Reps.strs : ∀ {is : List (List Nat)} {ds : List D} {vs : List V}, Reps K mg H ds vs → strsOf ds = some is → vs = is.map fun x => V.str ⟨x.toArray⟩
  | is, [], _, .nil, e => by simp [strsOf] at e; subst e; rfl
  | is, d :: ds, _, .cons h hs, e => by
    cases h with
    | str i =>
      rw [strsOf, Option.map_eq_some_iff] at e
      obtain ⟨js, e1, rfl⟩ := e
      rw [Reps.strs hs e1]; rfl
    | _ => simp [strsOf] at e
end

section
variable [LamDefs] (K : PySem.W.Frag) (mg : Str → Option Value)
/-- at a stands what may be changed: the content d, its items frozen -/
inductive Cont (Hf H : Hp) : D → Addr → Prop
  | lst {a : Addr} {vs : List V} {ds : List D} : H a = some (.lst vs) → Reps K mg Hf ds vs → Cont Hf H (.lst ds) a
  | dct {a : Addr} {o : Obj} {tk : Bool} {ks ds : List D} {kvv vvs : List V} : H a = some (DObj a o) → (a == sysModules) = false → ks.length ≤ lim → DSh tk o ks kvv vvs → Reps K mg Hf ks kvv → Reps K mg Hf ds vvs → Cont Hf H (.dct tk ks ds) a
/-- a slot that holds what may be changed -/
def Mt (env : Env) (i : Nat) : Prop := ∃ d, env[i]? = some (Slot.own d) ∨ env[i]? = some (Slot.io d)
def OwnAt (env : Env) (σ : St) (a : Addr) : Prop := ∃ i, Mt env i ∧ σ[i]? = some (some (.ref a))
/-- the slots as they stand: Hf is the part of H that nobody changes -/
structure ER (Hf H : Hp) (env : Env) (σ : St) : Prop where
  le : Same Hf H
  len : env.length = σ.length
  val : ∀ (i : Nat) (d : D), env[i]? = some (Slot.val d) → ∃ v, σ[i]? = some (some v) ∧ Rep K mg Hf d v
  mu : ∀ (i : Nat) (d : D), env[i]? = some (Slot.own d) ∨ env[i]? = some (Slot.io d) → ∃ a, σ[i]? = some (some (.ref a)) ∧ Hf a = none ∧ Cont K mg Hf H d a
  inj : ∀ (i j : Nat) (a : Addr), Mt env i → Mt env j → σ[i]? = some (some (.ref a)) → σ[j]? = some (some (.ref a)) → i = j
  raw : ∀ (i : Nat) (v : V), env[i]? = some (Slot.raw v) → σ[i]? = some (some v)
  tab : Tb K H
  nt : ∀ b ps, Hf b ≠ some (.tbl ps)
end
/-- what an expression may do -/
structure Tr (pu : Bool) (Hf H : Hp) (env : Env) (Hf' H' : Hp) (env' : Env) (σ : St) : Prop where
  up : Same Hf Hf'
  len : env'.length = env.length
  mt : ∀ i, Mt env' i → Mt env i
  io : ∀ (i : Nat) (d : D), env[i]? = some (Slot.io d) → ∃ d', env'[i]? = some (Slot.io d')
  fr : ∀ a o, H a = some o → (∀ ps, o ≠ .tbl ps) → ¬ OwnAt env σ a → H' a = some o
  new : ∀ a, Hf' a ≠ none → Hf a ≠ none ∨ noC H a = none ∨ OwnAt env σ a
  pure : pu = true → Kep H H'
  there : ∀ a, noT H a ≠ none → noT H' a ≠ none

section
variable [LamDefs] {K : PySem.W.Frag} {mg : Str → Option Value} {H H' H'' Hf Hf' Hf'' : Hp} {env env' env'' : Env} {σ : St} {pu pu' : Bool}
theorem noT_none {a : Addr} (h : H a = none) : noT H a = none := by unfold noT; rw [h]
theorem noT_some {a : Addr} {o : HO} (h : H a = some o) (n : ∀ ps, o ≠ .tbl ps) : noT H a = some o := noT_kep a o h n
theorem noT_get {a : Addr} {o : HO} (h : noT H a = some o) : H a = some o ∧ ∀ ps, o ≠ .tbl ps := ⟨noT_same a o h, fun ps e => noT_nt a ps (e ▸ h)⟩
theorem kp_there (e : Kep H H') {a : Addr} (h : noT H a ≠ none) : noT H' a ≠ none := by
  cases q : noT H a with
  | none => exact absurd q h
  | some o => rw [noT_some (e a o (noT_get q).1 (noT_get q).2) (noT_get q).2]; simp
theorem sm_there (e : Same H H') {a : Addr} (h : noT H a ≠ none) : noT H' a ≠ none := kp_there (fun b o q _ => e b o q) h
theorem Cont.there {d : D} {a : Addr} (h : Cont K mg Hf H d a) : ∃ o, H a = some o := by
  cases h with
  | lst h _ => exact ⟨_, h⟩
  | dct h => exact ⟨_, h⟩
/-- no table, no code object stands there -/
theorem Cont.not {d : D} {a : Addr} {o : HO} (h : Cont K mg Hf H d a) (ho : H a = some o) : (∀ ps, o ≠ .tbl ps) ∧ ∀ q, o ≠ LamX.CodeO a q := by
  cases h with
  | lst h _ =>
    rw [h] at ho; cases ho
    exact ⟨fun ps e => (nomatch e), fun q e => by unfold LamX.CodeO at e; cases e⟩
  | dct h _ _ hd =>
    rw [h] at ho; cases ho
    obtain ⟨es, ep, hd⟩ := hd.dict
    exact ⟨(fun ps e => nomatch e), fun q e => dobj_code hd rfl e⟩
theorem Cont.thereN {d : D} {a : Addr} (h : Cont K mg Hf H d a) : ∃ o, noT H a = some o := by
  obtain ⟨o, e⟩ := h.there
  exact ⟨o, noT_some e (h.not e).1⟩
theorem Cont.rep {d : D} {a : Addr} (h : Cont K mg Hf H d a) (e : Same Hf H) : Rep K mg H d (.ref a) := by
  cases h with
  | lst h r => exact .lst (SqL.of h) (r.up e)
  | dct h hm hl hd r1 r2 => exact .dct h hm hl hd (r1.up e) (r2.up e)
theorem Cont.freeze {d : D} {a : Addr} {o : HO} (h : Cont K mg Hf H d a) (ho : H a = some o) (hn : Hf a = none) : Rep K mg (upd Hf a o) d (.ref a) := by
  cases h with
  | lst h r =>
    rw [h] at ho; cases ho
    refine .lst (SqL.of upd_same) (r.up fun b o q => ?_)
    rw [upd_ne (ne_of_none q hn)]; exact q
  | @dct _ oo _ _ _ _ _ h hm hl hd r1 r2 =>
    rw [h] at ho; cases ho
    have s : Same Hf (upd Hf a (DObj a oo)) := fun b o q => by rw [upd_ne (ne_of_none q hn)]; exact q
    exact .dct upd_same hm hl hd (r1.up s) (r2.up s)
theorem Cont.move {d : D} {a : Addr} (h : Cont K mg Hf H d a) (e : Same Hf Hf') (k : ∀ o, H a = some o → H' a = some o) : Cont K mg Hf' H' d a := by
  cases h with
  | lst h r => exact .lst (k _ h) (r.up e)
  | dct h hm hl hd r1 r2 => exact .dct (k _ h) hm hl hd (r1.up e) (r2.up e)
theorem OwnAt.back (t : ∀ i, Mt env' i → Mt env i) {a : Addr} (h : OwnAt env' σ a) : OwnAt env σ a := let ⟨i, m, e⟩ := h; ⟨i, t i m, e⟩
theorem Cont.thereC {d : D} {a : Addr} (h : Cont K mg Hf H d a) : ∃ o, noC H a = some o := by
  obtain ⟨o, e⟩ := h.there
  exact ⟨o, noC_some e (h.not e).1 (h.not e).2⟩
theorem ER.there (r : ER K mg Hf H env σ) {a : Addr} (h : OwnAt env σ a) : ∃ o, H a = some o := by
  obtain ⟨i, ⟨d, m⟩, e⟩ := h
  obtain ⟨b, e1, _, c⟩ := r.mu i d m
  rw [e] at e1; cases e1
  exact c.there
theorem ER.thereN (r : ER K mg Hf H env σ) {a : Addr} (h : OwnAt env σ a) : ∃ o, noT H a = some o := by
  obtain ⟨i, ⟨d, m⟩, e⟩ := h
  obtain ⟨b, e1, _, c⟩ := r.mu i d m
  rw [e] at e1; cases e1
  exact c.thereN
theorem ER.fresh (r : ER K mg Hf H env σ) {a : Addr} (h : noT H a = none) : ¬ OwnAt env σ a := fun q => by
  obtain ⟨o, e⟩ := r.thereN q
  rw [h] at e; cases e
theorem ER.noF (r : ER K mg Hf H env σ) {a : Addr} (h : OwnAt env σ a) : Hf a = none := by
  obtain ⟨i, ⟨d, m⟩, e⟩ := h
  obtain ⟨b, e1, n, _⟩ := r.mu i d m
  rw [e] at e1; cases e1
  exact n
theorem ER.freshF (r : ER K mg Hf H env σ) {a : Addr} (h : H a = none) : Hf a = none := by
  cases q : Hf a with
  | none => rfl
  | some o => rw [r.le a o q] at h; cases h
theorem Tr.refl : Tr pu Hf H env Hf H env σ := ⟨Same.refl _, rfl, fun _ h => h, fun _ d h => ⟨d, h⟩, fun _ _ h _ _ => h, fun _ h => .inl h, fun _ _ _ h _ => h, fun _ h => h⟩
theorem Tr.trans (t : Tr pu Hf H env Hf' H' env' σ) (u : Tr pu' Hf' H' env' Hf'' H'' env'' σ) : Tr (pu && pu') Hf H env Hf'' H'' env'' σ where
  up := t.up.trans u.up
  len := u.len.trans t.len
  mt := fun i h => t.mt i (u.mt i h)
  io := fun i d h => let ⟨d', e⟩ := t.io i d h; u.io i d' e
  fr := fun a o h z n => u.fr a o (t.fr a o h z n) z fun q => n (q.back t.mt)
  new := fun a h => by
    rcases u.new a h with q | q | q
    · exact t.new a q
    · by_cases w : OwnAt env σ a
      · exact .inr (.inr w)
      · cases e : noC H a with
        | none => exact .inr (.inl rfl)
        | some o =>
          obtain ⟨g1, g2, g3⟩ := noC_get e
          rw [noC_some (t.fr a o g1 g2 w) g2 g3] at q
          cases q
    · exact .inr (.inr (q.back t.mt))
  pure := fun h => by
    rw [Bool.and_eq_true] at h
    exact (t.pure h.1).trans (u.pure h.2)
  there := fun a h => u.there a (t.there a h)
theorem Tr.weak (t : Tr pu Hf H env Hf' H' env' σ) (h : pu' = true → pu = true) : Tr pu' Hf H env Hf' H' env' σ := ⟨t.up, t.len, t.mt, t.io, t.fr, t.new, fun q => t.pure (h q), t.there⟩
/-- an object that is no table and no code object is laid or changed -/
theorem Tb.upd {p : Addr} {o : HO} (t : Tb K H) (hp : ∀ u, H p = some u → (∀ ps, u ≠ .tbl ps) ∧ ∀ q, u ≠ LamX.CodeO p q) : Tb K (upd H p o) := fun z hz => by
  obtain ⟨ps, h1, h2, h3⟩ := t z hz
  refine ⟨ps, ?_, h2, fun pos cv hc => ?_⟩
  · by_cases e : z.1 = p
    · exact absurd rfl ((hp _ (e ▸ h1)).1 ps)
    · rw [upd_ne e]; exact h1
  · obtain ⟨c, e1, e2⟩ := h3 pos cv hc
    refine ⟨c, e1, ?_⟩
    by_cases e : c = p
    · subst e; exact absurd rfl ((hp _ e2).2 _)
    · rw [upd_ne e]; exact e2
theorem Tb.new {p : Addr} {o : HO} (t : Tb K H) (hp : H p = none) : Tb K (L2.upd H p o) := t.upd fun u e => by rw [hp] at e; cases e
/-- the heap grows by one new object that is frozen at once -/
theorem ER.growF (r : ER K mg Hf H env σ) {p : Addr} {o : HO} (hp : H p = none) (hno : ∀ ps, o ≠ .tbl ps := by intro _ h; cases h) : ER K mg (upd Hf p o) (upd H p o) env σ ∧ Tr pu Hf H env (upd Hf p o) (upd H p o) env σ := by
  have hn := r.freshF hp
  have sF : Same Hf (upd Hf p o) := fun b q e => by rw [upd_ne (ne_of_none e hn)]; exact e
  have sH : Same H (upd H p o) := fun b q e => by rw [upd_ne (ne_of_none e hp)]; exact e
  refine ⟨⟨fun b q e => ?_, r.len, fun i d h => ?_, fun i d h => ?_, r.inj, r.raw, r.tab.new hp, fun b ps e => ?_⟩, ⟨sF, rfl, fun _ h => h, fun _ d h => ⟨d, h⟩, fun a q e _ _ => sH a q e, fun a h => ?_, fun _ a o q _ => sH a o q, fun a h => sm_there sH h⟩⟩
  · by_cases hb : b = p
    · subst hb; rw [upd_same] at e ⊢; exact e
    · rw [upd_ne hb] at e; exact sH b q (r.le b q e)
  · obtain ⟨v, e, q⟩ := r.val i d h
    exact ⟨v, e, q.up sF⟩
  · obtain ⟨a, e, n, c⟩ := r.mu i d h
    refine ⟨a, e, ?_, c.move sF fun o q => sH a o q⟩
    obtain ⟨o', ho⟩ := c.there
    rw [upd_ne (ne_of_none ho hp)]; exact n
  · by_cases hb : b = p
    · subst hb; rw [upd_same] at e; exact hno ps (Option.some.inj e)
    · rw [upd_ne hb] at e; exact r.nt b ps e
  · by_cases hb : a = p
    · subst hb; exact .inr (.inl (noC_none (noT_none hp)))
    · rw [upd_ne hb] at h; exact .inl h
/-- .. by one new object that is not frozen -/
theorem ER.grow (r : ER K mg Hf H env σ) {p : Addr} {o : HO} (hp : H p = none) : ER K mg Hf (upd H p o) env σ ∧ Tr pu Hf H env Hf (upd H p o) env σ := by
  have sH : Same H (upd H p o) := fun b q e => by rw [upd_ne (ne_of_none e hp)]; exact e
  refine ⟨⟨r.le.trans sH, r.len, r.val, fun i d h => ?_, r.inj, r.raw, r.tab.new hp, r.nt⟩, ⟨Same.refl _, rfl, fun _ h => h, fun _ d h => ⟨d, h⟩, fun a q e _ _ => sH a q e, fun a h => .inl h, fun _ a o q _ => sH a o q, fun a h => sm_there sH h⟩⟩
  obtain ⟨a, e, n, c⟩ := r.mu i d h
  exact ⟨a, e, n, c.move (Same.refl _) fun o q => sH a o q⟩
/-- something that nobody owns is frozen -/
theorem ER.frz (r : ER K mg Hf H env σ) {p : Addr} {o : HO} (hp : H p = some o) (hn : Hf p = none) (no : ¬ OwnAt env σ p) (hno : ∀ ps, o ≠ .tbl ps) : ER K mg (upd Hf p o) H env σ := by
  have sF : Same Hf (upd Hf p o) := fun b q e => by rw [upd_ne (ne_of_none e hn)]; exact e
  refine ⟨fun b q e => ?_, r.len, fun i d h => ?_, fun i d h => ?_, r.inj, r.raw, r.tab, fun b ps e => ?_⟩
  · by_cases hb : b = p
    · subst hb; rw [upd_same] at e; cases e; exact hp
    · rw [upd_ne hb] at e; exact r.le b q e
  · obtain ⟨v, e, q⟩ := r.val i d h
    exact ⟨v, e, q.up sF⟩
  · obtain ⟨a, e, n, c⟩ := r.mu i d h
    refine ⟨a, e, ?_, c.move sF fun _ q => q⟩
    have : a ≠ p := fun z => no ⟨i, ⟨d, h⟩, z ▸ e⟩
    rw [upd_ne this]; exact n
  · by_cases hb : b = p
    · subst hb; rw [upd_same] at e; exact hno ps (Option.some.inj e)
    · rw [upd_ne hb] at e; exact r.nt b ps e
end

section
variable [LamDefs] (K : PySem.W.Frag) (mg : Str → Option Value)
/-- a value that has come: new and nobody's (fr), or frozen (st), or as it stands just now -/
def VR (fr st : Bool) (d : D) (v : V) (H Hf' H' : Hp) : Prop :=
  if fr = true then ∃ p, v = .ref p ∧ noT H p = none ∧ Hf' p = none ∧ Cont K mg Hf' H' d p else Rep K mg (if st = true then Hf' else H') d v
end
section
variable [LamDefs] {K : PySem.W.Frag} {mg : Str → Option Value} {H H' Hf Hf' : Hp} {env env' : Env} {σ : St} {pu fr st : Bool} {d : D} {v : V}
theorem VR.now (h : VR K mg fr st d v H Hf' H') (e : Same Hf' H') : Rep K mg H' d v := by
  unfold VR at h
  cases fr with
  | true =>
    rw [if_pos rfl] at h
    obtain ⟨p, rfl, _, _, c⟩ := h
    exact c.rep e
  | false =>
    rw [if_neg Bool.false_ne_true] at h
    cases st with
    | true => exact Rep.up e (by simpa using h)
    | false => simpa using h
/-- freeze what has come -/
theorem stab (r : ER K mg Hf H env σ) (r' : ER K mg Hf' H' env' σ) (t : Tr pu Hf H env Hf' H' env' σ) (h : VR K mg fr true d v H Hf' H') :
    ∃ Hf'', ER K mg Hf'' H' env' σ ∧ Tr pu Hf H env Hf'' H' env' σ ∧ Rep K mg Hf'' d v := by
  unfold VR at h
  cases fr with
  | false =>
    rw [if_neg Bool.false_ne_true] at h
    exact ⟨Hf', r', t, by simpa using h⟩
  | true =>
    rw [if_pos rfl] at h
    obtain ⟨p, rfl, hp, hn, c⟩ := h
    obtain ⟨o, ho⟩ := c.there
    have no : ¬ OwnAt env' σ p := fun q => r.fresh hp (q.back t.mt)
    refine ⟨upd Hf' p o, r'.frz ho hn no (c.not ho).1, ⟨fun b q e => ?_, t.len, t.mt, t.io, t.fr, fun a h => ?_, t.pure, t.there⟩, c.freeze ho hn⟩
    · have e' := t.up b q e
      rw [upd_ne (ne_of_none e' hn)]; exact e'
    · by_cases hb : a = p
      · subst hb; exact .inr (.inl (noC_none hp))
      · rw [upd_ne hb] at h; exact t.new a h
theorem VR.back {H0 : Hp} (h : VR K mg fr st d v H Hf' H') (t : ∀ a, noT H0 a ≠ none → noT H a ≠ none) : VR K mg fr st d v H0 Hf' H' := by
  unfold VR at h ⊢
  cases fr with
  | false => exact h
  | true =>
    rw [if_pos rfl] at h ⊢
    obtain ⟨p, e, hp, r⟩ := h
    refine ⟨p, e, ?_, r⟩
    cases q : noT H0 p with
    | none => rfl
    | some o => exact absurd hp (t p (by rw [q]; simp))
theorem VR.old (h : Rep K mg Hf' d v) : VR K mg false true d v H Hf' H' := by
  unfold VR
  rw [if_neg Bool.false_ne_true, if_pos rfl]; exact h
theorem VR.cur (h : Rep K mg H' d v) : VR K mg false false d v H Hf' H' := by
  unfold VR
  rw [if_neg Bool.false_ne_true, if_neg Bool.false_ne_true]; exact h
theorem VR.new {p : Addr} (hp : H p = none) (hn : Hf' p = none) (c : Cont K mg Hf' H' d p) : VR K mg true st d (.ref p) H Hf' H' := by
  unfold VR
  rw [if_pos rfl]; exact ⟨p, rfl, noT_none hp, hn, c⟩
theorem raw_set {env : Env} {s : Slot} {i j : Nat} {v : V} (hs : ∀ w, s ≠ .raw w) (h : (env.set i s)[j]? = some (Slot.raw v)) : j ≠ i ∧ env[j]? = some (Slot.raw v) := by
  by_cases hj : i = j
  · subst hj
    by_cases hi : i < env.length
    · rw [List.getElem?_set_self hi] at h
      exact absurd (Option.some.inj h) (hs v)
    · rw [List.getElem?_eq_none (by simpa using hi)] at h; cases h
  · rw [List.getElem?_set_ne hj] at h
    exact ⟨fun e => hj e.symm, h⟩
theorem nt_upd {Hf : Hp} {a : Addr} {o : HO} (h : ∀ b ps, Hf b ≠ some (.tbl ps)) (ho : ∀ ps, o ≠ .tbl ps) : ∀ b ps, upd Hf a o b ≠ some (.tbl ps) := fun b ps e => by
  by_cases hb : b = a
  · subst hb; rw [upd_same] at e; exact ho ps (Option.some.inj e)
  · rw [upd_ne hb] at e; exact h b ps e
end
end Cor
set_option Elab.async false
set_option linter.all false
set_option maxRecDepth 100000
set_option maxHeartbeats 2000000
/-! CorD: dicts: keys, what the machine does with them. -/
namespace Cor
open PySem PySem.Spec L2
/-! ### keys -/
theorem eqvs_iff {n : Nat} (ih : ∀ (a b : D) (m : Nat), okK n a = true → okK m b = true → (D.eqv a b = true ↔ nk a = nk b)) : ∀ (xs ys : List D) (m : Nat), xs.all (okK n) = true → ys.all (okK m) = true → (eqvs xs ys = true ↔ nks xs = nks ys)
  | [], [], _, _, _ => by simp [eqvs]
  | [], _ :: _, _, _, _ => by simp [eqvs, nks]
  | _ :: _, [], _, _, _ => by simp [eqvs, nks]
  | x :: xs, y :: ys, m, h1, h2 => by
    simp only [List.all_cons, Bool.and_eq_true] at h1 h2
    simp only [eqvs, nks, Bool.and_eq_true, List.cons.injEq]
    rw [ih x y m h1.1 h2.1, eqvs_iff ih xs ys m h1.2 h2.2]
theorem eqv_iff : ∀ (n : Nat) (a b : D) (m : Nat), okK n a = true → okK m b = true → (D.eqv a b = true ↔ nk a = nk b) := fun n => by
  induction n with
  | zero =>
    intro a b m ha hb
    cases a <;> try (simp [okK] at ha; done)
    cases b <;> try (cases m <;> simp [okK] at hb; done)
    · simp [D.eqv, nk]
    · simp [D.eqv, nk]
  | succ n ih =>
    intro a b m ha hb
    cases a <;> try (simp [okK] at ha; done)
    · cases b <;> try (cases m <;> simp [okK] at hb; done)
      · simp [D.eqv, nk]
      · simp [D.eqv, nk]
    · cases b <;> try (cases m <;> simp [okK] at hb; done)
      · simp [D.eqv, nk]
      · cases m with
        | zero => simp [okK] at hb
        | succ m =>
          simp only [okK] at ha hb
          simp only [D.eqv, nk, NestedKey.tup.injEq]
          exact eqvs_iff ih _ _ m ha hb
theorem nks_map (ks : List D) : nks ks = ks.map nk := by
  induction ks with
  | nil => rfl
  | cons k ks ih => simp [nks, ih]
theorem nks_depth {n : Nat} (ih : ∀ a : D, okK n a = true → (nk a).depth ≤ n) : ∀ xs : List D, xs.all (okK n) = true → NestedKey.depthAll (nks xs) ≤ n
  | [], _ => by simp [nks, NestedKey.depthAll]
  | x :: xs, h => by
    simp only [List.all_cons, Bool.and_eq_true] at h
    simp only [nks, NestedKey.depthAll]
    exact Nat.max_le.mpr ⟨ih x h.1, nks_depth ih xs h.2⟩
theorem nk_depth : ∀ (n : Nat) (a : D), okK n a = true → (nk a).depth ≤ n := fun n => by
  induction n with
  | zero => intro a h; cases a <;> simp [okK] at h; simp [nk, NestedKey.depth]
  | succ n ih =>
    intro a h
    cases a <;> try (simp [okK] at h; done)
    · simp [nk, NestedKey.depth]
    · simp only [okK] at h
      simp only [nk, NestedKey.depth]
      have := nks_depth ih _ h
      omega
theorem isTup_ok {k : D} (h : isTupK k = true) : okK 8 k = true ∧ ∃ xs, k = .tup xs := by
  unfold isTupK at h
  split at h
  · exact ⟨h, _, rfl⟩
  · cases h
theorem isNum_ok {k : D} (h : isNumK k = true) : ∃ i, k = .int i := by
  unfold isNumK at h
  split at h
  · exact ⟨_, rfl⟩
  · cases h

section
variable [LamDefs] {X : Cx} {pins : List (Addr × Obj)} {σ : L2.St} {H : Hp} {s : Shared}
theorem reps_nest {n : Nat} (ih : ∀ (d : D) (v : V) (u : Value), Rep X.K X.mg H d v → okK n d = true → RelV v u → NestedIs s.heap (nk d) u) : ∀ (ds : List D) (vs : List V) (us : List Value), Reps X.K X.mg H ds vs → ds.all (okK n) = true → Vals vs us → NestedAll s.heap (nks ds) us
  | [], _, _, h, _, r => by cases h; cases r; exact .nil
  | d :: ds, _, _, h, q, r => by
    cases h with
    | cons h1 h2 =>
      cases r with
      | cons r1 r2 =>
        simp only [List.all_cons, Bool.and_eq_true] at q
        exact .cons (ih _ _ _ h1 q.1 r1) (reps_nest ih _ _ _ h2 q.2 r2)
/-- a datum that is a key -/
theorem rep_nest (I : Inv X pins σ H s) : ∀ (n : Nat) (d : D) (v : V) (u : Value), Rep X.K X.mg H d v → okK n d = true → RelV v u → NestedIs s.heap (nk d) u := fun n => by
  induction n with
  | zero =>
    intro d v u h q r
    cases h <;> try (simp [okK] at q; done)
    obtain ⟨t, rfl⟩ := r
    exact .int _ _
  | succ n ih =>
    intro d v u h q r
    cases h with
    | int i => obtain ⟨t, rfl⟩ := r; exact .int _ _
    | tup ht hs =>
      cases r
      obtain ⟨its, rv, ⟨o, ho, hc, m, hd⟩, _⟩ := I.tuple ht
      simp only [okK] at q
      exact .tup ho hc hd (by simpa using reps_nest ih _ _ _ hs q rv)
    | _ => simp [okK] at q
theorem rep_is (I : Inv X pins σ H s) {k : D} {b : Addr} (h : Rep X.K X.mg H k (.ref b)) (hk : isTupK k = true) : (nestedKind X.prog X.w).is s.heap (nk k) b :=
  ⟨rep_nest I 8 _ _ _ h (isTup_ok hk).1 rfl, nk_depth 8 _ (isTup_ok hk).1⟩
theorem dobj_at (I : Inv X pins σ H s) {a : Addr} {o : Obj} (h : H a = some (DObj a o)) : s.heap.get? a = some o := by
  obtain ⟨z, _, _⟩ := (show ObjOk X.prog X.w H s.heap a (DObj a o) from I.hok a _ h)
  exact z
theorem dsh_T (I : Inv X pins σ H s) {a : Addr} {o : Obj} {ks : List D} {kvv vvs : List V} (h : H a = some (DObj a o)) (hd : DShT o ks kvv vvs) (rk : Reps X.K X.mg H ks kvv) :
    ∃ xs : List (NestedKey × Addr × Value), s.heap.DictOfH (nestedKind X.prog X.w) a xs ∧ xs.map (·.1) = nks ks ∧ (∀ k ∈ ks, isTupK k = true) ∧ kvv = xs.map (fun x => V.ref x.2.1) ∧ Vals vvs (xs.map (·.2.2)) := by
  obtain ⟨es, ep, xs, hx, hdt, he, hn, h1, h2, h3, h4⟩ := hd
  refine ⟨xs, ⟨o, es, ep, dobj_at I h, hx, hdt, he _ _, fun x hx => ?_, hn⟩, h1, h2, h3, h4⟩
  obtain ⟨i, hi, rfl⟩ := List.mem_iff_getElem.mp hx
  have hl : xs.length = ks.length := by
    have := congrArg List.length h1
    rw [nks_map] at this
    simpa using this
  have hk : ks[i]? = some (ks[i]'(hl ▸ hi)) := List.getElem?_eq_getElem _
  obtain ⟨v, e1, e2⟩ := rk.get hk
  rw [h3, List.getElem?_map, List.getElem?_eq_getElem hi] at e1
  cases e1
  have e3 : xs[i].1 = nk (ks[i]'(hl ▸ hi)) := by
    have := congrArg (fun l => l[i]?) h1
    simp only [nks_map, List.getElem?_map, List.getElem?_eq_getElem hi, hk, Option.map_some] at this
    exact Option.some.inj this
  rw [e3]
  exact rep_is I e2 (h2 _ (List.getElem_mem _))
theorem find_T {k : D} (hk : okK 8 k = true) : ∀ (ks : List D) (xs : List (NestedKey × Addr × Value)), xs.map (·.1) = nks ks → (∀ z ∈ ks, isTupK z = true) → atKey xs (nk k) = (findK ks k).bind fun i => (xs[i]?).map (·.2)
  | [], xs, h, _ => by
    cases xs with
    | nil => rfl
    | cons x xs => simp [nks] at h
  | z :: ks, xs, h, q => by
    cases xs with
    | nil => simp [nks] at h
    | cons x xs =>
      simp only [nks, List.map_cons, List.cons.injEq] at h
      have ih := find_T hk ks xs h.2 fun y hy => q y (List.mem_cons_of_mem _ hy)
      have e := eqv_iff 8 z k 8 (isTup_ok (q z (List.mem_cons_self ..))).1 hk
      unfold atKey findK at *
      rw [List.find?_cons, List.findIdx?_cons]
      by_cases c : D.eqv z k = true
      · rw [c]
        have : decide (x.1 = nk k) = true := by rw [h.1]; simpa using e.mp c
        rw [this]
        rfl
      · have c' : D.eqv z k = false := by simpa using c
        rw [c']
        have : decide (x.1 = nk k) = false := by rw [h.1]; simpa using fun y => c (e.mpr y)
        rw [this]
        simp only [Bool.false_eq_true, if_false] at ih ⊢
        rw [ih]
        cases ks.findIdx? (fun x => D.eqv x k) <;> simp
theorem dsh_N (I : Inv X pins σ H s) {a : Addr} {o : Obj} {ks : List D} {kvv vvs : List V} (h : H a = some (DObj a o)) (hd : DShN o ks kvv vvs) (rk : Reps X.K X.mg H ks kvv) :
    ∃ kvs : List (Key × Value), s.heap.DictOf (mixKind X.prog X.w) a kvs ∧ kvs.map (fun x => kV x.1) = kvv ∧ (∀ k ∈ ks, isNumK k = true) ∧ Vals vvs (kvs.map (·.2)) := by
  obtain ⟨es, ep, kvs, hx, hdt, he, hn, h1, h2, h3⟩ := hd
  exact ⟨kvs, ⟨o, es, ep, dobj_at I h, hx, hdt, (he _ _).1, (he _ _).2, hn⟩, h1, h2, h3⟩
theorem find_N {K : PySem.W.Frag} {mg : Str → Option Value} {i : Int} : ∀ (ks : List D) (kvs : List (Key × Value)), Reps K mg H ks (kvs.map fun x => kV x.1) → (∀ z ∈ ks, isNumK z = true) → valueAt kvs (.inl i) = (findK ks (.int i)).bind fun j => (kvs[j]?).map (·.2)
  | [], kvs, h, _ => by
    cases kvs with
    | nil => rfl
    | cons x xs => cases h
  | z :: ks, kvs, h, q => by
    cases kvs with
    | nil => cases h
    | cons x kvs =>
      obtain ⟨j, rfl⟩ := isNum_ok (q z (List.mem_cons_self ..))
      cases h with
      | cons h1 h2 =>
        have ih := find_N (i := i) ks kvs h2 fun y hy => q y (List.mem_cons_of_mem _ hy)
        obtain ⟨x1, x2⟩ := x
        have e1 : x1 = .inl j := by
          cases x1 with
          | inl m => cases h1; rfl
          | inr m => cases h1
        subst e1
        unfold valueAt findK at *
        rw [List.find?_cons, List.findIdx?_cons]
        by_cases c : j = i
        · subst c
          simp [D.eqv]
        · have d1 : decide ((Sum.inl j : Key) = Sum.inl i) = false := decide_eq_false fun e => c (Sum.inl.inj e)
          have d2 : D.eqv (.int j) (.int i) = false := by simpa [D.eqv] using c
          dsimp only
          rw [d1, d2]
          simp only [Bool.false_eq_true, if_false]
          rw [ih]
          cases ks.findIdx? (fun x => D.eqv x (.int i)) <;> simp
theorem hashes_any {w w' : World} {n : Nat} (ih : ∀ a : D, okK n a = true → (nk a).hash w = (nk a).hash w') : ∀ xs : List D, xs.all (okK n) = true → NestedKey.hashes w (nks xs) = NestedKey.hashes w' (nks xs)
  | [], _ => rfl
  | x :: xs, h => by
    simp only [List.all_cons, Bool.and_eq_true] at h
    simp only [nks, NestedKey.hashes]
    rw [ih x h.1, hashes_any ih xs h.2]
theorem nk_hash {w w' : World} : ∀ (n : Nat) (a : D), okK n a = true → (nk a).hash w = (nk a).hash w' := fun n => by
  induction n with
  | zero => intro a h; cases a <;> simp [okK] at h; simp [nk, NestedKey.hash]
  | succ n ih =>
    intro a h
    cases a <;> try (simp [okK] at h; done)
    · simp [nk, NestedKey.hash]
    · simp only [okK] at h
      simp only [nk, NestedKey.hash]
      rw [hashes_any ih _ h]
theorem entry_any {P P' : Program} {w w' : World} : ∀ (ks : List D) (xs : List (NestedKey × Addr × Value)), xs.map (·.1) = nks ks → (∀ z ∈ ks, isTupK z = true) → xs.map (entryOfKey (nestedKind P w)) = xs.map (entryOfKey (nestedKind P' w'))
  | [], xs, h, _ => by
    cases xs with
    | nil => rfl
    | cons x xs => simp [nks] at h
  | z :: ks, xs, h, q => by
    cases xs with
    | nil => simp [nks] at h
    | cons x xs =>
      simp only [nks, List.map_cons, List.cons.injEq] at h
      rw [List.map_cons, List.map_cons, entry_any ks xs h.2 fun y hy => q y (List.mem_cons_of_mem _ hy)]
      congr 1
      unfold entryOfKey
      congr 1
      show NestedKey.hash w x.1 = NestedKey.hash w' x.1
      rw [h.1]
      exact nk_hash 8 z (isTup_ok (q z (List.mem_cons_self ..))).1
theorem putAt_vals {k : NestedKey} {u : Value} : ∀ (xs : List (NestedKey × Addr × Value)) (i : Nat), (xs.map (·.1)).Nodup → (xs.findIdx? fun x => decide (x.1 = k)) = some i → (xs.map (putAt k u)).map (·.2.2) = (xs.map (·.2.2)).set i u
  | [], i, _, h => by simp at h
  | x :: xs, i, hn, h => by
    rw [List.findIdx?_cons] at h
    simp only [List.map_cons, List.nodup_cons] at hn
    by_cases c : x.1 = k
    · rw [decide_eq_true c] at h
      simp only [if_true] at h
      cases h
      have : xs.map (putAt k u) = xs := by
        have e : ∀ y ∈ xs, putAt k u y = y := fun y hy => by
          unfold putAt
          rw [if_neg]
          intro z
          exact hn.1 (List.mem_map.mpr ⟨y, hy, z.trans c.symm⟩)
        exact (List.map_congr_left e).trans (List.map_id _)
      simp only [List.map_cons, List.set_cons_zero]
      rw [this]
      unfold putAt
      rw [if_pos c]
    · rw [decide_eq_false c] at h
      simp only [Bool.false_eq_true, if_false, Option.map_eq_some_iff] at h
      obtain ⟨j, hj, rfl⟩ := h
      have ih := putAt_vals (u := u) xs j hn.2 hj
      simp only [List.map_cons, List.set_cons_succ, List.cons.injEq]
      refine ⟨?_, ih⟩
      unfold putAt
      rw [if_neg c]
theorem putAt_keys {k : NestedKey} {u : Value} (xs : List (NestedKey × Addr × Value)) : (xs.map (putAt k u)).map (fun x => (x.1, x.2.1)) = xs.map fun x => (x.1, x.2.1) := by
  rw [List.map_map]
  refine List.map_congr_left fun x _ => ?_
  show ((putAt k u x).1, (putAt k u x).2.1) = _
  unfold putAt
  split <;> rfl
theorem findIdx_T {k : D} (hk : okK 8 k = true) (ks : List D) (xs : List (NestedKey × Addr × Value)) (h : xs.map (·.1) = nks ks) (q : ∀ z ∈ ks, isTupK z = true) : (xs.findIdx? fun x => decide (x.1 = nk k)) = findK ks k := by
  induction ks generalizing xs with
  | nil =>
    cases xs with
    | nil => rfl
    | cons x xs => simp [nks] at h
  | cons z ks ih =>
    cases xs with
    | nil => simp [nks] at h
    | cons x xs =>
      simp only [nks, List.map_cons, List.cons.injEq] at h
      unfold findK at *
      rw [List.findIdx?_cons, List.findIdx?_cons, ih xs h.2 fun y hy => q y (List.mem_cons_of_mem _ hy)]
      have e := eqv_iff 8 z k 8 (isTup_ok (q z (List.mem_cons_self ..))).1 hk
      have : decide (x.1 = nk k) = D.eqv z k := by
        rw [h.1]
        by_cases c : D.eqv z k = true
        · rw [c]; simpa using e.mp c
        · rw [show D.eqv z k = false by simpa using c]; simpa using fun y => c (e.mpr y)
      rw [this]
theorem stored_vals {k : Key} {u : Value} : ∀ (xs : List (Key × Value)) (i : Nat), (xs.map (·.1)).Nodup → (xs.findIdx? fun x => decide (x.1 = k)) = some i → (xs.map fun kv => if kv.1 = k then (kv.1, u) else kv).map (·.2) = (xs.map (·.2)).set i u
  | [], i, _, h => by simp at h
  | x :: xs, i, hn, h => by
    rw [List.findIdx?_cons] at h
    simp only [List.map_cons, List.nodup_cons] at hn
    by_cases c : x.1 = k
    · rw [decide_eq_true c] at h
      simp only [if_true] at h
      cases h
      have : (xs.map fun kv => if kv.1 = k then (kv.1, u) else kv) = xs := by
        have e : ∀ y ∈ xs, (if y.1 = k then (y.1, u) else y) = y := fun y hy => by
          rw [if_neg]
          intro z
          exact hn.1 (List.mem_map.mpr ⟨y, hy, z.trans c.symm⟩)
        exact (List.map_congr_left e).trans (List.map_id _)
      simp only [List.map_cons, List.set_cons_zero]
      rw [this, if_pos c]
    · rw [decide_eq_false c] at h
      simp only [Bool.false_eq_true, if_false, Option.map_eq_some_iff] at h
      obtain ⟨j, hj, rfl⟩ := h
      have ih := stored_vals (u := u) xs j hn.2 hj
      simp only [List.map_cons, List.set_cons_succ, List.cons.injEq]
      exact ⟨by rw [if_neg c], ih⟩
theorem stored_keys {k : Key} {u : Value} (xs : List (Key × Value)) : (xs.map fun kv => if kv.1 = k then (kv.1, u) else kv).map (·.1) = xs.map (·.1) := by
  rw [List.map_map]
  refine List.map_congr_left fun x _ => ?_
  show (if x.1 = k then (x.1, u) else x).1 = x.1
  split <;> rfl
theorem findIdx_N {K : PySem.W.Frag} {mg : Str → Option Value} {i : Int} (ks : List D) (kvs : List (Key × Value)) (h : Reps K mg H ks (kvs.map fun x => kV x.1)) (q : ∀ z ∈ ks, isNumK z = true) : (kvs.findIdx? fun x => decide (x.1 = Sum.inl i)) = findK ks (.int i) := by
  induction ks generalizing kvs with
  | nil =>
    cases kvs with
    | nil => rfl
    | cons x xs => cases h
  | cons z ks ih =>
    cases kvs with
    | nil => cases h
    | cons x kvs =>
      obtain ⟨j, rfl⟩ := isNum_ok (q z (List.mem_cons_self ..))
      cases h with
      | cons h1 h2 =>
        obtain ⟨x1, x2⟩ := x
        have e1 : x1 = .inl j := by
          cases x1 with
          | inl m => cases h1; rfl
          | inr m => cases h1
        subst e1
        unfold findK at *
        rw [List.findIdx?_cons, List.findIdx?_cons, ih kvs h2 fun y hy => q y (List.mem_cons_of_mem _ hy)]
        have : decide ((Sum.inl j : Key) = Sum.inl i) = D.eqv (.int j) (.int i) := by
          by_cases c : j = i
          · subst c; simp [D.eqv]
          · rw [decide_eq_false fun e => c (Sum.inl.inj e)]; simp [D.eqv, c]
        dsimp only
        rw [this]
/-! ### what the machine does -/
theorem rep_int {K : PySem.W.Frag} {mg : Str → Option Value} {i : Int} {x : V} (h : Rep K mg H (.int i) x) : x = .int i := by cases h; rfl
theorem rep_tup {K : PySem.W.Frag} {mg : Str → Option Value} {ds : List D} {x : V} (h : Rep K mg H (.tup ds) x) : ∃ a vs, x = .ref a ∧ SqT K H a vs ∧ Reps K mg H ds vs := by cases h with | tup h hs => exact ⟨_, _, rfl, h, hs⟩
/-- a dict at a, as the state has it -/
structure DH (K : PySem.W.Frag) (mg : Str → Option Value) (H : Hp) (tk : Bool) (ks : List D) (a : Addr) (o : Obj) (kvv vvs : List V) : Prop where
  obj : H a = some (DObj a o)
  sys : (a == sysModules) = false
  len : ks.length ≤ lim
  sh : DSh tk o ks kvv vvs
  keys : Reps K mg H ks kvv
theorem atKey_some {xs : List (NestedKey × Addr × Value)} {k : NestedKey} {i : Nat} {v : V} {vvs : List V} {r : Option Nat} (e : atKey xs k = r.bind fun i => (xs[i]?).map (·.2)) (hr : r = some i) (hv : Vals vvs (xs.map (·.2.2))) (h : vvs[i]? = some v) : ∃ p, atKey xs k = some p ∧ RelV v p.2 := by
  obtain ⟨u, hu, ru⟩ := hv.get h
  rw [List.getElem?_map, Option.map_eq_some_iff] at hu
  obtain ⟨x, hx, rfl⟩ := hu
  exact ⟨x.2, by rw [e, hr, Option.bind_some, hx]; rfl, ru⟩
theorem keys_T {ks : List D} {xs : List (NestedKey × Addr × Value)} (h : xs.map (·.1) = nks ks) : xs.length = ks.length := by
  have := congrArg List.length h
  rw [nks_map] at this
  simpa using this
theorem findK_lt {ks : List D} {k : D} {i : Nat} (h : findK ks k = some i) : i < ks.length := by
  obtain ⟨h, _⟩ := List.findIdx?_eq_some_iff_getElem.mp h
  exact h
theorem bind_isSome {α β : Type} {r : Option α} {f : α → Option β} (h : ∀ a, r = some a → (f a).isSome = true) : (r.bind f).isSome = r.isSome := by
  cases r with
  | none => rfl
  | some a => simpa using h a rfl
section
variable {tk : Bool} {ks : List D} {a : Addr} {o : Obj} {kvv vvs : List V} {k : D} {kv : V} {u : Value} {E : Value → Shared → Prop}
theorem d_get (hu : X.A.units + 65 < cLine) (I : Inv X pins σ H s) (h : DH X.K X.mg H tk ks a o kvv vvs) (rk : Rep X.K X.mg H k kv) (ru : RelV kv u) (hk : keyB tk k = true) {i : Nat} {v : V} (hf : findK ks k = some i) (hv : vvs[i]? = some v)
    : ∃ w, RelV v w ∧ ∀ {Q : Value → Shared → Prop}, (∀ s', Inv X pins σ H s' → Q w s') → wpAny (model X.prog X.w) X.A (getItem (.ref a) u) Q E s := by
  have sh := h.sh
  unfold DSh at sh
  unfold keyB at hk
  cases tk with
  | true =>
    rw [if_pos rfl] at sh hk
    obtain ⟨xs, hx, e1, e2, _, e4⟩ := dsh_T I h.obj sh h.keys
    obtain ⟨ok, z, rfl⟩ := isTup_ok hk
    obtain ⟨p, hp, rp⟩ := atKey_some (find_T ok ks xs e1 e2) hf e4 hv
    obtain ⟨b, vs, rfl, _⟩ := rep_tup rk
    cases ru
    exact ⟨p.2, rp, fun hq => wpAny_getItem_heap (by show X.A.in1.units + 8 < cLine; show X.A.units + 1 + 8 < cLine; omega) (rep_is I rk hk) hx hp (hq _ (I.tok _))⟩
  | false =>
    rw [if_neg Bool.false_ne_true] at sh hk
    obtain ⟨kvs, hx, e1, e2, e3⟩ := dsh_N I h.obj sh h.keys
    obtain ⟨i', rfl⟩ := isNum_ok hk
    obtain rfl := rep_int rk
    obtain ⟨t, rfl⟩ := ru
    obtain ⟨w, hw, rw'⟩ := e3.get hv
    have e := find_N (i := i') ks kvs (e1 ▸ h.keys) e2
    rw [hf, Option.bind_some] at e
    rw [List.getElem?_map] at hw
    rw [hw] at e
    exact ⟨w, rw', fun hq => wpAny_getItem_of (mixKind_int _ _ _ _) hx.mapOf e (hq _ (I.tok _))⟩
theorem d_has (I : Inv X pins σ H s) (h : DH X.K X.mg H tk ks a o kvv vvs) (hk : keyB tk k = true) :
    (tk = true → ∃ xs, s.heap.DictOfH (nestedKind X.prog X.w) a xs ∧ (atKey xs (nk k)).isSome = (findK ks k).isSome) ∧
    (tk = false → ∃ kvs, s.heap.DictOf (mixKind X.prog X.w) a kvs ∧ ∃ i, k = .int i ∧ (valueAt kvs (.inl i)).isSome = (findK ks k).isSome) := by
  have sh := h.sh
  unfold DSh at sh
  unfold keyB at hk
  refine ⟨fun e => ?_, fun e => ?_⟩
  · subst e
    rw [if_pos rfl] at sh hk
    obtain ⟨xs, hx, e1, e2, _, e4⟩ := dsh_T I h.obj sh h.keys
    refine ⟨xs, hx, ?_⟩
    rw [find_T (isTup_ok hk).1 ks xs e1 e2]
    refine bind_isSome fun i hi => ?_
    have := findK_lt hi
    rw [← keys_T e1] at this
    rw [List.getElem?_eq_getElem this]; rfl
  · subst e
    rw [if_neg Bool.false_ne_true] at sh hk
    obtain ⟨kvs, hx, e1, e2, e3⟩ := dsh_N I h.obj sh h.keys
    obtain ⟨i', rfl⟩ := isNum_ok hk
    refine ⟨kvs, hx, i', rfl, ?_⟩
    rw [find_N ks kvs (e1 ▸ h.keys) e2]
    refine bind_isSome fun i hi => ?_
    have := findK_lt hi
    have hl := h.keys.length
    rw [← e1, List.length_map] at hl
    rw [hl] at this
    rw [List.getElem?_eq_getElem this]; rfl
theorem d_inK (hu : X.A.units + 65 < cLine) (I : Inv X pins σ H s) (h : DH X.K X.mg H tk ks a o kvv vvs) (rk : Rep X.K X.mg H k kv) (ru : RelV kv u) (hk : keyB tk k = true)
    {Q : Value → Shared → Prop} (hq : ∀ s', Inv X pins σ H s' → Q (.bool (findK ks k).isSome) s') : wpAny (model X.prog X.w) X.A (compareOp .In u (.ref a)) Q E s := by
  obtain ⟨h1, h2⟩ := d_has I h hk
  unfold keyB at hk
  cases tk with
  | true =>
    rw [if_pos rfl] at hk
    obtain ⟨xs, hx, e⟩ := h1 rfl
    obtain ⟨ok, z, rfl⟩ := isTup_ok hk
    obtain ⟨b, vs, rfl, _⟩ := rep_tup rk
    cases ru
    refine wpAny_in_heap (by show X.A.units + 1 + 8 < cLine; omega) (rep_is I rk hk) h.sys hx ?_
    rw [e]; exact hq _ (I.tok _)
  | false =>
    obtain ⟨kvs, hx, i, rfl, e⟩ := h2 rfl
    obtain rfl := rep_int rk
    obtain ⟨t, rfl⟩ := ru
    refine wpAny_in_of (mixKind_int _ _ _ _) h.sys hx.mapOf ?_
    rw [e]; exact hq _ (I.tok _)
theorem d_notInK (hu : X.A.units + 65 < cLine) (I : Inv X pins σ H s) (h : DH X.K X.mg H tk ks a o kvv vvs) (rk : Rep X.K X.mg H k kv) (ru : RelV kv u) (hk : keyB tk k = true)
    {Q : Value → Shared → Prop} (hq : ∀ s', Inv X pins σ H s' → Q (.bool (!(findK ks k).isSome)) s') : wpAny (model X.prog X.w) X.A (compareOp .NotIn u (.ref a)) Q E s := by
  obtain ⟨h1, h2⟩ := d_has I h hk
  unfold keyB at hk
  cases tk with
  | true =>
    rw [if_pos rfl] at hk
    obtain ⟨xs, hx, e⟩ := h1 rfl
    obtain ⟨ok, z, rfl⟩ := isTup_ok hk
    obtain ⟨b, vs, rfl, _⟩ := rep_tup rk
    cases ru
    refine notIn_keyed (knd := nestedKind X.prog X.w) (by show X.A.units + 1 + 8 < cLine; omega) (rep_is I rk hk) h.sys ⟨xs, hx, rfl⟩ ?_
    rw [valueAt_pairsH, Option.isSome_map, e]; exact hq _ (I.tok _)
  | false =>
    obtain ⟨kvs, hx, i, rfl, e⟩ := h2 rfl
    obtain rfl := rep_int rk
    obtain ⟨t, rfl⟩ := ru
    refine wpAny_notIn_of (mixKind_int _ _ _ _) h.sys hx.mapOf ?_
    rw [e]; exact hq _ (I.tok _)
theorem pairs_any {P P' : Program} {w w' : World} {es : List DictEntry} {kvs : List (Key × Value)} (h : Pairs (mixKind P w) es kvs) : Pairs (mixKind P' w') es kvs := by
  induction h with
  | nil => exact .nil
  | cons h1 h2 _ ih => exact .cons h1 h2 ih
theorem pairs_mem {P : Program} {w : World} {es : List DictEntry} {kvs : List (Key × Value)} (h : Pairs (mixKind P w) es kvs) : ∀ e ∈ es, ∃ kv ∈ kvs, keyIs kv.1 e.key = true := by
  induction h with
  | nil => intro e he; cases he
  | cons h1 h2 _ ih =>
    intro e he
    rcases List.mem_cons.mp he with q | q
    · subst q; exact ⟨_, List.mem_cons_self .., h1⟩
    · obtain ⟨kv, a, b⟩ := ih e q
      exact ⟨kv, List.mem_cons_of_mem _ a, b⟩
theorem keysOf_any {P P' : Program} {w w' : World} {es : Array DictEntry} {kvs : List (Key × Value)} (hk : PySem.KeysOf (mixKind P w) es) (h : Pairs (mixKind P w) es.toList kvs) (hi : ∀ x ∈ kvs, ∃ j, x.1 = Sum.inl j) : PySem.KeysOf (mixKind P' w') es := fun e he => by
  obtain ⟨k, h1, h2⟩ := hk e he
  obtain ⟨kv, m, h3⟩ := pairs_mem h e (by simpa using he)
  have ek : k = kv.1 := (mixKind P w).inj e.key k kv.1 h1 h3
  obtain ⟨j, hj⟩ := hi kv m
  refine ⟨k, h1, ?_⟩
  rw [h2]
  show keyH w k = keyH w' k
  rw [ek, hj]
  rfl
theorem inl_of {K : PySem.W.Frag} {mg : Str → Option Value} : ∀ (ks : List D) (kvs : List (Key × Value)), Reps K mg H ks (kvs.map fun x => kV x.1) → (∀ z ∈ ks, isNumK z = true) → ∀ x ∈ kvs, ∃ j, x.1 = Sum.inl j
  | _, [], _, _, x, hx => by cases hx
  | [], _ :: _, h, _, _, _ => by cases h
  | z :: ks, y :: kvs, h, q, x, hx => by
    cases h with
    | cons h1 h2 =>
      rcases List.mem_cons.mp hx with e | e
      · subst e
        obtain ⟨j, rfl⟩ := isNum_ok (q z (List.mem_cons_self ..))
        obtain ⟨x1, x2⟩ := x
        cases x1 with
        | inl m => exact ⟨m, rfl⟩
        | inr m => cases h1
      · exact inl_of ks kvs h2 (fun y hy => q y (List.mem_cons_of_mem _ hy)) x e
theorem ext_ok {P : Program} {w : World} {H : Hp} {h : Heap} {a : Addr} {o : Obj} (e : h.get? a = some o) : ObjOk P w H h a (DObj a o) := ⟨e, ⟨o, e⟩, fun h1 h2 x st => st _ x⟩
theorem all_put {p : D → Bool} {ks : List D} {k : D} (h : ∀ z ∈ ks, p z = true) (hk : p k = true) : ∀ z ∈ putKs ks k ks k, p z = true := by
  unfold putKs
  split
  · exact h
  · intro z hz
    rcases List.mem_append.mp hz with q | q
    · exact h z q
    · rw [List.mem_singleton.mp q]; exact hk
theorem Vals.snoc {vs : List V} {us : List Value} {v : V} {u : Value} (h : Vals vs us) (r : RelV v u) : Vals (vs ++ [v]) (us ++ [u]) := Vals.append h (.cons r .nil)
theorem d_set (hu : X.A.units + 65 < cLine) (I : Inv X pins σ H s) (h : DH X.K X.mg H tk ks a o kvv vvs) (hl : ks.length < lim) (rk : Rep X.K X.mg H k kv) (ru : RelV kv u) (hk : keyB tk k = true) {y : V} {w : Value} (ry : RelV y w)
    {Q : Unit → Shared → Prop} (hq : ∀ o' s', Inv X pins σ (upd H a (DObj a o')) s' → DSh tk o' (putKs ks k ks k) (putKs ks k kvv kv) (putVs ks k vvs y) → Q () s') :
    wpAny (model X.prog X.w) X.A (setItem (.ref a) u w) Q E s := by
  have sh := h.sh
  unfold DSh at sh
  have hk0 := hk
  unfold keyB at hk
  have wr : ∀ {h' : Heap} {o' : Obj} {t' : Nat}, Heap.SameBut a s.heap h' → h'.get? a = some o' → Inv X pins σ (upd H a (DObj a o')) { s with heap := h', toks := t' } := fun {h' o' t'} hs e =>
    I.write (x := a) (e := a) (by rw [h.obj]; exact True.intro) (.inl rfl) (fun b q hb z => (hs.2 b hb).trans z) ⟨o', e⟩ (ext_ok e)
  have hll : ks.length ≤ sizeLine := Nat.le_trans (Nat.le_of_lt hl) (by decide)
  cases tk with
  | true =>
    rw [if_pos rfl] at sh hk
    obtain ⟨xs, hx, e1, e2, e3, e4⟩ := dsh_T I h.obj sh h.keys
    obtain ⟨ok, z, rfl⟩ := isTup_ok hk
    obtain ⟨b, vs, rfl, _⟩ := rep_tup rk
    cases ru
    refine wpAny_setItem_heap (hsz := by rw [keys_T e1]; exact hll) (by show X.A.units + 1 + 8 < cLine; omega) (rep_is I rk hk) hx fun h' hm' hs => ?_
    obtain ⟨o', es, ep, q1, q2, q3, q4, q5, q6⟩ := hm'
    refine hq o' _ (wr hs q1) ?_
    unfold DSh
    rw [if_pos rfl]
    have at_ := find_T ok ks xs e1 e2
    have ix := findIdx_T ok ks xs e1 e2
    unfold storedH at q4 q5 q6
    cases hf : findK ks (.tup z) with
    | some i =>
      have hlt := findK_lt hf
      have hsome : (atKey xs (nk (.tup z))).isSome = true := by
        rw [at_, hf, Option.bind_some, List.getElem?_eq_getElem (by rw [keys_T e1]; exact hlt)]; rfl
      rw [if_pos hsome] at q4 q6
      unfold putKs putVs
      rw [hf]
      have k1 : (xs.map (putAt (nk (.tup z)) w)).map (·.1) = xs.map (·.1) := by
        have := congrArg (List.map (·.1)) (putAt_keys (k := nk (.tup z)) (u := w) xs)
        simpa [List.map_map, Function.comp_def] using this
      have k2 : (xs.map (putAt (nk (.tup z)) w)).map (fun x => V.ref x.2.1) = xs.map (fun x => V.ref x.2.1) := by
        have := congrArg (List.map (fun y : NestedKey × Addr => V.ref y.2)) (putAt_keys (k := nk (.tup z)) (u := w) xs)
        simpa [List.map_map, Function.comp_def] using this
      refine ⟨es, ep, _, q2, q3, fun P w' => q4.trans (entry_any ks _ (k1.trans e1) e2), q6, k1.trans e1, e2, by rw [k2]; exact e3, ?_⟩
      rw [putAt_vals xs i (by rw [← k1]; exact q6) (ix.trans hf)]
      exact Vals.set ry i e4
    | none =>
      have hnone : ¬ (atKey xs (nk (.tup z))).isSome = true := by rw [at_, hf]; simp
      rw [if_neg hnone] at q4 q6
      unfold putKs putVs
      rw [hf]
      have k1 : (xs ++ [(nk (.tup z), b, w)]).map (·.1) = nks (ks ++ [.tup z]) := by rw [nks_map, List.map_append, List.map_append, e1, nks_map]; rfl
      have k2 : ∀ y ∈ ks ++ [.tup z], isTupK y = true := fun y hy => by
        rcases List.mem_append.mp hy with q | q
        · exact e2 y q
        · rw [List.mem_singleton.mp q]; exact hk
      refine ⟨es, ep, _, q2, q3, fun P w' => q4.trans (entry_any _ _ k1 k2), q6, k1, k2, by rw [List.map_append, e3]; rfl, ?_⟩
      rw [List.map_append]
      exact Vals.snoc e4 ry
  | false =>
    rw [if_neg Bool.false_ne_true] at sh hk
    obtain ⟨kvs, hx, e1, e2, e3⟩ := dsh_N I h.obj sh h.keys
    obtain ⟨i', rfl⟩ := isNum_ok hk
    obtain rfl := rep_int rk
    obtain ⟨t, rfl⟩ := ru
    have hkl : kvs.length = ks.length := by
      have := h.keys.length
      rw [← e1, List.length_map] at this
      exact this.symm
    refine wpAny_setItem_pairs (hsz := by rw [hkl]; exact hll) (mixKind_int _ _ _ _) hx fun h' hm' hs => ?_
    obtain ⟨o', es, ep, q1, q2, q3, q4, q5, q6⟩ := hm'
    refine hq o' _ (wr hs q1) ?_
    unfold DSh
    rw [if_neg Bool.false_ne_true]
    have at_ := find_N (i := i') ks kvs (e1 ▸ h.keys) e2
    have ix := findIdx_N (i := i') ks kvs (e1 ▸ h.keys) e2
    have hin := inl_of ks kvs (e1 ▸ h.keys) e2
    unfold stored at q5 q6
    have any_ : (kvs.any fun kv => decide (kv.1 = Sum.inl i')) = (findK ks (.int i')).isSome := by
      rw [← ix, List.findIdx?_isSome]
    rw [any_] at q5 q6
    cases hf : findK ks (.int i') with
    | some i =>
      rw [hf] at q5 q6
      simp only [Option.isSome_some, if_true] at q5 q6
      unfold putKs putVs
      rw [hf]
      have hin' : ∀ x ∈ kvs.map (fun kv => if kv.1 = Sum.inl i' then (kv.1, w) else kv), ∃ j, x.1 = Sum.inl j := fun x hx => by
        obtain ⟨y, hy, rfl⟩ := List.mem_map.mp hx
        obtain ⟨j, hj⟩ := hin y hy
        refine ⟨j, ?_⟩
        split <;> exact hj
      refine ⟨es, ep, _, q2, q3, fun P w' => ⟨keysOf_any q4 q5 hin', pairs_any q5⟩, q6, ?_, e2, ?_⟩
      · have := congrArg (List.map kV) (stored_keys (k := Sum.inl i') (u := w) kvs)
        have e0 : (kvs.map fun kv => if kv.1 = Sum.inl i' then (kv.1, w) else kv).map (fun x => kV x.1) = kvs.map fun x => kV x.1 := by simpa [List.map_map, Function.comp_def] using this
        exact e0.trans e1
      · rw [stored_vals kvs i (by rw [← stored_keys (k := Sum.inl i') (u := w) kvs]; exact q6) (ix.trans hf)]
        exact Vals.set ry i e3
    | none =>
      rw [hf] at q5 q6
      simp only [Option.isSome_none, Bool.false_eq_true, if_false] at q5 q6
      unfold putKs putVs
      rw [hf]
      have hin' : ∀ x ∈ kvs ++ [(Sum.inl i', w)], ∃ j, x.1 = Sum.inl j := fun x hx => by
        rcases List.mem_append.mp hx with q | q
        · exact hin x q
        · rw [List.mem_singleton.mp q]; exact ⟨_, rfl⟩
      refine ⟨es, ep, _, q2, q3, fun P w' => ⟨keysOf_any q4 q5 hin', pairs_any q5⟩, q6, ?_, fun y hy => ?_, ?_⟩
      · rw [List.map_append, e1]; rfl
      · rcases List.mem_append.mp hy with q | q
        · exact e2 y q
        · rw [List.mem_singleton.mp q]; rfl
      · rw [List.map_append]
        exact Vals.snoc e3 ry
end
/-- the entries, in order -/
theorem d_raw (I : Inv X pins σ H s) {tk : Bool} {ks : List D} {a : Addr} {o : Obj} {kvv vvs : List V} (h : DH X.K X.mg H tk ks a o kvv vvs) :
    ∃ es ep, s.heap.DictRaw a es ep ∧ es.size = ks.length ∧ Vals kvv (es.toList.map (·.key)) ∧ Vals vvs (es.toList.map (·.val)) := by
  have sh := h.sh
  unfold DSh at sh
  cases tk with
  | true =>
    rw [if_pos rfl] at sh
    obtain ⟨es, ep, xs, hx, hdt, he, hn, h1, h2, h3, h4⟩ := sh
    have e := he X.prog X.w
    refine ⟨es, ep, ⟨o, dobj_at I h.obj, hx, hdt⟩, ?_, ?_, ?_⟩
    · rw [← Array.length_toList, e, List.length_map, keys_T h1]
    · rw [e, h3, List.map_map]
      have : ∀ l : List (NestedKey × Addr × Value), Vals (l.map fun x => V.ref x.2.1) (l.map ((·.key) ∘ entryOfKey (nestedKind X.prog X.w))) := fun l => by
        induction l with
        | nil => exact .nil
        | cons x l ih => exact .cons rfl ih
      exact this xs
    · rw [e, List.map_map]
      exact h4
  | false =>
    rw [if_neg Bool.false_ne_true] at sh
    obtain ⟨es, ep, kvs, hx, hdt, he, hn, h1, h2, h3⟩ := sh
    obtain ⟨e1, e2⟩ := he X.prog X.w
    have hl : kvs.length = ks.length := by
      have := h.keys.length
      rw [← h1, List.length_map] at this
      exact this.symm
    refine ⟨es, ep, ⟨o, dobj_at I h.obj, hx, hdt⟩, ?_, ?_, ?_⟩
    · rw [← Array.length_toList, e2.length, hl]
    · rw [← h1]
      clear h1 h3 hl e1 hn he
      generalize es.toList = l at e2
      induction e2 with
      | nil => exact .nil
      | @cons e kv es kvs q1 q2 _ ih =>
        refine .cons ?_ ih
        rcases keyIs_shape q1 with ⟨i, t, e3, e4⟩ | ⟨x, t, e3, e4⟩
        · show RelV (kV kv.1) e.key
          rw [e3, e4]; exact ⟨t, rfl⟩
        · show RelV (kV kv.1) e.key
          rw [e3, e4]; exact ⟨t, rfl⟩
    · have : ∀ (l : List DictEntry) (kvs : List (Key × Value)), Pairs (mixKind X.prog X.w) l kvs → l.map (·.val) = kvs.map (·.2) := fun l kvs p => by
        induction p with
        | nil => rfl
        | cons q1 q2 _ ih => simp [q2, ih]
      rw [this _ _ e2]
      exact h3
theorem d_type (I : Inv X pins σ H s) {tk : Bool} {ks : List D} {a : Addr} {o : Obj} {kvv vvs : List V} (h : DH X.K X.mg H tk ks a o kvv vvs) : s.TypeIs (.ref a) "dict" := by
  obtain ⟨es, ep, hr, _⟩ := d_raw I h
  exact hr.typeIs
end
section
variable [LamDefs] {X : Cx}
/-! ### by values -/
def rGetD (K : PySem.W.Frag) (mg : Str → Option Value) : R2 := fun x y H Q => ∃ tk ks a o kvv vvs k i v, x = .ref a ∧ DH K mg H tk ks a o kvv vvs ∧ Rep K mg H k y ∧ keyB tk k = true ∧ findK ks k = some i ∧ vvs[i]? = some v ∧ Q v H
theorem ix_dct (hu : X.A.units + 65 < cLine) : IxR X (rGetD X.K X.mg) := by
  intro value slice pins s σ H x y v u Q I rx ry h hs
  obtain ⟨tk, ks, a, o, kvv, vvs, k, i, z, rfl, dh, rk, hk, hf, hv, q⟩ := h
  cases rx
  obtain ⟨w, rw', key⟩ := d_get (E := X.xe) hu I dh rk ry hk hf hv
  exact PyProof.Rows.subscriptTail_builtinR (x := w) (d_type I dh) PySem.F.slot_dict_getitem.lookup (key fun s' I' => ⟨rfl, z, H, I', rw', q⟩) hs
def rInD (K : PySem.W.Frag) (mg : Str → Option Value) : R2 := fun x y H Q => ∃ tk ks a o kvv vvs k, y = .ref a ∧ DH K mg H tk ks a o kvv vvs ∧ Rep K mg H k x ∧ keyB tk k = true ∧ Q (.bl (findK ks k).isSome) H
def rNotInD (K : PySem.W.Frag) (mg : Str → Option Value) : R2 := fun x y H Q => ∃ tk ks a o kvv vvs k, y = .ref a ∧ DH K mg H tk ks a o kvv vvs ∧ Rep K mg H k x ∧ keyB tk k = true ∧ Q (.bl (!(findK ks k).isSome)) H
theorem op_inDct (hu : X.A.units + 65 < cLine) : OpR X (compareOp .In) (rInD X.K X.mg) := by
  intro pins s σ H x y v u Q I rx ry h
  obtain ⟨tk, ks, a, o, kvv, vvs, k, rfl, dh, rk, hk, q⟩ := h
  cases ry
  exact d_inK hu I dh rk rx hk fun s' I' => ⟨.bl _, H, I', rfl, q⟩
theorem op_notInDct (hu : X.A.units + 65 < cLine) : OpR X (compareOp .NotIn) (rNotInD X.K X.mg) := by
  intro pins s σ H x y v u Q I rx ry h
  obtain ⟨tk, ks, a, o, kvv, vvs, k, rfl, dh, rk, hk, q⟩ := h
  cases ry
  exact d_notInK hu I dh rk rx hk fun s' I' => ⟨.bl _, H, I', rfl, q⟩
def rPutD (K : PySem.W.Frag) (mg : Str → Option Value) : TSet := fun x y z H Q => ∃ tk ks a o kvv vvs k, x = .ref a ∧ DH K mg H tk ks a o kvv vvs ∧ ks.length < lim ∧ Rep K mg H k y ∧ keyB tk k = true ∧
  ∀ o', DSh tk o' (putKs ks k ks k) (putKs ks k kvv y) (putVs ks k vvs z) → Q (upd H a (DObj a o'))
theorem set_dct (hu : X.A.units + 65 < cLine) : PSet X (rPutD X.K X.mg) := by
  intro pins s σ H x y z ov iv u Q I rx ry rz h
  obtain ⟨tk, ks, a, o, kvv, vvs, k, rfl, dh, hl, rk, hk, q⟩ := h
  cases rx
  exact d_set hu I dh hl rk ry hk rz fun o' s' I' sh => ⟨_, I', q o' sh⟩
theorem PSet.or {t t' : TSet} (h : PSet X t) (h' : PSet X t') : PSet X (fun x y z H Q => t x y z H Q ∨ t' x y z H Q) := by
  intro pins s σ H x y z ov iv u Q I rx ry rz q
  rcases q with q | q
  · exact h pins s σ H x y z ov iv u Q I rx ry rz q
  · exact h' pins s σ H x y z ov iv u Q I rx ry rz q
theorem call_lenDct : CallR X (.builtin "len") (fun xs H Q => ∃ tk ks a o kvv vvs, xs = [V.ref a] ∧ DH X.K X.mg H tk ks a o kvv vvs ∧ Q (.int ks.length) H) := by
  intro pins s σ H xs us Q I r h
  obtain ⟨tk, ks, a, o, kvv, vvs, rfl, dh, q⟩ := h
  obtain ⟨u, rfl, ru⟩ := vals1 r
  cases ru
  obtain ⟨es, ep, hr, hs, _⟩ := d_raw I dh
  have hl : ks.length ≤ 1000000 := dh.len
  exact PyProof.Rows.call_len_slot (n := ks.length) hr.typeIs PySem.F.slot_dict_len (fun Q' hq => call_len_raw dh.sys hr (by rw [hs]; exact hq)) (by omega) (by omega) ⟨.int ks.length, H, I.tok _, ⟨_, rfl⟩, q⟩
/-! ### a new dict -/
theorem dsh_nil (tk : Bool) : DSh tk { cls := .type "dict", data := .dict #[] } [] [] [] := by
  unfold DSh
  cases tk with
  | true =>
    rw [if_pos rfl]
    exact ⟨#[], 0, [], ⟨rfl, rfl, rfl⟩, rfl, fun _ _ => rfl, List.nodup_nil, rfl, fun _ h => (by cases h), rfl, .nil⟩
  | false =>
    rw [if_neg Bool.false_ne_true]
    exact ⟨#[], 0, [], ⟨rfl, rfl, rfl⟩, rfl, fun _ _ => ⟨fun e he => by simp at he, .nil⟩, List.nodup_nil, rfl, fun _ h => (by cases h), .nil⟩
def tDctNew : TE := fun _ H Q => ∀ p o, H p = none → (p == sysModules) = false → (∀ tk, DSh tk o [] [] []) → Q (.ref p) (upd H p (DObj p o))
theorem pe_dctNew {pos : Pos} : PE X (.Dict [] [] pos) tDctNew := by
  refine ⟨fun pins s σ H Q I h => ?_⟩
  have hb := I.big
  refine wpAny_Dict_empty ⟨.ref s.heap.objs.size, _, I.laid (a := s.heap.objs.size) (o := DObj s.heap.objs.size { cls := .type "dict", data := .dict #[] }) (t' := s.toks) (fun _ _ q => Heap.get?_push_of_some _ q) (Nat.le_refl _) (ext_ok (Heap.get?_push_size _ rfl)), rfl, h _ _ (I.hok.fresh (Nat.le_refl _)) ?_ dsh_nil⟩
  exact beq_eq_false_iff_ne.mpr (Nat.ne_of_gt hb)
end
end Cor
set_option Elab.async false
set_option linter.all false
set_option maxRecDepth 100000
set_option maxHeartbeats 2000000
/-! Cor2: what the operators and the built-ins make of data. -/
namespace Cor
open PySem PySem.Spec L2

section
variable [LamDefs] (K : PySem.W.Frag) (mg : Str → Option Value)
/-- what an operation gives: a frozen value, or one new object -/
inductive Out (Hf H : Hp) : Bool → D → V → Hp → Prop
  | old {d : D} {v : V} : Rep K mg Hf d v → Out Hf H false d v H
  | tup {p : Addr} {ds : List D} {vs : List V} : H p = none → Reps K mg Hf ds vs → Out Hf H false (.tup ds) (.ref p) (upd H p (.tup vs))
  | lst {p : Addr} {ds : List D} {vs : List V} : H p = none → Reps K mg Hf ds vs → Out Hf H true (.lst ds) (.ref p) (upd H p (.lst vs))
end
section
variable [LamDefs] {K : PySem.W.Frag} {mg : Str → Option Value} {H H' Hf Hf' : Hp} {env env' : Env} {σ : St} {pu fr st : Bool} {d : D} {v : V}
theorem Out.done (r : ER K mg Hf H env σ) (o : Out K mg Hf H fr d v H') : ∃ Hf', ER K mg Hf' H' env σ ∧ Tr true Hf H env Hf' H' env σ ∧ VR K mg fr true d v H Hf' H' := by
  cases o with
  | old h => exact ⟨Hf, r, Tr.refl, VR.old h⟩
  | tup hp hs =>
    obtain ⟨a, b⟩ := r.growF (pu := true) (o := .tup _) hp
    exact ⟨_, a, b, VR.old (.tup (SqT.of upd_same) (hs.up b.up))⟩
  | lst hp hs =>
    obtain ⟨a, b⟩ := r.grow (pu := true) (o := .lst _) hp
    exact ⟨_, a, b, VR.new hp (r.freshF hp) (.lst upd_same hs)⟩

/-! ### as the library's data -/
mutual
def D.py : D → PyData
  | .non => .none
  | .bl b => .bool b
  | .int i => .int i
  | .str x => .str ⟨x.toArray⟩
  | .tup xs => .tuple (pys xs)
  | .lst xs => .list (pys xs)
  | .dct _ _ _ => .none
  | .fn _ => .none
def pys : List D → List PyData
  | [] => []
  | d :: ds => D.py d :: pys ds
end
theorem str_eq (x y : List Nat) : ((⟨x.toArray⟩ : Str) == ⟨y.toArray⟩) = decide (x = y) := by
  by_cases h : x = y
  · subst h; simp
  · rw [decide_eq_false h]
    refine beq_eq_false_iff_ne.mpr fun e => h ?_
    have := congrArg (fun z : Str => z.cps.toList) e
    simpa using this
mutual
theorem py_eqv : ∀ (n : Nat) (a b : D), a.okN n = true → b.okN n = true → PyData.eqv a.py b.py = a.eqv b
  | n, .non, b, _, hb => by cases b <;> first | rfl | (cases n <;> simp [D.okN] at hb) | simp [D.py, PyData.eqv, D.eqv]
  | n, .bl x, b, _, hb => by cases b <;> first | rfl | (cases n <;> simp [D.okN] at hb) | simp [D.py, PyData.eqv, D.eqv]
  | n, .int i, b, _, hb => by cases b <;> first | rfl | (cases n <;> simp [D.okN] at hb) | simp [D.py, PyData.eqv, D.eqv]
  | n, .str x, b, _, hb => by
    cases b with
    | str y => simp only [D.py, PyData.eqv, D.eqv]; exact str_eq _ _
    | _ => first | rfl | (cases n <;> simp [D.okN] at hb) | simp [D.py, PyData.eqv, D.eqv]
  | 0, .tup xs, b, ha, _ => by simp [D.okN] at ha
  | 0, .lst xs, b, ha, _ => by simp [D.okN] at ha
  | n + 1, .tup xs, b, ha, hb => by
    cases b with
    | tup ys => simp only [D.py, PyData.eqv, D.eqv]; exact py_eqvs n xs ys (by simpa [D.okN] using ha) (by simpa [D.okN] using hb)
    | _ => first | rfl | simp [D.okN] at hb | simp [D.py, PyData.eqv, D.eqv]
  | n + 1, .lst xs, b, ha, hb => by
    cases b with
    | lst ys => simp only [D.py, PyData.eqv, D.eqv]; exact py_eqvs n xs ys (by simpa [D.okN] using ha) (by simpa [D.okN] using hb)
    | _ => first | rfl | simp [D.okN] at hb | simp [D.py, PyData.eqv, D.eqv]
  | n, .dct _ _ _, b, ha, _ => by cases n <;> simp [D.okN] at ha
  | n, .fn _, b, ha, _ => by cases n <;> simp [D.okN] at ha
theorem py_eqvs : ∀ (n : Nat) (as bs : List D), (∀ x ∈ as, x.okN n = true) → (∀ x ∈ bs, x.okN n = true) → PyData.eqvAll (pys as) (pys bs) = eqvs as bs
  | n, [], [], _, _ => rfl
  | n, [], _ :: _, _, _ => rfl
  | n, _ :: _, [], _, _ => rfl
  | n, a :: as, b :: bs, ha, hb => by
    simp only [pys, PyData.eqvAll, eqvs]
    rw [py_eqv n a b (ha a List.mem_cons_self) (hb b List.mem_cons_self), py_eqvs n as bs (fun x h => ha x (List.mem_cons_of_mem _ h)) (fun x h => hb x (List.mem_cons_of_mem _ h))]
end
mutual
theorem py_lay : ∀ (n : Nat) (a : D), a.okN n = true → a.py.canLay0 = true ∧ a.py.depth ≤ n
  | n, .non, _ => by simp [D.py, PyData.canLay0, PyData.depth]
  | n, .bl x, _ => by simp [D.py, PyData.canLay0, PyData.depth]
  | n, .int i, _ => by simp [D.py, PyData.canLay0, PyData.depth]
  | n, .str x, h => by
    simp only [D.py, PyData.canLay0, PyData.depth, PyData.strOk]
    cases n <;> simpa [D.okN] using h
  | 0, .tup xs, h => by simp [D.okN] at h
  | 0, .lst xs, h => by simp [D.okN] at h
  | n + 1, .tup xs, h => by
    have q := py_lays n xs (by simpa [D.okN] using h)
    simp only [D.py, PyData.canLay0, PyData.depth]
    exact ⟨q.1, by omega⟩
  | n + 1, .lst xs, h => by
    have q := py_lays n xs (by simpa [D.okN] using h)
    simp only [D.py, PyData.canLay0, PyData.depth]
    exact ⟨q.1, by omega⟩
  | n, .dct _ _ _, ha => by cases n <;> simp [D.okN] at ha
  | n, .fn _, ha => by cases n <;> simp [D.okN] at ha
theorem py_lays : ∀ (n : Nat) (as : List D), (∀ x ∈ as, x.okN n = true) → PyData.canLayAll0 (pys as) = true ∧ PyData.depthAll (pys as) ≤ n
  | n, [], _ => by simp [pys, PyData.canLayAll0, PyData.depthAll]
  | n, a :: as, h => by
    have q1 := py_lay n a (h a List.mem_cons_self)
    have q2 := py_lays n as fun x hx => h x (List.mem_cons_of_mem _ hx)
    simp only [pys, PyData.canLayAll0, PyData.depthAll, q1.1, q2.1]
    exact ⟨rfl, by omega⟩
end
theorem py_shaped {n : Nat} {a : D} (h : a.okN n = true) (hn : n ≤ 60 := by decide) : SeqAt.shaped a.py = true := by
  have q := py_lay n a h
  unfold SeqAt.shaped
  rw [q.1]
  simp only [Bool.true_and, decide_eq_true_eq]
  omega
theorem Reps.dpsOf {n : Nat} (ih : ∀ {d : D} {v : V}, Rep K mg H d v → d.okN n = true → Dp K H v d.py) : ∀ {ds : List D} {vs : List V}, Reps K mg H ds vs → (∀ x ∈ ds, x.okN n = true) → DpAll K H vs (pys ds) := fun {ds} => by
  induction ds with
  | nil => intro vs h _; cases h; exact .nil
  | cons d ds hds =>
    intro vs h q
    cases h with
    | cons h1 h2 => exact .cons (ih h1 (q _ List.mem_cons_self)) (hds h2 fun x hx => q x (List.mem_cons_of_mem _ hx))
theorem Rep.dp : ∀ (n : Nat) {d : D} {v : V}, Rep K mg H d v → d.okN n = true → Dp K H v d.py := fun n => by
  induction n with
  | zero =>
    intro d v h q
    cases h with
    | non => exact .non
    | bl b => exact .bl b
    | int i => exact .int i
    | str x => exact .str _
    | tup _ _ => simp [D.okN] at q
    | lst _ _ => simp [D.okN] at q
    | dct _ _ _ _ _ _ => simp [D.okN] at q
    | fn _ => simp [D.okN] at q
    | lam _ _ _ => simp [D.okN] at q
  | succ n ih =>
    intro d v h q
    cases h with
    | non => exact .non
    | bl b => exact .bl b
    | int i => exact .int i
    | str x => exact .str _
    | tup h hs => exact .tup h (Reps.dpsOf ih hs (by simpa [D.okN] using q))
    | lst h hs => exact .lst h (Reps.dpsOf ih hs (by simpa [D.okN] using q))
    | dct _ _ _ _ _ _ => simp [D.okN] at q
    | fn _ => simp [D.okN] at q
    | lam _ _ _ => simp [D.okN] at q
theorem Reps.dps (n : Nat) {ds : List D} {vs : List V} (h : Reps K mg H ds vs) (q : ∀ x ∈ ds, x.okN n = true) : DpAll K H vs (pys ds) := Reps.dpsOf (fun h q => Rep.dp n h q) h q
theorem memD_any (a : D) (ha : a.okN 8 = true) : ∀ (bs : List D), (∀ x ∈ bs, x.okN 8 = true) → ((pys bs).any fun z => PyData.eqv z a.py) = memD a bs
  | [], _ => rfl
  | b :: bs, h => by
    simp only [pys, List.any_cons, memD]
    rw [py_eqv 8 b a (h b List.mem_cons_self) ha, memD_any a ha bs fun x hx => h x (List.mem_cons_of_mem _ hx)]

/-! ### binary operators -/
def BinOk (X : Cx) (op : Operator) : Prop := ∃ r2 : R2, OpR X (binaryOp op) r2 ∧ ∀ (Hf H : Hp) (x y : V) (d e q : D) (fr : Bool) (Q : VK), Same Hf H → Rep X.K X.mg Hf d x → Rep X.K X.mg Hf e y → binD op d e = some (q, fr) →
  (∀ z H', Out X.K X.mg Hf H fr q z H' → Q z H') → r2 x y H Q
theorem lim_line {n : Nat} (h : n ≤ lim) : n ≤ sizeLine := Nat.le_trans h (by decide)
/-- two lists that may be read, one behind another -/
def rCatL (K : PySem.W.Frag) : R2 := fun x y H Q => ∃ l b xs zs, x = .ref l ∧ y = .ref b ∧ SqL K H l xs ∧ SqL K H b zs ∧ xs.length + zs.length ≤ sizeLine ∧ ∀ p, H p = none → Q (.ref p) (upd H p (.lst (xs ++ zs)))
theorem list_addG (l : Addr) (items : Array Value) (n : Nat) (b : Addr) (items2 : Array Value) (n2 : Nat) (sl sl2 : Array (Option Value)) (hc0 : items.size + items2.size ≤ sizeLine) :
    Meets (Builtin.«list.__add__» ⟨[.ref l, .ref b], []⟩) (fun _ R s => s.heap.get? l = some { cls := .type "list", dict := none, data := .seq items n, slots := sl } ∧ s.heap.get? b = some { cls := .type "list", dict := none, data := .seq items2 n2, slots := sl2 } ∧ R (.ok (.ret (.ref s.heap.objs.size))) { s with heap := s.heap.push { cls := .type "list", data := .seq (items ++ items2) } }) :=
  .of_wp fun prog w A R s h => by obtain ⟨hp, g, d, tk, os⟩ := s; obtain ⟨hl, hb, h⟩ := h; have f1 := AutoSeq1.idx_int; have f2 := AutoSeq1.sub_tuple_tuple; have f3 := AutoSeq1.sub_list_list; have f4 := AutoSeq1.sub_tuple_list; have f5 := AutoSeq1.sub_list_tuple; wp_walk using AutoSeq1.wpAny_loadPart' hl, AutoSeq1.wpAny_loadPart' hb; exact ⟨_, rfl, h⟩
theorem op_catL {X : Cx} : OpR X (binaryOp .Add) (rCatL X.K) := by
  intro pins s σ H x y v u Q I rx ry h
  obtain ⟨l, b, xs, zs, rfl, rfl, hH, hB, hz, q⟩ := h
  cases rx
  cases ry
  obtain ⟨its, r, ⟨⟨c1, d1, dat1, sl1⟩, n, e1, e2, e4, e3⟩, hl⟩ := I.list hH
  obtain ⟨its2, r2, ⟨⟨c2, d2, dat2, sl2⟩, n2, e12, e22, e42, e32⟩, hl2⟩ := I.list hB
  simp only at e2 e4 e3 e22 e42 e32
  subst e2 e4 e3 e22 e42 e32
  refine PySem.concat_meets ⟨_, e1, rfl⟩ ⟨_, e12, rfl⟩ PySem.noFill_list_add PySem.seq_list_add PySem.F.slot_list_add PySem.F.entry_list_add (PySem.F.args_list_add_2 _ _) (list_addG l its.toArray n b its2.toArray n2 sl1 sl2 ?_) ⟨e1, e12, ?_⟩
  · rw [List.size_toArray, List.size_toArray, ← r.length, ← r2.length]; exact hz
  have ea : its.toArray ++ its2.toArray = (its ++ its2).toArray := by simp
  rw [ea]
  exact ⟨.ref _, _, I.lnew (t' := s.toks) (r.append r2) (by rw [List.length_append]; omega), rfl, q _ I.fresh⟩

/-- a list that may be read, times an int -/
def rRepL (K : PySem.W.Frag) : R2 := fun x y H Q => ∃ l k xs, x = .ref l ∧ y = .int k ∧ SqL K H l xs ∧ -(2 ^ 63) ≤ k ∧ k < 2 ^ 63 ∧ xs.length * k.toNat ≤ sizeLine ∧
  ∀ p, H p = none → Q (.ref p) (upd H p (.lst (List.replicate k.toNat xs).flatten))
theorem list_mulG (l : Addr) (items : Array Value) (n : Nat) (x : Int) (u : Tok) (sl : Array (Option Value)) (hc0 : ¬(!Builtin.List.listFitsIndex x) = true) (hc1 : ¬items.size * x.toNat > (2 ^ 63 - 1) / 8) (hc2 : ¬Builtin.List.listTooLong (items.size * x.toNat) = true) :
    Meets (Builtin.«list.__mul__» ⟨[.ref l, .int x u], []⟩) (fun _ R s => s.heap.get? l = some { cls := .type "list", dict := none, data := .seq items n, slots := sl } ∧ R (.ok (.ret (Value.ref s.heap.objs.size))) { s with heap := s.heap.push { cls := Value.type "list", data := Data.seq (List.foldl (fun x1 x2 => x1 ++ x2) #[] (List.replicate (if items.isEmpty = true then 0 else x.toNat) items)) }, toks := s.toks }) :=
  .of_wp fun prog w A R s h => by
    obtain ⟨hp, g, d, tk, os⟩ := s; obtain ⟨hl, h⟩ := h
    have hsz := AutoListH.joined_fits hc2
    wp_walk using AutoSeq1.wpAny_loadPart' hl; refine wpAny_ite_false (decide_eq_false (Nat.not_lt.mpr hsz)) ?_; wp_walk using AutoSeq1.wpAny_loadPart' hl; exact ⟨_, rfl, h⟩
theorem int_rmulG (a : Int) (t : Tok) (l : Addr) (items : Array Value) (n : Nat) (sl : Array (Option Value)) :
    Meets (Builtin.«int.__rmul__» ⟨[.int a t, .ref l], []⟩) (fun _ R s => s.heap.get? l = some { cls := .type "list", dict := none, data := .seq items n, slots := sl } ∧ R (.ok (.ret Value.notImplemented)) s) :=
  .of_wp fun prog w A R s h => by obtain ⟨hp, g, d, tk, os⟩ := s; obtain ⟨hl, h⟩ := h; wp_walk using AutoSeq1.wpAny_loadPart' hl; exact ⟨_, rfl, h⟩
theorem op_repL {X : Cx} : OpR X (binaryOp .Mult) (rRepL X.K) := by
  intro pins s σ H x y v u Q I rx ry h
  obtain ⟨l, k, xs, rfl, rfl, hH, h1, h2, hz, q⟩ := h
  cases rx
  obtain ⟨t, rfl⟩ := ry
  obtain ⟨its, r, ⟨⟨c1, d1, dat1, sl1⟩, n, e, e2, e4, e3⟩, hl⟩ := I.list hH
  simp only at e2 e4 e3
  subst e2 e4 e3
  have hlen : its.toArray.size * k.toNat ≤ sizeLine := by rw [List.size_toArray, ← r.length]; exact hz
  have hcap : ¬ its.toArray.size * k.toNat > (2 ^ 63 - 1) / 8 := by
    have : (sizeLine : Nat) ≤ (2 ^ 63 - 1) / 8 := by decide
    omega
  have hfit : ¬ (!Builtin.List.listFitsIndex k) = true := by
    rw [fitsIndex_both h1 h2]
    exact Bool.false_ne_true
  have hlong : ¬ Builtin.List.listTooLong (its.toArray.size * k.toNat) = true := by
    rw [notLongL hlen]
    exact Bool.false_ne_true
  have hnew : List.foldl (fun x1 x2 => x1 ++ x2) #[] (List.replicate (if its.toArray.isEmpty = true then 0 else k.toNat) its.toArray) = (List.replicate k.toNat its).flatten.toArray := by
    have f0 : ∀ m : Nat, List.foldl (fun x1 x2 => x1 ++ x2) #[] (List.replicate m its.toArray) = (List.replicate m its).flatten.toArray := fun m => by
      have := foldl_rep its m []
      rw [List.nil_append] at this
      exact this
    rw [f0]
    cases its with
    | nil => simp
    | cons a r' => rw [if_neg (by simp)]
  refine wpAny_binaryOp_repeat_ref (T := "list") (U := "int") (by decide) ⟨_, e, rfl⟩ (fun s' => typeIs_int s' k t) noFill_list_mul F.fills_int_mul F.slot_int_rmul repeat_list F.slot_int_index.lookup
    (call_meets F.slot_int_rmul (typeIs_int s k t) F.entry_int_rmul (F.args_int_rmul_2 _ _) (int_rmulG k t l its.toArray n sl1)
      ⟨e, rfl, ⟨_, e, rfl⟩, call_meets F.slot_list_mul ⟨_, e, rfl⟩ F.entry_list_mul (F.args_list_mul_2 _ _) (list_mulG l its.toArray n k t sl1 hfit hcap hlong) ⟨e, ?_⟩⟩)
  rw [hnew]
  exact ⟨.ref _, _, I.lnew (t' := s.toks) (r.rep k.toNat) (by rw [PyProof.Rows.lm_len_rep_flat, Nat.mul_comm]; exact hz), rfl, q _ I.fresh⟩

theorem Rep.intInv {i : Int} {x : V} (h : Rep K mg H (.int i) x) : x = .int i := by cases h; rfl
theorem Rep.blInv {i : Bool} {x : V} (h : Rep K mg H (.bl i) x) : x = .bl i := by cases h; rfl
theorem Rep.nonInv {x : V} (h : Rep K mg H .non x) : x = .non := by cases h; rfl
theorem Rep.strInv {i : List Nat} {x : V} (h : Rep K mg H (.str i) x) : x = .str ⟨i.toArray⟩ := by cases h; rfl
theorem Rep.tupInv {ds : List D} {x : V} (h : Rep K mg H (.tup ds) x) : ∃ a vs, x = .ref a ∧ SqT K H a vs ∧ Reps K mg H ds vs := by cases h with | tup h hs => exact ⟨_, _, rfl, h, hs⟩
theorem Rep.lstInv {ds : List D} {x : V} (h : Rep K mg H (.lst ds) x) : ∃ a vs, x = .ref a ∧ SqL K H a vs ∧ Reps K mg H ds vs := by cases h with | lst h hs => exact ⟨_, _, rfl, h, hs⟩
theorem str_len (x : List Nat) : (⟨x.toArray⟩ : Str).length = x.length := by simp [Str.length]
theorem str_app (x y : List Nat) : (⟨x.toArray⟩ : Str) ++ ⟨y.toArray⟩ = ⟨(x ++ y).toArray⟩ := by
  show (⟨x.toArray ++ y.toArray⟩ : Str) = _
  simp

theorem bin_add (X : Cx) : BinOk X .Add := by
  refine ⟨_, op_add.or (op_add_str.or (op_catA.or op_catL)), fun Hf H x y d e q fr Q le rx ry hs hq => ?_⟩
  cases d <;> cases e <;> simp only [binD, reduceCtorEq] at hs <;> try (first | (exfalso; exact hs.elim) | contradiction)
  · cases hs
    obtain rfl := rx.intInv
    obtain rfl := ry.intInv
    exact .inl ⟨_, _, rfl, rfl, hq _ _ (.old (.int _))⟩
  · split at hs
    · rename_i hz
      cases hs
      obtain rfl := rx.strInv
      obtain rfl := ry.strInv
      refine .inr (.inl ⟨_, _, rfl, rfl, ?_, ?_⟩)
      · rw [str_len, str_len]; exact lim_line hz
      · rw [str_app]; exact hq _ _ (.old (.str _))
    · cases hs
  · split at hs
    · rename_i hz
      cases hs
      obtain ⟨a, vs, rfl, h1, h2⟩ := rx.tupInv
      obtain ⟨b, ws, rfl, h3, h4⟩ := ry.tupInv
      refine .inr (.inr (.inl ⟨a, b, vs, ws, rfl, rfl, same_t le h1, same_t le h3, ?_, fun z => ?_, fun _ z => ?_, fun _ _ p hp => ?_⟩))
      · rw [← h2.length, ← h4.length]; exact lim_line hz
      · subst z; cases h2; exact hq _ _ (.old ry)
      · subst z; cases h4; rw [List.append_nil] at hq; exact hq _ _ (.old rx)
      · exact hq _ _ (.tup hp (h2.app h4))
    · cases hs
  · split at hs
    · rename_i hz
      cases hs
      obtain ⟨a, vs, rfl, h1, h2⟩ := rx.lstInv
      obtain ⟨b, ws, rfl, h3, h4⟩ := ry.lstInv
      refine .inr (.inr (.inr ⟨a, b, vs, ws, rfl, rfl, le.seq h1, le.seq h3, ?_, fun p hp => ?_⟩))
      · rw [← h2.length, ← h4.length]; exact lim_line hz
      · exact hq _ _ (.lst hp (h2.app h4))
    · cases hs
theorem bin_sub (X : Cx) : BinOk X .Sub := by
  refine ⟨_, op_sub, fun Hf H x y d e q fr Q le rx ry hs hq => ?_⟩
  cases d <;> cases e <;> simp only [binD, reduceCtorEq] at hs <;> try (first | (exfalso; exact hs.elim) | contradiction)
  cases hs
  obtain rfl := rx.intInv
  obtain rfl := ry.intInv
  exact ⟨_, _, rfl, rfl, hq _ _ (.old (.int _))⟩
theorem bin_mod (X : Cx) : BinOk X .Mod := by
  refine ⟨_, op_modN, fun Hf H x y d e q fr Q le rx ry hs hq => ?_⟩
  cases d <;> cases e <;> simp only [binD, reduceCtorEq] at hs <;> try (first | (exfalso; exact hs.elim) | contradiction)
  split at hs
  · rename_i hz
    cases hs
    obtain rfl := rx.intInv
    obtain rfl := ry.intInv
    exact ⟨_, _, rfl, rfl, hz, hq _ _ (.old (.int _))⟩
  · cases hs
theorem bin_fdiv (X : Cx) : BinOk X .FloorDiv := by
  refine ⟨_, op_fdivN, fun Hf H x y d e q fr Q le rx ry hs hq => ?_⟩
  cases d <;> cases e <;> simp only [binD, reduceCtorEq] at hs <;> try (first | (exfalso; exact hs.elim) | contradiction)
  split at hs
  · rename_i hz
    cases hs
    obtain rfl := rx.intInv
    obtain rfl := ry.intInv
    exact ⟨_, _, rfl, rfl, hz, hq _ _ (.old (.int _))⟩
  · cases hs
theorem bin_pow (X : Cx) : BinOk X .Pow := by
  refine ⟨_, op_pow, fun Hf H x y d e q fr Q le rx ry hs hq => ?_⟩
  cases d <;> cases e <;> simp only [binD, reduceCtorEq] at hs <;> try (first | (exfalso; exact hs.elim) | contradiction)
  split at hs
  · rename_i hz
    cases hs
    obtain rfl := rx.intInv
    obtain rfl := ry.intInv
    exact ⟨_, _, rfl, rfl, hz, hq _ _ (.old (.int _))⟩
  · cases hs
theorem c64 {i : Int} (h : i.natAbs < 2 ^ 64) : -(2 ^ 64) < i ∧ i < 2 ^ 64 := by omega
/-- a text, some times -/
def rRepS : R2 := fun x y H Q => ∃ (z : List Nat) (k : Int), x = .str ⟨z.toArray⟩ ∧ y = .int k ∧ -1000 ≤ k ∧ k ≤ 1000 ∧ z.length ≤ 1000 ∧ Q (.str ⟨(List.replicate k.toNat z).flatten.toArray⟩) H
theorem rep_cps (z : List Nat) : ∀ (m : Nat) (acc : List Nat), List.foldl (fun x1 x2 => x1 ++ x2) acc.toArray (List.replicate m z.toArray) = (acc ++ (List.replicate m z).flatten).toArray
  | 0, acc => by simp
  | m + 1, acc => by
    rw [List.replicate_succ, List.replicate_succ, List.foldl_cons]
    have e : acc.toArray ++ z.toArray = (acc ++ z).toArray := by simp
    rw [e, rep_cps z m, List.flatten_cons, List.append_assoc]
theorem len_rep (z : List Nat) (m : Nat) : (List.replicate m z).flatten.length = m * z.length := by simp
theorem mul_le {a b : Nat} (h1 : a ≤ 1000) (h2 : b ≤ 1000) : a * b ≤ 1000000 := by
  have := Nat.mul_le_mul h1 h2
  omega
theorem op_repS {X : Cx} : OpR X (binaryOp .Mult) rRepS := by
  intro pins s σ H x y v u Q I rx ry h
  obtain ⟨z, k, rfl, rfl, h1, h2, h4, q⟩ := h
  obtain ⟨t, rfl⟩ := rx
  obtain ⟨t2, rfl⟩ := ry
  have hl : (⟨z.toArray⟩ : Str).length = z.length := str_len z
  have hk : z.length * k.toNat ≤ 1000000 := mul_le h4 (by omega)
  refine PySem.P.mul_str (by
    have e1 : ¬ k < -(2 ^ 63 : Int) := by omega
    have e2 : ¬ k ≥ 2 ^ 63 := by omega
    rw [decide_eq_false e1, decide_eq_false e2]; rfl) (fun hk1 _ hc => ?_) (fun _ _ => ?_) ?_
  · rw [hl] at hc
    have : (2 ^ 63 - 1) / k ≥ 1000 := by
      refine Int.le_ediv_of_mul_le (by omega) ?_
      have : 1000 * k ≤ 1000000 := by omega
      omega
    omega
  · rw [hl]
    exact decide_eq_false (Nat.not_lt.mpr (lim_line (n := z.length * k.toNat) hk))
  · by_cases a1 : k < 1
    · rw [if_pos a1]
      have e : (⟨(List.replicate k.toNat z).flatten.toArray⟩ : Str) = Str.empty := by rw [show k.toNat = 0 by omega]; rfl
      rw [e] at q
      exact ⟨by decide, V.str Str.empty, H, I.tok _, ⟨_, rfl⟩, q⟩
    · by_cases a2 : (k == 1 || (⟨z.toArray⟩ : Str).length == 0) = true
      · rw [if_neg a1, if_pos a2]
        have e : (List.replicate k.toNat z).flatten = z := by
          rw [Bool.or_eq_true] at a2
          rcases a2 with a2 | a2
          · have : k = 1 := by simpa using a2
            subst this
            show (List.replicate 1 z).flatten = z
            simp
          · rw [hl] at a2
            have : z = [] := by simpa using a2
            subst this
            simp
        rw [e] at q
        exact ⟨V.str ⟨z.toArray⟩, H, I, ⟨_, rfl⟩, q⟩
      · rw [if_neg a1, if_neg a2]
        have e : (⟨(List.replicate k.toNat (⟨z.toArray⟩ : Str).cps).foldl (· ++ ·) #[]⟩ : Str) = ⟨(List.replicate k.toNat z).flatten.toArray⟩ := by
          have := rep_cps z k.toNat []
          rw [List.nil_append] at this
          exact congrArg Str.mk this
        rw [e]
        exact ⟨by
          show (List.replicate k.toNat z).flatten.toArray.size ≤ sizeLine
          rw [List.size_toArray, len_rep, Nat.mul_comm]
          exact lim_line hk, V.str ⟨(List.replicate k.toNat z).flatten.toArray⟩, H, I.tok _, ⟨_, rfl⟩, q⟩
theorem bin_mul (X : Cx) : BinOk X .Mult := by
  refine ⟨_, op_mul.or (op_repL.or (op_repT.or op_repS)), fun Hf H x y d e q fr Q le rx ry hs hq => ?_⟩
  cases d <;> cases e <;> simp only [binD, reduceCtorEq] at hs <;> try (first | (exfalso; exact hs.elim) | contradiction)
  · split at hs
    · rename_i hz
      cases hs
      obtain rfl := rx.intInv
      obtain rfl := ry.intInv
      refine .inl ⟨_, _, rfl, rfl, ?_, hq _ _ (.old (.int _))⟩
      rcases hz with z | z
      · exact .inl (c64 z)
      · exact .inr (c64 z)
    · cases hs
  · split at hs
    · rename_i hz
      cases hs
      obtain rfl := rx.strInv
      obtain rfl := ry.intInv
      exact .inr (.inr (.inr ⟨_, _, rfl, rfl, hz.1, hz.2.1, hz.2.2, hq _ _ (.old (.str _))⟩))
    · cases hs
  · split at hs
    · rename_i hz
      cases hs
      obtain ⟨a, vs, rfl, h1, h2⟩ := rx.tupInv
      obtain rfl := ry.intInv
      refine .inr (.inr (.inl ⟨a, _, vs, rfl, rfl, same_t le h1, fun e => ?_, hz.1, hz.2.1, ?_, fun p hp => hq _ _ (.tup hp (h2.rep _))⟩))
      · have h0 := hz.2.2.1
        have l0 := h2.length
        rw [e, List.length_nil] at l0
        omega
      · rw [← h2.length]; exact hz.2.2.2
    · cases hs
  · split at hs
    · rename_i hz
      cases hs
      obtain ⟨a, vs, rfl, h1, h2⟩ := rx.lstInv
      obtain rfl := ry.intInv
      refine .inr (.inl ⟨a, _, vs, rfl, rfl, le.seq h1, by omega, by omega, ?_, fun p hp => ?_⟩)
      · rw [← h2.length]; exact lim_line hz.1
      · exact hq _ _ (.lst hp (h2.rep _))
    · cases hs
theorem bin_ok (X : Cx) (op : Operator) : BinOk X op := by
  cases op <;> first | exact bin_add X | exact bin_sub X | exact bin_mul X | exact bin_mod X | exact bin_fdiv X | exact bin_pow X |
    exact ⟨fun _ _ _ _ => False, fun _ _ _ _ _ _ _ _ _ _ _ _ h => h.elim, fun Hf H x y d e q fr Q le rx ry hs hq => by simp only [binD, reduceCtorEq] at hs⟩
end
end Cor
set_option Elab.async false
set_option linter.all false
set_option maxRecDepth 100000
set_option maxHeartbeats 2000000
/-! Cor3: comparisons, subscripts, slices, built-ins. -/
namespace Cor
open PySem PySem.Spec L2
section
variable [LamDefs] {K : PySem.W.Frag} {mg : Str → Option Value} {H H' Hf Hf' : Hp} {d : D} {v : V}

/-! ### comparisons -/
def CmpOk (X : Cx) (op : CmpOp) : Prop := ∃ r2 : R2, OpR X (compareOp op) r2 ∧ ∀ (H : Hp) (x y : V) (d e : D) (b : Bool) (Q : VK), Rep X.K X.mg H d x → Rep X.K X.mg H e y → cmpD op d e = some b → Q (.bl b) H → r2 x y H Q
theorem cmp_eq (X : Cx) (hu : X.A.units + 65 < cLine) : CmpOk X .Eq := by
  refine ⟨_, op_eqD (by omega), fun H x y d e b Q rx ry hs hq => ?_⟩
  simp only [cmpD] at hs
  split at hs
  · rename_i h
    cases hs
    rw [Bool.and_eq_true] at h
    exact ⟨_, _, rx.dp 8 h.1, ry.dp 8 h.2, py_shaped h.1, py_shaped h.2, by rw [py_eqv 8 _ _ h.1 h.2]; exact hq⟩
  · cases hs
theorem cmp_ne (X : Cx) (hu : X.A.units + 65 < cLine) : CmpOk X .NotEq := by
  refine ⟨_, op_neD (by omega), fun H x y d e b Q rx ry hs hq => ?_⟩
  simp only [cmpD] at hs
  split at hs
  · rename_i h
    cases hs
    rw [Bool.and_eq_true] at h
    exact ⟨_, _, rx.dp 8 h.1, ry.dp 8 h.2, py_shaped h.1, py_shaped h.2, by rw [py_eqv 8 _ _ h.1 h.2]; exact hq⟩
  · cases hs
theorem cmp_ii (X : Cx) {op : CmpOp} {p : Int → Int → Bool} (h : OpR X (compareOp op) (rI0 fun i j => .bl (p i j))) (hp : ∀ d e b, cmpD op d e = some b → ∃ i j, d = .int i ∧ e = .int j ∧ b = p i j) : CmpOk X op := by
  refine ⟨_, h, fun H x y d e b Q rx ry hs hq => ?_⟩
  obtain ⟨i, j, rfl, rfl, rfl⟩ := hp d e b hs
  obtain rfl := rx.intInv
  obtain rfl := ry.intInv
  exact ⟨_, _, rfl, rfl, hq⟩
theorem cmp_lt (X : Cx) : CmpOk X .Lt := cmp_ii X op_lt fun d e b hs => by
  cases d <;> cases e <;> simp only [cmpD, reduceCtorEq] at hs; cases hs; exact ⟨_, _, rfl, rfl, rfl⟩
theorem cmp_le (X : Cx) : CmpOk X .LtE := cmp_ii X op_le fun d e b hs => by
  cases d <;> cases e <;> simp only [cmpD, reduceCtorEq] at hs; cases hs; exact ⟨_, _, rfl, rfl, rfl⟩
theorem cmp_gt (X : Cx) : CmpOk X .Gt := cmp_ii X op_gt fun d e b hs => by
  cases d <;> cases e <;> simp only [cmpD, reduceCtorEq] at hs; cases hs; exact ⟨_, _, rfl, rfl, rfl⟩
theorem cmp_ge (X : Cx) : CmpOk X .GtE := cmp_ii X op_ge fun d e b hs => by
  cases d <;> cases e <;> simp only [cmpD, reduceCtorEq] at hs; cases hs; exact ⟨_, _, rfl, rfl, rfl⟩
theorem rep_non {d : D} {x : V} (h : Rep K mg H d x) : decide (x = .non) = isNon d := by
  cases h <;> first | rfl | simp [isNon]
theorem cmp_is (X : Cx) : CmpOk X .Is := by
  refine ⟨_, op_isN.or op_isBl, fun H x y d e b Q rx ry hs hq => ?_⟩
  cases e <;> try (cases d <;> simp only [cmpD, reduceCtorEq] at hs <;> done)
  · simp only [cmpD] at hs
    cases hs
    obtain rfl := ry.nonInv
    exact .inl ⟨rfl, by rw [rep_non rx]; exact hq⟩
  · cases d <;> simp only [cmpD, reduceCtorEq] at hs
    cases hs
    obtain rfl := rx.blInv
    obtain rfl := ry.blInv
    exact .inr ⟨_, _, rfl, rfl, by rw [← Bool.beq_eq_decide_eq]; exact hq⟩
theorem cmp_isnot (X : Cx) : CmpOk X .IsNot := by
  refine ⟨_, op_notN.or op_notBl, fun H x y d e b Q rx ry hs hq => ?_⟩
  cases e <;> try (cases d <;> simp only [cmpD, reduceCtorEq] at hs <;> done)
  · simp only [cmpD] at hs
    cases hs
    obtain rfl := ry.nonInv
    exact .inl ⟨rfl, by rw [rep_non rx]; exact hq⟩
  · cases d <;> simp only [cmpD, reduceCtorEq] at hs
    cases hs
    obtain rfl := rx.blInv
    obtain rfl := ry.blInv
    exact .inr ⟨_, _, rfl, rfl, by rw [← Bool.beq_eq_decide_eq]; exact hq⟩
def rInT (K : PySem.W.Frag) : R2 := fun x y H Q => ∃ d ds, Dp K H x d ∧ Dp K H y (.tuple ds) ∧ SeqAt.shaped d = true ∧ SeqAt.shaped (.tuple ds) = true ∧ Q (.bl (ds.any fun z => PyData.eqv z d)) H
def rNotInT (K : PySem.W.Frag) : R2 := fun x y H Q => ∃ d ds, Dp K H x d ∧ Dp K H y (.tuple ds) ∧ SeqAt.shaped d = true ∧ SeqAt.shaped (.tuple ds) = true ∧ Q (.bl (!ds.any fun z => PyData.eqv z d)) H
theorem lay_tup {ds : List PyData} (h : SeqAt.shaped (.tuple ds) = true) : PyData.canLayAll0 ds = true := by
  have q := SeqAt.canLay_of_shaped h
  simpa only [PyData.canLay0] using q
theorem op_inT {X : Cx} (hu : X.A.units + 65 < cLine) : OpR X (compareOp .In) (rInT X.K) := by
  intro pins s σ H x y v u Q I rx ry h
  obtain ⟨d, ds, hd, he, sd, se, q⟩ := h
  obtain ⟨as, r1⟩ := Dp.reads I d x v hd rx
  obtain ⟨bs, r2⟩ := Dp.reads I (.tuple ds) y u he ry
  exact SeqAt.in_tuple_reads r2 r1 (lay_tup se) (SeqAt.canLay_of_shaped sd) (PyProof.Rows.room_in_shaped sd hu) ⟨.bl _, H, I, rfl, q⟩
theorem op_notInT {X : Cx} (hu : X.A.units + 65 < cLine) : OpR X (compareOp .NotIn) (rNotInT X.K) := by
  intro pins s σ H x y v u Q I rx ry h
  obtain ⟨d, ds, hd, he, sd, se, q⟩ := h
  obtain ⟨as, r1⟩ := Dp.reads I d x v hd rx
  obtain ⟨bs, r2⟩ := Dp.reads I (.tuple ds) y u he ry
  exact SeqAt.notIn_tuple_reads r2 r1 (lay_tup se) (SeqAt.canLay_of_shaped sd) (PyProof.Rows.room_in_shaped sd hu) ⟨.bl _, H, I, rfl, q⟩
theorem ok_up8 {bs : List D} (h : bs.all (D.okN 8) = true) : D.okN 9 (.tup bs) = true ∧ D.okN 9 (.lst bs) = true := ⟨h, h⟩
/-- a dict, as it stands -/
theorem rep_dh {tk : Bool} {ks ds : List D} {y : V} (h : Rep K mg H (.dct tk ks ds) y) : ∃ a o kvv vvs, y = .ref a ∧ DH K mg H tk ks a o kvv vvs ∧ Reps K mg H ds vvs := by
  cases h with
  | dct h hm hl hd h1 h2 => exact ⟨_, _, _, _, rfl, ⟨h, hm, hl, hd, h1⟩, h2⟩
theorem cmp_in (X : Cx) (hu : X.A.units + 65 < cLine) : CmpOk X .In := by
  refine ⟨_, (op_inDct hu).or ((op_inT hu).or ((op_inD hu).or op_in_str)), fun H x y d e b Q rx ry hs hq => ?_⟩
  cases e <;> try (cases d <;> simp only [cmpD, reduceCtorEq] at hs <;> done)
  · rename_i t
    cases d <;> simp only [cmpD, reduceCtorEq] at hs
    rename_i s
    match s, hs with
    | [c], hs =>
      simp only [cmpD] at hs
      cases hs
      obtain rfl := rx.strInv
      obtain rfl := ry.strInv
      refine .inr (.inr (.inr ⟨_, _, rfl, rfl, ?_⟩))
      have e : (!(Builtin.Str.occurrences (⟨t.toArray⟩ : Str) ⟨[c].toArray⟩ 0 (⟨t.toArray⟩ : Str).length 1).isEmpty) = decide (c ∈ t) := by
        have := StrLaws.found_one ⟨t.toArray⟩ c
        simpa using this
      rw [e]; exact hq
    | [], hs => simp [cmpD] at hs
    | _ :: _ :: _, hs => simp [cmpD] at hs
  · rename_i bs
    simp only [cmpD] at hs
    split at hs
    · rename_i h
      cases hs
      rw [Bool.and_eq_true] at h
      refine .inr (.inl ⟨_, _, rx.dp 8 h.1, ry.dp 9 (ok_up8 h.2).1, py_shaped h.1, py_shaped (a := .tup bs) (ok_up8 h.2).1, ?_⟩)
      rw [memD_any _ h.1 bs fun z hz => List.all_eq_true.mp h.2 z hz]; exact hq
    · cases hs
  · rename_i bs
    simp only [cmpD] at hs
    split at hs
    · rename_i h
      cases hs
      rw [Bool.and_eq_true] at h
      refine .inr (.inr (.inl ⟨_, _, rx.dp 8 h.1, ry.dp 9 (ok_up8 h.2).2, py_shaped h.1, py_shaped (a := .lst bs) (ok_up8 h.2).2, ?_⟩))
      rw [memD_any _ h.1 bs fun z hz => List.all_eq_true.mp h.2 z hz]; exact hq
    · cases hs
  · simp only [cmpD] at hs
    split at hs
    · rename_i h
      cases hs
      obtain ⟨a, o, kvv, vvs, rfl, dh, _⟩ := rep_dh ry
      exact .inl ⟨_, _, a, o, kvv, vvs, _, rfl, dh, rx, h, hq⟩
    · cases hs
theorem cmp_notin (X : Cx) (hu : X.A.units + 65 < cLine) : CmpOk X .NotIn := by
  refine ⟨_, (op_notInDct hu).or ((op_notInT hu).or ((op_notInD hu).or op_notin_str)), fun H x y d e b Q rx ry hs hq => ?_⟩
  cases e <;> try (cases d <;> simp only [cmpD, reduceCtorEq] at hs <;> done)
  · rename_i t
    cases d <;> simp only [cmpD, reduceCtorEq] at hs
    rename_i s
    match s, hs with
    | [c], hs =>
      simp only [cmpD] at hs
      cases hs
      obtain rfl := rx.strInv
      obtain rfl := ry.strInv
      refine .inr (.inr (.inr ⟨_, _, rfl, rfl, ?_⟩))
      have e : (!(Builtin.Str.occurrences (⟨t.toArray⟩ : Str) ⟨[c].toArray⟩ 0 (⟨t.toArray⟩ : Str).length 1).isEmpty) = decide (c ∈ t) := by
        have := StrLaws.found_one ⟨t.toArray⟩ c
        simpa using this
      rw [e]; exact hq
    | [], hs => simp [cmpD] at hs
    | _ :: _ :: _, hs => simp [cmpD] at hs
  · rename_i bs
    simp only [cmpD] at hs
    split at hs
    · rename_i h
      cases hs
      rw [Bool.and_eq_true] at h
      refine .inr (.inl ⟨_, _, rx.dp 8 h.1, ry.dp 9 (ok_up8 h.2).1, py_shaped h.1, py_shaped (a := .tup bs) (ok_up8 h.2).1, ?_⟩)
      rw [memD_any _ h.1 bs fun z hz => List.all_eq_true.mp h.2 z hz]; exact hq
    · cases hs
  · rename_i bs
    simp only [cmpD] at hs
    split at hs
    · rename_i h
      cases hs
      rw [Bool.and_eq_true] at h
      refine .inr (.inr (.inl ⟨_, _, rx.dp 8 h.1, ry.dp 9 (ok_up8 h.2).2, py_shaped h.1, py_shaped (a := .lst bs) (ok_up8 h.2).2, ?_⟩))
      rw [memD_any _ h.1 bs fun z hz => List.all_eq_true.mp h.2 z hz]; exact hq
    · cases hs
  · simp only [cmpD] at hs
    split at hs
    · rename_i h
      cases hs
      obtain ⟨a, o, kvv, vvs, rfl, dh, _⟩ := rep_dh ry
      exact .inl ⟨_, _, a, o, kvv, vvs, _, rfl, dh, rx, h, hq⟩
    · cases hs
theorem cmp_ok (X : Cx) (hu : X.A.units + 65 < cLine) (op : CmpOp) : CmpOk X op := by
  cases op
  · exact cmp_eq X hu
  · exact cmp_ne X hu
  · exact cmp_lt X
  · exact cmp_le X
  · exact cmp_gt X
  · exact cmp_ge X
  · exact cmp_is X
  · exact cmp_isnot X
  · exact cmp_in X hu
  · exact cmp_notin X hu

/-! ### subscripts, slices -/
theorem ixN_get {n : Nat} {i : Int} {j : Nat} (h : ixN n i = some j) : j < n := (ixN_seq h).2.1
theorem atI_reps {ds : List D} {vs : List V} {i : Int} {d : D} (r : Reps K mg H ds vs) (h : atI ds i = some d) : ∃ v, atI vs i = some v ∧ Rep K mg H d v := by
  unfold atI at h ⊢
  rw [← r.length]
  cases e : ixN ds.length i with
  | none => rw [e] at h; cases h
  | some j =>
    rw [e] at h
    obtain ⟨v, a, b⟩ := r.get (show ds[j]? = some d from h)
    exact ⟨v, a, b⟩
/-- a datum that is frozen, or owned -/
inductive Now (K : PySem.W.Frag) (mg : Str → Option Value) (Hf H : Hp) : D → V → Prop
  | frz {d : D} {v : V} : Rep K mg Hf d v → Now K mg Hf H d v
  | own {d : D} {a : Addr} : Cont K mg Hf H d a → Now K mg Hf H d (.ref a)
theorem Now.lstInv {ds : List D} {x : V} (le : Same Hf H) (h : Now K mg Hf H (.lst ds) x) : ∃ a vs, x = .ref a ∧ SqL K H a vs ∧ Reps K mg Hf ds vs := by
  cases h with
  | frz h => obtain ⟨a, vs, e, h1, h2⟩ := h.lstInv; exact ⟨a, vs, e, le.seq h1, h2⟩
  | own h => cases h with | lst h1 h2 => exact ⟨_, _, rfl, SqL.of h1, h2⟩
theorem Now.tupInv {ds : List D} {x : V} (le : Same Hf H) (h : Now K mg Hf H (.tup ds) x) : ∃ a vs, x = .ref a ∧ SqT K H a vs ∧ Reps K mg Hf ds vs := by
  cases h with
  | frz h => obtain ⟨a, vs, e, h1, h2⟩ := h.tupInv; exact ⟨a, vs, e, same_t le h1, h2⟩
  | own h => cases h
theorem Now.strInv {z : List Nat} {x : V} (h : Now K mg Hf H (.str z) x) : x = .str ⟨z.toArray⟩ := by
  cases h with
  | frz h => exact h.strInv
  | own h => cases h
/-- x[i], the item frozen -/
def SubOk (X : Cx) : Prop := ∃ r2 : R2, IxR X r2 ∧ ∀ (Hf H : Hp) (x y : V) (d e q : D) (Q : VK), Same Hf H → Now X.K X.mg Hf H d x → Rep X.K X.mg H e y → subD d e = some q → (∀ z, Rep X.K X.mg Hf q z → Q z H) → r2 x y H Q
theorem now_dh {tk : Bool} {ks ds : List D} {x : V} (le : Same Hf H) (h : Now K mg Hf H (.dct tk ks ds) x) : ∃ a o kvv vvs, x = .ref a ∧ DH K mg H tk ks a o kvv vvs ∧ Reps K mg Hf ds vvs := by
  cases h with
  | frz h =>
    cases h with
    | dct h hm hl hd h1 h2 => exact ⟨_, _, _, _, rfl, ⟨le _ _ h, hm, hl, hd, h1.up le⟩, h2⟩
  | own h =>
    cases h with
    | dct h hm hl hd h1 h2 => exact ⟨_, _, _, _, rfl, ⟨h, hm, hl, hd, h1.up le⟩, h2⟩
theorem look_get {ks ds : List D} {k q : D} (h : lookD ks ds k = some q) : ∃ i, findK ks k = some i ∧ ds[i]? = some q := by
  unfold lookD at h
  obtain ⟨i, h1, h2⟩ := Option.bind_eq_some_iff.mp h
  exact ⟨i, h1, h2⟩
theorem sub_ok (X : Cx) (hu : X.A.units + 65 < cLine) : SubOk X := by
  refine ⟨_, (ix_dct hu).or ix_seq, fun Hf H x y d e q Q le rx ry hs hq => ?_⟩
  by_cases hd : ∃ tk ks ds, d = .dct tk ks ds
  · obtain ⟨tk, ks, ds, rfl⟩ := hd
    have hs : (if keyB tk e then lookD ks ds e else none) = some q := by cases e <;> exact hs
    split at hs
    · rename_i hk
      obtain ⟨a, o, kvv, vvs, rfl, dh, r2⟩ := now_dh le rx
      obtain ⟨i, h1, h2⟩ := look_get hs
      obtain ⟨v, e1, e2⟩ := r2.get h2
      exact .inl ⟨tk, ks, a, o, kvv, vvs, e, i, v, rfl, dh, ry, hk, h1, e1, hq v e2⟩
    · cases hs
  have hd' : ∀ tk ks ds, d ≠ .dct tk ks ds := fun tk ks ds z => hd ⟨tk, ks, ds, z⟩
  clear hd
  refine .inr ?_
  cases d <;> try (exact absurd rfl (hd' _ _ _))
  all_goals clear hd'
  all_goals (cases e <;> simp only [subD, reduceCtorEq] at hs)
  · split at hs
    · rename_i h
      rw [Option.map_eq_some_iff] at hs
      obtain ⟨c, e1, rfl⟩ := hs
      obtain rfl := rx.strInv
      obtain rfl := ry.intInv
      refine .inr (.inr ⟨_, _, c, rfl, rfl, ?_, ?_, hq _ (.str [c])⟩)
      · rw [str_len]; exact lim_line h
      · simpa using e1
    · cases hs
  · obtain ⟨a, vs, rfl, h1, h2⟩ := rx.tupInv le
    obtain rfl := ry.intInv
    obtain ⟨z, e1, e2⟩ := atI_reps h2 hs
    exact .inr (.inl ⟨a, vs, _, z, rfl, rfl, h1, e1, hq z e2⟩)
  · obtain ⟨a, vs, rfl, h1, h2⟩ := rx.lstInv le
    obtain rfl := ry.intInv
    obtain ⟨z, e1, e2⟩ := atI_reps h2 hs
    exact .inl ⟨a, vs, _, z, rfl, rfl, h1, e1, hq z e2⟩
theorem cut_reps {ds : List D} {vs : List V} {lo hi : Option Int} (r : Reps K mg H ds vs) : Reps K mg H (cutD ds lo hi) (cutV vs lo hi) := by
  unfold cutD cutV
  rw [← r.length]
  exact (r.drop _).take _
theorem cutS_eq (x : List Nat) (lo hi : Option Int) : cutS ⟨x.toArray⟩ lo hi = ⟨(cutD x lo hi).toArray⟩ := by
  unfold cutS cutD
  rw [str_len]
def SlcOk (X : Cx) : Prop := ∃ r : V → Option Int → Option Int → Hp → VK → Prop, SlR X r ∧ ∀ (Hf H : Hp) (x : V) (lo hi : Option Int) (d q : D) (fr : Bool) (Q : VK), Same Hf H → Rep X.K X.mg Hf d x → slcD d lo hi = some (q, fr) →
  (∀ z H', Out X.K X.mg Hf H fr q z H' → Q z H') → r x lo hi H Q
theorem cut_whole {α : Type} {xs : List α} {lo hi : Option Int} (h : HT.sIx xs.length 0 lo = 0 ∧ HT.sIx xs.length xs.length hi = xs.length) : cutD xs lo hi = xs := by
  unfold cutD
  rw [h.1, h.2]
  simp
theorem slc_ok (X : Cx) : SlcOk X := by
  refine ⟨_, sl_tupA.or (sl_list.or sl_str), fun Hf H x lo hi d q fr Q le rx hs hq => ?_⟩
  cases d <;> simp only [slcD, reduceCtorEq] at hs
  · split at hs
    · rename_i h
      cases hs
      obtain rfl := rx.strInv
      refine .inr (.inr ⟨_, rfl, ?_, ?_⟩)
      · rw [str_len]; exact lim_line h
      · rw [cutS_eq]; exact hq _ _ (.old (.str _))
    · cases hs
  · cases hs
    obtain ⟨a, vs, rfl, h1, h2⟩ := rx.tupInv
    refine .inl ⟨a, vs, rfl, same_t le h1, fun w => ?_, fun _ p hp => ?_⟩
    · rw [← h2.length] at w
      rw [cut_whole w] at hq
      exact hq _ _ (.old (.tup h1 h2))
    · exact hq _ _ (.tup hp (cut_reps h2))
  · cases hs
    obtain ⟨a, vs, rfl, h1, h2⟩ := rx.lstInv
    exact .inr (.inl ⟨a, vs, rfl, le.seq h1, fun p hp => hq _ _ (.lst hp (cut_reps h2))⟩)

/-! ### built-ins of one argument -/
/-- f(x), by what it is given -/
def CrOk (X : Cx) (u : Value) (f : D → Option (D × Bool)) : Prop := ∃ r : List V → Hp → VK → Prop, CallR X u r ∧ ∀ (Hf H : Hp) (x : V) (d q : D) (fr : Bool) (Q : VK), Same Hf H → Rep X.K X.mg Hf d x → f d = some (q, fr) →
  (∀ z H', Out X.K X.mg Hf H fr q z H' → Q z H') → r [x] H Q
theorem cr_len (X : Cx) : CrOk X (.builtin "len") (b1D .len) := by
  refine ⟨_, call_lenDct.or (call_len_seq.or call_len_str), fun Hf H x d q fr Q le rx hs hq => ?_⟩
  cases d <;> simp only [b1D, reduceCtorEq] at hs
  · split at hs
    · rename_i h
      cases hs
      obtain rfl := rx.strInv
      refine .inr (.inr ⟨_, rfl, ?_, ?_⟩)
      · rw [str_len]; exact lim_line h
      · rw [str_len]; exact hq _ _ (.old (.int _))
    · cases hs
  · cases hs
    obtain ⟨a, vs, rfl, h1, h2⟩ := rx.tupInv
    refine .inr (.inl ⟨a, vs, rfl, .inr (same_t le h1), ?_⟩)
    rw [← h2.length]; exact hq _ _ (.old (.int _))
  · cases hs
    obtain ⟨a, vs, rfl, h1, h2⟩ := rx.lstInv
    refine .inr (.inl ⟨a, vs, rfl, .inl (le.seq h1), ?_⟩)
    rw [← h2.length]; exact hq _ _ (.old (.int _))
  · cases hs
    obtain ⟨a, o, kvv, vvs, rfl, dh, _⟩ := rep_dh (rx.up le)
    exact .inl ⟨_, _, a, o, kvv, vvs, rfl, dh, hq _ _ (.old (.int _))⟩
theorem sum_rawT {prog : Program} {w : World} {A : Around} {E : Value → Shared → Prop} {s : Shared} {l : Addr} {its : List Value} {ns : List Int} {Q : Value → Shared → Prop} (hh : A.handled = none) (hl : s.heap.IsTuple l its.toArray) (hi : PyProof.Rows.IntsAre its ns)
    (h : ∀ h' tk t', (∀ b o, s.heap.get? b = some o → h'.get? b = some o) → Q (.int ns.sum t') { s with heap := h', toks := tk }) : wpAny (model prog w) A (call (.builtin "sum") [.ref l]) Q E s := by
  obtain ⟨xs, e⟩ := hi.allInts.items
  have hn : numsOf (intItems xs).toList = ns := by rw [← e]; exact hi.numsOf
  rw [nums_intItems] at hn
  rw [e] at hl
  have hlt : l < s.heap.objs.size := by obtain ⟨_, e, _⟩ := hl; exact Heap.lt_size e
  have hlI : l ≠ s.heap.objs.size := Nat.ne_of_lt hlt
  refine call_sum_walkG (wpAny_pyIter_tuple hl ?_)
  refine ⟨_, [_, l], [_], _, _, _, numAt xs, rfl, Walks.tuple (A := A.in1) hh _ l hlI (intItems xs), ⟨⟨_, Heap.get?_push_size _ rfl, rfl, rfl⟩, hl.push _⟩, fun b hb => ?_, (fun _ _ => intItems_at), fun h' tk t' hk => ?_⟩
  · show b < (s.heap.push _).objs.size
    rw [Heap.size_push]
    rcases List.mem_cons.mp hb with rfl | hb
    · exact Nat.lt_succ_self _
    · rcases List.mem_cons.mp hb with rfl | hb
      · exact Nat.lt_succ_of_lt hlt
      · cases hb
  · have hold : ∀ c o, s.heap.get? c = some o → h'.get? c = some o := fun c o e => by
      refine hk c o (fun hm => ?_) (Heap.get?_push_of_some _ e)
      rcases List.mem_cons.mp hm with e1 | hm
      · have := Heap.lt_size e; rw [e1] at this; exact Nat.lt_irrefl _ this
      · cases hm
    have := h h' tk t' hold
    rw [preSum_eq, List.take_of_length_le (by simp [intItems]), hn]; exact this
def rSumT (K : PySem.W.Frag) : List V → Hp → VK → Prop := fun vs H Q => ∃ (a : Addr) (ns : List Int), vs = [V.ref a] ∧ SqT K H a (ns.map V.int) ∧ Q (.int ns.sum) H
theorem cr_sumT {X : Cx} (hc : X.calm = true) : CallR X (.builtin "sum") (rSumT X.K) := by
  intro pins s σ H vs us Q I r h
  obtain ⟨a, ns, rfl, hs, q⟩ := h
  obtain ⟨its, rv, hl, _⟩ := I.tuple hs
  rw [Vals.ref1 r]
  exact sum_rawT (I.ok.hd hc) hl rv.ints fun h' tk t' hk => ⟨.int _, H, I.kept hk, ⟨_, rfl⟩, q⟩
theorem cr_sum' (X : Cx) (hc : X.calm = true) : CrOk X (.builtin "sum") (b1D .sum) := by
  refine ⟨_, (cr_sum hc).or (cr_sumT hc), fun Hf H x d q fr Q le rx hs hq => ?_⟩
  cases d <;> simp only [b1D, reduceCtorEq] at hs
  · rw [Option.map_eq_some_iff] at hs
    obtain ⟨is, e1, e2⟩ := hs
    cases e2
    obtain ⟨a, vs, rfl, h1, h2⟩ := rx.tupInv
    have ev := h2.ints e1
    subst ev
    exact .inr ⟨a, is, rfl, same_t le h1, hq _ _ (.old (.int _))⟩
  · rw [Option.map_eq_some_iff] at hs
    obtain ⟨is, e1, e2⟩ := hs
    cases e2
    obtain ⟨a, vs, rfl, h1, h2⟩ := rx.lstInv
    have ev := h2.ints e1
    subst ev
    exact .inl ⟨a, is, rfl, le.seq h1, hq _ _ (.old (.int _))⟩
theorem maxI_spec : ∀ {l : List Int} {m : Int}, maxI l = some m → m ∈ l ∧ ∀ y ∈ l, y ≤ m
  | [], _, h => by simp [maxI] at h
  | [a], m, h => by simp [maxI] at h; subst h; simp
  | a :: b :: as, m, h => by
    rw [maxI, Option.map_eq_some_iff] at h
    · obtain ⟨z, e, rfl⟩ := h
      obtain ⟨h1, h2⟩ := maxI_spec e
      split
      · refine ⟨List.mem_cons_of_mem _ h1, fun y hy => ?_⟩
        rcases List.mem_cons.mp hy with rfl | hy
        · omega
        · exact h2 y hy
      · refine ⟨List.mem_cons_self, fun y hy => ?_⟩
        rcases List.mem_cons.mp hy with rfl | hy
        · omega
        · have := h2 y hy; omega
    · simp
theorem minI_spec : ∀ {l : List Int} {m : Int}, minI l = some m → m ∈ l ∧ ∀ y ∈ l, m ≤ y
  | [], _, h => by simp [minI] at h
  | [a], m, h => by simp [minI] at h; subst h; simp
  | a :: b :: as, m, h => by
    rw [minI, Option.map_eq_some_iff] at h
    · obtain ⟨z, e, rfl⟩ := h
      obtain ⟨h1, h2⟩ := minI_spec e
      split
      · refine ⟨List.mem_cons_of_mem _ h1, fun y hy => ?_⟩
        rcases List.mem_cons.mp hy with rfl | hy
        · omega
        · exact h2 y hy
      · refine ⟨List.mem_cons_self, fun y hy => ?_⟩
        rcases List.mem_cons.mp hy with rfl | hy
        · omega
        · have := h2 y hy; omega
    · simp
theorem cr_max' (X : Cx) (hc : X.calm = true) : CrOk X (.builtin "max") (b1D .max) := by
  refine ⟨_, cr_max hc, fun Hf H x d q fr Q le rx hs hq => ?_⟩
  cases d <;> simp only [b1D, reduceCtorEq] at hs
  rw [Option.map_eq_some_iff] at hs
  obtain ⟨m, e1, e2⟩ := hs
  cases e2
  obtain ⟨is, e3, e4⟩ := Option.bind_eq_some_iff.mp e1
  obtain ⟨a, vs, rfl, h1, h2⟩ := rx.lstInv
  have ev := h2.ints e3
  subst ev
  obtain ⟨m1, m2⟩ := maxI_spec e4
  refine ⟨a, is, rfl, le.seq h1, List.length_pos_of_mem m1, fun z z1 z2 => ?_⟩
  have : z = m := Int.le_antisymm (m2 z z1) (z2 m m1)
  subst this
  exact hq _ _ (.old (.int _))
theorem cr_min' (X : Cx) (hc : X.calm = true) : CrOk X (.builtin "min") (b1D .min) := by
  refine ⟨_, cr_min hc, fun Hf H x d q fr Q le rx hs hq => ?_⟩
  cases d <;> simp only [b1D, reduceCtorEq] at hs
  rw [Option.map_eq_some_iff] at hs
  obtain ⟨m, e1, e2⟩ := hs
  cases e2
  obtain ⟨is, e3, e4⟩ := Option.bind_eq_some_iff.mp e1
  obtain ⟨a, vs, rfl, h1, h2⟩ := rx.lstInv
  have ev := h2.ints e3
  subst ev
  obtain ⟨m1, m2⟩ := minI_spec e4
  refine ⟨a, is, rfl, le.seq h1, List.length_pos_of_mem m1, fun z z1 z2 => ?_⟩
  have : z = m := Int.le_antisymm (z2 m m1) (m2 z z1)
  subst this
  exact hq _ _ (.old (.int _))
theorem cr_any' (X : Cx) (hc : X.calm = true) : CrOk X (.builtin "any") (b1D .any) := by
  refine ⟨_, cr_any hc, fun Hf H x d q fr Q le rx hs hq => ?_⟩
  cases d <;> simp only [b1D, reduceCtorEq] at hs
  rw [Option.map_eq_some_iff] at hs
  obtain ⟨is, e1, e2⟩ := hs
  cases e2
  obtain ⟨a, vs, rfl, h1, h2⟩ := rx.lstInv
  have ev := h2.bls e1
  subst ev
  exact ⟨a, is, rfl, le.seq h1, hq _ _ (.old (.bl _))⟩
theorem cr_all' (X : Cx) (hc : X.calm = true) : CrOk X (.builtin "all") (b1D .all) := by
  refine ⟨_, cr_all hc, fun Hf H x d q fr Q le rx hs hq => ?_⟩
  cases d <;> simp only [b1D, reduceCtorEq] at hs
  rw [Option.map_eq_some_iff] at hs
  obtain ⟨is, e1, e2⟩ := hs
  cases e2
  obtain ⟨a, vs, rfl, h1, h2⟩ := rx.lstInv
  have ev := h2.bls e1
  subst ev
  exact ⟨a, is, rfl, le.seq h1, hq _ _ (.old (.bl _))⟩
theorem cr_abs' (X : Cx) : CrOk X (.builtin "abs") (b1D .abs) := by
  refine ⟨_, call_abs, fun Hf H x d q fr Q le rx hs hq => ?_⟩
  cases d <;> simp only [b1D, reduceCtorEq] at hs
  cases hs
  obtain rfl := rx.intInv
  exact ⟨_, rfl, hq _ _ (.old (.int _))⟩
theorem cr_tuple' (X : Cx) : CrOk X (.type "tuple") (b1D .tuple) := by
  refine ⟨_, call_tuple_of, fun Hf H x d q fr Q le rx hs hq => ?_⟩
  cases d <;> simp only [b1D, reduceCtorEq] at hs
  · cases hs
    obtain ⟨a, vs, rfl, h1, h2⟩ := rx.tupInv
    exact ⟨a, vs, rfl, .inr ⟨same_t le h1, hq _ _ (.old (.tup h1 h2))⟩⟩
  · cases hs
    obtain ⟨a, vs, rfl, h1, h2⟩ := rx.lstInv
    exact ⟨a, vs, rfl, .inl ⟨le.seq h1, fun l hl => hq _ _ (.tup hl h2)⟩⟩
theorem cr_list' (X : Cx) : CrOk X (.type "list") (b1D .list) := by
  refine ⟨_, call_list_of, fun Hf H x d q fr Q le rx hs hq => ?_⟩
  cases d <;> simp only [b1D, reduceCtorEq] at hs
  · cases hs
    obtain ⟨a, vs, rfl, h1, h2⟩ := rx.tupInv
    exact ⟨a, vs, rfl, .inr (same_t le h1), fun l hl => hq _ _ (.lst hl h2)⟩
  · cases hs
    obtain ⟨a, vs, rfl, h1, h2⟩ := rx.lstInv
    exact ⟨a, vs, rfl, .inl (le.seq h1), fun l hl => hq _ _ (.lst hl h2)⟩
theorem cr_int' (X : Cx) : CrOk X (.type "int") (b1D .int) := by
  refine ⟨_, call_int1, fun Hf H x d q fr Q le rx hs hq => ?_⟩
  cases d <;> simp only [b1D, reduceCtorEq] at hs
  · cases hs
    obtain rfl := rx.blInv
    exact .inr ⟨_, rfl, hq _ _ (.old (.int _))⟩
  · cases hs
    obtain rfl := rx.intInv
    exact .inl ⟨_, rfl, hq _ _ (.old (.int _))⟩
theorem cr_bool' (X : Cx) : CrOk X (.type "bool") (b1D .bool) := by
  refine ⟨_, call_bool1, fun Hf H x d q fr Q le rx hs hq => ?_⟩
  cases d <;> simp only [b1D, reduceCtorEq] at hs
  cases hs
  obtain rfl := rx.blInv
  exact .inr ⟨_, rfl, hq _ _ (.old (.bl _))⟩
theorem log1900 {n : Nat} (h : n < 2 ^ 1900) : n.log2 < 1920 := by
  by_cases z : n = 0
  · subst z; decide
  · exact Nat.lt_of_lt_of_le ((Nat.log2_lt z).mpr h) (by decide)
theorem str_num (i : Int) : Str.ofString (toString i) = ⟨((toString i).toList.map Char.toNat).toArray⟩ := by
  unfold Str.ofString
  rw [cpsOfBytes_string]
theorem cr_str' (X : Cx) : CrOk X (.type "str") (b1D .str) := by
  refine ⟨_, call_str_int, fun Hf H x d q fr Q le rx hs hq => ?_⟩
  cases d <;> simp only [b1D, reduceCtorEq] at hs
  split at hs
  · rename_i h
    cases hs
    obtain rfl := rx.intInv
    refine ⟨_, rfl, log1900 h, ?_⟩
    rw [str_num]
    exact hq _ _ (.old (.str _))
  · cases hs
/-- isinstance(x, T), T a built-in class -/
def IsOk (X : Cx) (T : String) (f : D → Option (D × Bool)) : Prop := ∃ r : List V → Hp → VK → Prop, CallR X (.builtin "isinstance") r ∧ ∀ (H : Hp) (x : V) (d q : D) (fr : Bool) (Q : VK), Rep X.K X.mg H d x → f d = some (q, fr) →
  (q.isAtom = true → fr = false → ∀ z, (∀ Hf, Rep X.K X.mg Hf q z) → Q z H) → r [x, .ty T] H Q
theorem ty_tup {a : Addr} {vs : List V} (h : SqT K H a vs) : TyX K H (.ref a) (.type "tuple") := by
  rcases h with (h | ⟨o, h⟩) | ⟨o, its, n, h1, h2, _⟩
  · exact .base (.tup h)
  · exact .fTuple h
  · exact .kTuple h1 h2
theorem ty_lst {a : Addr} {vs : List V} (h : SqL K H a vs) : TyX K H (.ref a) (.type "list") := by
  rcases h with (h | ⟨o, h⟩) | ⟨o, its, n, h1, h2, _⟩
  · exact .base (.lst h)
  · exact .base (.frz h)
  · exact .kList h1 h2
/-- the class of a datum -/
def D.tyN : D → String
  | .non => "NoneType"
  | .bl _ => "bool"
  | .int _ => "int"
  | .str _ => "str"
  | .tup _ => "tuple"
  | .lst _ => "list"
  | .dct _ _ _ => "dict"
  | .fn _ => "function"
theorem rep_ty {d : D} {x : V} (h : Rep K mg H d x) (hn : (∀ f, d ≠ .fn f) ∧ ∀ a b c, d ≠ .dct a b c) : TyX K H x (.type d.tyN) := by
  cases h with
  | non => exact .base .non
  | bl b => exact .base (.bl b)
  | int i => exact .base (.int i)
  | str x => exact .base (.str _)
  | tup h _ => exact ty_tup h
  | lst h _ => exact ty_lst h
  | fn _ => exact (hn.1 _ rfl).elim
  | lam _ _ _ => exact (hn.1 _ rfl).elim
  | dct _ _ _ _ _ _ => exact (hn.2 _ _ _ rfl).elim
theorem is_gen (X : Cx) (T : String) (f : D → Option (D × Bool)) (hf : ∀ d q fr, f d = some (q, fr) → ((∀ g, d ≠ .fn g) ∧ ∀ a b c, d ≠ .dct a b c) ∧ fr = false ∧ ∃ b, q = .bl b ∧ kitB d.tyN T = some b) : IsOk X T f := by
  refine ⟨_, call_isi, fun H x d q fr Q rx hs hq => ?_⟩
  obtain ⟨h1, rfl, b, rfl, h2⟩ := hf d q fr hs
  exact ⟨x, _, _, _, b, rfl, .ty T, rep_ty rx h1, kit_ty h2, hq rfl rfl _ fun Hf => .bl b⟩
theorem is_int (X : Cx) : IsOk X "int" (b1D .isInt) := is_gen X _ _ fun d q fr h => by
  cases d <;> simp only [b1D, reduceCtorEq] at h <;> cases h <;> exact ⟨⟨(fun g e => nomatch e), (fun _ _ _ e => nomatch e)⟩, rfl, _, rfl, (by dsimp only [D.tyN]; decide +kernel)⟩
theorem is_bool (X : Cx) : IsOk X "bool" (b1D .isBool) := is_gen X _ _ fun d q fr h => by
  cases d <;> simp only [b1D, reduceCtorEq] at h <;> cases h <;> exact ⟨⟨(fun g e => nomatch e), (fun _ _ _ e => nomatch e)⟩, rfl, _, rfl, (by dsimp only [D.tyN]; decide +kernel)⟩
theorem is_str (X : Cx) : IsOk X "str" (b1D .isStr) := is_gen X _ _ fun d q fr h => by
  cases d <;> simp only [b1D, reduceCtorEq] at h <;> cases h <;> exact ⟨⟨(fun g e => nomatch e), (fun _ _ _ e => nomatch e)⟩, rfl, _, rfl, (by dsimp only [D.tyN]; decide +kernel)⟩
theorem is_tup (X : Cx) : IsOk X "tuple" (b1D .isTup) := is_gen X _ _ fun d q fr h => by
  cases d <;> simp only [b1D, reduceCtorEq] at h <;> cases h <;> exact ⟨⟨(fun g e => nomatch e), (fun _ _ _ e => nomatch e)⟩, rfl, _, rfl, (by dsimp only [D.tyN]; decide +kernel)⟩
theorem is_lst (X : Cx) : IsOk X "list" (b1D .isLst) := is_gen X _ _ fun d q fr h => by
  cases d <;> simp only [b1D, reduceCtorEq] at h <;> cases h <;> exact ⟨⟨(fun g e => nomatch e), (fun _ _ _ e => nomatch e)⟩, rfl, _, rfl, (by dsimp only [D.tyN]; decide +kernel)⟩

/-! ### methods of one argument -/
theorem joinL_eq (sep : List Nat) : ∀ ys : List (List Nat), Str.join ⟨sep.toArray⟩ (ys.map fun x => (⟨x.toArray⟩ : Str)) = ⟨(joinL sep ys).toArray⟩
  | [] => rfl
  | [a] => rfl
  | a :: b :: as => by
    show (⟨a.toArray⟩ : Str) ++ ⟨sep.toArray⟩ ++ Str.join ⟨sep.toArray⟩ ((b :: as).map fun x => (⟨x.toArray⟩ : Str)) = _
    rw [joinL_eq sep (b :: as), str_app, str_app]
    rfl
/-- s.m(x), s a text -/
def SmOk (X : Cx) (id : String) (m : MF) : Prop := ∃ r : V → List V → Hp → VK → Prop, MtR X id r ∧ ∀ (Hf H : Hp) (x y : V) (d e q : D) (Q : VK), Same Hf H → Rep X.K X.mg Hf d x → Rep X.K X.mg Hf e y → m1D m d e = some q →
  (∃ z, x = .str z) ∧ ((∀ z, (∀ Hf, Rep X.K X.mg Hf q z) → Q z H) → r x [y] H Q)
theorem occ_abc : ∀ c ∈ [45, 97, 98], ∃ k : Nat, findIx c [45, 97, 98] 0 = some k ∧ Builtin.Str.occurrences ⟨[45, 97, 98].toArray⟩ ⟨[c].toArray⟩ 0 (⟨[45, 97, 98].toArray⟩ : Str).length 1 = [k] := by
  intro c hc
  simp only [List.mem_cons, List.not_mem_nil, or_false] at hc
  rcases hc with rfl | rfl | rfl
  · exact ⟨0, by decide, by decide +kernel⟩
  · exact ⟨1, by decide, by decide +kernel⟩
  · exact ⟨2, by decide, by decide +kernel⟩
theorem findIx_abc {c k : Nat} (h : findIx c [45, 97, 98] 0 = some k) : c ∈ [45, 97, 98] := by
  simp only [findIx] at h
  split at h
  · simp_all
  · split at h
    · simp_all
    · split at h
      · simp_all
      · cases h
theorem m1_abc {m : MF} (hm : m = .find ∨ m = .index) {d e q : D} (h : m1D m d e = some q) : ∃ c k : Nat, d = .str [45, 97, 98] ∧ e = .str [c] ∧ q = .int (k : Int) ∧ findIx c [45, 97, 98] 0 = some k := by
  rcases hm with rfl | rfl
  · unfold m1D at h
    split at h <;> simp only [reduceCtorEq] at *
    rw [Option.map_eq_some_iff] at h
    obtain ⟨k, h1, h2⟩ := h
    refine ⟨_, k, ?_, ?_, ?_, h1⟩ <;> first | trivial | rfl | exact h2.symm
  · unfold m1D at h
    split at h <;> simp only [reduceCtorEq] at *
    rw [Option.map_eq_some_iff] at h
    obtain ⟨k, h1, h2⟩ := h
    refine ⟨_, k, ?_, ?_, ?_, h1⟩ <;> first | trivial | rfl | exact h2.symm
theorem sm_find (X : Cx) : SmOk X "str.find" .find := by
  refine ⟨_, mt_find, fun Hf H x y d e q Q le rx ry hs => ?_⟩
  obtain ⟨c, k, rfl, rfl, rfl, hk⟩ := m1_abc (.inl rfl) hs
  obtain rfl := rx.strInv
  obtain rfl := ry.strInv
  refine ⟨⟨_, rfl⟩, fun hq => ⟨_, _, rfl, rfl, ?_⟩⟩
  obtain ⟨k', h1, h2⟩ := occ_abc c (findIx_abc hk)
  rw [hk] at h1
  cases h1
  have e : Txt.find ⟨[45, 97, 98].toArray⟩ ⟨[c].toArray⟩ = (k : Int) := by
    unfold Txt.find
    rw [h2]
  rw [e]
  exact hq _ fun Hf => .int _
theorem sm_index (X : Cx) : SmOk X "str.index" .index := by
  refine ⟨_, mt_sindex, fun Hf H x y d e q Q le rx ry hs => ?_⟩
  obtain ⟨c, k, rfl, rfl, rfl, hk⟩ := m1_abc (.inr rfl) hs
  obtain rfl := rx.strInv
  obtain rfl := ry.strInv
  refine ⟨⟨_, rfl⟩, fun hq => ?_⟩
  obtain ⟨k', h1, h2⟩ := occ_abc c (findIx_abc hk)
  rw [hk] at h1
  cases h1
  exact ⟨_, _, _, _, rfl, rfl, h2, hq _ fun Hf => .int _⟩
theorem sm_join (X : Cx) : SmOk X "str.join" .join := by
  refine ⟨_, mt_join, fun Hf H x y d e q Q le rx ry hs => ?_⟩
  unfold m1D at hs
  split at hs <;> simp only [reduceCtorEq] at *
  obtain ⟨ys, h1, h2⟩ := Option.bind_eq_some_iff.mp hs
  split at h2
  · rename_i hz
    cases h2
    obtain rfl := rx.strInv
    obtain ⟨a, vs, rfl, h3, h4⟩ := ry.lstInv
    have ev := h4.strs h1
    subst ev
    refine ⟨⟨_, rfl⟩, fun hq => ⟨_, a, ys.map fun x => ⟨x.toArray⟩, rfl, rfl, .inl ?_, ?_, ?_⟩⟩
    · rw [List.map_map]; exact le.seq h3
    · rw [List.map_map, List.length_map, str_len]
      have : (Str.length ∘ fun x : List Nat => (⟨x.toArray⟩ : Str)) = List.length := by funext x; exact str_len x
      rw [this]
      exact Nat.le_trans hz (by decide)
    · have : ∀ sep : List Nat, Txt.join ⟨sep.toArray⟩ (ys.map fun x => (⟨x.toArray⟩ : Str)) = ⟨(joinL sep ys).toArray⟩ := fun sep => (StrLaws.glued_eq_join _ _).trans (joinL_eq sep ys)
      rw [this]
      exact hq _ fun Hf => .str _
  · cases h2
end
end Cor
set_option Elab.async false
set_option linter.all false
set_option maxRecDepth 100000
set_option maxHeartbeats 2000000
/-! Cor4: what holds of an expression's evaluation (tI), and how its parts make it. -/
namespace Cor
open PySem PySem.Spec L2
variable [LamDefs]

section
variable (K : PySem.W.Frag) (mg : Str → Option Value) (W : WX)
/-- what is wanted behind an evaluation -/
def GE (st pu : Bool) (Hf H : Hp) (env : Env) (σ : St) (Q : VK) : RE → Prop
  | .ok d fr env' => ∀ v H' Hf', ER K mg Hf' H' env' σ → Tr pu Hf H env Hf' H' env' σ → VR K mg fr st d v H Hf' H' → Q v H'
  | .ex c env' => ∀ C H' Hf', mg c.cls = some (.ref C) → ER K mg Hf' H' env' σ → Tr pu Hf H env Hf' H' env' σ → W (.ref C) none σ H'
  | .no => False
def GEs (st pu : Bool) (Hf H : Hp) (env : Env) (σ : St) (Q : List V → Hp → Prop) : REs → Prop
  | .ok ds env' => ∀ vs H' Hf', ER K mg Hf' H' env' σ → Tr pu Hf H env Hf' H' env' σ → Reps K mg (if st = true then Hf' else H') ds vs → Q vs H'
  | .ex c env' => ∀ C H' Hf', mg c.cls = some (.ref C) → ER K mg Hf' H' env' σ → Tr pu Hf H env Hf' H' env' σ → W (.ref C) none σ H'
  | .no => False
def GT (Hf H : Hp) (env : Env) (σ : St) (Q : Bool → Hp → Prop) : RE → Prop
  | .ok (.bl b) _ env' => ∀ H' Hf', ER K mg Hf' H' env' σ → Tr false Hf H env Hf' H' env' σ → Q b H'
  | .ex c env' => ∀ C H' Hf', mg c.cls = some (.ref C) → ER K mg Hf' H' env' σ → Tr false Hf H env Hf' H' env' σ → W (.ref C) none σ H'
  | _ => False
def tI (st pu : Bool) (m : Env → RE) : TE := fun σ H Q => ∃ Hf env, ER K mg Hf H env σ ∧ GE K mg W st pu Hf H env σ Q (m env)
def tIs (st pu : Bool) (m : Env → REs) : TA := fun σ H Q => ∃ Hf env, ER K mg Hf H env σ ∧ GEs K mg W st pu Hf H env σ Q (m env)
def tTI (m : Env → RE) : TT := fun σ H Q => ∃ Hf env, ER K mg Hf H env σ ∧ GT K mg W Hf H env σ Q (m env)
end
theorem PE.imp {X : Cx} {e : Expr} {t t' : TE} (h : PE X e t) (i : ∀ σ H Q, t' σ H Q → t σ H Q) : PE X e t' := ⟨fun pins s σ H Q I q => h.run pins s σ H Q I (i σ H Q q)⟩
theorem PT.imp {X : Cx} {e : Expr} {t t' : TT} (h : PT X e t) (i : ∀ σ H Q, t' σ H Q → t σ H Q) : PT X e t' := ⟨fun pins s σ H Q I q => h.run pins s σ H Q I (i σ H Q q)⟩
theorem PA.imp {X : Cx} {e : List Expr} {t t' : TA} (h : PA X e t) (i : ∀ σ H Q, t' σ H Q → t σ H Q) : PA X e t' := ⟨fun pos pins s σ H Q I q => h.run pos pins s σ H Q I (i σ H Q q)⟩
theorem PS.imp {X : Cx} {e : Stmt} {t t' : TS} (h : PS X e t) (i : ∀ D σ H, t' D σ H → t D σ H) : PS X e t' := ⟨fun pins s σ H D I q => h.run pins s σ H D I (i D σ H q)⟩

section
variable {K : PySem.W.Frag} {mg : Str → Option Value} {W : WX} {H H1 H2 Hf Hf1 Hf2 : Hp} {env e1 e2 : Env} {σ : St} {st st1 st2 pu p1 p2 pp fr : Bool} {Q Q1 Q2 : VK} {r : RE} {d : D} {v : V}
/-- the next part runs -/
theorem GE.next {k : D → Bool → Env → RE} (t : Tr p1 Hf H env Hf1 H1 e1 σ) (hp : pu = true → (p1 && p2) = true) (g : GE K mg W st pu Hf H env σ Q (r.bind k))
    (c : ∀ d fr e2 v H2 Hf2, r = .ok d fr e2 → ER K mg Hf2 H2 e2 σ → Tr p2 Hf1 H1 e1 Hf2 H2 e2 σ → VR K mg fr st2 d v H1 Hf2 H2 → GE K mg W st pu Hf H env σ Q (k d fr e2) → Q2 v H2) : GE K mg W st2 p2 Hf1 H1 e1 σ Q2 r := by
  cases r with
  | ok d fr e2 => exact fun v H2 Hf2 a b z => c d fr e2 v H2 Hf2 rfl a b z g
  | ex x e2 => exact fun C H2 Hf2 hC a b => g C H2 Hf2 hC a ((t.trans b).weak hp)
  | no => exact g.elim
theorem GE.first {k : D → Bool → Env → RE} (hp : pu = true → p1 = true) (g : GE K mg W st pu Hf H env σ Q (r.bind k))
    (c : ∀ d fr e2 v H2 Hf2, r = .ok d fr e2 → ER K mg Hf2 H2 e2 σ → Tr p1 Hf H env Hf2 H2 e2 σ → VR K mg fr st1 d v H Hf2 H2 → GE K mg W st pu Hf H env σ Q (k d fr e2) → Q1 v H2) : GE K mg W st1 p1 Hf H env σ Q1 r :=
  g.next (p1 := true) Tr.refl (fun h => by rw [hp h]; rfl) c
/-- it is through -/
theorem GE.fin (g : GE K mg W st pu Hf H env σ Q (.ok d fr e1)) (t : Tr p1 Hf H env Hf1 H1 e1 σ) (hp : pu = true → p1 = true) (R : ER K mg Hf1 H1 e1 σ) (z : VR K mg fr st d v H Hf1 H1) : Q v H1 := g v H1 Hf1 R (t.weak hp) z
/-- an operator's answer comes behind its operands -/
theorem GE.out (g : GE K mg W true pu Hf H env σ Q (.ok d fr e1)) (t : Tr p1 Hf H env Hf1 H1 e1 σ) (hp : pu = true → p1 = true) (R : ER K mg Hf1 H1 e1 σ) (o : Out K mg Hf1 H1 fr d v H2) : Q v H2 := by
  obtain ⟨Hf2, R2, t2, z⟩ := o.done R
  exact g v H2 Hf2 R2 ((t.trans t2).weak fun h => by rw [hp h]; rfl) (z.back t.there)
theorem ER.self (R : ER K mg Hf H env σ) : ∃ Hf' env', ER K mg Hf' H env' σ ∧ env' = env ∧ Hf' = Hf := ⟨Hf, env, R, rfl, rfl⟩
end

section
variable {X : Cx} {W : WX} {a b c : Expr} {pos : Pos} {ma mb mc : Env → RE} {st sa sb pa pb pc pu : Bool}

theorem s_lit {e : Expr} {d : D} {v : V} (h : PE X e (tC v)) (hr : ∀ H, Rep X.K X.mg H d v) : PE X e (tI X.K X.mg W true true fun env => .ok d false env) :=
  PE.imp h fun σ H Q ⟨Hf, env, R, g⟩ => g v H Hf R Tr.refl (VR.old (hr Hf))
theorem getS_lt {env : Env} {i : Nat} {s : Slot} (h : getS env i = s) (hs : s ≠ .no) : env[i]? = some s := by
  unfold getS at h
  rw [List.getD_eq_getElem?_getD] at h
  cases e : env[i]? with
  | none => rw [e] at h; exact absurd h.symm (by simpa using hs)
  | some z => rw [e] at h; simp at h; rw [h]
/-- an owned slot is frozen -/
theorem ER.melt {K : PySem.W.Frag} {mg : Str → Option Value} {H Hf : Hp} {env : Env} {σ : St} {i : Nat} {d : D} (R : ER K mg Hf H env σ) (h : env[i]? = some (Slot.own d)) :
    ∃ Hf' a, σ[i]? = some (some (.ref a)) ∧ ER K mg Hf' H (env.set i (.val d)) σ ∧ Tr true Hf H env Hf' H (env.set i (.val d)) σ ∧ Rep K mg Hf' d (.ref a) := by
  obtain ⟨a, e, hn, c⟩ := R.mu i d (.inl h)
  obtain ⟨o, ho⟩ := c.there
  have hi : i < env.length := (List.getElem?_eq_some_iff.mp h).1
  have sF : Same Hf (upd Hf a o) := fun b q e => by rw [upd_ne (ne_of_none e hn)]; exact e
  have rep := c.freeze ho hn
  have mt : ∀ j, Mt (env.set i (.val d)) j → j ≠ i ∧ Mt env j := fun j ⟨z, hz⟩ => by
    by_cases hj : i = j
    · subst hj
      rw [List.getElem?_set_self hi] at hz
      rcases hz with hz | hz <;> cases hz
    · rw [List.getElem?_set_ne hj] at hz
      exact ⟨fun q => hj q.symm, z, hz⟩
  refine ⟨upd Hf a o, a, e, ⟨fun b q hq => ?_, by rw [List.length_set]; exact R.len, fun j z hz => ?_, fun j z hz => ?_, fun j k b hj hk => R.inj j k b (mt j hj).2 (mt k hk).2, fun j v hv => R.raw j v (raw_set (by simp) hv).2, R.tab, nt_upd R.nt (c.not ho).1⟩, ⟨sF, List.length_set, fun j hj => (mt j hj).2, fun j z hz => ?_, fun _ _ q _ _ => q, fun b hb => ?_, fun _ _ _ q _ => q, fun _ q => q⟩, rep⟩
  · by_cases hb : b = a
    · subst hb; rw [upd_same] at hq; cases hq; exact ho
    · rw [upd_ne hb] at hq; exact R.le b q hq
  · by_cases hj : i = j
    · subst hj
      rw [List.getElem?_set_self hi] at hz
      cases hz
      exact ⟨_, e, rep⟩
    · rw [List.getElem?_set_ne hj] at hz
      obtain ⟨v, e1, q⟩ := R.val j z hz
      exact ⟨v, e1, q.up sF⟩
  · obtain ⟨hj, _⟩ := mt j ⟨z, hz⟩
    rw [List.getElem?_set_ne (Ne.symm hj)] at hz
    obtain ⟨b, e1, n1, c1⟩ := R.mu j z hz
    refine ⟨b, e1, ?_, c1.move sF fun _ q => q⟩
    have : b ≠ a := fun q => hj (R.inj j i a ⟨z, hz⟩ ⟨d, .inl h⟩ (q ▸ e1) e)
    rw [upd_ne this]; exact n1
  · by_cases hj : i = j
    · subst hj; rw [h] at hz; cases hz
    · exact ⟨z, by rw [List.getElem?_set_ne hj]; exact hz⟩
  · by_cases hba : b = a
    · subst hba; exact .inr (.inr ⟨i, ⟨d, .inl h⟩, e⟩)
    · rw [upd_ne hba] at hb; exact .inl hb
theorem s_var {e : Expr} {i : Nat} (h : PE X e (tVar i)) : PE X e (tI X.K X.mg W true true fun env => varE env i) := by
  refine PE.imp h fun σ H Q ⟨Hf, env, R, g⟩ => ?_
  unfold varE at g
  dsimp only at g
  cases q : getS env i with
  | no => rw [q] at g; exact g.elim
  | raw v => rw [q] at g; exact g.elim
  | io d => rw [q] at g; exact g.elim
  | val d =>
    rw [q] at g
    obtain ⟨v, e1, r⟩ := R.val i d (getS_lt q (by simp))
    exact ⟨v, e1, g v H Hf R Tr.refl (VR.old r)⟩
  | own d =>
    rw [q] at g
    obtain ⟨Hf', a, e1, R', t, r⟩ := R.melt (getS_lt q (by simp))
    exact ⟨_, e1, g _ H Hf' R' t (VR.old r)⟩
theorem s_rd {e : Expr} {i : Nat} (h : PE X e (tVar i)) : PE X e (tI X.K X.mg W false true fun env => rdE env i) := by
  refine PE.imp h fun σ H Q ⟨Hf, env, R, g⟩ => ?_
  unfold rdE at g
  dsimp only at g
  cases q : getS env i with
  | no => rw [q] at g; exact g.elim
  | raw v => rw [q] at g; exact g.elim
  | io d =>
    rw [q] at g
    obtain ⟨a, e1, n, c⟩ := R.mu i d (.inr (getS_lt q (by simp)))
    exact ⟨_, e1, g _ H Hf R Tr.refl (VR.cur (c.rep R.le))⟩
  | val d =>
    rw [q] at g
    obtain ⟨v, e1, r⟩ := R.val i d (getS_lt q (by simp))
    exact ⟨v, e1, g v H Hf R Tr.refl (VR.cur (r.up R.le))⟩
  | own d =>
    rw [q] at g
    obtain ⟨a, e1, n, c⟩ := R.mu i d (.inl (getS_lt q (by simp)))
    exact ⟨_, e1, g _ H Hf R Tr.refl (VR.cur (c.rep R.le))⟩
theorem s_bin {op : Operator} (ha : PE X a (tI X.K X.mg W true pa ma)) (hb : PE X b (tI X.K X.mg W true pb mb)) :
    PE X (.BinOp a op b pos) (tI X.K X.mg W true (pa && pb) fun env => (ma env).bind fun x _ e1 => (mb e1).bind fun y _ e2 => outE (binD op x y) e2) := by
  obtain ⟨r2, h1, h2⟩ := bin_ok X op
  refine PE.imp (pe_op h1 ha hb) fun σ H Q ⟨Hf, env, R, g⟩ => ?_
  refine ⟨Hf, env, R, g.first (fun h => (Bool.and_eq_true_iff.mp h).1) fun x fx e1 v H1 Hf1 _ R1 t1 z1 g1 => ?_⟩
  obtain ⟨Hf1, R1, t1, z1⟩ := stab R R1 t1 z1
  refine ⟨Hf1, e1, R1, g1.next t1 (fun h => h) fun y fy e2 u H2 Hf2 _ R2 t2 z2 g2 => ?_⟩
  obtain ⟨Hf2, R2, t2, z2⟩ := stab R1 R2 t2 z2
  cases q : binD op x y with
  | none => rw [q] at g2; exact g2.elim
  | some o =>
    obtain ⟨o, fo⟩ := o
    rw [q] at g2
    exact h2 Hf2 H2 v u x y o fo Q R2.le (z1.up t2.up) z2 q fun w H3 hw => GE.out g2 (t1.trans t2) (fun h => h) R2 hw
theorem s_neg (ha : PE X a (tI X.K X.mg W sa pa ma)) : PE X (.UnaryOp .USub a pos) (tI X.K X.mg W true pa fun env => (ma env).bind fun x _ e1 => match x with
    | .int i => .ok (.int (-i)) false e1
    | _ => .no) := by
  refine PE.imp (pe_un un_neg ha) fun σ H Q ⟨Hf, env, R, g⟩ => ⟨Hf, env, R, g.first (fun h => h) fun x fx e1 v H1 Hf1 _ R1 t1 z1 g1 => ?_⟩
  cases x <;> try exact g1.elim
  obtain rfl := (z1.now R1.le).intInv
  exact ⟨_, rfl, GE.fin g1 t1 (fun h => h) R1 (VR.old (.int _))⟩
theorem s_not (ha : PE X a (tI X.K X.mg W sa pa ma)) : PE X (.UnaryOp .Not a pos) (tI X.K X.mg W true pa fun env => (ma env).bind fun x _ e1 => match x with
    | .bl b => .ok (.bl (!b)) false e1
    | _ => .no) := by
  refine PE.imp (pe_not ha) fun σ H Q ⟨Hf, env, R, g⟩ => ⟨Hf, env, R, g.first (fun h => h) fun x fx e1 v H1 Hf1 _ R1 t1 z1 g1 => ?_⟩
  cases x <;> try exact g1.elim
  obtain rfl := (z1.now R1.le).blInv
  exact ⟨_, rfl, GE.fin g1 t1 (fun h => h) R1 (VR.old (.bl _))⟩
theorem s_cmp {op : CmpOp} (hu : X.A.units + 65 < cLine) (hm : behindInMarks op b = false) (ha : PE X a (tI X.K X.mg W sa pa ma)) (hb : PE X b (tI X.K X.mg W sb pb mb)) (hs : (sa || pb) = true) :
    PE X (.Compare a [op] [b] pos) (tI X.K X.mg W true (pa && pb) fun env => (ma env).bind fun x _ e1 => (mb e1).bind fun y _ e2 => outB (cmpD op x y) e2) := by
  obtain ⟨r2, h1, h2⟩ := cmp_ok X hu op
  refine PE.imp (pe_cmpR h1 ha hb hm) fun σ H Q ⟨Hf, env, R, g⟩ => ?_
  refine ⟨Hf, env, R, g.first (fun h => (Bool.and_eq_true_iff.mp h).1) fun x fx e1 v H1 Hf1 _ R1 t1 z1 g1 => ?_⟩
  have fin : ∀ Hf1, ER X.K X.mg Hf1 H1 e1 σ → Tr pa Hf H env Hf1 H1 e1 σ → (sa = true → Rep X.K X.mg Hf1 x v) → Rep X.K X.mg H1 x v → tI X.K X.mg W sb pb mb σ H1 fun y H2 => r2 v y H2 Q := fun Hf1 R1 t1 q1 q2 =>
    ⟨Hf1, e1, R1, g1.next t1 (fun h => h) fun y fy e2 u H2 Hf2 _ R2 t2 z2 g2 => by
      have rx : Rep X.K X.mg H2 x v := by
        cases sa with
        | true => exact ((q1 rfl).up t2.up).up R2.le
        | false => exact q2.upN (t2.pure (by simpa using hs))
      cases q : cmpD op x y with
      | none => rw [q] at g2; exact g2.elim
      | some o =>
        rw [q] at g2
        exact h2 H2 v u x y o Q rx (z2.now R2.le) q (GE.fin g2 (t1.trans t2) (fun h => h) R2 (VR.old (.bl _)))⟩
  cases sa with
  | true =>
    obtain ⟨Hf1, R1, t1, z1⟩ := stab R R1 t1 z1
    exact fin Hf1 R1 t1 (fun _ => z1) (z1.up R1.le)
  | false => exact fin Hf1 R1 t1 (fun h => nomatch h) (z1.now R1.le)
theorem s_and (ha : PE X a (tI X.K X.mg W sa pa ma)) {rest : List Expr} (hb : PE X (.BoolOp .And (b :: rest) pos) (tI X.K X.mg W true pb mb)) :
    PE X (.BoolOp .And (a :: b :: rest) pos) (tI X.K X.mg W true (pa && pb) fun env => (ma env).bind fun x _ e1 => match x with
    | .bl true => mb e1
    | .bl false => .ok (.bl false) false e1
    | _ => .no) := by
  refine PE.imp (pe_and ha hb) fun σ H Q ⟨Hf, env, R, g⟩ => ⟨Hf, env, R, g.first (fun h => (Bool.and_eq_true_iff.mp h).1) fun x fx e1 v H1 Hf1 _ R1 t1 z1 g1 => ?_⟩
  cases x <;> try exact g1.elim
  rename_i k _
  obtain rfl := (z1.now R1.le).blInv
  refine ⟨k, rfl, ?_⟩
  cases k with
  | false =>
    refine iteF ?_
    exact GE.fin g1 t1 (fun h => (Bool.and_eq_true_iff.mp h).1) R1 (VR.old (.bl _))
  | true =>
    refine iteT ?_
    refine ⟨Hf1, e1, R1, ?_⟩
    have g1 : GE X.K X.mg W true (pa && pb) Hf H env σ Q (mb e1) := g1
    cases q : mb e1 with
    | ok d fr e2 =>
      rw [q] at g1
      exact fun v2 H2 Hf2 R2 t2 z2 => g1 v2 H2 Hf2 R2 (t1.trans t2) (z2.back t1.there)
    | ex c e2 =>
      rw [q] at g1
      exact fun C H2 Hf2 hC R2 t2 => g1 C H2 Hf2 hC R2 (t1.trans t2)
    | no => rw [q] at g1; exact g1
theorem s_or (ha : PE X a (tI X.K X.mg W sa pa ma)) {rest : List Expr} (hb : PE X (.BoolOp .Or (b :: rest) pos) (tI X.K X.mg W true pb mb)) :
    PE X (.BoolOp .Or (a :: b :: rest) pos) (tI X.K X.mg W true (pa && pb) fun env => (ma env).bind fun x _ e1 => match x with
    | .bl true => .ok (.bl true) false e1
    | .bl false => mb e1
    | _ => .no) := by
  refine PE.imp (pe_or ha hb) fun σ H Q ⟨Hf, env, R, g⟩ => ⟨Hf, env, R, g.first (fun h => (Bool.and_eq_true_iff.mp h).1) fun x fx e1 v H1 Hf1 _ R1 t1 z1 g1 => ?_⟩
  cases x <;> try exact g1.elim
  rename_i k _
  obtain rfl := (z1.now R1.le).blInv
  refine ⟨k, rfl, ?_⟩
  cases k with
  | true =>
    refine iteT ?_
    exact GE.fin g1 t1 (fun h => (Bool.and_eq_true_iff.mp h).1) R1 (VR.old (.bl _))
  | false =>
    refine iteF ?_
    refine ⟨Hf1, e1, R1, ?_⟩
    have g1 : GE X.K X.mg W true (pa && pb) Hf H env σ Q (mb e1) := g1
    cases q : mb e1 with
    | ok d fr e2 =>
      rw [q] at g1
      exact fun v2 H2 Hf2 R2 t2 z2 => g1 v2 H2 Hf2 R2 (t1.trans t2) (z2.back t1.there)
    | ex c e2 =>
      rw [q] at g1
      exact fun C H2 Hf2 hC R2 t2 => g1 C H2 Hf2 hC R2 (t1.trans t2)
    | no => rw [q] at g1; exact g1
theorem s_one {op : BoolOp} {t : TE} (h : PE X a t) : PE X (.BoolOp op [a] pos) t := pe_one h

/-! ### tests -/
theorem GT.of {K : PySem.W.Frag} {mg : Str → Option Value} {H Hf : Hp} {env : Env} {σ : St} {Q : Bool → Hp → Prop} {r : RE} (g : GT K mg W Hf H env σ Q r) : GE K mg W st pu Hf H env σ (fun x H1 => ∃ c, x = .bl c ∧ Q c H1) r ∨ r = .no := by
  cases r with
  | no => exact .inr rfl
  | ex c e => exact .inl fun C H' Hf' hC R t => g C H' Hf' hC R (t.weak fun h => nomatch h)
  | ok d fr e =>
    refine .inl fun v H' Hf' R t z => ?_
    cases d <;> try exact g.elim
    obtain rfl := (z.now R.le).blInv
    exact ⟨_, rfl, g H' Hf' R (t.weak fun h => nomatch h)⟩
theorem s_test {e : Expr} {m : Env → RE} (h : PE X e (tI X.K X.mg W st pu m)) (he : ∀ whole, isTrue e X.env whole = (do let v ← whole; standAt e.pos; holding [v] (truthy v))) : PT X e (tTI X.K X.mg W m) := by
  refine PT.imp (pt_val h he) fun σ H Q ⟨Hf, env, R, g⟩ => ⟨Hf, env, R, ?_⟩
  rcases GT.of (st := st) (pu := pu) g with q | q
  · exact q
  · rw [q] at g; exact g.elim
theorem s_tcmp {op : CmpOp} (hu : X.A.units + 65 < cLine) (hm : behindInMarks op b = false) (ha : PE X a (tI X.K X.mg W sa pa ma)) (hb : PE X b (tI X.K X.mg W sb pb mb)) (hs : (sa || pb) = true) :
    PT X (.Compare a [op] [b] pos) (tTI X.K X.mg W fun env => (ma env).bind fun x _ e1 => (mb e1).bind fun y _ e2 => outB (cmpD op x y) e2) := by
  obtain ⟨r2, h1, h2⟩ := cmp_ok X hu op
  refine PT.imp (pt_cmpR h1 ha hb hm) fun σ H Q ⟨Hf, env, R, g⟩ => ?_
  have g : GE X.K X.mg W true false Hf H env σ (fun x H1 => ∃ c, x = .bl c ∧ Q c H1) ((ma env).bind fun x _ e1 => (mb e1).bind fun y _ e2 => outB (cmpD op x y) e2) := by
    dsimp only at g
    rcases GT.of (st := true) (pu := false) g with q | q
    · exact q
    · rw [q] at g; exact g.elim
  refine ⟨Hf, env, R, g.first (by intro h; cases h) fun x fx e1 v H1 Hf1 _ R1 t1 z1 g1 => ?_⟩
  have fin : ∀ Hf1, ER X.K X.mg Hf1 H1 e1 σ → Tr pa Hf H env Hf1 H1 e1 σ → (sa = true → Rep X.K X.mg Hf1 x v) → Rep X.K X.mg H1 x v → tI X.K X.mg W sb pb mb σ H1 fun y H2 => r2 v y H2 fun x H1 => ∃ c, x = .bl c ∧ Q c H1 := fun Hf1 R1 t1 q1 q2 =>
    ⟨Hf1, e1, R1, g1.next t1 (by intro h; cases h) fun y fy e2 u H2 Hf2 _ R2 t2 z2 g2 => by
      have rx : Rep X.K X.mg H2 x v := by
        cases sa with
        | true => exact ((q1 rfl).up t2.up).up R2.le
        | false => exact q2.upN (t2.pure (by simpa using hs))
      cases q : cmpD op x y with
      | none => rw [q] at g2; exact g2.elim
      | some o =>
        rw [q] at g2
        exact h2 H2 v u x y o _ rx (z2.now R2.le) q (GE.fin g2 (t1.trans t2) (by intro h; cases h) R2 (VR.old (.bl _)))⟩
  cases sa with
  | true =>
    obtain ⟨Hf1, R1, t1, z1⟩ := stab R R1 t1 z1
    exact fin Hf1 R1 t1 (fun _ => z1) (z1.up R1.le)
  | false => exact fin Hf1 R1 t1 (fun h => nomatch h) (z1.now R1.le)
/-- behind a test the next part runs -/
theorem GT.first {K : PySem.W.Frag} {mg : Str → Option Value} {H Hf : Hp} {env : Env} {σ : St} {Q Q1 : Bool → Hp → Prop} {r : RE} {k : D → Bool → Env → RE} (g : GT K mg W Hf H env σ Q (r.bind k))
    (hb : ∀ d fr e2, r = .ok d fr e2 → (∃ b, d = .bl b) ∨ k d fr e2 = .no)
    (c : ∀ b fr e2 H2 Hf2, r = .ok (.bl b) fr e2 → ER K mg Hf2 H2 e2 σ → Tr false Hf H env Hf2 H2 e2 σ → GT K mg W Hf H env σ Q (k (.bl b) fr e2) → Q1 b H2) : GT K mg W Hf H env σ Q1 r := by
  cases r with
  | no => exact g.elim
  | ex x e2 => exact g
  | ok d fr e2 =>
    rcases hb d fr e2 rfl with ⟨b, rfl⟩ | q
    · exact fun H2 Hf2 R2 t2 => c b fr e2 H2 Hf2 rfl R2 t2 g
    · have g : GT K mg W Hf H env σ Q (k d fr e2) := g
      rw [q] at g; exact g.elim
theorem GT.chain {K : PySem.W.Frag} {mg : Str → Option Value} {H Hf H1 Hf1 : Hp} {env e1 : Env} {σ : St} {Q : Bool → Hp → Prop} {r : RE} (g : GT K mg W Hf H env σ Q r) (t : Tr false Hf H env Hf1 H1 e1 σ) : GT K mg W Hf1 H1 e1 σ Q r := by
  cases r with
  | no => exact g.elim
  | ex x e2 => exact fun C H2 Hf2 hC R2 t2 => g C H2 Hf2 hC R2 (t.trans t2)
  | ok d fr e2 =>
    cases d <;> try exact g.elim
    exact fun H2 Hf2 R2 t2 => g H2 Hf2 R2 (t.trans t2)
theorem s_tnot (ha : PT X a (tTI X.K X.mg W ma)) : PT X (.UnaryOp .Not a pos) (tTI X.K X.mg W fun env => (ma env).bind fun x _ e1 => match x with
    | .bl b => .ok (.bl (!b)) false e1
    | _ => .no) := by
  refine PT.imp (pt_not ha) fun σ H Q ⟨Hf, env, R, g⟩ => ⟨Hf, env, R, g.first (fun d fr e2 _ => ?_) fun b fr e2 H2 Hf2 _ R2 t2 g2 => g2 H2 Hf2 R2 t2⟩
  cases d <;> first | exact .inl ⟨_, rfl⟩ | exact .inr rfl
theorem s_tand (ha : PT X a (tTI X.K X.mg W ma)) {rest : List Expr} (hb : PW X (.BoolOp .And (b :: rest) pos) (tTI X.K X.mg W mb)) :
    PW X (.BoolOp .And (a :: b :: rest) pos) (tTI X.K X.mg W fun env => (ma env).bind fun x _ e1 => match x with
    | .bl true => mb e1
    | .bl false => .ok (.bl false) false e1
    | _ => .no) := by
  have h := pw_and ha hb
  refine ⟨fun whole pins s σ H Q I q => h.run whole pins s σ H Q I ?_⟩
  obtain ⟨Hf, env, R, g⟩ := q
  refine ⟨Hf, env, R, g.first (fun d fr e2 _ => ?_) fun b fr e2 H2 Hf2 _ R2 t2 g2 => ?_⟩
  · cases d <;> first | exact .inl ⟨_, rfl⟩ | exact .inr rfl
  · cases b with
    | true => exact iteT ⟨Hf2, e2, R2, GT.chain g2 t2⟩
    | false => exact iteF (g2 H2 Hf2 R2 t2)
theorem s_tor (ha : PT X a (tTI X.K X.mg W ma)) {rest : List Expr} (hb : PW X (.BoolOp .Or (b :: rest) pos) (tTI X.K X.mg W mb)) :
    PW X (.BoolOp .Or (a :: b :: rest) pos) (tTI X.K X.mg W fun env => (ma env).bind fun x _ e1 => match x with
    | .bl true => .ok (.bl true) false e1
    | .bl false => mb e1
    | _ => .no) := by
  have h := pw_or ha hb
  refine ⟨fun whole pins s σ H Q I q => h.run whole pins s σ H Q I ?_⟩
  obtain ⟨Hf, env, R, g⟩ := q
  refine ⟨Hf, env, R, g.first (fun d fr e2 _ => ?_) fun b fr e2 H2 Hf2 _ R2 t2 g2 => ?_⟩
  · cases d <;> first | exact .inl ⟨_, rfl⟩ | exact .inr rfl
  · cases b with
    | true => exact iteT (g2 H2 Hf2 R2 t2)
    | false => exact iteF ⟨Hf2, e2, R2, GT.chain g2 t2⟩
end
end Cor
set_option Elab.async false
set_option linter.all false
set_option maxRecDepth 100000
set_option maxHeartbeats 2000000
/-! Cor5: conditional expressions, displays, subscripts, calls, built-ins, comprehensions. -/
namespace Cor
open PySem PySem.Spec L2
variable [LamDefs]

section
variable {X : Cx} {W : WX} {a b c e : Expr} {es : List Expr} {pos : Pos} {m ma mb mc : Env → RE} {ms : Env → REs} {st sa sb pa pb pc pu ps : Bool}
variable {K : PySem.W.Frag} {mg : Str → Option Value} {H H1 H' Hf Hf1 Hf' : Hp} {env e1 env' : Env} {σ : St} {Q : VK} {p1 p2 : Bool}

/-- from a value's wish to a test's -/
theorem GE.gt {Q1 : Bool → Hp → Prop} {r : RE} {k : D → Bool → Env → RE} (g : GE K mg W st false Hf H env σ Q (r.bind k)) (hb : ∀ d fr e2, r = .ok d fr e2 → (∃ b, d = .bl b) ∨ k d fr e2 = .no)
    (c : ∀ b fr e2 H2 Hf2, r = .ok (.bl b) fr e2 → ER K mg Hf2 H2 e2 σ → Tr false Hf H env Hf2 H2 e2 σ → GE K mg W st false Hf H env σ Q (k (.bl b) fr e2) → Q1 b H2) : GT K mg W Hf H env σ Q1 r := by
  cases r with
  | no => exact g.elim
  | ex x e2 => exact g
  | ok d fr e2 =>
    rcases hb d fr e2 rfl with ⟨b, rfl⟩ | q
    · exact fun H2 Hf2 R2 t2 => c b fr e2 H2 Hf2 rfl R2 t2 g
    · have g : GE K mg W st false Hf H env σ Q (k d fr e2) := g
      rw [q] at g; exact g.elim
theorem GE.chain {r : RE} (g : GE K mg W st pu Hf H env σ Q r) (t : Tr p1 Hf H env Hf1 H1 e1 σ) (hp : pu = true → (p1 && p2) = true) : GE K mg W st p2 Hf1 H1 e1 σ Q r := by
  cases r with
  | no => exact g.elim
  | ex x e2 => exact fun C H2 Hf2 hC R2 t2 => g C H2 Hf2 hC R2 ((t.trans t2).weak hp)
  | ok d fr e2 => exact fun v H2 Hf2 R2 t2 z => g v H2 Hf2 R2 ((t.trans t2).weak hp) (z.back t.there)
theorem s_ife (hc : PT X c (tTI X.K X.mg W mc)) (ha : PE X a (tI X.K X.mg W true false ma)) (hb : PE X b (tI X.K X.mg W true false mb)) : PE X (.IfExp c a b pos) (tI X.K X.mg W true false fun env => (mc env).bind fun x _ e1 => match x with
    | .bl true => ma e1
    | .bl false => mb e1
    | _ => .no) := by
  refine PE.imp (pe_ifExp hc ha hb) fun σ H Q ⟨Hf, env, R, g⟩ => ⟨Hf, env, R, g.gt (fun d fr e2 _ => ?_) fun b fr e2 H2 Hf2 _ R2 t2 g2 => ?_⟩
  · cases d <;> first | exact .inl ⟨_, rfl⟩ | exact .inr rfl
  · cases b with
    | true => exact iteT ⟨Hf2, e2, R2, g2.chain t2 (fun h => nomatch h)⟩
    | false => exact iteF ⟨Hf2, e2, R2, g2.chain t2 (fun h => nomatch h)⟩
theorem PE.weak {m : Env → RE} (h : PE X e (tI X.K X.mg W st pu m)) {pu' : Bool} (hp : pu' = true → pu = true) : PE X e (tI X.K X.mg W st pu' m) := by
  refine PE.imp h fun σ H Q ⟨Hf, env, R, g⟩ => ⟨Hf, env, R, ?_⟩
  cases q : m env with
  | no => rw [q] at g; exact g.elim
  | ex x e2 => rw [q] at g; exact fun C H2 Hf2 hC R2 t2 => g C H2 Hf2 hC R2 (t2.weak hp)
  | ok d fr e2 => rw [q] at g; exact fun v H2 Hf2 R2 t2 z => g v H2 Hf2 R2 (t2.weak hp) z

/-! ### argument lists, displays -/
theorem s_anil : PA X [] (tIs X.K X.mg W st true fun env => .ok [] env) := PA.imp pa_nil fun σ H Q ⟨Hf, env, R, g⟩ => g [] H Hf R Tr.refl .nil
theorem s_acons (hsa : st = true → sa = true) (hpu : st = false → ps = true) (ha : PE X a (tI X.K X.mg W sa pa ma)) (hr : PA X es (tIs X.K X.mg W st ps ms)) (hs : starEach (a :: es) X.env = (false, eval a X.env) :: starEach es X.env) :
    PA X (a :: es) (tIs X.K X.mg W st (pa && ps) fun env => (ma env).bindI fun x _ e1 => match ms e1 with
      | .ok ds e2 => .ok (x :: ds) e2
      | .ex c e2 => .ex c e2
      | .no => .no) := by
  refine PA.imp (pa_cons ha hr hs) fun σ H Q ⟨Hf, env, R, g⟩ => ⟨Hf, env, R, ?_⟩
  dsimp only at g
  cases q : ma env with
  | no => rw [q] at g; exact g.elim
  | ex x e2 => rw [q] at g; exact fun C H2 Hf2 hC R2 t2 => g C H2 Hf2 hC R2 (t2.weak fun h => (Bool.and_eq_true_iff.mp h).1)
  | ok d fr e1 =>
    rw [q] at g
    refine fun v H1 Hf1 R1 t1 z1 => ?_
    have fin : ∀ Hf1, ER X.K X.mg Hf1 H1 e1 σ → Tr pa Hf H env Hf1 H1 e1 σ → (st = true → Rep X.K X.mg Hf1 d v) → Rep X.K X.mg H1 d v → tIs X.K X.mg W st ps ms σ H1 fun xs H2 => Q (v :: xs) H2 := fun Hf1 R1 t1 q1 q2 => by
      refine ⟨Hf1, e1, R1, ?_⟩
      have g : GEs X.K X.mg W st (pa && ps) Hf H env σ Q (match ms e1 with
        | .ok ds e2 => .ok (d :: ds) e2
        | .ex c e2 => .ex c e2
        | .no => .no) := g
      cases q' : ms e1 with
      | no => rw [q'] at g; exact g.elim
      | ex x e2 => rw [q'] at g; exact fun C H2 Hf2 hC R2 t2 => g C H2 Hf2 hC R2 (t1.trans t2)
      | ok ds e2 =>
        rw [q'] at g
        refine fun vs H2 Hf2 R2 t2 rs => g _ H2 Hf2 R2 (t1.trans t2) (.cons ?_ rs)
        cases st with
        | true => exact (q1 rfl).up t2.up
        | false => exact q2.upN (t2.pure (hpu rfl))
    cases st with
    | true =>
      have := hsa rfl
      subst this
      obtain ⟨Hf1, R1, t1, z1⟩ := stab R R1 t1 z1
      exact fin Hf1 R1 t1 (fun _ => z1) (z1.up R1.le)
    | false => exact fin Hf1 R1 t1 (fun h => nomatch h) (z1.now R1.le)
theorem GEs.fst {k : List D → Env → RE} {r : REs} {Q1 : List V → Hp → Prop} (hp : pu = true → p1 = true) (g : GE K mg W st pu Hf H env σ Q (r.bind k))
    (c : ∀ ds e2 vs H2 Hf2, r = .ok ds e2 → ER K mg Hf2 H2 e2 σ → Tr p1 Hf H env Hf2 H2 e2 σ → Reps K mg (if sa = true then Hf2 else H2) ds vs → GE K mg W st pu Hf H env σ Q (k ds e2) → Q1 vs H2) : GEs K mg W sa p1 Hf H env σ Q1 r := by
  cases r with
  | ok ds e2 => exact fun vs H2 Hf2 a b z => c ds e2 vs H2 Hf2 rfl a b z g
  | ex x e2 => exact fun C H2 Hf2 hC a b => g C H2 Hf2 hC a (b.weak hp)
  | no => exact g.elim
theorem s_tup {x1 : Nat} (h : PA X es (tIs X.K X.mg W true ps ms)) : PE X (.Tuple es x1 pos) (tI X.K X.mg W true ps fun env => (ms env).bind fun ds e1 => if ds.length ≤ lim then .ok (.tup ds) false e1 else .no) := by
  refine PE.imp (pe_tup h) fun σ H Q ⟨Hf, env, R, g⟩ => ⟨Hf, env, R, GEs.fst (fun h => h) g fun ds e1 vs H1 Hf1 _ R1 t1 rs g1 => ?_⟩
  split at g1
  · rename_i hz
    rw [if_pos rfl] at rs
    refine ⟨by rw [← rs.length]; exact lim_line hz, fun p hp => GE.out g1 t1 (fun h => h) R1 (.tup hp rs)⟩
  · exact g1.elim
theorem s_lst (h : PA X es (tIs X.K X.mg W true ps ms)) : PE X (.List es pos) (tI X.K X.mg W true ps fun env => (ms env).bind fun ds e1 => if ds.length ≤ lim then .ok (.lst ds) true e1 else .no) := by
  refine PE.imp (pe_lst h) fun σ H Q ⟨Hf, env, R, g⟩ => ⟨Hf, env, R, GEs.fst (fun h => h) g fun ds e1 vs H1 Hf1 _ R1 t1 rs g1 => ?_⟩
  split at g1
  · rename_i hz
    rw [if_pos rfl] at rs
    refine ⟨by rw [← rs.length]; exact lim_line hz, fun p hp => GE.out g1 t1 (fun h => h) R1 (.lst hp rs)⟩
  · exact g1.elim

/-! ### subscripts, slices -/
theorem s_sub (hu : X.A.units + 65 < cLine) (hs : PlainIx b) (ha : PE X a (tI X.K X.mg W true pa ma)) (hb : PE X b (tI X.K X.mg W sb pb mb)) :
    PE X (.Subscript a b pos) (tI X.K X.mg W true (pa && pb) fun env => (ma env).bind fun x _ e1 => (mb e1).bind fun y _ e2 => outD (subD x y) e2) := by
  obtain ⟨r2, h1, h2⟩ := sub_ok X hu
  refine PE.imp (pe_ix h1 ha hb hs) fun σ H Q ⟨Hf, env, R, g⟩ => ?_
  refine ⟨Hf, env, R, g.first (fun h => (Bool.and_eq_true_iff.mp h).1) fun x fx e1 v H1 Hf1 _ R1 t1 z1 g1 => ?_⟩
  obtain ⟨Hf1, R1, t1, z1⟩ := stab R R1 t1 z1
  refine ⟨Hf1, e1, R1, g1.next t1 (fun h => h) fun y fy e2 u H2 Hf2 _ R2 t2 z2 g2 => ?_⟩
  cases q : subD x y with
  | none => rw [q] at g2; exact g2.elim
  | some o =>
    rw [q] at g2
    exact h2 Hf2 H2 v u x y o Q R2.le (.frz (z1.up t2.up)) (z2.now R2.le) q fun w hw => GE.fin g2 (t1.trans t2) (fun h => h) R2 (VR.old hw)
/-- what stands in a slot -/
theorem ER.now (R : ER K mg Hf H env σ) {i : Nat} {d : D} (h : (getS env i).get = some d) : ∃ v, σ[i]? = some (some v) ∧ Now K mg Hf H d v := by
  cases q : getS env i with
  | no => rw [q] at h; cases h
  | raw v => rw [q] at h; cases h
  | val z =>
    rw [q] at h; cases h
    obtain ⟨v, e, r⟩ := R.val i d (getS_lt q (by simp))
    exact ⟨v, e, .frz r⟩
  | own z =>
    rw [q] at h; cases h
    obtain ⟨a, e, _, c⟩ := R.mu i d (.inl (getS_lt q (by simp)))
    exact ⟨_, e, .own c⟩
  | io z =>
    rw [q] at h; cases h
    obtain ⟨a, e, _, c⟩ := R.mu i d (.inr (getS_lt q (by simp)))
    exact ⟨_, e, .own c⟩
theorem s_subR {i : Nat} (hu : X.A.units + 65 < cLine) (hs : PlainIx b) (ha : PE X a (tVar i)) (hb : PE X b (tI X.K X.mg W sb pb mb)) :
    PE X (.Subscript a b pos) (tI X.K X.mg W true pb fun env => match (getS env i).get with
      | none => .no
      | some _ => (mb env).bind fun y _ e1 => match (getS e1 i).get with
        | some x => outD (subD x y) e1
        | none => .no) := by
  obtain ⟨r2, h1, h2⟩ := sub_ok X hu
  refine PE.imp (pe_ix h1 ha hb hs) fun σ H Q ⟨Hf, env, R, g⟩ => ?_
  dsimp only at g
  cases q0 : (getS env i).get with
  | none => rw [q0] at g; exact g.elim
  | some d0 =>
    rw [q0] at g
    obtain ⟨v, ev, _⟩ := R.now q0
    refine ⟨v, ev, Hf, env, R, GE.first (fun h => h) g fun y fy e1 u H1 Hf1 _ R1 t1 z1 g1 => ?_⟩
    cases q1 : (getS e1 i).get with
    | none => rw [q1] at g1; exact g1.elim
    | some x =>
      rw [q1] at g1
      dsimp only at g1
      obtain ⟨v', ev', n⟩ := R1.now q1
      rw [ev] at ev'
      cases ev'
      cases q : subD x y with
      | none => rw [q] at g1; exact g1.elim
      | some o =>
        rw [q] at g1
        exact h2 Hf1 H1 v u x y o Q R1.le n (z1.now R1.le) q fun w hw => GE.fin g1 t1 (fun h => h) R1 (VR.old hw)
/-- an optional part -/
def tOI (K : PySem.W.Frag) (mg : Str → Option Value) (W : WX) (pu : Bool) (mo : Env → REs) : TO := fun σ H Q => ∃ Hf env, ER K mg Hf H env σ ∧ match mo env with
  | .ok l env' => ∃ i, intO l.head? = some i ∧ ∀ H' Hf', ER K mg Hf' H' env' σ → Tr pu Hf H env Hf' H' env' σ → Q i H'
  | .ex c env' => ∀ C H' Hf', mg c.cls = some (.ref C) → ER K mg Hf' H' env' σ → Tr pu Hf H env Hf' H' env' σ → W (.ref C) none σ H'
  | .no => False
theorem po_imp {o : Option Expr} {t t' : TO} (h : PO X o t) (i : ∀ σ H Q, t' σ H Q → t σ H Q) : PO X o t' := ⟨fun pins s σ H Q I q => h.run pins s σ H Q I (i σ H Q q)⟩
theorem s_ono : PO X none (tOI X.K X.mg W true fun env => .ok [] env) := po_imp po_none fun σ H Q ⟨Hf, env, R, i, hi, g⟩ => by
  cases hi
  exact g H Hf R Tr.refl
theorem s_oso (ha : PE X a (tI X.K X.mg W sa pa ma)) : PO X (some a) (tOI X.K X.mg W pa fun env => (ma env).bindI fun x _ e1 => match x with
    | .int i => .ok [.int i] e1
    | _ => .no) := by
  refine po_imp (po_some ha) fun σ H Q ⟨Hf, env, R, g⟩ => ⟨Hf, env, R, ?_⟩
  dsimp only at g
  cases q : ma env with
  | no => rw [q] at g; exact g.elim
  | ex x e2 => rw [q] at g; exact g
  | ok d fr e1 =>
    rw [q] at g
    refine fun v H1 Hf1 R1 t1 z1 => ?_
    cases d <;> try exact g.elim
    obtain ⟨i, hi, g⟩ := g
    cases hi
    obtain rfl := (z1.now R1.le).intInv
    exact ⟨_, rfl, g H1 Hf1 R1 t1⟩
/-- a part is an int, where it is there -/
def IntP (mo : Env → REs) : Prop := ∀ env l e, mo env = .ok l e → ∃ i, intO l.head? = some i
theorem intP_none : IntP fun env => .ok [] env := fun _ _ _ h => by cases h; exact ⟨none, rfl⟩
theorem intP_some : IntP fun env => (ma env).bindI fun x _ e1 => match x with
    | .int i => .ok [.int i] e1
    | _ => .no := fun env l e h => by
  dsimp only at h
  cases q : ma env with
  | no => rw [q] at h; cases h
  | ex x e2 => rw [q] at h; cases h
  | ok d fr e1 =>
    rw [q] at h
    cases d <;> first | (cases h; exact ⟨_, rfl⟩) | cases h
theorem s_slc {lo hi : Option Expr} {ml mh : Env → REs} {pl ph : Bool} {p2' : Pos} (il : IntP ml) (ih : IntP mh) (ha : PE X a (tI X.K X.mg W true pa ma)) (hl : PO X lo (tOI X.K X.mg W pl ml)) (hh : PO X hi (tOI X.K X.mg W ph mh)) :
    PE X (.Subscript a (.Slice lo hi none p2') pos) (tI X.K X.mg W true (pa && pl && ph) fun env => (ma env).bind fun x _ e1 => (ml e1).bind fun l e2 => (mh e2).bind fun h e3 => match intO l.head?, intO h.head? with
    | some l', some h' => outE (slcD x l' h') e3
    | _, _ => .no) := by
  obtain ⟨r, h1, h2⟩ := slc_ok X
  refine PE.imp (pe_slice h1 ha hl hh) fun σ H Q ⟨Hf, env, R, g⟩ => ?_
  refine ⟨Hf, env, R, g.first (fun h => by simp only [Bool.and_eq_true] at h; exact h.1.1) fun x fx e1 v H1 Hf1 _ R1 t1 z1 g1 => ?_⟩
  obtain ⟨Hf1, R1, t1, z1⟩ := stab R R1 t1 z1
  refine ⟨Hf1, e1, R1, ?_⟩
  cases ql : ml e1 with
  | no => rw [ql] at g1; exact g1.elim
  | ex c e2 => rw [ql] at g1; exact fun C H2 Hf2 hC R2 t2 => g1 C H2 Hf2 hC R2 ((t1.trans t2).weak fun h => by simp only [Bool.and_eq_true] at h ⊢; exact h.1)
  | ok l e2 =>
    rw [ql] at g1
    obtain ⟨i, qi⟩ := il _ _ _ ql
    refine ⟨i, qi, fun H2 Hf2 R2 t2 => ⟨Hf2, e2, R2, ?_⟩⟩
    have g1 : GE X.K X.mg W true (pa && pl && ph) Hf H env σ Q ((mh e2).bind fun h e3 => match intO l.head?, intO h.head? with
      | some l', some h' => outE (slcD x l' h') e3
      | _, _ => .no) := g1
    cases qh : mh e2 with
    | no => rw [qh] at g1; exact g1.elim
    | ex c e3 => rw [qh] at g1; exact fun C H3 Hf3 hC R3 t3 => g1 C H3 Hf3 hC R3 ((t1.trans t2).trans t3)
    | ok h e3 =>
      rw [qh] at g1
      obtain ⟨j, qj⟩ := ih _ _ _ qh
      have g1 : GE X.K X.mg W true (pa && pl && ph) Hf H env σ Q (match intO l.head?, intO h.head? with
        | some l', some h' => outE (slcD x l' h') e3
        | _, _ => .no) := g1
      rw [qi, qj] at g1
      dsimp only at g1
      refine ⟨j, qj, fun H3 Hf3 R3 t3 => ?_⟩
      cases q : slcD x i j with
      | none => rw [q] at g1; exact g1.elim
      | some o =>
        obtain ⟨o, fo⟩ := o
        rw [q] at g1
        exact h2 Hf3 H3 v i j x o fo Q R3.le ((z1.up t2.up).up t3.up) q fun w H4 hw => GE.out g1 ((t1.trans t2).trans t3) (fun h => h) R3 hw
end
end Cor
set_option Elab.async false
set_option linter.all false
set_option maxRecDepth 100000
set_option maxHeartbeats 2000000
/-! Cor6: chains, built-ins, calls of defs. -/
namespace Cor
open PySem PySem.Spec L2
variable [LamDefs]

section
variable {X : Cx} {W : WX} {a b c e : Expr} {es : List Expr} {pos p : Pos} {m ma mb mc : Env → RE} {ms : Env → REs} {st sa sb sc pa pb pc pu ps : Bool}
variable {K : PySem.W.Frag} {mg : Str → Option Value} {H H1 H' Hf Hf1 Hf' : Hp} {env e1 env' : Env} {σ : St} {Q : VK} {p1 p2 : Bool}

theorem chain_read {o1 o2 : CmpOp} {r2 r2' : R2} (h2 : ∀ (H : Hp) (x y : V) (d e : D) (b : Bool) (Q : VK), Rep X.K X.mg H d x → Rep X.K X.mg H e y → cmpD o1 d e = some b → Q (.bl b) H → r2 x y H Q)
    (h2' : ∀ (H : Hp) (x y : V) (d e : D) (b : Bool) (Q : VK), Rep X.K X.mg H d x → Rep X.K X.mg H e y → cmpD o2 d e = some b → Q (.bl b) H → r2' x y H Q) (R : ER X.K X.mg Hf H env σ)
    (g : GE X.K X.mg W true (pa && pb && pc) Hf H env σ Q ((ma env).bind fun x _ e1 => (mb e1).bind fun y _ e2 => match cmpD o1 x y with
    | some true => (mc e2).bind fun z _ e3 => outB (cmpD o2 y z) e3
    | some false => .ok (.bl false) false e2
    | none => .no)) : tChain r2 r2' (tI X.K X.mg W true pa ma) (tI X.K X.mg W true pb mb) (tI X.K X.mg W sc pc mc) σ H Q := by
  refine ⟨Hf, env, R, g.first (fun h => by simp only [Bool.and_eq_true] at h; exact h.1.1) fun x fx e1 v H1 Hf1 _ R1 t1 z1 g1 => ?_⟩
  obtain ⟨Hf1, R1, t1, z1⟩ := stab R R1 t1 z1
  refine ⟨Hf1, e1, R1, g1.next t1 (fun h => by simp only [Bool.and_eq_true] at h ⊢; exact h.1) fun y fy e2 u H2 Hf2 _ R2 t2 z2 g2 => ?_⟩
  obtain ⟨Hf2, R2, t2, z2⟩ := stab R1 R2 t2 z2
  cases q : cmpD o1 x y with
  | none => rw [q] at g2; exact g2.elim
  | some k =>
    rw [q] at g2
    refine h2 H2 v u x y k _ ((z1.up t2.up).up R2.le) (z2.up R2.le) q ⟨k, rfl, ?_⟩
    cases k with
    | false => exact iteF (GE.fin g2 (t1.trans t2) (fun h => by simp only [Bool.and_eq_true] at h ⊢; exact h.1) R2 (VR.old (.bl _)))
    | true =>
      refine iteT ⟨Hf2, e2, R2, ?_⟩
      dsimp only at g2
      refine GE.next (t1.trans t2) (fun h => h) g2 fun z fz e3 w' H3 Hf3 _ R3 t3 z3 g3 => ?_
      cases q' : cmpD o2 y z with
      | none => rw [q'] at g3; exact g3.elim
      | some k' =>
        rw [q'] at g3
        exact h2' H3 u w' y z k' Q ((z2.up t3.up).up R3.le) (z3.now R3.le) q' (GE.fin g3 ((t1.trans t2).trans t3) (fun h => h) R3 (VR.old (.bl _)))
theorem s_chain {o1 o2 : CmpOp} (hu : X.A.units + 65 < cLine) (hm : lastMarks [o1, o2] [b, c] = false) (ha : PE X a (tI X.K X.mg W true pa ma)) (hb : PE X b (tI X.K X.mg W true pb mb)) (hc : PE X c (tI X.K X.mg W sc pc mc)) :
    PE X (.Compare a [o1, o2] [b, c] pos) (tI X.K X.mg W true (pa && pb && pc) fun env => (ma env).bind fun x _ e1 => (mb e1).bind fun y _ e2 => match cmpD o1 x y with
    | some true => (mc e2).bind fun z _ e3 => outB (cmpD o2 y z) e3
    | some false => .ok (.bl false) false e2
    | none => .no) := by
  obtain ⟨r2, h1, h2⟩ := cmp_ok X hu o1
  obtain ⟨r2', h1', h2'⟩ := cmp_ok X hu o2
  exact PE.imp (pe_chain h1 h1' ha hb hc hm) fun σ H Q ⟨Hf, env, R, g⟩ => chain_read h2 h2' R g
theorem s_tchain {o1 o2 : CmpOp} (hu : X.A.units + 65 < cLine) (hm : lastMarks [o1, o2] [b, c] = false) (ha : PE X a (tI X.K X.mg W true pa ma)) (hb : PE X b (tI X.K X.mg W true pb mb)) (hc : PE X c (tI X.K X.mg W sc pc mc)) :
    PT X (.Compare a [o1, o2] [b, c] pos) (tTI X.K X.mg W fun env => (ma env).bind fun x _ e1 => (mb e1).bind fun y _ e2 => match cmpD o1 x y with
    | some true => (mc e2).bind fun z _ e3 => outB (cmpD o2 y z) e3
    | some false => .ok (.bl false) false e2
    | none => .no) := by
  obtain ⟨r2, h1, h2⟩ := cmp_ok X hu o1
  obtain ⟨r2', h1', h2'⟩ := cmp_ok X hu o2
  refine PT.imp (pt_chain h1 h1' ha hb hc hm) fun σ H Q ⟨Hf, env, R, g⟩ => ?_
  dsimp only at g
  rcases GT.of (st := true) (pu := pa && pb && pc) g with q | q
  · exact chain_read h2 h2' R q
  · rw [q] at g; exact g.elim

/-! ### built-ins -/
theorem atom_rep {d : D} {v : V} (h : Rep K mg H d v) (ha : d.isAtom = true) : Rep K mg Hf d v := by
  cases h with
  | non => exact .non
  | bl b => exact .bl b
  | int i => exact .int i
  | str x => exact .str x
  | tup _ _ => simp [D.isAtom] at ha
  | lst _ _ => simp [D.isAtom] at ha
  | dct _ _ _ _ _ _ => simp [D.isAtom] at ha
  | fn h => simp [D.isAtom] at ha
  | lam _ _ _ => simp [D.isAtom] at ha
/-- an argument, alone -/
theorem one_read {f : D → Option (D × Bool)} {r : List V → Hp → VK → Prop} (h : ∀ (Hf H : Hp) (x : V) (d q : D) (fr : Bool) (Q : VK), Same Hf H → Rep X.K X.mg Hf d x → f d = some (q, fr) → (∀ z H', Out X.K X.mg Hf H fr q z H' → Q z H') → r [x] H Q)
    (R : ER X.K X.mg Hf H env σ) (g : GE X.K X.mg W true pa Hf H env σ Q ((ma env).bind fun x _ e1 => outE (f x) e1)) : tCB r (tCons (tI X.K X.mg W true pa ma) tNil) σ H Q := by
  refine ⟨Hf, env, R, g.first (fun h => h) fun x fx e1 v H1 Hf1 _ R1 t1 z1 g1 => ?_⟩
  obtain ⟨Hf1, R1, t1, z1⟩ := stab R R1 t1 z1
  cases q : f x with
  | none => rw [q] at g1; exact g1.elim
  | some o =>
    obtain ⟨o, fo⟩ := o
    rw [q] at g1
    exact h Hf1 H1 v x o fo Q R1.le z1 q fun w H2 hw => GE.out g1 t1 (fun h => h) R1 hw
/-- .. that is not frozen; the answer holds nothing of it -/
theorem one_now {f : D → Option (D × Bool)} {r : List V → Hp → VK → Prop} (h : ∀ (Hf H : Hp) (x : V) (d q : D) (fr : Bool) (Q : VK), Same Hf H → Rep X.K X.mg Hf d x → f d = some (q, fr) → (∀ z H', Out X.K X.mg Hf H fr q z H' → Q z H') → r [x] H Q)
    (hf : ∀ d q fr, f d = some (q, fr) → q.isAtom = true) (R : ER X.K X.mg Hf H env σ) (g : GE X.K X.mg W true pa Hf H env σ Q ((ma env).bind fun x _ e1 => outE (f x) e1)) : tCB r (tCons (tI X.K X.mg W sa pa ma) tNil) σ H Q := by
  refine ⟨Hf, env, R, g.first (fun h => h) fun x fx e1 v H1 Hf1 _ R1 t1 z1 g1 => ?_⟩
  cases q : f x with
  | none => rw [q] at g1; exact g1.elim
  | some o =>
    obtain ⟨o, fo⟩ := o
    rw [q] at g1
    refine h H1 H1 v x o fo Q (Same.refl _) (z1.now R1.le) q fun w H2 hw => ?_
    have ha := hf x o fo q
    cases hw with
    | old hr => exact GE.fin g1 t1 (fun h => h) R1 (VR.old (atom_rep hr ha))
    | tup _ _ => simp [D.isAtom] at ha
    | lst _ _ => simp [D.isAtom] at ha
/-- how a built-in is called -/
inductive BCall (X : Cx) : BF → Str → Prop
  | fn {f : BF} {id : String} {x : Str} (h : CrOk X (.builtin id) (b1D f)) (hm : X.mg x = none) (hv : bootBuiltins x = some (.builtin id)) (hn : x ≠ "__name__") (hd : (x == ("__debug__" : Str)) = false) : BCall X f x
  | ty {f : BF} {id : String} {x : Str} (h : CrOk X (.type id) (b1D f)) (hm : X.mg x = none) (hv : bootBuiltins x = some (.type id)) (hn : x ≠ "__name__") (hd : (x == ("__debug__" : Str)) = false) : BCall X f x
def BF.atomic : BF → Bool
  | .tuple => false
  | .list => false
  | _ => true
theorem b1_atom {f : BF} (hf : f.atomic = true) {d q : D} {fr : Bool} (h : b1D f d = some (q, fr)) : q.isAtom = true := by
  cases f <;> simp only [BF.atomic, reduceCtorEq] at hf <;> cases d <;> simp only [b1D, reduceCtorEq] at h <;> first
    | (cases h; rfl)
    | (split at h <;> first | (cases h; rfl) | cases h)
    | (rw [Option.map_eq_some_iff] at h; obtain ⟨_, _, h⟩ := h; cases h; rfl)
theorem s_b1 {f : BF} {x : Str} (hb : BCall X f x) (hg : Gl X x) (hs : sa = true ∨ f.atomic = true) (ha : PE X a (tI X.K X.mg W sa pa ma)) (he : starEach [a] X.env = (false, eval a X.env) :: starEach [] X.env) :
    PE X (.Call (.Name x p) [a] [] pos) (tI X.K X.mg W true pa fun env => (ma env).bind fun x _ e1 => outE (b1D f x) e1) := by
  have pa1 : PA X [a] (tCons (tI X.K X.mg W sa pa ma) tNil) := pa_cons ha pa_nil he
  cases hb with
  | fn h hm hv hn hd =>
    obtain ⟨r, h1, h2⟩ := h
    refine PE.imp (pe_callB h1 hg hm hv pa1 hn hd he rfl) fun σ H Q ⟨Hf, env, R, g⟩ => ?_
    rcases hs with rfl | hs
    · exact one_read h2 R g
    · exact one_now h2 (fun _ _ _ => b1_atom hs) R g
  | ty h hm hv hn hd =>
    obtain ⟨r, h1, h2⟩ := h
    refine PE.imp (pe_callTy h1 hg hm hv pa1 hn hd he rfl) fun σ H Q ⟨Hf, env, R, g⟩ => ?_
    rcases hs with rfl | hs
    · exact one_read h2 R g
    · exact one_now h2 (fun _ _ _ => b1_atom hs) R g
theorem s_isi {f : BF} {T : String} {t : Expr} {p2' : Pos} (h : IsOk X T (b1D f)) (hf : f.atomic = true) (hff : ∀ d q fr, b1D f d = some (q, fr) → fr = false) (hm : X.mg "isinstance" = none) (hg : Gl X "isinstance") (ht : PE X t (tC (.ty T)))
    (ha : PE X a (tI X.K X.mg W sa pa ma)) (he : starEach [a, t] X.env = (false, eval a X.env) :: starEach [t] X.env) (he2 : starEach [t] X.env = (false, eval t X.env) :: starEach [] X.env) (hpl : (backTo pos (starEach [t] X.env)).any (·.1) = false) :
    PE X (.Call (.Name "isinstance" p) [a, t] [] pos) (tI X.K X.mg W true pa fun env => (ma env).bind fun x _ e1 => outE (b1D f x) e1) := by
  obtain ⟨r, h1, h2⟩ := h
  refine PE.imp (pe_callB h1 hg hm (by decide +kernel) (pa_cons ha (pa_cons ht pa_nil he2) he) (by decide) (by decide) he hpl) fun σ H Q ⟨Hf, env, R, g⟩ => ?_
  refine ⟨Hf, env, R, GE.first (fun h => h) g fun x fx e1 v H1 Hf1 _ R1 t1 z1 g1 => ?_⟩
  cases q : b1D f x with
  | none => rw [q] at g1; exact g1.elim
  | some o =>
    obtain ⟨o, fo⟩ := o
    rw [q] at g1
    refine h2 H1 v x o fo Q (z1.now R1.le) q fun ha hfr z hz => ?_
    subst hfr
    exact GE.fin g1 t1 (fun h => h) R1 (VR.old (hz Hf1))
theorem s_m1 {mf : MF} {id : String} {name : Str} {o : Expr} {apos : Pos} (h : SmOk X id mf) (slot : PySem.Slot "str" name id) (ty : typeOf (.builtin id) = pure (.type "method_descriptor"))
    (ho : PE X o (tI X.K X.mg W true pa ma)) (ha : PE X a (tI X.K X.mg W true pb mb)) (hs : starEach [a] X.env = [(false, eval a X.env)]) (hbase : attributeBase o name X.env (eval o X.env) = eval o X.env) (hline : (apos.endLine == pos.line) = true) :
    PE X (.Call (.Attribute o name apos) [a] [] pos) (tI X.K X.mg W true (pa && pb) fun env => (ma env).bind fun x _ e1 => match x with
      | .str z => (mb e1).bind fun y _ e2 => outD (m1D mf (.str z) y) e2
      | _ => .no) := by
  obtain ⟨r, h1, h2⟩ := h
  refine PE.imp (pe_m1 slot ty h1 ho ha hs hbase hline) fun σ H Q ⟨Hf, env, R, g⟩ => ?_
  refine ⟨Hf, env, R, g.first (fun h => (Bool.and_eq_true_iff.mp h).1) fun x fx e1 v H1 Hf1 _ R1 t1 z1 g1 => ?_⟩
  cases x <;> try exact g1.elim
  rename_i z _
  have ev := (z1.now R1.le).strInv
  subst ev
  refine ⟨⟨_, rfl⟩, Hf1, e1, R1, GE.next t1 (fun h => h) g1 fun y fy e2 u H2 Hf2 _ R2 t2 z2 g2 => ?_⟩
  obtain ⟨Hf2, R2, t2, z2⟩ := stab R1 R2 t2 z2
  cases q : m1D mf (.str z) y with
  | none => rw [q] at g2; exact g2.elim
  | some o =>
    rw [q] at g2
    exact (h2 Hf2 H2 _ u (.str z) y o Q R2.le (.str z) z2 q).2 fun w hw => GE.fin g2 (t1.trans t2) (fun h => h) R2 (VR.old (hw Hf2))

/-! ### calls of defs -/
def ioE (z : Option D) : Env := match z with
  | some d => [.io d]
  | none => []
def ioS (io : Bool) (vs : List V) : St := if io = true then (vs.take 1).map some else []
/-- a def's promise: it hands back what f says; io: its first argument is changed -/
def spOf (K : PySem.W.Frag) (mg : Str → Option Value) (n : Nat) (io : Bool) (f : Sem) : Sp := fun vs H Q E => vs.length = n ∧ ∃ (ds0 : Option D) (ds : List D) (Hf : Hp), (ds0.isSome = io) ∧ (io = true → vs ≠ []) ∧
  ER K mg Hf H (ioE ds0) (ioS io vs) ∧ Reps K mg Hf ds (vs.drop (if io = true then 1 else 0)) ∧
  match f (ds0.toList ++ ds) with
  | .ret d fr z => z.isSome = io ∧ ∀ v H' Hf', ER K mg Hf' H' (ioE z) (ioS io vs) → Tr (!io) Hf H (ioE ds0) Hf' H' (ioE z) (ioS io vs) → VR K mg fr true d v H Hf' H' → Q v H'
  | .exc c z => z.isSome = io ∧ ∀ C H' Hf', mg c.cls = some (.ref C) → ER K mg Hf' H' (ioE z) (ioS io vs) → Tr (!io) Hf H (ioE ds0) Hf' H' (ioE z) (ioS io vs) → E (.ref C) none H'
  | .no => False
/-- a def of the module keeps its promise, by at most level k -/
structure FnS (P : Program) (w : World) (K : PySem.W.Frag) (mg : Str → Option Value) (base : Heap) (k : Nat) (x : Str) (n : Nat) (io : Bool) (f : Sem) : Prop where
  ex : ∃ (fa : Addr) (fd : FuncData) (ps : List Str), mg x = some (.ref fa) ∧ PySem.W.keepIn K (.ref fa) = true ∧ Binds K fd ps [] ∧ FnOk P w K mg base (L2N.CX P w) k fa fd ps (spOf K mg n io f)
theorem FnS.mono {P : Program} {w : World} {K : PySem.W.Frag} {mg : Str → Option Value} {base : Heap} {j k : Nat} {x : Str} {n : Nat} {io : Bool} {f : Sem} (h : FnS P w K mg base j x n io f) (hk : j ≤ k) : FnS P w K mg base k x n io f :=
  ⟨let ⟨fa, fd, ps, a, b, c, d⟩ := h.ex; ⟨fa, fd, ps, a, b, c, d.mono hk⟩⟩
/-- behind a call that changes nothing -/
theorem lift0 {pv : Bool} (R1 : ER K mg Hf H e1 σ) (r : ER K mg Hf' H' [] []) (t : Tr pv Hf H [] Hf' H' [] []) : ER K mg Hf' H' e1 σ ∧ Tr pv Hf H e1 Hf' H' e1 σ := by
  have nown : ∀ a, ¬ OwnAt [] [] a := fun a ⟨i, ⟨d, h⟩, _⟩ => by simp at h
  refine ⟨⟨r.le, R1.len, fun i d h => ?_, fun i d h => ?_, R1.inj, R1.raw, r.tab, r.nt⟩, ⟨t.up, rfl, fun _ h => h, fun _ d h => ⟨d, h⟩, fun a o h z _ => t.fr a o h z (nown a), fun a h => ?_, t.pure, t.there⟩⟩
  · obtain ⟨v, e, q⟩ := R1.val i d h
    exact ⟨v, e, q.up t.up⟩
  · obtain ⟨a, e, n, c⟩ := R1.mu i d h
    refine ⟨a, e, ?_, c.move t.up fun o q => t.fr a o q (c.not q).1 (nown a)⟩
    cases q : Hf' a with
    | none => rfl
    | some o =>
      rcases t.new a (by rw [q]; simp) with z | z | z
      · exact absurd n z
      · obtain ⟨o', ho⟩ := c.thereC
        rw [z] at ho; cases ho
      · exact (nown a z).elim
  · rcases t.new a h with z | z | z
    · exact .inl z
    · exact .inr (.inl z)
    · exact (nown a z).elim
/-- behind a call that changes what stands in slot i -/
theorem lift1 {i : Nat} {d z : D} {a : Addr} (R1 : ER K mg Hf H e1 σ) (hi : e1[i]? = some (Slot.own d) ∨ e1[i]? = some (Slot.io d)) (ha : σ[i]? = some (some (.ref a))) (r : ER K mg Hf' H' [.io z] [some (.ref a)]) (t : Tr false Hf H [.io d] Hf' H' [.io z] [some (.ref a)]) :
    ER K mg Hf' H' (e1.set i (putBack (getS e1 i) z)) σ ∧ Tr false Hf H e1 Hf' H' (e1.set i (putBack (getS e1 i) z)) σ := by
  have hlt : i < e1.length := by rcases hi with h | h <;> exact (List.getElem?_eq_some_iff.mp h).1
  have hs : getS e1 i = .own d ∨ getS e1 i = .io d := by
    unfold getS
    rw [List.getD_eq_getElem?_getD]
    rcases hi with h | h <;> rw [h]
    · exact .inl rfl
    · exact .inr rfl
  have hp : putBack (getS e1 i) z = .own z ∧ e1[i]? = some (Slot.own d) ∨ putBack (getS e1 i) z = .io z ∧ e1[i]? = some (Slot.io d) := by
    rcases hs with h | h
    · exact .inl ⟨by rw [h]; rfl, getS_lt h (by simp)⟩
    · exact .inr ⟨by rw [h]; rfl, getS_lt h (by simp)⟩
  have own1 : ∀ b, OwnAt [.io d] [some (.ref a)] b → b = a := fun b ⟨j, ⟨w, hw⟩, e⟩ => by
    cases j with
    | zero => simp at e; exact e.symm
    | succ j => simp at e
  have isown : OwnAt e1 σ a := ⟨i, ⟨d, hi⟩, ha⟩
  have mt : ∀ j, Mt (e1.set i (putBack (getS e1 i) z)) j → Mt e1 j := fun j ⟨w, hw⟩ => by
    by_cases hj : i = j
    · subst hj; exact ⟨d, hi⟩
    · rw [List.getElem?_set_ne hj] at hw; exact ⟨w, hw⟩
  have keep : ∀ b o, b ≠ a → H b = some o → (∀ ps, o ≠ .tbl ps) → H' b = some o := fun b o hb h z => t.fr b o h z fun q => hb (own1 b q)
  obtain ⟨a', ea, na, ca⟩ := r.mu 0 z (.inr rfl)
  simp at ea
  subst ea
  have newF : ∀ b, Hf' b ≠ none → Hf b ≠ none ∨ noC H b = none ∨ b = a := fun b h => by
    rcases t.new b h with q | q | q
    · exact .inl q
    · exact .inr (.inl q)
    · exact .inr (.inr (own1 b q))
  refine ⟨⟨r.le, by rw [List.length_set]; exact R1.len, fun j w h => ?_, fun j w h => ?_, fun j k b hj hk => R1.inj j k b (mt j hj) (mt k hk), fun j v hv => R1.raw j v (raw_set (by rcases hp with ⟨q, _⟩ | ⟨q, _⟩ <;> rw [q] <;> simp) hv).2, r.tab, r.nt⟩, ⟨t.up, List.length_set, mt, fun j w h => ?_, fun b o h z n => keep b o (fun q => n (q ▸ isown)) h z, fun b h => ?_, (fun h => nomatch h), t.there⟩⟩
  · by_cases hj : i = j
    · subst hj
      rw [List.getElem?_set_self hlt] at h
      rcases hp with ⟨q, _⟩ | ⟨q, _⟩ <;> rw [q] at h <;> cases h
    · rw [List.getElem?_set_ne hj] at h
      obtain ⟨v, e, q⟩ := R1.val j w h
      exact ⟨v, e, q.up t.up⟩
  · by_cases hj : i = j
    · subst hj
      rw [List.getElem?_set_self hlt] at h
      have hw : w = z := by rcases hp with ⟨q, _⟩ | ⟨q, _⟩ <;> rw [q] at h <;> rcases h with h | h <;> cases h <;> rfl
      subst hw
      exact ⟨a, ha, na, ca⟩
    · rw [List.getElem?_set_ne hj] at h
      obtain ⟨b, e, n, c⟩ := R1.mu j w h
      have hb : b ≠ a := fun q => hj (R1.inj i j a ⟨d, hi⟩ ⟨w, h⟩ ha (q ▸ e))
      refine ⟨b, e, ?_, c.move t.up fun o q => keep b o hb q (c.not q).1⟩
      cases q : Hf' b with
      | none => rfl
      | some o =>
        rcases newF b (by rw [q]; simp) with y | y | y
        · exact absurd n y
        · obtain ⟨o', ho⟩ := c.thereC
          rw [y] at ho; cases ho
        · exact absurd y hb
  · by_cases hj : i = j
    · subst hj
      rcases hp with ⟨_, q⟩ | ⟨q, _⟩
      · rw [q] at h; cases h
      · exact ⟨z, by rw [List.getElem?_set_self hlt, q]⟩
    · exact ⟨w, by rw [List.getElem?_set_ne hj]; exact h⟩
  · rcases newF b h with y | y | y
    · exact .inl y
    · exact .inr (.inl y)
    · exact .inr (.inr (y ▸ isown))
theorem ER.nil (le : Same Hf H) (tb : Tb K H) (nt : ∀ b ps, Hf b ≠ some (.tbl ps)) : ER K mg Hf H [] [] := ⟨le, rfl, fun i d h => by simp at h, fun i d h => by simp at h, fun i j a ⟨d, h⟩ => by simp at h, fun i v h => by simp at h, tb, nt⟩
theorem isSome_none {α : Type} {o : Option α} (h : o.isSome = false) : o = none := by cases o <;> simp_all
theorem s_call {k n : Nat} {x : Str} {f : Sem} (F : FnS X.prog X.w X.K X.mg X.base k x n false f) (hr : Room k X.A) (hg : Gl X x) (tk : L2N.Takes X W) (hd : (x == ("__debug__" : Str)) = false) (hn : (a :: es).length = n)
    (ha : PA X (a :: es) (tIs X.K X.mg W true ps ms)) (hl : ∀ env ds e1, ms env = .ok ds e1 → ds.length = n) (he : starEach (a :: es) X.env = (false, eval a X.env) :: starEach es X.env) (hpl : (backTo pos (starEach es X.env)).any (·.1) = false) :
    PE X (.Call (.Name x p) (a :: es) [] pos) (tI X.K X.mg W true ps fun env => (ms env).bind fun ds e1 => callR false (f ds) e1) := by
  obtain ⟨fa, fd, pl, h1, h2, h3, h4⟩ := F.ex
  refine PE.imp (pe_callS h4 hr hg h1 h2 h3 (fun σ => L2N.passAt tk σ) ha hd he hpl) fun σ H Q ⟨Hf, env, R, g⟩ => ⟨Hf, env, R, GEs.fst (fun h => h) g fun ds e1 vs H1 Hf1 hm R1 t1 rs g1 => ?_⟩
  rw [if_pos rfl] at rs
  refine ⟨by rw [← rs.length]; exact hl env ds e1 hm, none, ds, Hf1, rfl, (fun h => nomatch h), ER.nil R1.le R1.tab R1.nt, rs, ?_⟩
  show match f ds with
    | .ret d fr z => _
    | .exc c z => _
    | .no => False
  unfold callR at g1
  cases q : f ds with
  | no => rw [q] at g1; exact g1.elim
  | ret d fr z =>
    rw [q] at g1
    cases z with
    | some z => exact g1.elim
    | none =>
      refine ⟨rfl, fun v H' Hf' r t y => ?_⟩
      obtain ⟨R2, t2⟩ := lift0 R1 r t
      simp only [Bool.false_and, Bool.false_eq_true, if_false] at g1
      exact GE.fin g1 (t1.trans t2) (fun h => by simpa using h) R2 (y.back t1.there)
  | exc c z =>
    rw [q] at g1
    cases z with
    | some z => exact g1.elim
    | none =>
      refine ⟨rfl, fun C H' Hf' hC r t => ?_⟩
      obtain ⟨R2, t2⟩ := lift0 R1 r t
      exact g1 C H' Hf' hC R2 ((t1.trans t2).weak fun h => by simpa using h)
end
end Cor
set_option Elab.async false
set_option linter.all false
set_option maxRecDepth 100000
set_option maxHeartbeats 2000000
/-! Cor7: more calls; what is walked; comprehensions. -/
namespace Cor
open PySem PySem.Spec L2
variable [LamDefs]

section
variable {X : Cx} {W : WX} {a b c e : Expr} {es : List Expr} {pos p : Pos} {m ma mb mc : Env → RE} {ms : Env → REs} {st sa sb sc pa pb pc pu ps : Bool}
variable {K : PySem.W.Frag} {mg : Str → Option Value} {H H1 H' Hf Hf1 Hf' : Hp} {env e1 env' : Env} {σ : St} {Q : VK} {p1 p2 : Bool}

/-- arguments that are only lent; the answer is flat -/
theorem s_callB {k n : Nat} {x : Str} {f : Sem} (F : FnS X.prog X.w X.K X.mg X.base k x n false f) (hr : Room k X.A) (hg : Gl X x) (tk : L2N.Takes X W) (hd : (x == ("__debug__" : Str)) = false) (hn : (a :: es).length = n)
    (ha : PA X (a :: es) (tIs X.K X.mg W false ps ms)) (hl : ∀ env ds e1, ms env = .ok ds e1 → ds.length = n) (he : starEach (a :: es) X.env = (false, eval a X.env) :: starEach es X.env) (hpl : (backTo pos (starEach es X.env)).any (·.1) = false) :
    PE X (.Call (.Name x p) (a :: es) [] pos) (tI X.K X.mg W true ps fun env => (ms env).bind fun ds e1 => callR true (f ds) e1) := by
  obtain ⟨fa, fd, pl, h1, h2, h3, h4⟩ := F.ex
  refine PE.imp (pe_callS h4 hr hg h1 h2 h3 (fun σ => L2N.passAt tk σ) ha hd he hpl) fun σ H Q ⟨Hf, env, R, g⟩ => ⟨Hf, env, R, GEs.fst (fun h => h) g fun ds e1 vs H1 Hf1 hm R1 t1 rs g1 => ?_⟩
  rw [if_neg Bool.false_ne_true] at rs
  refine ⟨by rw [← rs.length]; exact hl env ds e1 hm, none, ds, noT H1, rfl, (fun h => nomatch h), ER.nil noT_same R1.tab noT_nt, rs.upN noT_kep, ?_⟩
  show match f ds with
    | .ret d fr z => _
    | .exc c z => _
    | .no => False
  have lift : ∀ {H' Hf'}, ER X.K X.mg Hf' H' [] [] → Tr true (noT H1) H1 [] Hf' H' [] [] → ER X.K X.mg Hf1 H' e1 σ ∧ Tr true Hf1 H1 e1 Hf1 H' e1 σ := fun {H' Hf'} r t => by
    have s := t.pure rfl
    refine ⟨⟨s.of R1.le R1.nt, R1.len, R1.val, fun i d h => ?_, R1.inj, R1.raw, r.tab, R1.nt⟩, ⟨Same.refl _, rfl, fun _ h => h, fun _ d h => ⟨d, h⟩, fun a o h z _ => s a o h z, fun a h => .inl h, fun _ => s, t.there⟩⟩
    obtain ⟨a, e, n, c⟩ := R1.mu i d h
    exact ⟨a, e, n, c.move (Same.refl _) fun o q => s a o q (c.not q).1⟩
  unfold callR at g1
  cases q : f ds with
  | no => rw [q] at g1; exact g1.elim
  | ret d fr z =>
    rw [q] at g1
    cases z with
    | some z => exact g1.elim
    | none =>
      refine ⟨rfl, fun v H' Hf' r t y => ?_⟩
      obtain ⟨R2, t2⟩ := lift r t
      simp only [Bool.true_and] at g1
      cases hat : d.isAtom with
      | false => rw [hat] at g1; exact g1.elim
      | true =>
        rw [hat] at g1
        unfold VR at y
        cases fr with
        | true =>
          rw [if_pos rfl] at y
          obtain ⟨p', _, _, _, c⟩ := y
          cases c <;> simp [D.isAtom] at hat
        | false =>
          rw [if_neg Bool.false_ne_true, if_pos rfl] at y
          exact GE.fin g1 (t1.trans t2) (fun h => by rw [h]; rfl) R2 (VR.old (atom_rep y hat))
  | exc c z =>
    rw [q] at g1
    cases z with
    | some z => exact g1.elim
    | none =>
      refine ⟨rfl, fun C H' Hf' hC r t => ?_⟩
      obtain ⟨R2, t2⟩ := lift r t
      exact g1 C H' Hf1 hC R2 ((t1.trans t2).weak (fun (h : ps = true) => by rw [h]; rfl))
theorem ioGet_at {i : Nat} {d : D} (h : ioGet env i = some d) : env[i]? = some (Slot.own d) ∨ env[i]? = some (Slot.io d) := by
  unfold ioGet at h
  cases q : getS env i with
  | no => rw [q] at h; cases h
  | raw z => rw [q] at h; cases h
  | val z => rw [q] at h; cases h
  | own z => rw [q] at h; cases h; exact .inl (getS_lt q (by simp))
  | io z => rw [q] at h; cases h; exact .inr (getS_lt q (by simp))
theorem s_callIo {k n i : Nat} {x : Str} {f : Sem} (F : FnS X.prog X.w X.K X.mg X.base k x n true f) (hr : Room k X.A) (hg : Gl X x) (tk : L2N.Takes X W) (hd : (x == ("__debug__" : Str)) = false) (hn : (a :: es).length = n)
    (ha : PE X a (tVar i)) (hes : PA X es (tIs X.K X.mg W true ps ms)) (hl : ∀ env ds e1, ms env = .ok ds e1 → ds.length + 1 = n) (he : starEach (a :: es) X.env = (false, eval a X.env) :: starEach es X.env) (hpl : (backTo pos (starEach es X.env)).any (·.1) = false) :
    PE X (.Call (.Name x p) (a :: es) [] pos) (tI X.K X.mg W true false fun env => match ioGet env i with
      | none => .no
      | some _ => (ms env).bind fun ds e1 => match ioGet e1 i with
        | some d => callRio i (f (d :: ds)) e1
        | none => .no) := by
  obtain ⟨fa, fd, pl, h1, h2, h3, h4⟩ := F.ex
  refine PE.imp (pe_callS h4 hr hg h1 h2 h3 (fun σ => L2N.passAt tk σ) (pa_cons ha hes he) hd he hpl) fun σ H Q ⟨Hf, env, R, g⟩ => ?_
  dsimp only at g
  cases q0 : ioGet env i with
  | none => rw [q0] at g; exact g.elim
  | some d0 =>
    rw [q0] at g
    dsimp only at g
    obtain ⟨av, ev, _⟩ := R.mu i d0 (ioGet_at q0)
    refine ⟨_, ev, Hf, env, R, GEs.fst (pu := false) (by intro h; cases h) g fun ds e1 vs H1 Hf1 hm R1 t1 rs g1 => ?_⟩
    cases q1 : ioGet e1 i with
    | none => rw [q1] at g1; exact g1.elim
    | some d =>
      rw [q1] at g1
      dsimp only at g1
      rw [if_pos rfl] at rs
      have hi := ioGet_at q1
      obtain ⟨av', ev', na, ca⟩ := R1.mu i d hi
      rw [ev] at ev'
      cases ev'
      have R0 : ER X.K X.mg Hf1 H1 [.io d] [some (.ref av)] := by
        refine ⟨R1.le, rfl, fun j w h => ?_, fun j w h => ?_, fun j l b hj hl _ _ => ?_, fun j w h => ?_, R1.tab, R1.nt⟩
        · cases j with
          | zero => simp at h
          | succ j => simp at h
        · cases j with
          | zero =>
            simp at h
            subst h
            exact ⟨av, rfl, na, ca⟩
          | succ j => simp at h
        · obtain ⟨w, hw⟩ := hj
          obtain ⟨w', hw'⟩ := hl
          cases j with
          | zero => cases l with
            | zero => rfl
            | succ l => simp at hw'
          | succ j => simp at hw
        · cases j with
          | zero => simp at h
          | succ j => simp at h
      refine ⟨by rw [List.length_cons, ← rs.length]; exact hl env ds e1 hm, some d, ds, Hf1, rfl, (fun _ h => nomatch h), R0, rs, ?_⟩
      show match f (d :: ds) with
        | .ret d fr z => _
        | .exc c z => _
        | .no => False
      unfold callRio at g1
      cases q : f (d :: ds) with
      | no => rw [q] at g1; exact g1.elim
      | ret d' fr z =>
        rw [q] at g1
        cases z with
        | none => exact g1.elim
        | some z =>
          refine ⟨rfl, fun v H' Hf' r t y => ?_⟩
          obtain ⟨R2, t2⟩ := lift1 R1 hi ev r t
          exact GE.fin g1 (t1.trans t2) (fun h => nomatch h) R2 (y.back t1.there)
      | exc c z =>
        rw [q] at g1
        cases z with
        | none => exact g1.elim
        | some z =>
          refine ⟨rfl, fun C H' Hf' hC r t => ?_⟩
          obtain ⟨R2, t2⟩ := lift1 R1 hi ev r t
          exact g1 C H' Hf' hC R2 ((t1.trans t2).weak fun h => nomatch h)

/-! ### what is walked -/
/-- J gives the data ds, one behind another, while Hf stands -/
def WalkD (K : PySem.W.Frag) (mg : Str → Option Value) (Hf : Hp) (ds : List D) (J : It) : Prop := Walk J ds.length (fun H => Same Hf H) fun i H x H' => ∃ d, ds[i]? = some d ∧ Out K mg Hf H false d x H'
def GJ (K : PySem.W.Frag) (mg : Str → Option Value) (W : WX) (pu : Bool) (Hf H : Hp) (env : Env) (σ : St) (R : It → Hp → Prop) (r : REs) : Prop := match r with
  | .ok ds env' => ∀ J H' Hf', ER K mg Hf' H' env' σ → Tr pu Hf H env Hf' H' env' σ → WalkD K mg Hf' ds J → R J H'
  | .ex c env' => ∀ C H' Hf', mg c.cls = some (.ref C) → ER K mg Hf' H' env' σ → Tr pu Hf H env Hf' H' env' σ → W (.ref C) none σ H'
  | .no => False
def tJ (K : PySem.W.Frag) (mg : Str → Option Value) (W : WX) (pu : Bool) (m : Env → REs) : TI := fun σ H R => ∃ Hf env, ER K mg Hf H env σ ∧ GJ K mg W pu Hf H env σ R (m env)
theorem PI.imp {tg it : Expr} {t t' : TI} (h : PI X tg it t) (i : ∀ σ H R, t' σ H R → t σ H R) : PI X tg it t' := ⟨fun pins s σ H R I q => h.run pins s σ H R I (i σ H R q)⟩
/-- a value's evaluation, then the walk -/
theorem tJ_bind {R : It → Hp → Prop} {m : Env → RE} {k : D → Bool → Env → REs} (R0 : ER K mg Hf H env σ)
    (g : GJ K mg W pu Hf H env σ R ((m env).bindI k)) {Q1 : VK}
    (c : ∀ d fr e1 v H1 Hf1, m env = .ok d fr e1 → ER K mg Hf1 H1 e1 σ → Tr pu Hf H env Hf1 H1 e1 σ → Rep K mg Hf1 d v →
      GJ K mg W pu Hf H env σ R (k d fr e1) → Q1 v H1) : GE K mg W true pu Hf H env σ Q1 (m env) := by
  cases q : m env with
  | no => rw [q] at g; exact g.elim
  | ex x e2 => rw [q] at g; exact g
  | ok d fr e1 =>
    rw [q] at g
    refine fun v H1 Hf1 R1 t1 z1 => ?_
    obtain ⟨Hf1, R1, t1, z1⟩ := stab R0 R1 t1 z1
    exact c d fr e1 v H1 Hf1 q R1 t1 z1 g
theorem walkD_list {ds : List D} {vs : List V} {a : Addr} (h : SqL K Hf a vs) (r : Reps K mg Hf ds vs) : WalkD K mg Hf ds (Itl K a) := by
  unfold WalkD
  rw [r.length]
  refine walk_list.mono (fun H e => e.seq h) fun i H x H' _ _ y => ?_
  obtain ⟨rfl, e⟩ := y
  obtain ⟨d, e1, e2⟩ := r.getV e
  exact ⟨d, e1, .old e2⟩
theorem walkD_tup {ds : List D} {vs : List V} {a : Addr} (h : SqT K Hf a vs) (r : Reps K mg Hf ds vs) : WalkD K mg Hf ds (Itt K a) := by
  unfold WalkD
  rw [r.length]
  refine walk_tup.mono (fun H e => same_t e h) fun i H x H' _ _ y => ?_
  obtain ⟨rfl, e⟩ := y
  obtain ⟨d, e1, e2⟩ := r.getV e
  exact ⟨d, e1, .old e2⟩
theorem i_lst {tg : Expr} (ha : PE X a (tI X.K X.mg W true pa ma)) : PI X tg a (tJ X.K X.mg W pa fun env => (ma env).bindI fun x _ e1 => match x with
    | .lst xs => .ok xs e1
    | _ => .no) := by
  refine PI.imp (pi_list ha) fun σ H R ⟨Hf, env, R0, g⟩ => ⟨Hf, env, R0, tJ_bind R0 g fun d fr e1 v H1 Hf1 _ R1 t1 z1 g1 => ?_⟩
  cases d <;> try exact g1.elim
  obtain ⟨a, vs, rfl, h1, h2⟩ := z1.lstInv
  exact ⟨a, rfl, ⟨vs, R1.le.seq h1⟩, g1 _ H1 Hf1 R1 t1 (walkD_list h1 h2)⟩
theorem i_tup {tg : Expr} (ha : PE X a (tI X.K X.mg W true pa ma)) : PI X tg a (tJ X.K X.mg W pa fun env => (ma env).bindI fun x _ e1 => match x with
    | .tup xs => .ok xs e1
    | _ => .no) := by
  refine PI.imp (pi_tup ha) fun σ H R ⟨Hf, env, R0, g⟩ => ⟨Hf, env, R0, tJ_bind R0 g fun d fr e1 v H1 Hf1 _ R1 t1 z1 g1 => ?_⟩
  cases d <;> try exact g1.elim
  obtain ⟨a, vs, rfl, h1, h2⟩ := z1.tupInv
  exact ⟨a, rfl, ⟨vs, same_t R1.le h1⟩, g1 _ H1 Hf1 R1 t1 (walkD_tup h1 h2)⟩
theorem i_str {tg : Expr} (ha : PE X a (tI X.K X.mg W true pa ma)) : PI X tg a (tJ X.K X.mg W pa fun env => (ma env).bindI fun x _ e1 => match x with
    | .str xs => if xs.length ≤ lim then .ok (xs.map fun c => .str [c]) e1 else .no
    | _ => .no) := by
  refine PI.imp (pi_str ha) fun σ H R ⟨Hf, env, R0, g⟩ => ⟨Hf, env, R0, tJ_bind R0 g fun d fr e1 v H1 Hf1 _ R1 t1 z1 g1 => ?_⟩
  cases d <;> try exact g1.elim
  rename_i xs _
  obtain rfl := z1.strInv
  refine ⟨_, rfl, ?_⟩
  by_cases hz : xs.length ≤ lim
  · simp only [hz, if_true] at g1
    refine g1 _ H1 Hf1 R1 t1 ?_
    unfold WalkD
    have hsz : (xs.map fun c => D.str [c]).length = (⟨xs.toArray⟩ : Str).cps.size := by simp
    rw [hsz]
    refine walk_str.mono (fun _ _ => trivial) fun i H x H' _ _ y => ?_
    obtain ⟨rfl, c, e1, rfl⟩ := y
    refine ⟨.str [c], ?_, .old (.str [c])⟩
    rw [List.getElem?_map]
    have : xs[i]? = some c := by simpa using e1
    rw [this]; rfl
  · simp only [hz, if_false] at g1
    exact g1.elim
theorem rngD_walk {lo hi : Int} {ds : List D} (h : rngD lo hi = some ds) : (-(2 ^ 62) ≤ lo ∧ lo < 2 ^ 62 ∧ -(2 ^ 62) ≤ hi ∧ hi < 2 ^ 62) ∧ ∀ Hf, WalkD K mg Hf ds (Itr lo (hi - lo).toNat) := by
  unfold rngD at h
  split at h
  · rename_i hz
    cases h
    refine ⟨hz, fun Hf => ?_⟩
    unfold WalkD
    rw [List.length_map, List.length_range]
    refine walk_range.mono (fun _ _ => trivial) fun i H x H' hi' _ y => ?_
    obtain ⟨rfl, rfl⟩ := y
    refine ⟨.int (lo + (i : Nat)), ?_, .old (.int _)⟩
    rw [List.getElem?_map, List.getElem?_range hi']
    rfl
  · cases h
theorem i_rng1 {tg : Expr} (hg : Gl X "range") (hm : X.mg "range" = none) (ha : PE X a (tI X.K X.mg W sa pa ma)) (hs : starEach [a] X.env = [(false, eval a X.env)]) : PI X tg (.Call (.Name "range" p) [a] [] pos) (tJ X.K X.mg W pa fun env => (ma env).bindI fun x _ e1 => match x with
    | .int n => outI (rngD 0 n) e1
    | _ => .no) := by
  refine PI.imp (pi_range1 hg hm (pa_cons ha pa_nil (by rw [hs]; rfl)) hs) fun σ H R ⟨Hf, env, R0, g⟩ => ⟨Hf, env, R0, ?_⟩
  dsimp only at g
  cases q : ma env with
  | no => rw [q] at g; exact g.elim
  | ex x e2 => rw [q] at g; exact g
  | ok d fr e1 =>
    rw [q] at g
    refine fun v H1 Hf1 R1 t1 z1 => ?_
    cases d <;> try exact g.elim
    rename_i n
    obtain rfl := (z1.now R1.le).intInv
    have g : GJ X.K X.mg W pa Hf H env σ R (outI (rngD 0 n) e1) := g
    cases q2 : rngD 0 n with
    | none => rw [q2] at g; exact g.elim
    | some ds =>
      rw [q2] at g
      obtain ⟨⟨_, _, z3, z4⟩, wd⟩ := rngD_walk (K := X.K) (mg := X.mg) q2
      refine ⟨n, rfl, z3, z4, g _ H1 Hf1 R1 t1 ?_⟩
      have := wd Hf1
      rw [Int.sub_zero] at this
      exact this
theorem i_rng2 {tg : Expr} (hg : Gl X "range") (hm : X.mg "range" = none) (ha : PE X a (tI X.K X.mg W sa pa ma)) (hb : PE X b (tI X.K X.mg W sb pb mb)) (hs : starEach [a, b] X.env = [(false, eval a X.env), (false, eval b X.env)]) (hs2 : starEach [b] X.env = [(false, eval b X.env)]) : PI X tg (.Call (.Name "range" p) [a, b] [] pos) (tJ X.K X.mg W (pa && pb) fun env => (ma env).bindI fun x _ e1 => (mb e1).bindI fun y _ e2 => match x, y with
    | .int n, .int m => outI (rngD n m) e2
    | _, _ => .no) := by
  refine PI.imp (pi_range2 hg hm (pa_cons ha (pa_cons hb pa_nil (by rw [hs2]; rfl)) (by rw [hs, hs2])) hs hs2) fun σ H R ⟨Hf, env, R0, g⟩ => ⟨Hf, env, R0, ?_⟩
  dsimp only at g
  cases q : ma env with
  | no => rw [q] at g; exact g.elim
  | ex x e2 => rw [q] at g; exact fun C H2 Hf2 hC R2 t2 => g C H2 Hf2 hC R2 (t2.weak fun h => (Bool.and_eq_true_iff.mp h).1)
  | ok d fr e1 =>
    rw [q] at g
    refine fun v H1 Hf1 R1 t1 z1 => ⟨Hf1, e1, R1, ?_⟩
    have g : GJ X.K X.mg W (pa && pb) Hf H env σ R ((mb e1).bindI fun y _ e2 => match (generalizing := false) d, y with
        | .int n, .int m => outI (rngD n m) e2
        | _, _ => .no) := g
    cases q' : mb e1 with
    | no => rw [q'] at g; exact g.elim
    | ex x e2 => rw [q'] at g; exact fun C H2 Hf2 hC R2 t2 => g C H2 Hf2 hC R2 (t1.trans t2)
    | ok d2 fr2 e2 =>
      rw [q'] at g
      refine fun u H2 Hf2 R2 t2 z2 => ?_
      cases d <;> try exact g.elim
      cases d2 <;> try exact g.elim
      rename_i n g0 m
      obtain rfl := (z1.now R1.le).intInv
      obtain rfl := (z2.now R2.le).intInv
      have g : GJ X.K X.mg W (pa && pb) Hf H env σ R (outI (rngD n m) e2) := g
      cases q2 : rngD n m with
      | none => rw [q2] at g; exact g.elim
      | some ds =>
        rw [q2] at g
        obtain ⟨zz, wd⟩ := rngD_walk (K := X.K) (mg := X.mg) q2
        exact ⟨n, m, rfl, zz, g _ H2 Hf2 R2 (t1.trans t2) (wd Hf2)⟩
end
end Cor
set_option Elab.async false
set_option linter.all false
set_option maxRecDepth 100000
set_option maxHeartbeats 2000000
/-! Cor8: what statements may do to slots and heap; targets; comprehensions. -/
namespace Cor
open PySem PySem.Spec L2
variable [LamDefs]

structure TrS (Hf H : Hp) (env : Env) (σ : St) (Hf' H' : Hp) (env' : Env) (σ' : St) : Prop where
  up : Same Hf Hf'
  len : env'.length = env.length
  own : ∀ a, OwnAt env' σ' a → OwnAt env σ a ∨ noT H a = none
  io : ∀ (i : Nat) (d : D), env[i]? = some (Slot.io d) → (∃ d', env'[i]? = some (Slot.io d')) ∧ σ'[i]? = σ[i]?
  fr : ∀ a o, H a = some o → (∀ ps, o ≠ .tbl ps) → ¬ OwnAt env σ a → H' a = some o
  new : ∀ a, Hf' a ≠ none → Hf a ≠ none ∨ noC H a = none ∨ OwnAt env σ a
  there : ∀ a, noT H a ≠ none → noT H' a ≠ none

section
variable {K : PySem.W.Frag} {mg : Str → Option Value} {W : WX} {H H1 H2 H' H'' Hf Hf1 Hf2 Hf' Hf'' : Hp} {env e1 e2 env' env'' : Env} {σ σ1 σ' σ'' : St} {d : D} {v : V} {pu fr st : Bool} {Q : VK} {i : Nat}
theorem Tr.s (t : Tr pu Hf H env Hf' H' env' σ) : TrS Hf H env σ Hf' H' env' σ := ⟨t.up, t.len, fun _ h => .inl (h.back t.mt), fun i d h => ⟨t.io i d h, rfl⟩, t.fr, t.new, t.there⟩
theorem TrS.refl : TrS Hf H env σ Hf H env σ := (Tr.refl (pu := true)).s
theorem TrS.trans (t : TrS Hf H env σ Hf' H' env' σ') (u : TrS Hf' H' env' σ' Hf'' H'' env'' σ'') : TrS Hf H env σ Hf'' H'' env'' σ'' where
  up := t.up.trans u.up
  len := u.len.trans t.len
  own := fun a h => by
    rcases u.own a h with q | q
    · exact t.own a q
    · cases e : noT H a with
      | none => exact .inr rfl
      | some o =>
        exact absurd q (t.there a (by rw [e]; simp))
  io := fun i d h => by
    obtain ⟨⟨d', e⟩, s⟩ := t.io i d h
    obtain ⟨q, s'⟩ := u.io i d' e
    exact ⟨q, s'.trans s⟩
  fr := fun a o h x n => u.fr a o (t.fr a o h x n) x fun q => by
    rcases t.own a q with z | z
    · exact n z
    · rw [noT_some h x] at z; cases z
  new := fun a h => by
    rcases u.new a h with q | q | q
    · exact t.new a q
    · by_cases w : OwnAt env σ a
      · exact .inr (.inr w)
      · cases e : noC H a with
        | none => exact .inr (.inl rfl)
        | some o =>
          obtain ⟨g1, g2, g3⟩ := noC_get e
          rw [noC_some (t.fr a o g1 g2 w) g2 g3] at q
          cases q
    · rcases t.own a q with z | z
      · exact .inr (.inr z)
      · exact .inr (.inl (noC_none z))
  there := fun a h => u.there a (t.there a h)
theorem TrS.tr (t : TrS Hf H env σ Hf' H' env' σ) (mt : ∀ i, Mt env' i → Mt env i) : Tr false Hf H env Hf' H' env' σ := ⟨t.up, t.len, mt, fun i d h => (t.io i d h).1, t.fr, t.new, (fun h => nomatch h), t.there⟩
def noIo (env : Env) (i : Nat) : Prop := ∀ d, env[i]? ≠ some (Slot.io d)
theorem noIo_of {s : Slot} (h : getS env i = s) (hs : ∀ d, s ≠ .io d) : noIo env i := fun d e => by
  unfold getS at h
  rw [List.getD_eq_getElem?_getD, e] at h
  exact hs d h.symm
theorem mt_set {s : Slot} (hs : s = .no ∨ ∃ d, s = .val d) {j : Nat} (h : Mt (env.set i s) j) : j ≠ i ∧ Mt env j := by
  obtain ⟨z, hz⟩ := h
  by_cases hj : i = j
  · subst hj
    by_cases hi : i < env.length
    · rw [List.getElem?_set_self hi] at hz
      rcases hs with rfl | ⟨d, rfl⟩ <;> rcases hz with hz | hz <;> cases hz
    · rw [List.getElem?_eq_none (by simpa using hi)] at hz
      rcases hz with hz | hz <;> cases hz
  · rw [List.getElem?_set_ne hj] at hz
    exact ⟨fun q => hj q.symm, z, hz⟩
/-- a slot takes a value, or nothing -/
theorem ER.setS (R : ER K mg Hf H env σ) {s : Slot} {o : Option V} (hs : s = .no ∨ ∃ d v, s = .val d ∧ o = some v ∧ Rep K mg Hf d v) (hio : noIo env i) :
    ER K mg Hf H (env.set i s) (σ.set i o) ∧ TrS Hf H env σ Hf H (env.set i s) (σ.set i o) ∧ ∀ j, Mt (env.set i s) j → Mt env j := by
  have hs' : s = .no ∨ ∃ d, s = .val d := hs.imp id fun ⟨d, v, h, _⟩ => ⟨d, h⟩
  have out : ∀ j w, (env.set i s)[j]? = some w → j ≠ i → env[j]? = some w := fun j w h hj => by rw [List.getElem?_set_ne (Ne.symm hj)] at h; exact h
  refine ⟨⟨R.le, by rw [List.length_set, List.length_set]; exact R.len, fun j d h => ?_, fun j d h => ?_, fun j k b hj hk ej ek => ?_, fun j v h => by
    obtain ⟨hj, h⟩ := raw_set (fun w e => by rcases hs' with rfl | ⟨d, rfl⟩ <;> cases e) h
    rw [List.getElem?_set_ne (Ne.symm hj)]; exact R.raw j v h, R.tab, R.nt⟩, ⟨Same.refl _, List.length_set, fun a ⟨j, m, e⟩ => ?_, fun j d h => ?_, fun _ _ q _ _ => q, fun _ q => .inl q, fun _ q => q⟩, fun j h => (mt_set hs' h).2⟩
  · by_cases hj : i = j
    · subst hj
      by_cases hi : i < env.length
      · rw [List.getElem?_set_self hi] at h
        rcases hs with rfl | ⟨d', v, rfl, rfl, r⟩
        · cases h
        · cases h
          exact ⟨v, by rw [List.getElem?_set_self (R.len ▸ hi)], r⟩
      · rw [List.getElem?_eq_none (by simpa using hi)] at h; cases h
    · rw [List.getElem?_set_ne hj] at h ⊢
      exact R.val j d h
  · obtain ⟨hj, _⟩ := mt_set hs' ⟨d, h⟩
    rw [List.getElem?_set_ne (Ne.symm hj)] at h ⊢
    exact R.mu j d h
  · obtain ⟨hj', mj⟩ := mt_set hs' hj
    obtain ⟨hk', mk⟩ := mt_set hs' hk
    rw [List.getElem?_set_ne (Ne.symm hj')] at ej
    rw [List.getElem?_set_ne (Ne.symm hk')] at ek
    exact R.inj j k b mj mk ej ek
  · obtain ⟨hj, mj⟩ := mt_set hs' m
    rw [List.getElem?_set_ne (Ne.symm hj)] at e
    exact .inl ⟨j, mj, e⟩
  · by_cases hj : i = j
    · subst hj; exact absurd h (hio d)
    · exact ⟨⟨d, by rw [List.getElem?_set_ne hj]; exact h⟩, List.getElem?_set_ne hj⟩
/-- .. what it owns from now on -/
theorem ER.setO (R : ER K mg Hf H env σ) {p : Addr} (hp : Hf p = none) (c : Cont K mg Hf H d p) (no : ¬ OwnAt env σ p) (hio : noIo env i) {H0 Hf0 : Hp} {env0 : Env} {σ0 : St} (t : TrS Hf0 H0 env0 σ0 Hf H env σ) (h0 : noT H0 p = none) :
    ER K mg Hf H (env.set i (.own d)) (σ.set i (some (.ref p))) ∧ TrS Hf0 H0 env0 σ0 Hf H (env.set i (.own d)) (σ.set i (some (.ref p))) := by
  have mt : ∀ {j}, Mt (env.set i (.own d)) j → j ≠ i → Mt env j := fun {j} ⟨z, hz⟩ hj => by
    rw [List.getElem?_set_ne (Ne.symm hj)] at hz
    exact ⟨z, hz⟩
  refine ⟨⟨R.le, by rw [List.length_set, List.length_set]; exact R.len, fun j d' h => ?_, fun j d' h => ?_, fun j k b hj hk ej ek => ?_, fun j v h => by
    obtain ⟨hj, h⟩ := raw_set (by simp) h
    rw [List.getElem?_set_ne (Ne.symm hj)]; exact R.raw j v h, R.tab, R.nt⟩, ⟨t.up, by rw [List.length_set]; exact t.len, fun a ⟨j, m, e⟩ => ?_, fun j d' h => ?_, t.fr, t.new, t.there⟩⟩
  · by_cases hj : i = j
    · subst hj
      by_cases hi : i < env.length
      · rw [List.getElem?_set_self hi] at h; cases h
      · rw [List.getElem?_eq_none (by simpa using hi)] at h; cases h
    · rw [List.getElem?_set_ne hj] at h ⊢
      exact R.val j d' h
  · by_cases hj : i = j
    · subst hj
      by_cases hi : i < env.length
      · rw [List.getElem?_set_self hi] at h
        rcases h with h | h <;> cases h
        exact ⟨p, by rw [List.getElem?_set_self (R.len ▸ hi)], hp, c⟩
      · rw [List.getElem?_eq_none (by simpa using hi)] at h
        rcases h with h | h <;> cases h
    · rw [List.getElem?_set_ne hj] at h ⊢
      exact R.mu j d' h
  · by_cases h1 : j = i <;> by_cases h2 : k = i
    · rw [h1, h2]
    · subst h1
      have m := mt hk h2
      rw [List.getElem?_set_ne (Ne.symm h2)] at ek
      by_cases hi : j < σ.length
      · rw [List.getElem?_set_self hi] at ej
        cases ej
        exact absurd ⟨k, m, ek⟩ no
      · rw [List.getElem?_eq_none (by simpa using hi)] at ej; cases ej
    · subst h2
      have m := mt hj h1
      rw [List.getElem?_set_ne (Ne.symm h1)] at ej
      by_cases hi : k < σ.length
      · rw [List.getElem?_set_self hi] at ek
        cases ek
        exact absurd ⟨j, m, ej⟩ no
      · rw [List.getElem?_eq_none (by simpa using hi)] at ek; cases ek
    · have m := mt hj h1
      have m' := mt hk h2
      rw [List.getElem?_set_ne (Ne.symm h1)] at ej
      rw [List.getElem?_set_ne (Ne.symm h2)] at ek
      exact R.inj j k b m m' ej ek
  · by_cases h1 : j = i
    · subst h1
      by_cases hi : j < σ.length
      · rw [List.getElem?_set_self hi] at e
        cases e
        exact .inr h0
      · rw [List.getElem?_eq_none (by simpa using hi)] at e; cases e
    · have m' := mt m h1
      rw [List.getElem?_set_ne (Ne.symm h1)] at e
      exact t.own a ⟨j, m', e⟩
  · obtain ⟨⟨z, hz⟩, q⟩ := t.io j d' h
    by_cases hj : i = j
    · subst hj; exact absurd hz (hio z)
    · exact ⟨⟨z, by rw [List.getElem?_set_ne hj]; exact hz⟩, by rw [List.getElem?_set_ne hj]; exact q⟩
/-- what nobody owns is rewritten -/
theorem lst_not {p : Addr} {ws : List V} (h : H p = some (.lst ws)) : ∀ u, H p = some u → (∀ ps, u ≠ .tbl ps) ∧ ∀ q, u ≠ LamX.CodeO p q := fun u e => by
  rw [h] at e; cases e
  exact ⟨fun ps e => (nomatch e), fun q e => by unfold LamX.CodeO at e; cases e⟩
theorem ER.updN (R : ER K mg Hf H env σ) {p : Addr} {o : HO} (hp : Hf p = none) (no : ¬ OwnAt env σ p) (hn : ∀ u, H p = some u → (∀ ps, u ≠ .tbl ps) ∧ ∀ q, u ≠ LamX.CodeO p q) : ER K mg Hf (upd H p o) env σ := by
  refine ⟨fun b q e => ?_, R.len, R.val, fun j d h => ?_, R.inj, R.raw, R.tab.upd hn, R.nt⟩
  · rw [upd_ne (ne_of_none e hp)]; exact R.le b q e
  · obtain ⟨a, e, n, c⟩ := R.mu j d h
    have ha : a ≠ p := fun q => no ⟨j, ⟨d, h⟩, q ▸ e⟩
    exact ⟨a, e, n, c.move (Same.refl _) fun o q => by rw [upd_ne ha]; exact q⟩

/-! ### targets -/
mutual
def TG.ix : TG → List Nat
  | .nm i => [i]
  | .tup ts => ixs ts
def ixs : List TG → List Nat
  | [] => []
  | t :: ts => t.ix ++ ixs ts
end
end
section
variable (K : PySem.W.Frag) (mg : Str → Option Value)
def AsgK (Hf H : Hp) (env : Env) (σ : St) (ix : List Nat) (env' : Env) (Q : St → Hp → Prop) : Prop := ∀ σ', ER K mg Hf H env' σ' → TrS Hf H env σ Hf H env' σ' → (∀ j, Mt env' j → Mt env j) → (∀ j, j ∉ ix → σ'[j]? = σ[j]?) → Q σ' H
def tG (t : TG) : L2.TG := fun v σ H Q => ∃ Hf env d env', ER K mg Hf H env σ ∧ Rep K mg Hf d v ∧ asg t d env = some env' ∧ AsgK K mg Hf H env σ t.ix env' Q
def tGs (ts : List TG) : TGs := fun vs σ H Q => ∃ Hf env ds env', ER K mg Hf H env σ ∧ Reps K mg Hf ds vs ∧ asgs ts ds env = some env' ∧ AsgK K mg Hf H env σ (ixs ts) env' Q
end
theorem PG.imp {X : Cx} {e : Expr} {t t' : L2.TG} (h : PG X e t) (i : ∀ v σ H Q, t' v σ H Q → t v σ H Q) : PG X e t' := ⟨fun pins s σ H v u Q I r q => h.run pins s σ H v u Q I r (i v σ H Q q)⟩
theorem PGs.imp {X : Cx} {e : List Expr} {t t' : TGs} (h : PGs X e t) (i : ∀ v σ H Q, t' v σ H Q → t v σ H Q) : PGs X e t' := ⟨fun pins s σ H v u Q I r q => h.run pins s σ H v u Q I r (i v σ H Q q)⟩
theorem PTs.imp {X : Cx} {e : List Expr} {t t' : TT} (h : PTs X e t) (i : ∀ σ H Q, t' σ H Q → t σ H Q) : PTs X e t' := ⟨fun pins s σ H Q I q => h.run pins s σ H Q I (i σ H Q q)⟩
section
variable {X : Cx} {W : WX} {K : PySem.W.Frag} {mg : Str → Option Value} {H H1 H' Hf Hf1 Hf' : Hp} {env e1 e2 env' : Env} {σ : St} {i : Nat} {pos p : Pos}
theorem g_nm {e : Expr} (h : PG X e (gName i)) : PG X e (tG X.K X.mg (.nm i)) := by
  refine PG.imp h fun v σ H Q ⟨Hf, env, d, env', R, r, ha, k⟩ => ?_
  unfold asg at ha
  have hio : noIo env i := by
    cases q : getS env i <;> first | (rw [q] at ha; cases ha; done) | exact noIo_of q (by intro d; simp)
  have he : env.set i (.val d) = env' := by
    cases q : getS env i <;> rw [q] at ha <;> first | exact Option.some.inj ha | cases ha
  subst he
  obtain ⟨R', t, m⟩ := R.setS (s := .val d) (o := some v) (.inr ⟨d, v, rfl, rfl, r⟩) hio
  exact k _ R' t m fun j hj => List.getElem?_set_ne (fun q => hj (by subst q; simp [TG.ix]))
theorem gs_nil : PGs X [] (tGs X.K X.mg []) := by
  refine PGs.imp pgs_nil fun vs σ H Q ⟨Hf, env, ds, env', R, r, ha, k⟩ => ?_
  cases r with
  | nil => cases ha; exact ⟨rfl, k σ R TrS.refl (fun _ h => h) fun _ _ => rfl⟩
  | cons _ _ => cases ha
theorem gs_cons {e : Expr} {es : List Expr} {t : TG} {ts : List TG} (h1 : PG X e (tG X.K X.mg t)) (h2 : PGs X es (tGs X.K X.mg ts))
    (hs : (assignEach (e :: es) X.env).map (·.2) = assign e X.env :: (assignEach es X.env).map (·.2)) : PGs X (e :: es) (tGs X.K X.mg (t :: ts)) := by
  refine PGs.imp (pgs_cons h1 h2 hs) fun vs σ H Q ⟨Hf, env, ds, env', R, r, ha, k⟩ => ?_
  cases r with
  | nil => cases ha
  | @cons d ds v vs r rs =>
    unfold asgs at ha
    cases q : asg t d env with
    | none => rw [q] at ha; cases ha
    | some em =>
      rw [q] at ha
      refine ⟨v, vs, rfl, Hf, env, d, em, R, r, q, fun σ1 R1 t1 m1 n1 => ⟨Hf, em, ds, env', R1, rs, ha, fun σ2 R2 t2 m2 n2 => k σ2 R2 (t1.trans t2) (fun j h => m1 j (m2 j h)) fun j hj => ?_⟩⟩
      have hj1 : j ∉ t.ix := fun z => hj (by simp [ixs, z])
      have hj2 : j ∉ ixs ts := fun z => hj (by simp [ixs, z])
      rw [n2 j hj2, n1 j hj1]
theorem asgs_len : ∀ {ts : List TG} {ds : List D} {env env' : Env}, asgs ts ds env = some env' → ds.length = ts.length
  | [], [], _, _, _ => rfl
  | [], _ :: _, _, _, h => by cases h
  | _ :: _, [], _, _, h => by cases h
  | t :: ts, d :: ds, env, env', h => by
    unfold asgs at h
    cases q : asg t d env with
    | none => rw [q] at h; cases h
    | some em => rw [q] at h; simp [asgs_len h]
theorem g_tup {es : List Expr} {k : Nat} {ts : List TG} (hc : X.calm = true) (h : PGs X es (tGs X.K X.mg ts)) (hn : (assignEach es X.env).length = ts.length) (hst : (assignEach es X.env).findIdx? (·.1) = none) : PG X (.Tuple es k pos) (tG X.K X.mg (.tup ts)) := by
  refine PG.imp (pg_tup hc h hn hst) fun v σ H Q ⟨Hf, env, d, env', R, r, ha, k⟩ => ?_
  cases d <;> try (unfold asg at ha; cases ha)
  rename_i ds
  unfold asg at ha
  obtain ⟨a, vs, rfl, h1, h2⟩ := r.tupInv
  exact ⟨a, vs, rfl, same_t R.le h1, by rw [← h2.length]; exact asgs_len ha, Hf, env, ds, env', R, h2, ha, k⟩

/-! ### comprehensions -/
theorem wipe_get (σ : St) (j : Nat) : ∀ vs : List Nat, (wipe σ vs)[j]? = if j ∈ vs then (if j < σ.length then some none else none) else σ[j]?
  | [] => by simp [wipe]
  | v :: vs => by
    unfold wipe
    by_cases hj : v = j
    · subst hj
      rw [if_pos (by simp)]
      by_cases hl : v < σ.length
      · rw [if_pos hl, List.getElem?_set_self (by rw [wipe_length]; exact hl)]
      · rw [if_neg hl, List.getElem?_eq_none (by rw [List.length_set, wipe_length]; omega)]
    · rw [List.getElem?_set_ne hj, wipe_get σ j vs]
      have : j ∈ v :: vs ↔ j ∈ vs := by simp [Ne.symm hj]
      simp only [this]
theorem wipe_same {σ σ' : St} {vs : List Nat} (hl : σ'.length = σ.length) (h : ∀ j, j ∉ vs → σ'[j]? = σ[j]?) : wipe σ' vs = wipe σ vs := by
  refine List.ext_getElem? fun j => ?_
  rw [wipe_get, wipe_get, hl]
  by_cases hj : j ∈ vs
  · rw [if_pos hj, if_pos hj]
  · rw [if_neg hj, if_neg hj, h j hj]
theorem wipe_wipe {σ : St} {vs : List Nat} : wipe (wipe σ vs) vs = wipe σ vs := wipe_same (wipe_length _ _) fun j hj => by rw [wipe_get, if_neg hj]
theorem wipeE_ok : ∀ {vs : List Nat} {env env' : Env}, wipeE env vs = some env' → ER K mg Hf H env σ → ER K mg Hf H env' (wipe σ vs) ∧ TrS Hf H env σ Hf H env' (wipe σ vs) ∧ (∀ j, Mt env' j → Mt env j ∧ j ∉ vs) ∧ (∀ j, j ∈ vs → ¬ Mt env j) ∧ ∀ j, j ∉ vs → env'[j]? = env[j]?
  | [], env, env', h, R => by
    cases h
    exact ⟨R, TrS.refl, fun _ h => ⟨h, by simp⟩, fun j hj => by simp at hj, fun _ _ => rfl⟩
  | v :: vs, env, env', h, R => by
    unfold wipeE at h
    have key : (∀ d, getS env v ≠ .own d) ∧ (∀ d, getS env v ≠ .io d) ∧ ∃ e, wipeE env vs = some e ∧ e.set v .no = env' := by
      cases q : getS env v <;> rw [q] at h <;> first
        | cases h
        | (refine ⟨by simp, by simp, ?_⟩
           obtain ⟨e, h1, h2⟩ := Option.map_eq_some_iff.mp h
           exact ⟨e, h1, h2⟩)
    obtain ⟨k1, k2, e, h1, h2⟩ := key
    obtain ⟨R1, t1, m1, n1, s1⟩ := wipeE_ok h1 R
    have nm : ¬ Mt env v := fun ⟨d, hd⟩ => by
      have : getS env v = .own d ∨ getS env v = .io d := by
        unfold getS
        rw [List.getD_eq_getElem?_getD]
        rcases hd with hd | hd <;> rw [hd] <;> simp
      rcases this with z | z
      · exact k1 d z
      · exact k2 d z
    have hio : noIo e v := fun d z => nm (m1 v ⟨d, .inr z⟩).1
    obtain ⟨R2, t2, m2⟩ := R1.setS (s := .no) (o := none) (i := v) (.inl rfl) hio
    subst h2
    refine ⟨R2, t1.trans t2, fun j hj => ?_, fun j hj => ?_, fun j hj => ?_⟩
    · obtain ⟨z1, z2⟩ := m1 j (m2 j hj)
      have := (mt_set (.inl rfl) hj).1
      exact ⟨z1, by simp [this, z2]⟩
    · rcases List.mem_cons.mp hj with z | z
      · rw [z]; exact nm
      · exact n1 j z
    · have a1 : v ≠ j := fun z => hj (by simp [z])
      have a2 : j ∉ vs := fun z => hj (by simp [z])
      rw [List.getElem?_set_ne a1, s1 j a2]
theorem backE_get (old : Env) (j : Nat) : ∀ (vs : List Nat) (env : Env), old.length = env.length → (backE old env vs)[j]? = if j ∈ vs then old[j]? else env[j]?
  | [], env, _ => by simp [backE]
  | v :: vs, env, hl => by
    unfold backE
    have hlen : ∀ ws : List Nat, (backE old env ws).length = env.length := fun ws => by
      induction ws with
      | nil => rfl
      | cons w ws ih => unfold backE; rw [List.length_set, ih]
    by_cases hj : v = j
    · subst hj
      rw [if_pos (by simp)]
      by_cases hv : v < env.length
      · rw [List.getElem?_set_self (by rw [hlen]; exact hv)]
        unfold getS
        rw [List.getD_eq_getElem?_getD, List.getElem?_eq_getElem (by omega)]
        rfl
      · rw [List.getElem?_eq_none (by rw [List.length_set, hlen]; omega), List.getElem?_eq_none (by omega)]
    · rw [List.getElem?_set_ne hj, backE_get old j vs env hl]
      have : j ∈ v :: vs ↔ j ∈ vs := by simp [Ne.symm hj]
      simp only [this]
theorem backE_len (old env : Env) (vs : List Nat) : (backE old env vs).length = env.length := by
  induction vs with
  | nil => rfl
  | cons w ws ih => unfold backE; rw [List.length_set, ih]
/-- behind the block the own names are as they were -/
theorem back_ok {vs : List Nat} (R0 : ER K mg Hf H e1 σ) (nm : ∀ j, j ∈ vs → ¬ Mt e1 j) (R : ER K mg Hf' H' env' (wipe σ vs)) (t : TrS Hf H e1 σ Hf' H' env' (wipe σ vs)) (m : ∀ j, Mt env' j → Mt e1 j) :
    ER K mg Hf' H' (backE e1 env' vs) σ ∧ Tr false Hf H e1 Hf' H' (backE e1 env' vs) σ := by
  have hl := t.len
  have get := fun j => backE_get e1 j vs env' hl.symm
  have mtb : ∀ j, Mt (backE e1 env' vs) j → j ∉ vs ∧ Mt env' j := fun j ⟨d, h⟩ => by
    rw [get j] at h
    by_cases hj : j ∈ vs
    · rw [if_pos hj] at h; exact absurd ⟨d, h⟩ (nm j hj)
    · rw [if_neg hj] at h; exact ⟨hj, d, h⟩
  have sg : ∀ j, j ∉ vs → (wipe σ vs)[j]? = σ[j]? := fun j hj => by rw [wipe_get, if_neg hj]
  refine ⟨⟨R.le, by rw [backE_len, hl, R0.len], fun j d h => ?_, fun j d h => ?_, fun j k b hj hk ej ek => ?_, fun j v h => ?_, R.tab, R.nt⟩, ⟨t.up, by rw [backE_len, hl], fun j h => m j (mtb j h).2, fun j d h => ?_, t.fr, t.new, (fun h => nomatch h), t.there⟩⟩
  · rw [get j] at h
    by_cases hj : j ∈ vs
    · rw [if_pos hj] at h
      obtain ⟨v, e, r⟩ := R0.val j d h
      exact ⟨v, e, r.up t.up⟩
    · rw [if_neg hj] at h
      obtain ⟨v, e, r⟩ := R.val j d h
      exact ⟨v, by rw [← sg j hj]; exact e, r⟩
  · obtain ⟨hj, _⟩ := mtb j ⟨d, h⟩
    rw [get j, if_neg hj] at h
    rw [← sg j hj]
    exact R.mu j d h
  · obtain ⟨hj', mj⟩ := mtb j hj
    obtain ⟨hk', mk⟩ := mtb k hk
    rw [← sg j hj'] at ej
    rw [← sg k hk'] at ek
    exact R.inj j k b mj mk ej ek
  · rw [get j] at h
    by_cases hj : j ∈ vs
    · rw [if_pos hj] at h; exact R0.raw j v h
    · rw [if_neg hj] at h; rw [← sg j hj]; exact R.raw j v h
  · have hj : j ∉ vs := fun z => nm j z ⟨d, .inr h⟩
    rw [get j, if_neg hj]
    exact (t.io j d h).1
theorem Out.up {d : D} {v : V} {fr : Bool} (e : Same Hf Hf') (o : Out K mg Hf H fr d v H') : Out K mg Hf' H fr d v H' := by
  cases o with
  | old h => exact .old (h.up e)
  | tup hp hs => exact .tup hp (hs.up e)
  | lst hp hs => exact .lst hp (hs.up e)
abbrev WF : WX := fun _ _ _ _ => False
theorem compL_step {vs : List Nat} {base : Env} {t : TG} {mc me : Env → RE} {x : D} {xs : List D} {env : Env} {acc : List D} : compL vs base t mc me (x :: xs) env acc = match asg t x env with
    | none => .no
    | some e1 => match mc e1 with
      | .ok (.bl true) _ e2 => match me e2 with
        | .ok d _ e3 => if acc.length < lim then (match wipeE e3 vs with
          | some e4 => compL vs base t mc me xs e4 (acc ++ [d])
          | none => .no) else .no
        | _ => .no
      | .ok (.bl false) _ e2 => (match wipeE e2 vs with
        | some e4 => compL vs base t mc me xs e4 acc
        | none => .no)
      | _ => .no := rfl
theorem lc_ok {vs : List Nat} {t : TG} {pi pe : Bool} {mi : Env → REs} {mc me : Env → RE} (hix : ∀ j ∈ t.ix, j ∈ vs) {σ : St} {H : Hp} {Q : VK}
    (h : tI K mg W true false (fun env => (mi env).bind fun ds e1 => match wipeE e1 vs with
      | none => .no
      | some e2 => (compL vs e1 t mc me ds e2 []).bind fun rs e3 => .ok (.lst rs) true (backE e1 e3 vs)) σ H Q) :
    tLc (tJ K mg W pi mi) (tG K mg t) (tTI K mg WF mc) (tI K mg WF true pe me) vs σ H Q := by
  obtain ⟨Hf, env, R, g⟩ := h
  refine ⟨Hf, env, R, ?_⟩
  dsimp only at g
  cases q : mi env with
  | no => rw [q] at g; exact g.elim
  | ex x e2 => rw [q] at g; exact fun C H2 Hf2 hC R2 t2 => g C H2 Hf2 hC R2 (t2.weak fun h => nomatch h)
  | ok ds e1 =>
    rw [q] at g
    refine fun J H1 Hf1 R1 t1 wd Dd hD => ?_
    cases hw : wipeE e1 vs with
    | none =>
      have g : GE K mg W true false Hf H env σ Q (match wipeE e1 vs with
        | none => .no
        | some e2 => (compL vs e1 t mc me ds e2 []).bind fun rs e3 => .ok (.lst rs) true (backE e1 e3 vs)) := g
      rw [hw] at g; exact g.elim
    | some e2 =>
      have g : GE K mg W true false Hf H env σ Q (match wipeE e1 vs with
        | none => .no
        | some e2 => (compL vs e1 t mc me ds e2 []).bind fun rs e3 => .ok (.lst rs) true (backE e1 e3 vs)) := g
      rw [hw] at g
      have g : GE K mg W true false Hf H env σ Q ((compL vs e1 t mc me ds e2 []).bind fun rs e3 => .ok (.lst rs) true (backE e1 e3 vs)) := g
      obtain ⟨RD, tD⟩ := R1.grow (pu := true) (o := .lst []) hD
      have hFD := R1.freshF hD
      have nD := R1.fresh (noT_none hD)
      obtain ⟨R2, t2, m2, nm, _⟩ := wipeE_ok hw RD
      have t02 := tD.s.trans t2
      refine lc_it wd (fun i H' => ∃ Hf' e acc ws, ER K mg Hf' H' e (wipe σ vs) ∧ TrS Hf1 H1 e1 σ Hf' H' e (wipe σ vs) ∧ (∀ j, Mt e j → Mt e1 j) ∧ H' Dd = some (.lst ws) ∧ Reps K mg Hf' acc ws ∧ Hf' Dd = none ∧ ¬ OwnAt e (wipe σ vs) Dd ∧
          GE K mg W true false Hf H env σ Q ((compL vs e1 t mc me (ds.drop i) e acc).bind fun rs e3 => .ok (.lst rs) true (backE e1 e3 vs)))
        ⟨Hf1, e2, [], [], R2, t02, fun j h => (m2 j h).1, upd_same, .nil, hFD, fun z => ?_, by rw [List.drop_zero]; exact g⟩ (fun i H' _ ⟨Hf', e, acc, ws, Re, te, _⟩ => te.up.trans Re.le) ?_ ?_
      · rcases t02.own Dd z with z | z
        · exact nD z
        · exact absurd z (by
            have := R2.fresh (a := Dd)
            intro _
            exact nD (by
              obtain ⟨j, mj, ej⟩ := ‹OwnAt e2 (wipe σ vs) Dd›
              obtain ⟨mj1, hj⟩ := m2 j mj
              rw [wipe_get, if_neg hj] at ej
              exact ⟨j, mj1, ej⟩))
      · rintro i x H2 H3 hi ⟨Hf2, e, acc, ws, Re, te, me1, hDe, ra, hFe, nDe, g⟩ ⟨d, hd, o⟩
        have hdr : ds.drop i = d :: ds.drop (i + 1) := by
          obtain ⟨hlt, e⟩ := List.getElem?_eq_some_iff.mp hd
          rw [List.drop_eq_getElem_cons hlt, e]
        rw [hdr, compL_step] at g
        obtain ⟨Hf3, R3, t3, z3⟩ := (o.up te.up).done Re
        have r3 : Rep K mg Hf3 d x := by
          unfold VR at z3
          simpa using z3
        cases qa : asg t d e with
        | none => rw [qa] at g; exact g.elim
        | some e3 =>
          rw [qa] at g
          refine ⟨Hf3, e, d, e3, R3, r3, qa, fun σ4 R4 t4 m4 n4 => ⟨?_, Hf3, e3, R4, ?_⟩⟩
          · have hl : σ4.length = (wipe σ vs).length := by rw [← R4.len, t4.len, R3.len]
            rw [wipe_same hl fun j hj => n4 j fun z => hj (hix j z), wipe_wipe]
          have hl4 : wipe σ4 vs = wipe σ vs := by
            have hl : σ4.length = (wipe σ vs).length := by rw [← R4.len, t4.len, R3.len]
            rw [wipe_same hl fun j hj => n4 j fun z => hj (hix j z), wipe_wipe]
          have T4 := te.trans (t3.s.trans t4)
          have M4 : ∀ j, Mt e3 j → Mt e1 j := fun j h => me1 j (m4 j h)
          have own4 : ∀ {e' σ'} {Hx Hy : Hp}, TrS Hf1 H1 e1 σ Hx Hy e' σ' → (∀ j, Mt e' j → Mt e1 j) → ER K mg Hx Hy e' σ' → OwnAt e' σ' Dd → OwnAt e' σ' Dd := fun _ _ _ z => z
          have nD4 : ¬ OwnAt e3 σ4 Dd := fun z => by
            rcases (t3.s.trans t4).own Dd z with y | y
            · exact nDe y
            · rw [noT_some hDe (fun ps z => nomatch z)] at y; cases y
          have hD3 : H3 Dd = some (.lst ws) := t3.fr Dd _ hDe (fun ps z => nomatch z) nDe
          have hF3 : Hf3 Dd = none := by
            cases y : Hf3 Dd with
            | none => rfl
            | some o' =>
              rcases t3.new Dd (by rw [y]; simp) with z | z | z
              · exact absurd hFe z
              · rw [noC_some hDe (fun ps z => nomatch z) (fun _ => lst_code)] at z; cases z
              · exact absurd z nDe
          -- a step of the block keeps the new list
          have stp : ∀ {b : Bool} {Hx Hy : Hp} {e' : Env}, Tr b Hf3 H3 e3 Hx Hy e' σ4 → ER K mg Hx Hy e' σ4 → TrS Hf1 H1 e1 σ Hx Hy e' σ4 ∧ (∀ j, Mt e' j → Mt e1 j) ∧ Hy Dd = some (.lst ws) ∧ Hx Dd = none ∧ ¬ OwnAt e' σ4 Dd := fun {b Hx Hy e'} t r => by
            refine ⟨T4.trans t.s, fun j h => M4 j (t.mt j h), t.fr Dd _ hD3 (fun ps z => nomatch z) nD4, ?_, fun z => nD4 (z.back t.mt)⟩
            cases y : Hx Dd with
            | none => rfl
            | some o' =>
              rcases t.new Dd (by rw [y]; simp) with z | z | z
              · exact absurd hF3 z
              · rw [noC_some hD3 (fun ps z => nomatch z) (fun _ => lst_code)] at z; cases z
              · exact absurd z nD4
          -- the turn's end
          have endT : ∀ {Hx Hy : Hp} {e' e4 : Env} {acc' : List D} {ws' : List V}, ER K mg Hx Hy e' σ4 → TrS Hf1 H1 e1 σ Hx Hy e' σ4 → (∀ j, Mt e' j → Mt e1 j) → Hy Dd = some (.lst ws') → Hx Dd = none → ¬ OwnAt e' σ4 Dd → Reps K mg Hx acc' ws' → wipeE e' vs = some e4 →
              GE K mg W true false Hf H env σ Q ((compL vs e1 t mc me (ds.drop (i + 1)) e4 acc').bind fun rs e3 => .ok (.lst rs) true (backE e1 e3 vs)) →
              ∃ Hf' e acc ws, ER K mg Hf' Hy e (wipe σ vs) ∧ TrS Hf1 H1 e1 σ Hf' Hy e (wipe σ vs) ∧ (∀ j, Mt e j → Mt e1 j) ∧ Hy Dd = some (.lst ws) ∧ Reps K mg Hf' acc ws ∧ Hf' Dd = none ∧ ¬ OwnAt e (wipe σ vs) Dd ∧
                GE K mg W true false Hf H env σ Q ((compL vs e1 t mc me (ds.drop (i + 1)) e acc).bind fun rs e3 => .ok (.lst rs) true (backE e1 e3 vs)) := fun {Hx Hy e' e4 acc' ws'} r tr mm a1 a2 a3 a4 w g => by
            obtain ⟨R5, t5, m5, _, _⟩ := wipeE_ok w r
            rw [hl4] at R5 t5
            refine ⟨Hx, e4, acc', ws', R5, tr.trans t5, fun j h => mm j (m5 j h).1, a1, a4, a2, fun z => ?_, g⟩
            rcases t5.own Dd z with y | y
            · exact a3 y
            · rw [noT_some a1 (fun ps z => nomatch z)] at y; cases y
          cases qc : mc e3 with
          | no => simp only [qc] at g; exact g.elim
          | ex x e4 => simp only [qc] at g; exact g.elim
          | ok c fc e4 =>
            simp only [qc] at g
            cases c <;> try exact g.elim
            rename_i b
            refine fun H4 Hf4 R5 t5 => ?_
            obtain ⟨a1, a2, a3, a4, a5⟩ := stp t5 R5
            cases b with
            | false =>
              rw [if_neg Bool.false_ne_true]
              cases qw : wipeE e4 vs with
              | none => simp only [qw] at g; exact g.elim
              | some e5 =>
                simp only [qw] at g
                exact endT R5 a1 a2 a3 a4 a5 ((ra.up t3.up).up t5.up) qw g
            | true =>
              rw [if_pos rfl]
              refine ⟨Hf4, e4, R5, ?_⟩
              cases qe : me e4 with
              | no => simp only [qe] at g; exact g.elim
              | ex x e4 => simp only [qe] at g; exact g.elim
              | ok dy fy e5 =>
                simp only [qe] at g
                refine fun y H5 Hf5 R6 t6 z6 => ?_
                obtain ⟨Hf6, R6, t6, z6⟩ := stab R5 R6 t6 z6
                obtain ⟨b1, b2, b3, b4, b5⟩ := stp (t5.trans t6) R6
                by_cases hac : acc.length < lim
                · simp only [hac, if_true] at g
                  have ra6 : Reps K mg Hf6 acc ws := ((ra.up t3.up).up t5.up).up t6.up
                  cases qw : wipeE e5 vs with
                  | none => simp only [qw] at g; exact g.elim
                  | some e6 =>
                    simp only [qw] at g
                    refine ⟨ws, b3, by rw [← ra.length]; exact Nat.lt_of_lt_of_le hac (lim_line (Nat.le_refl _)), ?_⟩
                    refine endT (R6.updN b4 b5 (lst_not b3)) ⟨b1.up, b1.len, b1.own, b1.io, fun a o h x n => ?_, b1.new, fun a h => ?_⟩ b2 upd_same b4 b5 (ra6.app (Reps.one z6)) qw g
                    · have ha : a ≠ Dd := fun z => by rw [z, hD] at h; cases h
                      rw [upd_ne ha]; exact b1.fr a o h x n
                    · by_cases ha : a = Dd
                      · rw [ha, noT_some (o := .lst (ws ++ [y])) upd_same (fun ps z => nomatch z)]; simp
                      · have e := b1.there a h
                        unfold noT at e ⊢
                        rw [upd_ne ha]; exact e
                · simp only [hac, if_false] at g; exact g.elim
      · rintro H3 ⟨Hf2, e, acc, ws, Re, te, me1, hDe, ra, hFe, nDe, g⟩
        rw [List.drop_length] at g
        have g : GE K mg W true false Hf H env σ Q (.ok (.lst acc) true (backE e1 e vs)) := g
        obtain ⟨Rb, tb⟩ := back_ok R1 nm Re te me1
        refine g _ _ _ Rb (t1.trans tb |>.weak fun h => nomatch h) ?_
        unfold VR
        rw [if_pos rfl]
        refine ⟨Dd, rfl, ?_, hFe, .lst hDe ra⟩
        cases y : noT H Dd with
        | none => rfl
        | some o => exact absurd (noT_none hD) (t1.there Dd (by rw [y]; simp))
theorem s_comp {tg iter elt : Expr} {ifs : List Expr} {scope : Scope} {own : List (Str × Nat)} {t : TG} {pi pe : Bool} {mi : Env → REs} {mc me : Env → RE} (hc : X.calm = true) (hN : X.N.Nodup) (hi : PI X tg iter (tJ X.K X.mg W pi mi)) (ok : BlkOk X.N X.env.scope scope own) (hix : ∀ j ∈ t.ix, j ∈ own.map (·.2))
    (hg : ∀ (s : Shared) (H : Hp) (C : Addr) (cl : List (Str × Addr)) (fp : List Addr), PG (X.blk s H scope (compEnvC scope cl C X.env) fp) tg (tG X.K X.mg t)) (ht : ∀ (s : Shared) (H : Hp) (C : Addr) (cl : List (Str × Addr)) (fp : List Addr), PTs (X.blk s H scope (compEnvC scope cl C X.env) fp) ifs (tTI X.K X.mg WF mc))
    (he : ∀ (s : Shared) (H : Hp) (C : Addr) (cl : List (Str × Addr)) (fp : List Addr), PE (X.blk s H scope (compEnvC scope cl C X.env) fp) elt (tI X.K X.mg WF true pe me)) (hs : ∀ x, foldedSetIterable iter X.env x = pure x) :
    PE X (.ListComp elt [⟨tg, iter, ifs, 0⟩] scope pos) (tI X.K X.mg W true false fun env => (mi env).bind fun ds e1 => match wipeE e1 (own.map (·.2)) with
      | none => .no
      | some e2 => (compL (own.map (·.2)) e1 t mc me ds e2 []).bind fun rs e3 => .ok (.lst rs) true (backE e1 e3 (own.map (·.2)))) :=
  PE.imp (pe_lc hc hN hi ok hg ht he hs) fun σ H Q h => lc_ok hix h
end
end Cor
set_option Elab.async false
set_option linter.all false
set_option maxRecDepth 100000
set_option maxHeartbeats 2000000
/-! Cor9: statements. -/
namespace Cor
open PySem PySem.Spec L2
variable [LamDefs]

section
variable (K : PySem.W.Frag) (mg : Str → Option Value) (W : WX)
/-- what is handed back: new, or owned so far and let go -/
def RV (fr : Bool) (d : D) (v : V) (H : Hp) (env : Env) (σ : St) (Hf' H' : Hp) (env' : Env) (σ' : St) : Prop :=
  if fr = true then ∃ p, v = .ref p ∧ (noT H p = none ∨ OwnAt env σ p) ∧ ¬ OwnAt env' σ' p ∧ Hf' p = none ∧ Cont K mg Hf' H' d p else Rep K mg Hf' d v
def GS (Hf H : Hp) (env : Env) (σ : St) (D : Ends) : RS → Prop
  | .nx e => ∀ σ' H' Hf', ER K mg Hf' H' e σ' → TrS Hf H env σ Hf' H' e σ' → D.nx σ' H'
  | .rt d fr e => ∀ v σ' H' Hf', ER K mg Hf' H' e σ' → TrS Hf H env σ Hf' H' e σ' → RV K mg fr d v H env σ Hf' H' e σ' → D.rt v H'
  | .bk e => ∀ σ' H' Hf', ER K mg Hf' H' e σ' → TrS Hf H env σ Hf' H' e σ' → D.bk σ' H'
  | .ct e => ∀ σ' H' Hf', ER K mg Hf' H' e σ' → TrS Hf H env σ Hf' H' e σ' → D.ct σ' H'
  | .ex c e => ∀ C σ' H' Hf', mg c.cls = some (.ref C) → ER K mg Hf' H' e σ' → TrS Hf H env σ Hf' H' e σ' → W (.ref C) none σ' H'
  | .no => False
def tS (m : Env → RS) : TS := fun D σ H => ∃ Hf env, ER K mg Hf H env σ ∧ GS K mg W Hf H env σ D (m env)
end
theorem PSs.imp {X : Cx} {e : List Stmt} {t t' : TS} (h : PSs X e t) (i : ∀ D σ H, t' D σ H → t D σ H) : PSs X e t' := ⟨fun pins s σ H D I q => h.run pins s σ H D I (i D σ H q)⟩

section
variable {K : PySem.W.Frag} {mg : Str → Option Value} {W : WX} {H H1 H2 H' Hf Hf1 Hf2 Hf' : Hp} {env e1 e2 env' : Env} {σ σ1 σ' : St} {d : D} {v : V} {pu p1 fr st st1 : Bool} {Q : VK} {D : Ends} {i : Nat}
theorem RV.back {H0 Hf0 : Hp} {env0 : Env} {σ0 : St} (t : TrS Hf0 H0 env0 σ0 Hf H env σ) (h : RV K mg fr d v H env σ Hf' H' env' σ') : RV K mg fr d v H0 env0 σ0 Hf' H' env' σ' := by
  unfold RV at h ⊢
  cases fr with
  | false => exact h
  | true =>
    rw [if_pos rfl] at h ⊢
    obtain ⟨p, e, hp, r⟩ := h
    refine ⟨p, e, ?_, r⟩
    rcases hp with hp | hp
    · refine .inl ?_
      cases q : noT H0 p with
      | none => rfl
      | some o => exact absurd hp (t.there p (by rw [q]; simp))
    · exact (t.own p hp).symm
theorem GS.chain {r : RS} (g : GS K mg W Hf H env σ D r) (t : TrS Hf H env σ Hf1 H1 e1 σ1) : GS K mg W Hf1 H1 e1 σ1 D r := by
  cases r with
  | nx e => exact fun σ' H' Hf' a b => g σ' H' Hf' a (t.trans b)
  | rt d fr e => exact fun v σ' H' Hf' a b c => g v σ' H' Hf' a (t.trans b) (c.back t)
  | bk e => exact fun σ' H' Hf' a b => g σ' H' Hf' a (t.trans b)
  | ct e => exact fun σ' H' Hf' a b => g σ' H' Hf' a (t.trans b)
  | ex c e => exact fun C σ' H' Hf' h a b => g C σ' H' Hf' h a (t.trans b)
  | no => exact g
/-- an expression ahead -/
theorem GS.first {r : RE} {k : Cor.D → Bool → Env → RS} {Q1 : VK} (g : GS K mg W Hf H env σ D (r.bindS k))
    (c : ∀ d fr e2 v H2 Hf2, r = .ok d fr e2 → ER K mg Hf2 H2 e2 σ → Tr p1 Hf H env Hf2 H2 e2 σ → VR K mg fr st1 d v H Hf2 H2 → GS K mg W Hf H env σ D (k d fr e2) → Q1 v H2) : GE K mg W st1 p1 Hf H env σ Q1 r := by
  cases r with
  | ok d fr e2 => exact fun v H2 Hf2 a b z => c d fr e2 v H2 Hf2 rfl a b z g
  | ex x e2 => exact fun C H2 Hf2 hC a b => g C σ H2 Hf2 hC a b.s
  | no => exact g.elim
/-- .. not the first -/
theorem GS.next {r : RE} {k : Cor.D → Bool → Env → RS} {Q1 : VK} (g : GS K mg W Hf H env σ D (r.bindS k)) (t : TrS Hf H env σ Hf1 H1 e1 σ1)
    (c : ∀ d fr e2 v H2 Hf2, r = .ok d fr e2 → ER K mg Hf2 H2 e2 σ1 → Tr p1 Hf1 H1 e1 Hf2 H2 e2 σ1 → VR K mg fr st1 d v H1 Hf2 H2 → GS K mg W Hf1 H1 e1 σ1 D (k d fr e2) → Q1 v H2) : GE K mg W st1 p1 Hf1 H1 e1 σ1 Q1 r :=
  (g.chain t).first c
theorem GS.test {r : RE} {k : Cor.D → Bool → Env → RS} {Q1 : Bool → Hp → Prop} (g : GS K mg W Hf H env σ D (r.bindS k)) (hb : ∀ d fr e2, r = .ok d fr e2 → (∃ b, d = .bl b) ∨ k d fr e2 = .no)
    (c : ∀ b fr e2 H2 Hf2, r = .ok (.bl b) fr e2 → ER K mg Hf2 H2 e2 σ → Tr false Hf H env Hf2 H2 e2 σ → GS K mg W Hf H env σ D (k (.bl b) fr e2) → Q1 b H2) : GT K mg W Hf H env σ Q1 r := by
  cases r with
  | no => exact g.elim
  | ex x e2 => exact fun C H2 Hf2 hC a b => g C σ H2 Hf2 hC a b.s
  | ok d fr e2 =>
    rcases hb d fr e2 rfl with ⟨b, rfl⟩ | q
    · exact fun H2 Hf2 R2 t2 => c b fr e2 H2 Hf2 rfl R2 t2 g
    · have g : GS K mg W Hf H env σ D (k d fr e2) := g
      rw [q] at g; exact g.elim
theorem putS_inv {i : Nat} {d : Cor.D} {fr : Bool} {r : RS} (h : putS env i d fr = r) : r = .no ∨ noIo env i ∧ r = .nx (env.set i (if fr = true then .own d else .val d)) := by
  unfold putS at h
  cases q : getS env i <;> rw [q] at h <;> first
    | exact .inl h.symm
    | exact .inr ⟨noIo_of q (by intro d; simp), h.symm⟩
/-- a slot is set -/
theorem GS.put {Hs H0 : Hp} {env0 : Env} {σ0 : St} (g : GS K mg W Hs H0 env0 σ0 D (putS env i d fr)) (t : TrS Hs H0 env0 σ0 Hf H env σ) (R : ER K mg Hf H env σ) (no : ∀ p, noT H0 p = none → fr = true → v = .ref p → ¬ OwnAt env σ p) (z : VR K mg fr true d v H0 Hf H) : D.nx (σ.set i (some v)) H := by
  rcases putS_inv (rfl : putS env i d fr = _) with q | ⟨hio, q⟩
  · rw [q] at g; exact g.elim
  · rw [q] at g
    unfold VR at z
    cases fr with
    | false =>
      rw [if_neg Bool.false_ne_true] at g z
      obtain ⟨R', t', _⟩ := R.setS (s := .val d) (o := some v) (i := i) (.inr ⟨d, v, rfl, rfl, by simpa using z⟩) hio
      exact g _ _ _ R' (t.trans t')
    | true =>
      rw [if_pos rfl] at g z
      obtain ⟨p, rfl, hp, hn, c⟩ := z
      obtain ⟨R', t'⟩ := R.setO hn c (no p hp rfl rfl) hio t hp
      exact g _ _ _ R' t'
theorem set_ok {m : Env → RE} (h : tS K mg W (fun env => (m env).bindS fun d fr e1 => putS e1 i d fr) D σ H) : tI K mg W true false m σ H fun x H1 => D.nx (σ.set i (some x)) H1 := by
  obtain ⟨Hf, env, R, g⟩ := h
  exact ⟨Hf, env, R, g.first fun d fr e2 v H2 Hf2 _ R2 t2 z2 g2 => g2.put t2.s R2 (fun p hp _ _ q => R.fresh hp (q.back t2.mt)) z2⟩
end

section
variable {X : Cx} {W : WX} {a b c e tg : Expr} {es : List Expr} {pos p : Pos} {m ma mb mc : Env → RE} {ms mt : Env → RS} {st sa sb pa pb pc pu : Bool} {i j : Nat}
theorem s_expr (he : PE X e (tI X.K X.mg W sa pa m)) (hs : swapsWith e none pos.line X.env = pure false) : PS X (.Expr e pos) (tS X.K X.mg W fun env => (m env).bindS fun _ _ e1 => .nx e1) :=
  PS.imp (ps_expr he hs) fun D σ H ⟨Hf, env, R, g⟩ => ⟨Hf, env, R, g.first fun d fr e2 v H2 Hf2 _ R2 t2 z2 g2 => g2 σ H2 Hf2 R2 t2.s⟩
theorem s_ret (he : PE X e (tI X.K X.mg W true pa m)) : PS X (.Return (some e) pos) (tS X.K X.mg W fun env => (m env).bindS fun d fr e1 => .rt d fr e1) := by
  refine PS.imp (ps_ret he) fun D σ H ⟨Hf, env, R, g⟩ => ⟨Hf, env, R, g.first fun d fr e2 v H2 Hf2 _ R2 t2 z2 g2 => g2 v σ H2 Hf2 R2 t2.s ?_⟩
  unfold VR at z2
  unfold RV
  cases fr with
  | false => simpa using z2
  | true =>
    rw [if_pos rfl] at z2 ⊢
    obtain ⟨p, e, hp, r⟩ := z2
    exact ⟨p, e, .inl hp, fun q => R.fresh hp (q.back t2.mt), r⟩
theorem s_retN : PS X (.Return none pos) (tS X.K X.mg W fun env => .rt .non false env) :=
  PS.imp ps_retN fun D σ H ⟨Hf, env, R, g⟩ => g .non σ H Hf R TrS.refl (by unfold RV; exact .non)
/-- a slot is let go -/
theorem ER.drop {K : PySem.W.Frag} {mg : Str → Option Value} {H Hf : Hp} {env : Env} {σ : St} (R : ER K mg Hf H env σ) (hio : noIo env i) : ER K mg Hf H (env.set i .no) σ ∧ TrS Hf H env σ Hf H (env.set i .no) σ ∧ ∀ j, Mt (env.set i .no) j → j ≠ i ∧ Mt env j := by
  have ms := fun j => mt_set (env := env) (i := i) (s := .no) (.inl rfl) (j := j)
  have sub : ∀ j w, (env.set i .no)[j]? = some w → w ≠ .no → j ≠ i ∧ env[j]? = some w := fun j w h hw => by
    by_cases hj : i = j
    · subst hj
      by_cases hi : i < env.length
      · rw [List.getElem?_set_self hi] at h; cases h; exact absurd rfl hw
      · rw [List.getElem?_eq_none (by simpa using hi)] at h; cases h
    · rw [List.getElem?_set_ne hj] at h; exact ⟨Ne.symm hj, h⟩
  refine ⟨⟨R.le, by rw [List.length_set]; exact R.len, fun j d h => R.val j d (sub j _ h (by simp)).2, fun j d h => R.mu j d (by rcases h with h | h; exact .inl (sub j _ h (by simp)).2; exact .inr (sub j _ h (by simp)).2), fun j k b hj hk => R.inj j k b (ms j hj).2 (ms k hk).2, fun j v h => R.raw j v (sub j _ h (by simp)).2, R.tab, R.nt⟩,
    ⟨Same.refl _, List.length_set, fun a ⟨j, m, e⟩ => .inl ⟨j, (ms j m).2, e⟩, fun j d h => ⟨⟨d, ?_⟩, rfl⟩, fun _ _ q _ _ => q, fun _ q => .inl q, fun _ q => q⟩, ms⟩
  by_cases hj : i = j
  · subst hj; exact absurd h (hio d)
  · rw [List.getElem?_set_ne hj]; exact h
theorem s_retV {e : Expr} (h : PE X e (tVar i)) : PS X (.Return (some e) pos) (tS X.K X.mg W fun env => match getS env i with
    | .own d => .rt d true (env.set i .no)
    | .val d => .rt d false env
    | _ => .no) := by
  refine PS.imp (ps_ret h) fun D σ H ⟨Hf, env, R, g⟩ => ?_
  dsimp only at g
  cases q : getS env i with
  | no => rw [q] at g; exact g.elim
  | raw d => rw [q] at g; exact g.elim
  | io d => rw [q] at g; exact g.elim
  | val d =>
    rw [q] at g
    obtain ⟨v, e1, r⟩ := R.val i d (getS_lt q (by simp))
    exact ⟨v, e1, g v σ H Hf R TrS.refl (by unfold RV; simpa using r)⟩
  | own d =>
    rw [q] at g
    have hi := getS_lt q (by simp)
    obtain ⟨a, e1, n, c⟩ := R.mu i d (.inl hi)
    obtain ⟨R', t', m'⟩ := R.drop (i := i) (noIo_of q (by intro d; simp))
    refine ⟨_, e1, g _ σ H Hf R' t' ?_⟩
    unfold RV
    rw [if_pos rfl]
    refine ⟨a, rfl, .inr ⟨i, ⟨d, .inl hi⟩, e1⟩, fun ⟨j, m, ej⟩ => ?_, n, c⟩
    obtain ⟨hj, mj⟩ := m' j m
    exact hj (R.inj j i a mj ⟨d, .inl hi⟩ ej e1)
theorem s_pass : PS X (.Pass pos) (tS X.K X.mg W fun env => .nx env) := PS.imp ps_pass fun D σ H ⟨Hf, env, R, g⟩ => g σ H Hf R TrS.refl
theorem s_brk : PS X (.Break pos) (tS X.K X.mg W fun env => .bk env) := PS.imp ps_break fun D σ H ⟨Hf, env, R, g⟩ => g σ H Hf R TrS.refl
theorem s_cnt : PS X (.Continue pos) (tS X.K X.mg W fun env => .ct env) := PS.imp ps_continue fun D σ H ⟨Hf, env, R, g⟩ => g σ H Hf R TrS.refl
/-! ### blocks -/
theorem ss_nil : PSs X [] (tS X.K X.mg W fun env => .nx env) := PSs.imp pss_nil fun D σ H ⟨Hf, env, R, g⟩ => g σ H Hf R TrS.refl
theorem ss_cons {s : Stmt} {ss : List Stmt} (h1 : PS X s (tS X.K X.mg W ms)) (h2 : PSs X ss (tS X.K X.mg W mt)) : PSs X (s :: ss) (tS X.K X.mg W fun env => match ms env with
    | .nx e1 => mt e1
    | r => r) := by
  refine PSs.imp (pss_cons h1 h2) fun D σ H ⟨Hf, env, R, g⟩ => ⟨Hf, env, R, ?_⟩
  dsimp only at g
  cases q : ms env with
  | nx e1 =>
    rw [q] at g
    exact fun σ' H' Hf' R' t' => ⟨Hf', e1, R', g.chain t'⟩
  | rt d fr e => rw [q] at g; exact g
  | bk e => rw [q] at g; exact g
  | ct e => rw [q] at g; exact g
  | ex c e => rw [q] at g; exact g
  | no => rw [q] at g; exact g
theorem s_ifs {A B : List Stmt} (hc : PT X c (tTI X.K X.mg W mc)) (ha : PSs X A (tS X.K X.mg W ms)) (hb : PSs X B (tS X.K X.mg W mt)) : PS X (.If c A B pos) (tS X.K X.mg W fun env => (mc env).bindS fun x _ e1 => match x with
    | .bl true => ms e1
    | .bl false => mt e1
    | _ => .no) := by
  refine PS.imp (ps_if hc ha hb) fun D σ H ⟨Hf, env, R, g⟩ => ⟨Hf, env, R, g.test (fun d fr e2 _ => ?_) fun b fr e2 H2 Hf2 _ R2 t2 g2 => ?_⟩
  · cases d <;> first | exact .inl ⟨_, rfl⟩ | exact .inr rfl
  · cases b with
    | true => exact iteT ⟨Hf2, e2, R2, g2.chain t2.s⟩
    | false => exact iteF ⟨Hf2, e2, R2, g2.chain t2.s⟩
/-! ### stores -/
theorem s_set {x : Str} (hN : X.N.Nodup) (hi : X.N[i]? = some x) (hx : Loc X.env.scope x) (he : PE X e (tI X.K X.mg W true false m)) (hs : swapsWith e (some (.Name x p)) pos.line X.env = pure false) (hf : X.fn x = true ∨ X.env.scope.names.lookup x = some .local) :
    PS X (.Assign [.Name x p] e pos) (tS X.K X.mg W fun env => (m env).bindS fun d fr e1 => putS e1 i d fr) :=
  PS.imp (ps_set hN hi hx he hs hf) fun D σ H h => set_ok h
theorem s_setLc {y : Str} {py : Pos} {tg iter elt : Expr} {ifs : List Expr} {scope : Scope} {own : List (Str × Nat)} {spos : Pos} {t : TG} {pi pe : Bool} {mi : Env → REs} {mc me : Env → RE} (hc : X.calm = true) (hN : X.N.Nodup) (hy : X.N[i]? = some y) (hyl : X.env.scope.names.lookup y = some .local)
    (hsw : swapsWith (.ListComp elt [⟨tg, iter, ifs, 0⟩] scope pos) (some (.Name y py)) spos.line X.env = pure true) (hi : PI X tg iter (tJ X.K X.mg W pi mi)) (ok : BlkOk X.N X.env.scope scope own) (hix : ∀ j ∈ t.ix, j ∈ own.map (·.2))
    (hg : ∀ (s : Shared) (H : Hp) (C : Addr) (cl : List (Str × Addr)) (fp : List Addr), PG (X.blk s H scope (compEnvC scope cl C X.env) fp) tg (tG X.K X.mg t)) (ht : ∀ (s : Shared) (H : Hp) (C : Addr) (cl : List (Str × Addr)) (fp : List Addr), PTs (X.blk s H scope (compEnvC scope cl C X.env) fp) ifs (tTI X.K X.mg WF mc))
    (he : ∀ (s : Shared) (H : Hp) (C : Addr) (cl : List (Str × Addr)) (fp : List Addr), PE (X.blk s H scope (compEnvC scope cl C X.env) fp) elt (tI X.K X.mg WF true pe me)) (hs : ∀ x, foldedSetIterable iter X.env x = pure x) :
    PS X (.Assign [.Name y py] (.ListComp elt [⟨tg, iter, ifs, 0⟩] scope pos) spos) (tS X.K X.mg W fun env => (((mi env).bind fun ds e1 => match wipeE e1 (own.map (·.2)) with
      | none => .no
      | some e2 => (compL (own.map (·.2)) e1 t mc me ds e2 []).bind fun rs e3 => .ok (.lst rs) true (backE e1 e3 (own.map (·.2))))).bindS fun d fr e1 => putS e1 i d fr) :=
  PS.imp (ps_setLc hc hN hy hyl hsw hi ok hg ht he hs) fun D σ H h => lc_ok hix (set_ok (m := fun env => ((mi env).bind fun ds e1 => match wipeE e1 (own.map (·.2)) with
      | none => .no
      | some e2 => (compL (own.map (·.2)) e1 t mc me ds e2 []).bind fun rs e3 => .ok (.lst rs) true (backE e1 e3 (own.map (·.2))))) h)
theorem s_unp {t : TG} (he : PE X e (tI X.K X.mg W true false m)) (hg : PG X tg (tG X.K X.mg t)) (hs : swapsWithSole [tg] e pos.line X.env = pure false) (hw : swappedStores [tg] e X.env = pure none)
    (h1 : (assignEach [tg] X.env).map (·.2) = [assign tg X.env]) : PS X (.Assign [tg] e pos) (tS X.K X.mg W fun env => (m env).bindS fun d _ e1 => nxO (asg t d e1)) := by
  refine PS.imp (ps_asg he hg hs hw h1) fun D σ H ⟨Hf, env, R, g⟩ => ⟨Hf, env, R, g.first fun d fr e2 v H2 Hf2 _ R2 t2 z2 g2 => ?_⟩
  obtain ⟨Hf2, R2, t2, z2⟩ := stab R R2 t2 z2
  cases q : asg t d e2 with
  | none => rw [q] at g2; exact g2.elim
  | some e3 =>
    rw [q] at g2
    exact ⟨Hf2, e2, d, e3, R2, z2, q, fun σ3 R3 t3 _ _ => g2 σ3 H2 Hf2 R3 (t2.s.trans t3)⟩
/-! ### loops -/
theorem forL_cons {f : Cor.D → Env → RS} {x : Cor.D} {xs : List Cor.D} {env : Env} : forL f (x :: xs) env = match f x env with
    | .nx e => forL f xs e
    | .ct e => forL f xs e
    | .bk e => .nx e
    | r => r := rfl
theorem s_for {iter : Expr} {body : List Stmt} {t : TG} {mi : Env → REs} (hp : PassesOwn (model X.prog X.w) X.A X.env X.xe) (hc : X.calm = true) (hi : PI X tg iter (tJ X.K X.mg W pa mi)) (hg : PG X tg (tG X.K X.mg t)) (hb : PSs X body (tS X.K X.mg W ms))
    (hs : ∀ x, foldedSetIterable iter X.env x = pure x) : PS X (.For tg iter body [] pos) (tS X.K X.mg W fun env => (mi env).bindS fun ds e1 => forL (fun x e => match asg t x e with
      | some e2 => ms e2
      | none => .no) ds e1) := by
  refine PS.imp (ps_for hp hc hi hg hb hs) fun D σ H ⟨Hf, env, R, g⟩ => ⟨Hf, env, R, ?_⟩
  dsimp only at g
  cases q : mi env with
  | no => rw [q] at g; exact g.elim
  | ex x e2 => rw [q] at g; exact fun C H2 Hf2 hC R2 t2 => g C σ H2 Hf2 hC R2 t2.s
  | ok ds e1 =>
    rw [q] at g
    refine fun J H1 Hf1 R1 t1 wd => ?_
    have g : GS X.K X.mg W Hf H env σ D (forL (fun x e => match asg t x e with
      | some e2 => ms e2
      | none => .no) ds e1) := g
    refine for_it wd (fun i σ' H' => ∃ Hf' e, ER X.K X.mg Hf' H' e σ' ∧ TrS Hf H env σ Hf' H' e σ' ∧ Same Hf1 Hf' ∧ GS X.K X.mg W Hf H env σ D (forL (fun x e => match asg t x e with
        | some e2 => ms e2
        | none => .no) (ds.drop i) e)) ⟨Hf1, e1, R1, t1.s, Same.refl _, by rw [List.drop_zero]; exact g⟩ (fun i σ' H' _ ⟨Hf', e, Re, te, se, _⟩ => se.trans Re.le) ?_ ?_
    · rintro i x σ2 H2 H3 hi' ⟨Hf2, e, Re, te, se, g⟩ ⟨d, hd, o⟩
      have hdr : ds.drop i = d :: ds.drop (i + 1) := by
        obtain ⟨hlt, e⟩ := List.getElem?_eq_some_iff.mp hd
        rw [List.drop_eq_getElem_cons hlt, e]
      rw [hdr, forL_cons] at g
      obtain ⟨Hf3, R3, t3, z3⟩ := (o.up se).done Re
      have r3 : Rep X.K X.mg Hf3 d x := by
        unfold VR at z3
        simpa using z3
      cases qa : asg t d e with
      | none => rw [qa] at g; exact g.elim
      | some e3 =>
        rw [qa] at g
        refine ⟨Hf3, e, d, e3, R3, r3, qa, fun σ4 R4 t4 m4 n4 => ⟨Hf3, e3, R4, ?_⟩⟩
        have T4 := te.trans (t3.s.trans t4)
        have S4 := se.trans t3.up
        cases qb : ms e3 with
        | nx e4 =>
          simp only [qb] at g
          exact fun σ5 H5 Hf5 R5 t5 => ⟨Hf5, e4, R5, T4.trans t5, S4.trans t5.up, g⟩
        | ct e4 =>
          simp only [qb] at g
          exact fun σ5 H5 Hf5 R5 t5 => ⟨Hf5, e4, R5, T4.trans t5, S4.trans t5.up, g⟩
        | bk e4 => simp only [qb] at g; exact fun σ5 H5 Hf5 R5 t5 => g σ5 H5 Hf5 R5 (T4.trans t5)
        | rt d fr e4 => simp only [qb] at g; exact g.chain T4
        | ex c e4 => simp only [qb] at g; exact g.chain T4
        | no => simp only [qb] at g; exact g.elim
    · rintro σ2 H2 ⟨Hf2, e, Re, te, se, g⟩
      rw [List.drop_length] at g
      exact g σ2 H2 Hf2 Re te
def whlN (c : Env → RE) (f : Env → RS) : Nat → Env → Option RS
  | 0, _ => none
  | n + 1, env => match c env with
    | .ok (.bl true) _ e1 => match f e1 with
      | .nx e => whlN c f n e
      | .ct e => whlN c f n e
      | .bk e => some (.nx e)
      | r => some r
    | .ok (.bl false) _ e1 => some (.nx e1)
    | .ex x e1 => some (.ex x e1)
    | _ => some .no
theorem whl_n {c : Env → RE} {f : Env → RS} : ∀ {env : Env} {r : RS}, whlL c f env = some r → ∃ n, whlN c f n env = some r := by
  refine fun {env r} h => whlL.partial_correctness c f (fun env r => ∃ n, whlN c f n env = some r) ?_ env r h
  clear h r env
  intro L ih env r h
  cases q : c env with
  | no => rw [q] at h; exact ⟨1, by unfold whlN; rw [q]; exact h⟩
  | ex x e1 => rw [q] at h; exact ⟨1, by unfold whlN; rw [q]; exact h⟩
  | ok d fr e1 =>
    rw [q] at h
    cases d with
    | bl b =>
      cases b with
      | false => exact ⟨1, by unfold whlN; rw [q]; exact h⟩
      | true =>
        dsimp only at h
        cases q2 : f e1 with
        | nx e =>
          rw [q2] at h
          obtain ⟨n, hn⟩ := ih _ _ h
          exact ⟨n + 1, by unfold whlN; rw [q]; dsimp only; rw [q2]; exact hn⟩
        | ct e =>
          rw [q2] at h
          obtain ⟨n, hn⟩ := ih _ _ h
          exact ⟨n + 1, by unfold whlN; rw [q]; dsimp only; rw [q2]; exact hn⟩
        | bk e => rw [q2] at h; exact ⟨1, by unfold whlN; rw [q]; dsimp only; rw [q2]; exact h⟩
        | rt _ _ _ => rw [q2] at h; exact ⟨1, by unfold whlN; rw [q]; dsimp only; rw [q2]; exact h⟩
        | ex _ _ => rw [q2] at h; exact ⟨1, by unfold whlN; rw [q]; dsimp only; rw [q2]; exact h⟩
        | no => rw [q2] at h; exact ⟨1, by unfold whlN; rw [q]; dsimp only; rw [q2]; exact h⟩
    | _ => exact ⟨1, by unfold whlN; rw [q]; exact h⟩
theorem s_whl {body : List Stmt} (hp : PassesOwn (model X.prog X.w) X.A X.env X.xe) (hc : PT X c (tTI X.K X.mg W mc)) (hb : PSs X body (tS X.K X.mg W ms)) : PS X (.While c body [] pos) (tS X.K X.mg W fun env => (whlL mc ms env).getD .no) := by
  refine PS.imp (ps_while hp hc hb) fun D σ H ⟨Hf, env, R, g⟩ => ?_
  dsimp only at g
  cases q : whlL mc ms env with
  | none => rw [q] at g; exact g.elim
  | some r =>
    rw [q] at g
    obtain ⟨n, hn⟩ := whl_n q
    have g : GS X.K X.mg W Hf H env σ D r := g
    refine ⟨fun m σ' H' => ∃ Hf' e, ER X.K X.mg Hf' H' e σ' ∧ TrS Hf H env σ Hf' H' e σ' ∧ whlN mc ms m e = some r, ⟨n, Hf, env, R, TrS.refl, hn⟩, ?_⟩
    rintro m σ' H' ⟨Hf', e, Re, te, hm⟩
    cases m with
    | zero => cases hm
    | succ m =>
      unfold whlN at hm
      refine ⟨Hf', e, Re, ?_⟩
      cases qc : mc e with
      | no =>
        simp only [qc] at hm
        cases hm; exact g.elim
      | ex x e1 =>
        simp only [qc] at hm
        cases hm
        exact fun C H2 Hf2 hC R2 t2 => g C σ' H2 Hf2 hC R2 (te.trans t2.s)
      | ok d fr e1 =>
        simp only [qc] at hm
        cases d with
        | bl b =>
          refine fun H2 Hf2 R2 t2 => ?_
          cases b with
          | false =>
            rw [if_neg Bool.false_ne_true]
            dsimp only at hm
            cases hm
            exact g σ' H2 Hf2 R2 (te.trans t2.s)
          | true =>
            rw [if_pos rfl]
            dsimp only at hm
            refine ⟨fun σ'' H'' => ∃ Hf'' e', ER X.K X.mg Hf'' H'' e' σ'' ∧ TrS Hf H env σ Hf'' H'' e' σ'' ∧ whlN mc ms m e' = some r, fun σ'' H'' z => ⟨m, Nat.lt_succ_self _, z⟩, Hf2, e1, R2, ?_⟩
            have T := te.trans t2.s
            cases qb : ms e1 with
            | nx e2 => rw [qb] at hm; exact fun σ5 H5 Hf5 R5 t5 => ⟨Hf5, e2, R5, T.trans t5, hm⟩
            | ct e2 => rw [qb] at hm; exact fun σ5 H5 Hf5 R5 t5 => ⟨Hf5, e2, R5, T.trans t5, hm⟩
            | bk e2 => rw [qb] at hm; cases hm; exact fun σ5 H5 Hf5 R5 t5 => g σ5 H5 Hf5 R5 (T.trans t5)
            | rt d fr e2 => rw [qb] at hm; cases hm; exact g.chain T
            | ex x e2 => rw [qb] at hm; cases hm; exact g.chain T
            | no => rw [qb] at hm; cases hm; exact g.elim
        | _ => dsimp only at hm; cases hm; exact g.elim
end
end Cor
set_option Elab.async false
set_option linter.all false
set_option maxRecDepth 100000
set_option maxHeartbeats 2000000
/-! Cor10: stores to two names, changes in place, a def's promise. -/
namespace Cor
open PySem PySem.Spec L2
variable [LamDefs]

section
variable {K : PySem.W.Frag} {mg : Str → Option Value} {W : WX} {H H0 H1 H2 H' Hf Hf0 Hf1 Hf2 Hf' : Hp} {env env0 e1 e2 e3 env' : Env} {σ σ0 σ1 σ' : St} {d : D} {v : V} {pu p1 p2 fr st st1 : Bool} {Q : VK} {D : Ends} {i : Nat}
/-- a value that is held while more is evaluated -/
def Hld (K : PySem.W.Frag) (mg : Str → Option Value) (fr : Bool) (d : Cor.D) (v : V) (H0 Hf H : Hp) (env : Env) (σ : St) : Prop := VR K mg fr true d v H0 Hf H ∧ ∀ p, fr = true → v = .ref p → ¬ OwnAt env σ p ∧ noT H p ≠ none
theorem Hld.of (R0 : ER K mg Hf0 H0 env0 σ) (t : Tr pu Hf0 H0 env0 Hf H env σ) (z : VR K mg fr true d v H0 Hf H) : Hld K mg fr d v H0 Hf H env σ := by
  refine ⟨z, fun p hf hv => ?_⟩
  unfold VR at z
  rw [if_pos hf] at z
  obtain ⟨q, e, hq, _, c⟩ := z
  rw [hv] at e
  cases e
  obtain ⟨o, ho⟩ := c.there
  exact ⟨fun z => R0.fresh hq (z.back t.mt), by rw [noT_some ho (c.not ho).1]; simp⟩
theorem Hld.keep (h : Hld K mg fr d v H0 Hf H env σ) (t : Tr pu Hf H env Hf' H' env' σ) : Hld K mg fr d v H0 Hf' H' env' σ := by
  obtain ⟨z, n⟩ := h
  unfold VR at z
  cases fr with
  | false =>
    rw [if_neg Bool.false_ne_true, if_pos rfl] at z
    exact ⟨VR.old (z.up t.up), fun p h => nomatch h⟩
  | true =>
    rw [if_pos rfl] at z
    obtain ⟨p, rfl, hq, hn, c⟩ := z
    obtain ⟨no, _⟩ := n p rfl rfl
    obtain ⟨o, ho⟩ := c.there
    have ho' := t.fr p o ho (c.not ho).1 no
    have hn' : Hf' p = none := by
      cases y : Hf' p with
      | none => rfl
      | some o' =>
        rcases t.new p (by rw [y]; simp) with z | z | z
        · exact absurd hn z
        · rw [noC_some ho (c.not ho).1 (c.not ho).2] at z; cases z
        · exact absurd z no
    refine ⟨?_, fun q _ e => ?_⟩
    · unfold VR
      rw [if_pos rfl]
      exact ⟨p, rfl, hq, hn', c.move t.up fun o' q => by rw [ho] at q; cases q; exact ho'⟩
    · cases e
      exact ⟨fun z => no (z.back t.mt), by rw [noT_some ho' (c.not ho).1]; simp⟩
theorem Hld.back (h : Hld K mg fr d v H1 Hf H env σ) (t : ∀ a, noT H0 a ≠ none → noT H1 a ≠ none) : Hld K mg fr d v H0 Hf H env σ := ⟨h.1.back t, h.2⟩
/-- two held values are apart where the second came later -/
theorem put1 {e3 : Env} (he : putS env i d fr = .nx e3) (t : TrS Hf0 H0 env0 σ0 Hf H env σ) (R : ER K mg Hf H env σ) (z : Hld K mg fr d v H0 Hf H env σ) :
    ER K mg Hf H e3 (σ.set i (some v)) ∧ TrS Hf0 H0 env0 σ0 Hf H e3 (σ.set i (some v)) ∧ ∀ q, OwnAt e3 (σ.set i (some v)) q → (fr = true ∧ v = .ref q) ∨ OwnAt env σ q := by
  obtain ⟨z, n⟩ := z
  rcases putS_inv he with q | ⟨hio, q⟩
  · cases q
  · cases q
    unfold VR at z
    cases fr with
    | false =>
      rw [if_neg Bool.false_ne_true] at z ⊢
      obtain ⟨R', t', m'⟩ := R.setS (s := .val d) (o := some v) (i := i) (.inr ⟨d, v, rfl, rfl, by simpa using z⟩) hio
      refine ⟨R', t.trans t', fun q ⟨j, m, e⟩ => .inr ?_⟩
      obtain ⟨hj, mj⟩ := mt_set (.inr ⟨d, rfl⟩) m
      rw [List.getElem?_set_ne (Ne.symm hj)] at e
      exact ⟨j, mj, e⟩
    | true =>
      rw [if_pos rfl] at z ⊢
      obtain ⟨p, rfl, hp, hn, c⟩ := z
      obtain ⟨R', t'⟩ := R.setO hn c (n p rfl rfl).1 hio t hp
      refine ⟨R', t', fun q ⟨j, ⟨w, m⟩, e⟩ => ?_⟩
      by_cases hj : i = j
      · subst hj
        by_cases hi : i < σ.length
        · rw [List.getElem?_set_self hi] at e
          cases e
          exact .inl ⟨rfl, rfl⟩
        · rw [List.getElem?_eq_none (by simpa using hi)] at e; cases e
      · rw [List.getElem?_set_ne hj] at m e
        exact .inr ⟨j, ⟨w, m⟩, e⟩
theorem Hld.after {v1 : V} {fr1 : Bool} (h : Hld K mg fr d v H0 Hf H env σ) (o : ∀ q, OwnAt e3 σ' q → (fr1 = true ∧ v1 = .ref q) ∨ OwnAt env σ q) (ap : ∀ q, fr1 = true → v1 = .ref q → fr = true → v ≠ .ref q) : Hld K mg fr d v H0 Hf H e3 σ' := by
  obtain ⟨z, n⟩ := h
  refine ⟨z, fun p hf hv => ⟨fun q => ?_, (n p hf hv).2⟩⟩
  rcases o p q with ⟨a, b⟩ | y
  · exact ap p a b hf hv
  · exact (n p hf hv).1 y
theorem Hld.apart {v1 v2 : V} {d1 d2 : Cor.D} {fr1 fr2 : Bool} (h1 : Hld K mg fr1 d1 v1 H0 Hf1 H1 e1 σ) (h2 : VR K mg fr2 true d2 v2 H1 Hf2 H2) : ∀ q, fr1 = true → v1 = .ref q → fr2 = true → v2 ≠ .ref q := fun q a b c e => by
  have := (h1.2 q a b).2
  unfold VR at h2
  rw [if_pos c] at h2
  obtain ⟨p, e', hp, _⟩ := h2
  rw [e] at e'
  cases e'
  exact this hp
end

section
variable {K : PySem.W.Frag} {mg : Str → Option Value} {W : WX} {H H1 Hf Hf1 : Hp} {env e1 : Env} {σ σ1 : St} {p1 st1 : Bool} {D : Ends}
/-- an expression that is not the first: what is wanted is told from the start -/
theorem GS.nextK {r : RE} {k : Cor.D → Bool → Env → RS} {Q1 : VK} (g : GS K mg W Hf H env σ D (r.bindS k)) (t : TrS Hf H env σ Hf1 H1 e1 σ1)
    (c : ∀ d fr e2 v H2 Hf2, r = .ok d fr e2 → ER K mg Hf2 H2 e2 σ1 → Tr p1 Hf1 H1 e1 Hf2 H2 e2 σ1 → VR K mg fr st1 d v H1 Hf2 H2 → GS K mg W Hf H env σ D (k d fr e2) → Q1 v H2) : GE K mg W st1 p1 Hf1 H1 e1 σ1 Q1 r := by
  cases r with
  | ok d fr e2 => exact fun v H2 Hf2 a b z => c d fr e2 v H2 Hf2 rfl a b z g
  | ex x e2 => exact fun C H2 Hf2 hC a b => g C σ1 H2 Hf2 hC a (t.trans b.s)
  | no => exact g.elim
end
section
variable {X : Cx} {W : WX} {a b c e tg : Expr} {es : List Expr} {pos p : Pos} {m ma mb mc : Env → RE} {ms mt : Env → RS} {st sa sb pa pb pc pu : Bool} {i j l : Nat}
theorem s_par {x y : Str} {px py pt : Pos} {kt k2 pt2} (hc : X.calm = true) (hN : X.N.Nodup) (hi : X.N[i]? = some x) (hj : X.N[j]? = some y) (hij : i ≠ j) (hx : X.env.scope.names.lookup x = some .local) (hy : X.env.scope.names.lookup y = some .local)
    (ha : PE X a (tI X.K X.mg W true pa ma)) (hb : PE X b (tI X.K X.mg W true pb mb)) (hse : starEach [a, b] X.env = (false, eval a X.env) :: starEach [b] X.env) (hse2 : starEach [b] X.env = (false, eval b X.env) :: starEach [] X.env)
    (hw : swappedStores [.Tuple [.Name x px, .Name y py] kt pt] (.Tuple [a, b] k2 pt2) X.env = pure (some [x, y]))
    (hs : swapsWithSole [.Tuple [.Name x px, .Name y py] kt pt] (.Tuple [a, b] k2 pt2) pos.line X.env = pure false) :
    PS X (.Assign [.Tuple [.Name x px, .Name y py] kt pt] (.Tuple [a, b] k2 pt2) pos) (tS X.K X.mg W fun env => (ma env).bindS fun x fx e1 => (mb e1).bindS fun y fy e2 => match putS e2 i x fx with
    | .nx e3 => putS e3 j y fy
    | _ => .no) := by
  refine PS.imp (ps_par hc hN hi hj hij hx hy (pa_cons ha (pa_cons hb pa_nil hse2) hse) hw hs) fun D σ H ⟨Hf, env, R, g⟩ => ⟨Hf, env, R, g.first fun d1 f1 e1 v1 H1 Hf1 _ R1 t1 z1 g1 => ?_⟩
  refine ⟨Hf1, e1, R1, g1.nextK t1.s fun d2 f2 e2 v2 H2 Hf2 _ R2 t2 z2 g2 => ⟨v1, v2, rfl, ?_⟩⟩
  have h1 := Hld.of R t1 z1
  have h2 := Hld.of R1 t2 z2
  have ap := h1.apart z2
  cases q : putS e2 i d1 f1 with
  | nx e3 =>
    simp only [q] at g2
    obtain ⟨R3, t3, o3⟩ := put1 q (t1.trans t2).s R2 (h1.keep t2)
    have h2' := (h2.after o3 ap).back t1.there
    exact g2.put t3 R3 (fun p _ hf hv => (h2'.2 p hf hv).1) h2'.1
  | _ => simp only [q] at g2; exact g2.elim
theorem s_par3 {x y z : Str} {px py pz pt : Pos} {kt k2 pt2} (hc : X.calm = true) (hN : X.N.Nodup) (hi : X.N[i]? = some x) (hj : X.N[j]? = some y) (hl : X.N[l]? = some z) (hij : i ≠ j) (hil : i ≠ l) (hjl : j ≠ l)
    (hx : X.env.scope.names.lookup x = some .local) (hy : X.env.scope.names.lookup y = some .local) (hz : X.env.scope.names.lookup z = some .local)
    (ha : PE X a (tI X.K X.mg W true pa ma)) (hb : PE X b (tI X.K X.mg W true pb mb)) (hcc : PE X c (tI X.K X.mg W true pc mc)) (hse : starEach [a, b, c] X.env = (false, eval a X.env) :: starEach [b, c] X.env) (hse2 : starEach [b, c] X.env = (false, eval b X.env) :: starEach [c] X.env) (hse3 : starEach [c] X.env = (false, eval c X.env) :: starEach [] X.env)
    (hw : swappedStores [.Tuple [.Name x px, .Name y py, .Name z pz] kt pt] (.Tuple [a, b, c] k2 pt2) X.env = pure (some [x, y, z]))
    (hs : swapsWithSole [.Tuple [.Name x px, .Name y py, .Name z pz] kt pt] (.Tuple [a, b, c] k2 pt2) pos.line X.env = pure false) :
    PS X (.Assign [.Tuple [.Name x px, .Name y py, .Name z pz] kt pt] (.Tuple [a, b, c] k2 pt2) pos) (tS X.K X.mg W fun env => (ma env).bindS fun x fx e1 => (mb e1).bindS fun y fy e2 => (mc e2).bindS fun z fz e3 => match putS e3 i x fx with
    | .nx e4 => match putS e4 j y fy with
      | .nx e5 => putS e5 l z fz
      | _ => .no
    | _ => .no) := by
  refine PS.imp (ps_par3 hc hN hi hj hl hij hil hjl hx hy hz (pa_cons ha (pa_cons hb (pa_cons hcc pa_nil hse3) hse2) hse) hw hs) fun D σ H ⟨Hf, env, R, g⟩ => ⟨Hf, env, R, g.first fun d1 f1 e1 v1 H1 Hf1 _ R1 t1 z1 g1 => ?_⟩
  refine ⟨Hf1, e1, R1, g1.nextK t1.s fun d2 f2 e2 v2 H2 Hf2 _ R2 t2 z2 g2 => ?_⟩
  refine ⟨Hf2, e2, R2, g2.nextK (t1.trans t2).s fun d3 f3 e3 v3 H3 Hf3 _ R3 t3 z3 g3 => ⟨v1, v2, v3, rfl, ?_⟩⟩
  have h1 := Hld.of R t1 z1
  have h2 := Hld.of R1 t2 z2
  have h3 := Hld.of R2 t3 z3
  have a12 := h1.apart z2
  have a13 := (h1.keep t2).apart z3
  have a23 := h2.apart z3
  cases q : putS e3 i d1 f1 with
  | nx e4 =>
    simp only [q] at g3
    obtain ⟨R4, t4, o4⟩ := put1 q ((t1.trans t2).trans t3).s R3 ((h1.keep t2).keep t3)
    have h2' := ((h2.keep t3).after o4 a12).back t1.there
    have h3' := (h3.after o4 a13).back (t1.trans t2).there
    cases q2 : putS e4 j d2 f2 with
    | nx e5 =>
      simp only [q2] at g3
      obtain ⟨R5, t5, o5⟩ := put1 q2 t4 R4 h2'
      have h3'' := h3'.after o5 a23
      exact g3.put t5 R5 (fun p _ hf hv => (h3''.2 p hf hv).1) h3''.1
    | _ => simp only [q2] at g3; exact g3.elim
  | _ => simp only [q] at g3; exact g3.elim
/-- what is owned is rewritten -/
theorem ER.wrG {K : PySem.W.Frag} {mg : Str → Option Value} {H Hf : Hp} {env : Env} {σ : St} {d d' : Cor.D} {pp : Addr} {o1 : HO} (R : ER K mg Hf H env σ) (hi : env[i]? = some (Slot.own d) ∨ env[i]? = some (Slot.io d)) (ha : σ[i]? = some (some (.ref pp))) (cn : Cont K mg Hf (upd H pp o1) d' pp) :
    ER K mg Hf (upd H pp o1) (env.set i (putBack (getS env i) d')) σ ∧ Tr false Hf H env Hf (upd H pp o1) (env.set i (putBack (getS env i) d')) σ := by
  obtain ⟨p', e', n', c'⟩ := R.mu i d hi
  rw [ha] at e'
  cases e'
  obtain ⟨o', ho'⟩ := c'.there
  have nl : ∀ b, Hf b ≠ none → b ≠ pp := fun b h e => h (e ▸ n')
  refine lift1 R hi ha ⟨fun b o q => ?_, rfl, fun j w h => ?_, fun j w h => ?_, fun j l b hj hl _ _ => ?_, fun j v h => ?_, R.tab.upd fun u e => c'.not e, R.nt⟩ ⟨Same.refl _, rfl, fun j ⟨w, h⟩ => ?_, fun j w h => ?_, fun b o q _ no => ?_, fun _ q => .inl q, (fun h => nomatch h), fun b q => ?_⟩
  · rw [upd_ne (nl b (by rw [q]; simp))]; exact R.le b o q
  · cases j with
    | zero => simp at h
    | succ j => simp at h
  · cases j with
    | zero =>
      simp at h
      subst h
      exact ⟨pp, rfl, n', cn⟩
    | succ j => simp at h
  · obtain ⟨w, hw⟩ := hj
    obtain ⟨w', hw'⟩ := hl
    cases j with
    | zero => cases l with
      | zero => rfl
      | succ l => simp at hw'
    | succ j => simp at hw
  · cases j with
    | zero => simp at h
    | succ j => simp at h
  · cases j with
    | zero => exact ⟨d, .inr rfl⟩
    | succ j => simp at h
  · cases j with
    | zero => exact ⟨_, rfl⟩
    | succ j => simp at h
  · have hb : b ≠ pp := fun e => no ⟨0, ⟨d, .inr rfl⟩, by rw [e]; rfl⟩
    rw [upd_ne hb]; exact q
  · by_cases hb : b = pp
    · rw [hb, noT_some upd_same (cn.not upd_same).1]; simp
    · unfold noT at q ⊢
      rw [upd_ne hb]; exact q
theorem ER.wr {K : PySem.W.Frag} {mg : Str → Option Value} {H Hf : Hp} {env : Env} {σ : St} {d : Cor.D} {pp : Addr} {ws : List V} {ds : List Cor.D} (R : ER K mg Hf H env σ) (hi : env[i]? = some (Slot.own d) ∨ env[i]? = some (Slot.io d)) (ha : σ[i]? = some (some (.ref pp))) (rs : Reps K mg Hf ds ws) :
    ER K mg Hf (upd H pp (.lst ws)) (env.set i (putBack (getS env i) (.lst ds))) σ ∧ Tr false Hf H env Hf (upd H pp (.lst ws)) (env.set i (putBack (getS env i) (.lst ds))) σ := R.wrG hi ha (.lst upd_same rs)
theorem Cont.lstInv {K : PySem.W.Frag} {mg : Str → Option Value} {H Hf : Hp} {ds : List Cor.D} {pp : Addr} (c : Cont K mg Hf H (.lst ds) pp) : ∃ ws, H pp = some (.lst ws) ∧ Reps K mg Hf ds ws := by
  cases c with
  | lst h r => exact ⟨_, h, r⟩
theorem Mt_at {env : Env} {i : Nat} {d : Cor.D} (h : ioGet env i = some d) : env[i]? = some (Slot.own d) ∨ env[i]? = some (Slot.io d) := ioGet_at h
theorem s_app {apos cpos : Pos} {o e : Expr} (ho : PE X o (tVar i)) (he : PE X e (tI X.K X.mg W true pa m)) (hbase : attributeBase o "append" X.env (eval o X.env) = eval o X.env)
    (hfew : ((backTo cpos (starEach [e] X.env)).all (fun x => !x.1) && (backToKw cpos (keywordEach [] X.env)).all (fun x => x.1.isSome) && decide (([e] : List Expr).length + ([] : List Keyword).length + (if ([] : List Keyword).isEmpty then 0 else 1) < 30)) = true)
    (hline : (apos.endLine == cpos.line) = true) (hse : starEach [e] X.env = (false, eval e X.env) :: starEach [] X.env) (hplain : (backTo cpos (starEach [] X.env)).any (·.1) = false)
    (hs : swapsWith (.Call (.Attribute o "append" apos) [e] [] cpos) none pos.line X.env = pure false) :
    PS X (.Expr (.Call (.Attribute o "append" apos) [e] [] cpos) pos) (tS X.K X.mg W fun env => match ioGet env i with
    | some (.lst _) => (m env).bindS fun d _ e1 => match ioGet e1 i with
      | some (.lst xs) => if xs.length < lim then .nx (e1.set i (putBack (getS e1 i) (.lst (xs ++ [d])))) else .no
      | _ => .no
    | _ => .no) := by
  refine PS.imp (ps_expr (pe_bm PySem.F.plainAttrs_list PySem.F.slot_list_append PySem.F.type_list_append mt_append ho (pa_cons he pa_nil hse) hbase hfew hline hse hplain) hs) fun D σ H ⟨Hf, env, R, g⟩ => ?_
  dsimp only at g
  cases q0 : ioGet env i with
  | none => rw [q0] at g; exact g.elim
  | some d0 =>
    rw [q0] at g
    obtain ⟨pp, ep, n0, c0⟩ := R.mu i d0 (ioGet_at q0)
    cases d0 <;> try exact g.elim
    have g : GS X.K X.mg W Hf H env σ D ((m env).bindS fun d _ e1 => match ioGet e1 i with
      | some (.lst xs) => if xs.length < lim then .nx (e1.set i (putBack (getS e1 i) (.lst (xs ++ [d])))) else .no
      | _ => .no) := g
    refine ⟨_, ep, ?_, Hf, env, R, g.first fun d1 f1 e1 v1 H1 Hf1 _ R1 t1 z1 g1 => ?_⟩
    · cases c0 with
      | lst h r => exact .inl ⟨rfl, _, SqL.of h⟩
    · obtain ⟨Hf1, R1, t1, z1⟩ := stab R R1 t1 z1
      cases q1 : ioGet e1 i with
      | none => rw [q1] at g1; exact g1.elim
      | some d =>
        rw [q1] at g1
        cases d <;> try exact g1.elim
        rename_i xs
        obtain ⟨p2, e2, n2, c2⟩ := R1.mu i _ (ioGet_at q1)
        rw [ep] at e2
        cases e2
        obtain ⟨ws, hH, rs⟩ := c2.lstInv
        by_cases hz : xs.length < lim
        · simp only [hz, if_true] at g1
          obtain ⟨R2, t2⟩ := R1.wr (ioGet_at q1) ep (rs.app (Reps.one z1))
          exact ⟨pp, ws, v1, rfl, rfl, hH, by rw [← rs.length]; exact Nat.lt_of_lt_of_le hz (lim_line (Nat.le_refl _)), g1 σ _ Hf1 R2 (t1.trans t2).s⟩
        · simp only [hz, if_false] at g1; exact g1.elim
theorem s_stI {o k v : Expr} {spos : Pos} (ho : PE X o (tVar i)) (hk : PE X k (tI X.K X.mg W sb pb mb)) (hv : PE X v (tI X.K X.mg W true pa ma))
    (has : ∀ u, assign (.Subscript o k spos) X.env u = (do
      let ov ← holding [u] (eval o X.env)
      let iv ← holding [u, ov] (eval k X.env)
      standAt spos
      holding [u, ov, iv] (setItem ov iv u)
      release [u, ov, iv] []))
    (hs : swapsWithSole [.Subscript o k spos] v pos.line X.env = pure false) (hw : swappedStores [.Subscript o k spos] v X.env = pure none)
    (h1 : (assignEach [.Subscript o k spos] X.env).map (·.2) = [assign (.Subscript o k spos) X.env]) :
    PS X (.Assign [.Subscript o k spos] v pos) (tS X.K X.mg W fun env => (ma env).bindS fun d _ e1 => match ioGet e1 i with
    | none => .no
    | some _ => (mb e1).bindS fun z _ e2 => match ioGet e2 i, z with
      | some (.lst xs), .int n => match ixN xs.length n with
        | some j => .nx (e2.set i (putBack (getS e2 i) (.lst (xs.set j d))))
        | none => .no
      | _, _ => .no) := by
  refine PS.imp (ps_asg hv (pg_sub ho hk set_list has) hs hw h1) fun D σ H ⟨Hf, env, R, g⟩ => ⟨Hf, env, R, g.first fun d1 f1 e1 v1 H1 Hf1 _ R1 t1 z1 g1 => ?_⟩
  obtain ⟨Hf1, R1, t1, z1⟩ := stab R R1 t1 z1
  cases q0 : ioGet e1 i with
  | none => rw [q0] at g1; exact g1.elim
  | some d0 =>
    rw [q0] at g1
    obtain ⟨pp, ep, n0, c0⟩ := R1.mu i d0 (ioGet_at q0)
    have g1 : GS X.K X.mg W Hf H env σ D ((mb e1).bindS fun z _ e2 => match ioGet e2 i, z with
      | some (.lst xs), .int n => match ixN xs.length n with
        | some j => .nx (e2.set i (putBack (getS e2 i) (.lst (xs.set j d1))))
        | none => .no
      | _, _ => .no) := g1
    refine ⟨_, ep, Hf1, e1, R1, g1.nextK t1.s fun d2 f2 e2 v2 H2 Hf2 _ R2 t2 z2 g2 => ?_⟩
    cases q1 : ioGet e2 i with
    | none => simp only [q1] at g2; exact g2.elim
    | some d =>
      simp only [q1] at g2
      cases d <;> try exact g2.elim
      cases d2 <;> try exact g2.elim
      rename_i xs n _
      obtain rfl := (z2.now R2.le).intInv
      obtain ⟨p2, e2', n2, c2⟩ := R2.mu i _ (ioGet_at q1)
      rw [ep] at e2'
      cases e2'
      obtain ⟨ws, hH, rs⟩ := c2.lstInv
      dsimp only at g2
      cases q2 : ixN xs.length n with
      | none => rw [q2] at g2; exact g2.elim
      | some j =>
        rw [q2] at g2
        obtain ⟨R3, t3⟩ := R2.wr (ioGet_at q1) ep (rs.set j (z1.up t2.up))
        exact ⟨pp, ws, n, j, rfl, rfl, hH, by rw [← rs.length]; exact q2, g2 σ _ Hf2 R3 ((t1.trans t2).trans t3).s⟩
theorem Cont.dctInv {K : PySem.W.Frag} {mg : Str → Option Value} {H Hf : Hp} {tk : Bool} {ks ds : List Cor.D} {pp : Addr} (c : Cont K mg Hf H (.dct tk ks ds) pp) : ∃ o kvv vvs, H pp = some (DObj pp o) ∧ (pp == sysModules) = false ∧ ks.length ≤ lim ∧ DSh tk o ks kvv vvs ∧ Reps K mg Hf ks kvv ∧ Reps K mg Hf ds vvs := by
  cases c with
  | dct h hm hl hd r1 r2 => exact ⟨_, _, _, h, hm, hl, hd, r1, r2⟩
theorem Reps.putK {K : PySem.W.Frag} {mg : Str → Option Value} {H : Hp} {ks ds : List Cor.D} {vs : List V} {k d : Cor.D} {v : V} (h : Reps K mg H ds vs) (r : Rep K mg H d v) : Reps K mg H (putKs ks k ds d) (putKs ks k vs v) := by
  unfold putKs
  split
  · exact h
  · exact h.app (Reps.one r)
theorem Reps.putV {K : PySem.W.Frag} {mg : Str → Option Value} {H : Hp} {ks ds : List Cor.D} {vs : List V} {k d : Cor.D} {v : V} (h : Reps K mg H ds vs) (r : Rep K mg H d v) : Reps K mg H (putVs ks k ds d) (putVs ks k vs v) := by
  unfold putVs
  split
  · exact Reps.set _ h r
  · exact h.app (Reps.one r)
theorem putKs_len {ks : List Cor.D} {k : Cor.D} : (putKs ks k ks k).length ≤ ks.length + 1 := by
  unfold putKs
  split
  · omega
  · simp
theorem s_stD {o k v : Expr} {spos : Pos} (hu : X.A.units + 65 < cLine) (ho : PE X o (tVar i)) (hk : PE X k (tI X.K X.mg W true pb mb)) (hv : PE X v (tI X.K X.mg W true pa ma))
    (has : ∀ u, assign (.Subscript o k spos) X.env u = (do
      let ov ← holding [u] (eval o X.env)
      let iv ← holding [u, ov] (eval k X.env)
      standAt spos
      holding [u, ov, iv] (setItem ov iv u)
      release [u, ov, iv] []))
    (hs : swapsWithSole [.Subscript o k spos] v pos.line X.env = pure false) (hw : swappedStores [.Subscript o k spos] v X.env = pure none)
    (h1 : (assignEach [.Subscript o k spos] X.env).map (·.2) = [assign (.Subscript o k spos) X.env]) :
    PS X (.Assign [.Subscript o k spos] v pos) (tS X.K X.mg W fun env => (ma env).bindS fun d _ e1 => match ioGet e1 i with
    | some (.dct _ _ _) => (mb e1).bindS fun z _ e2 => match ioGet e2 i with
      | some (.dct tk ks ds) => if keyB tk z = true ∧ ks.length < lim then .nx (e2.set i (putBack (getS e2 i) (.dct tk (putKs ks z ks z) (putVs ks z ds d)))) else .no
      | _ => .no
    | _ => .no) := by
  refine PS.imp (ps_asg hv (pg_sub ho hk (set_dct hu) has) hs hw h1) fun D σ H ⟨Hf, env, R, g⟩ => ⟨Hf, env, R, g.first fun d1 f1 e1 v1 H1 Hf1 _ R1 t1 z1 g1 => ?_⟩
  obtain ⟨Hf1, R1, t1, z1⟩ := stab R R1 t1 z1
  cases q0 : ioGet e1 i with
  | none => rw [q0] at g1; exact g1.elim
  | some d0 =>
    rw [q0] at g1
    obtain ⟨pp, ep, n0, c0⟩ := R1.mu i d0 (ioGet_at q0)
    cases d0 <;> try exact g1.elim
    have g1 : GS X.K X.mg W Hf H env σ D ((mb e1).bindS fun z _ e2 => match ioGet e2 i with
      | some (.dct tk ks ds) => if keyB tk z = true ∧ ks.length < lim then .nx (e2.set i (putBack (getS e2 i) (.dct tk (putKs ks z ks z) (putVs ks z ds d1)))) else .no
      | _ => .no) := g1
    refine ⟨_, ep, Hf1, e1, R1, g1.nextK t1.s fun d2 f2 e2 v2 H2 Hf2 _ R2 t2 z2 g2 => ?_⟩
    obtain ⟨Hf2, R2, t2, z2⟩ := stab R1 R2 t2 z2
    cases q1 : ioGet e2 i with
    | none => simp only [q1] at g2; exact g2.elim
    | some d =>
      simp only [q1] at g2
      cases d <;> try exact g2.elim
      rename_i tk ks ds
      obtain ⟨p2, e2', n2, c2⟩ := R2.mu i _ (ioGet_at q1)
      rw [ep] at e2'
      cases e2'
      obtain ⟨ob, kvv, vvs, hH, hm, hl, hd, r1, r2⟩ := c2.dctInv
      dsimp only at g2
      by_cases hc : keyB tk d2 = true ∧ ks.length < lim
      · rw [if_pos hc] at g2
        refine ⟨tk, ks, pp, ob, kvv, vvs, d2, rfl, ⟨hH, hm, hl, hd, r1.up R2.le⟩, hc.2, z2.up R2.le, hc.1, fun o' sh => ?_⟩
        have cn : Cont X.K X.mg Hf2 (upd H2 pp (DObj pp o')) (.dct tk (putKs ks d2 ks d2) (putVs ks d2 ds d1)) pp :=
          .dct upd_same hm (Nat.le_trans putKs_len hc.2) sh (r1.putK z2) (r2.putV (z1.up t2.up))
        obtain ⟨R3, t3⟩ := R2.wrG (ioGet_at q1) ep cn
        exact g2 σ _ Hf2 R3 ((t1.trans t2).trans t3).s
      · rw [if_neg hc] at g2; exact g2.elim
theorem s_aug {x : Str} {op : Operator} (hop : op = .Add ∨ op = .Sub) (hN : X.N.Nodup) (hi : X.N[i]? = some x) (hx : Loc X.env.scope x) (he : PE X e (tI X.K X.mg W sa pa m)) (hf : X.fn x = true ∨ X.env.scope.names.lookup x = some .local) :
    PS X (.AugAssign (.Name x p) op e pos) (tS X.K X.mg W fun env => match getS env i with
    | .val (.int x) => (m env).bindS fun y _ e1 => match y with
      | .int y => (match binD op (.int x) (.int y) with
        | some (z, _) => .nx (e1.set i (.val z))
        | none => .no)
      | _ => .no
    | _ => .no) := by
  have key : ∀ (f : Int → Int → Int) (ip : PIp X op (ipI f)) (hb : ∀ x y, binD op (.int x) (.int y) = some (.int (f x y), false)), PS X (.AugAssign (.Name x p) op e pos) (tS X.K X.mg W fun env => match getS env i with
    | .val (.int x) => (m env).bindS fun y _ e1 => match y with
      | .int y => (match binD op (.int x) (.int y) with
        | some (z, _) => .nx (e1.set i (.val z))
        | none => .no)
      | _ => .no
    | _ => .no) := fun f ip hb => by
    refine PS.imp (ps_aug hN hi hx he ip hf) fun D σ H ⟨Hf, env, R, g⟩ => ?_
    dsimp only at g
    cases q : getS env i with
    | val d =>
      rw [q] at g
      cases d <;> try exact g.elim
      rename_i n
      obtain ⟨v, ev, r⟩ := R.val i _ (getS_lt q (by simp))
      obtain rfl := r.intInv
      refine ⟨_, ev, Hf, env, R, GS.first (p1 := pa) g fun d1 f1 e1 v1 H1 Hf1 _ R1 t1 z1 g1 => ?_⟩
      cases d1 <;> try exact g1.elim
      rename_i k _
      obtain rfl := (z1.now R1.le).intInv
      simp only [hb] at g1
      have hio : noIo e1 i := fun d hd => by
        obtain ⟨w, hw⟩ := t1.mt i ⟨d, .inr hd⟩
        have := getS_lt q (by simp)
        rw [this] at hw
        rcases hw with hw | hw <;> cases hw
      obtain ⟨R2, t2, _⟩ := R1.setS (i := i) (s := .val (.int (f n k))) (o := some (.int (f n k))) (.inr ⟨_, _, rfl, rfl, .int _⟩) hio
      exact ⟨n, k, rfl, rfl, g1 _ _ _ R2 (t1.s.trans t2)⟩
    | _ => rw [q] at g; exact g.elim
  rcases hop with rfl | rfl
  · exact key (fun x y => x + y) ip_add fun _ _ => rfl
  · exact key (fun x y => x - y) ip_sub fun _ _ => rfl
end
end Cor
set_option Elab.async false
set_option linter.all false
set_option maxRecDepth 100000
set_option maxHeartbeats 2000000
/-! Cor11: a def's promise from its body. -/
namespace Cor
open PySem PySem.Spec L2
open PyProof.Rows (envOfC)

/-- what a def is worth: n names, io: the first argument is handed in to be changed, m its body -/
def semS (n : Nat) (io : Bool) (m : Env → RS) : Sem := fun ds =>
  let z := fun (env : Env) => if io then (match getS env 0 with
    | .io d => some (some d)
    | _ => none) else some none
  match m (startE n io ds) with
  | .rt d fr env => match z env with
    | some o => .ret d fr o
    | none => .no
  | .nx env => match z env with
    | some o => .ret .non false o
    | none => .no
  | .ex c env => match z env with
    | some o => .exc c o
    | none => .no
  | _ => .no
theorem takesN0 {X : Cx} : L2N.Takes X (fun _ _ _ _ => False) := fun _ _ ⟨_, _, _, _, _, _, _, _, _, _, _, _, _, _, _, _, z⟩ => z.elim
variable [LamDefs]
/-- what a context must have -/
structure Gd (k : Nat) (X : Cx) (W : WX) : Prop where
  calm : X.calm = true
  nd : X.N.Nodup
  room : Room k X.A
  tk : L2N.Takes X W
theorem Gd.hu {k : Nat} {X : Cx} {W : WX} (g : Gd k X W) : X.A.units + 65 < cLine := by
  have := g.room.un
  omega
theorem Gd.blk {k : Nat} {X : Cx} {W : WX} (g : Gd k X W) (s : Shared) (H : Hp) (scope : Scope) (cenv : PySem.Env) (fp : List Addr) : Gd k (X.blk s H scope cenv fp) WF := ⟨g.calm, g.nd, g.room, takesN0⟩
abbrev WE (E : XK) : WX := fun cls d _ H => E cls d H
/-- a body that is read so, wherever it runs -/
def BodyOk (P : Program) (w : World) (K : PySem.W.Frag) (mg : Str → Option Value) (base : Heap) (k : Nat) (N : List Str) (qual : Str) (scope : Scope) (f : Addr) (body : List Stmt) (m : Env → RS) : Prop :=
  ∀ (cdv : Value) (A : Around) (outer : List PySem.Env) (s : Shared) (H : Hp) (E : XK), Gd k (cxOf (L2N.CX P w) P w K mg base N qual scope f cdv A outer s H E) (WE E) →
    PassesOwn (model P w) (A.deeper (envOfC qual scope s.heap.objs.size f cdv)) (envOfC qual scope s.heap.objs.size f cdv) (cxOf (L2N.CX P w) P w K mg base N qual scope f cdv A outer s H E).xe →
    PSs (cxOf (L2N.CX P w) P w K mg base N qual scope f cdv A outer s H E) body (tS K mg (WE E) m)

section
variable {P : Program} {w : World} {K : PySem.W.Frag} {mg : Str → Option Value} {base : Heap} {H Hf H' Hf' : Hp} {σ σ' : L2.St} {env env' : Env}
theorem getS_at {i : Nat} {s : Slot} (h : env[i]? = some s) : getS env i = s := by
  unfold getS
  rw [List.getD_eq_getElem?_getD, h]; rfl
theorem start0 {n : Nat} {ds : List D} {vs : List V} (le : Same Hf H) (tb : Tb K H) (nt : ∀ b ps, Hf b ≠ some (.tbl ps)) (rs : Reps K mg Hf ds vs) : ER K mg Hf H (ds.map Slot.val ++ List.replicate (n - ds.length) .no) (vs.map some ++ List.replicate (n - vs.length) none) ∧ ∀ i, ¬ Mt (ds.map Slot.val ++ List.replicate (n - ds.length) .no) i := by
  have hl := rs.length
  have no : ∀ i, ¬ Mt (ds.map Slot.val ++ List.replicate (n - ds.length) .no) i := fun i ⟨d, h⟩ => by
    by_cases hi : i < ds.length
    · rw [List.getElem?_append_left (by simpa using hi), List.getElem?_map, List.getElem?_eq_getElem hi] at h
      rcases h with h | h <;> cases h
    · rw [List.getElem?_append_right (by simpa using hi), List.getElem?_replicate] at h
      split at h <;> rcases h with h | h <;> cases h
  refine ⟨⟨le, by simp [hl], fun i d h => ?_, fun i d h => absurd ⟨d, h⟩ (no i), fun i j a hi => absurd hi (no i), fun i v h => ?_, tb, nt⟩, no⟩
  · by_cases hi : i < ds.length
    · rw [List.getElem?_append_left (by simpa using hi), List.getElem?_map, List.getElem?_eq_getElem hi] at h
      cases h
      obtain ⟨v, e, r⟩ := rs.get (List.getElem?_eq_getElem hi)
      refine ⟨v, ?_, r⟩
      rw [List.getElem?_append_left (by simpa [← hl] using hi), List.getElem?_map, e]
      rfl
    · rw [List.getElem?_append_right (by simpa using hi), List.getElem?_replicate] at h
      split at h <;> cases h
  · by_cases hi : i < ds.length
    · rw [List.getElem?_append_left (by simpa using hi), List.getElem?_map, List.getElem?_eq_getElem hi] at h
      cases h
    · rw [List.getElem?_append_right (by simpa using hi), List.getElem?_replicate] at h
      split at h <;> cases h
theorem start1 {n : Nat} {d : D} {ds : List D} {a : Addr} {vs : List V} (R : ER K mg Hf H [.io d] [some (.ref a)]) (rs : Reps K mg Hf ds vs) :
    ER K mg Hf H (.io d :: (ds.map Slot.val ++ List.replicate (n - ds.length) .no)) (some (.ref a) :: (vs.map some ++ List.replicate (n - vs.length) none)) ∧ ∀ i, Mt (.io d :: (ds.map Slot.val ++ List.replicate (n - ds.length) .no)) i → i = 0 := by
  obtain ⟨R0, no⟩ := start0 (n := n) (H := H) R.le R.tab R.nt rs
  have no' : ∀ i, Mt (.io d :: (ds.map Slot.val ++ List.replicate (n - ds.length) .no)) i → i = 0 := fun i ⟨w, h⟩ => by
    cases i with
    | zero => rfl
    | succ i => exact absurd ⟨w, by simpa using h⟩ (no i)
  obtain ⟨a', e', n', c'⟩ := R.mu 0 d (.inr rfl)
  simp at e'
  subst e'
  refine ⟨⟨R.le, by simpa using R0.len, fun i w h => ?_, fun i w h => ?_, fun i j b hi hj _ _ => by rw [no' i hi, no' j hj], fun i v h => ?_, R.tab, R.nt⟩, no'⟩
  · cases i with
    | zero => simp at h
    | succ i => exact R0.val i w (by simpa using h)
  · have := no' i ⟨w, h⟩
    subst this
    simp at h
    subst h
    exact ⟨a, rfl, n', c'⟩
  · cases i with
    | zero => simp at h
    | succ i => exact R0.raw i v (by simpa using h)
theorem entry {N : List Str} {n : Nat} {io : Bool} {m : Env → RS} {vs : List V} {Q : VK} {E : XK} (hn : n ≤ N.length) (h : spOf K mg n io (semS N.length io m) vs H Q E) :
    tS K mg (WE E) m { nx := fun _ H' => Q .non H', rt := Q } (L2.start N vs) H := by
  obtain ⟨hl, ds0, ds, Hf, h0, hne, R, rs, g⟩ := h
  unfold L2.start
  cases io with
  | false =>
    obtain rfl := isSome_none h0
    have rs : Reps K mg Hf ds vs := by simpa using rs
    obtain ⟨R0, no⟩ := start0 (n := N.length) (H := H) R.le R.tab R.nt rs
    have nown : ∀ a, ¬ OwnAt (ds.map Slot.val ++ List.replicate (N.length - ds.length) .no) (vs.map some ++ List.replicate (N.length - vs.length) none) a := fun a ⟨i, hm, _⟩ => no i hm
    refine ⟨Hf, _, R0, ?_⟩
    have conv : ∀ {σ' H' Hf' e}, ER K mg Hf' H' e σ' → TrS Hf H (ds.map Slot.val ++ List.replicate (N.length - ds.length) .no) (vs.map some ++ List.replicate (N.length - vs.length) none) Hf' H' e σ' → ER K mg Hf' H' [] [] ∧ Tr true Hf H [] Hf' H' [] [] := fun {σ' H' Hf' e} r t =>
      ⟨ER.nil r.le r.tab r.nt, ⟨t.up, rfl, fun _ h => h, fun i d h => by simp at h, fun a o q z _ => t.fr a o q z (nown a), fun a q => by
        rcases t.new a q with z | z | z
        · exact .inl z
        · exact .inr (.inl z)
        · exact absurd z (nown a), fun _ a o q z => t.fr a o q z (nown a), t.there⟩⟩
    unfold semS at g
    simp only [Option.toList_none, List.nil_append] at g
    have hst : startE N.length false ds = ds.map Slot.val ++ List.replicate (N.length - ds.length) .no := rfl
    rw [hst] at g
    cases q : m (ds.map Slot.val ++ List.replicate (N.length - ds.length) .no) with
    | no => rw [q] at g; exact g.elim
    | bk e => rw [q] at g; exact g.elim
    | ct e => rw [q] at g; exact g.elim
    | nx e =>
      rw [q] at g
      intro σ' H' Hf' r t
      obtain ⟨r1, t1⟩ := conv r t
      exact g.2 _ _ _ r1 t1 (VR.old .non)
    | ex c e =>
      rw [q] at g
      intro C σ' H' Hf' hC r t
      obtain ⟨r1, t1⟩ := conv r t
      exact g.2 _ _ _ hC r1 t1
    | rt d fr e =>
      rw [q] at g
      intro v σ' H' Hf' r t z
      obtain ⟨r1, t1⟩ := conv r t
      refine g.2 _ _ _ r1 t1 ?_
      unfold RV at z
      unfold VR
      cases fr with
      | false => simpa using z
      | true =>
        rw [if_pos rfl] at z ⊢
        obtain ⟨p, e, hp, _, r⟩ := z
        exact ⟨p, e, hp.resolve_right (nown p), r⟩
  | true =>
    cases ds0 with
    | none => simp at h0
    | some d0 =>
      cases vs with
      | nil => exact absurd rfl (hne rfl)
      | cons v0 vs =>
        have rs : Reps K mg Hf ds vs := by simpa using rs
        have R : ER K mg Hf H [.io d0] [some v0] := by simpa [ioE, ioS] using R
        obtain ⟨a, ea, na, ca⟩ := R.mu 0 d0 (.inr rfl)
        simp at ea
        subst ea
        obtain ⟨R0, no⟩ := start1 (n := N.length - 1) R rs
        have hst : startE N.length true (d0 :: ds) = .io d0 :: (ds.map Slot.val ++ List.replicate (N.length - 1 - ds.length) .no) := by
          unfold startE
          simp only [List.length_cons, List.cons_append]
          rw [show N.length - (ds.length + 1) = N.length - 1 - ds.length by omega]
        have hst' : (V.ref a :: vs).map some ++ List.replicate (N.length - (V.ref a :: vs).length) none = some (.ref a) :: (vs.map some ++ List.replicate (N.length - 1 - vs.length) none) := by
          simp only [List.length_cons, List.map_cons, List.cons_append]
          rw [show N.length - (vs.length + 1) = N.length - 1 - vs.length by omega]
        rw [hst']
        refine ⟨Hf, _, R0, ?_⟩
        have own1 : ∀ b, OwnAt (.io d0 :: (ds.map Slot.val ++ List.replicate (N.length - 1 - ds.length) .no)) (some (.ref a) :: (vs.map some ++ List.replicate (N.length - 1 - vs.length) none)) b → b = a := fun b ⟨i, hm, e⟩ => by
          have := no i hm
          subst this
          simpa using e.symm
        have own2 : OwnAt [.io d0] [some (.ref a)] a := ⟨0, ⟨d0, .inr rfl⟩, rfl⟩
        have conv : ∀ {σ' H' Hf' e}, ER K mg Hf' H' e σ' → TrS Hf H (.io d0 :: (ds.map Slot.val ++ List.replicate (N.length - 1 - ds.length) .no)) (some (.ref a) :: (vs.map some ++ List.replicate (N.length - 1 - vs.length) none)) Hf' H' e σ' →
            ∃ z, getS e 0 = .io z ∧ ER K mg Hf' H' [.io z] [some (.ref a)] ∧ Tr false Hf H [.io d0] Hf' H' [.io z] [some (.ref a)] ∧ OwnAt e σ' a := fun {σ' H' Hf' e} r t => by
          obtain ⟨⟨z, hz⟩, hs⟩ := t.io 0 d0 rfl
          have hs : σ'[0]? = some (some (.ref a)) := hs
          obtain ⟨a', e', n', c'⟩ := r.mu 0 z (.inr hz)
          rw [hs] at e'
          cases e'
          refine ⟨z, getS_at hz, ⟨r.le, rfl, fun i w h => ?_, fun i w h => ?_, fun i j b hi hj _ _ => ?_, fun i v h => ?_, r.tab, r.nt⟩, ⟨t.up, rfl, fun i ⟨w, h⟩ => ?_, fun i w h => ?_, fun b o q x n => t.fr b o q x fun y => n (own1 b y ▸ own2), fun b q => ?_, (fun h => nomatch h), t.there⟩, ⟨0, ⟨z, .inr hz⟩, hs⟩⟩
          · cases i with
            | zero => simp at h
            | succ i => simp at h
          · cases i with
            | zero =>
              simp at h
              subst h
              exact ⟨a, rfl, n', c'⟩
            | succ i => simp at h
          · obtain ⟨w, hw⟩ := hi
            obtain ⟨w', hw'⟩ := hj
            cases i with
            | zero => cases j with
              | zero => rfl
              | succ j => simp at hw'
            | succ i => simp at hw
          · cases i with
            | zero => simp at h
            | succ i => simp at h
          · cases i with
            | zero => exact ⟨d0, .inr rfl⟩
            | succ i => simp at h
          · cases i with
            | zero => exact ⟨z, rfl⟩
            | succ i => simp at h
          · rcases t.new b q with y | y | y
            · exact .inl y
            · exact .inr (.inl y)
            · exact .inr (.inr (own1 b y ▸ own2))
        unfold semS at g
        simp only [Option.toList_some, List.singleton_append, hst] at g
        cases q : m (.io d0 :: (ds.map Slot.val ++ List.replicate (N.length - 1 - ds.length) .no)) with
        | no => rw [q] at g; exact g.elim
        | bk e => rw [q] at g; exact g.elim
        | ct e => rw [q] at g; exact g.elim
        | nx e =>
          rw [q] at g
          intro σ' H' Hf' r t
          obtain ⟨z, hz, r1, t1, _⟩ := conv r t
          simp only [hz, if_true] at g
          exact g.2 _ _ _ r1 t1 (VR.old .non)
        | ex c e =>
          rw [q] at g
          intro C σ' H' Hf' hC r t
          obtain ⟨z, hz, r1, t1, _⟩ := conv r t
          simp only [hz, if_true] at g
          exact g.2 _ _ _ hC r1 t1
        | rt d fr e =>
          rw [q] at g
          intro v σ' H' Hf' r t y
          obtain ⟨z, hz, r1, t1, ow⟩ := conv r t
          simp only [hz, if_true] at g
          refine g.2 _ _ _ r1 t1 ?_
          unfold RV at y
          unfold VR
          cases fr with
          | false => simpa using y
          | true =>
            rw [if_pos rfl] at y ⊢
            obtain ⟨p, e, hp, hno, r⟩ := y
            refine ⟨p, e, hp.resolve_right fun x => ?_, r⟩
            rw [own1 p x] at hno
            exact hno ow
/-- THE RULE: a def of the module -/
theorem fnS_of {k n : Nat} {x qual : Str} {params : Arguments} {body : List Stmt} {scope : Scope} {f : Addr} {fd : FuncData} {N ps : List Str} {io : Bool} {m : Env → RS} (hg : mg x = some (.ref f)) (F : FunD K x qual params body scope [] [] f fd) (b : Binds K fd ps []) (S : FnScope N ps scope)
    (hn : ps.length = n) (hb : BodyOk P w K mg base k N qual scope f body m) : FnS P w K mg base (k + 1) x n io (semS N.length io m) := by
  subst hn
  have hle : ps.length ≤ N.length := by have := congrArg List.length S.pre; rw [List.length_take] at this; omega
  refine ⟨f, fd, ps, hg, F.kp, b, F.ok S (fun vs H Q E h => h.1) fun cdv A outer s H vs Q E hr h => ⟨_, hb cdv A outer s H E ⟨rfl, S.nd, hr, L2N.takes_of rfl rfl rfl rfl⟩ (passes_of rfl), entry hle h⟩⟩
end
end Cor
set_option Elab.async false
set_option linter.all false
set_option maxRecDepth 100000
set_option maxHeartbeats 2000000
/-! Cor12: the words in which bodies are read, and the rule of each. -/
namespace Cor
open PySem PySem.Spec L2
open PyProof.Rows (envOfC)

/-! ### expressions -/
def eLit (d : D) : Env → RE := fun env => .ok d false env
def eVar (i : Nat) : Env → RE := fun env => varE env i
def eRd (i : Nat) : Env → RE := fun env => rdE env i
def eBin (op : Operator) (ma mb : Env → RE) : Env → RE := fun env => (ma env).bind fun x _ e1 => (mb e1).bind fun y _ e2 => outE (binD op x y) e2
def eNeg (ma : Env → RE) : Env → RE := fun env => (ma env).bind fun x _ e1 => match x with
  | .int i => .ok (.int (-i)) false e1
  | _ => .no
def eNot (ma : Env → RE) : Env → RE := fun env => (ma env).bind fun x _ e1 => match x with
  | .bl b => .ok (.bl (!b)) false e1
  | _ => .no
def eCmp (op : CmpOp) (ma mb : Env → RE) : Env → RE := fun env => (ma env).bind fun x _ e1 => (mb e1).bind fun y _ e2 => outB (cmpD op x y) e2
def eChain (o1 o2 : CmpOp) (ma mb mc : Env → RE) : Env → RE := fun env => (ma env).bind fun x _ e1 => (mb e1).bind fun y _ e2 => match cmpD o1 x y with
  | some true => (mc e2).bind fun z _ e3 => outB (cmpD o2 y z) e3
  | some false => .ok (.bl false) false e2
  | none => .no
def eAnd (ma mb : Env → RE) : Env → RE := fun env => (ma env).bind fun x _ e1 => match x with
  | .bl true => mb e1
  | .bl false => .ok (.bl false) false e1
  | _ => .no
def eOr (ma mb : Env → RE) : Env → RE := fun env => (ma env).bind fun x _ e1 => match x with
  | .bl true => .ok (.bl true) false e1
  | .bl false => mb e1
  | _ => .no
def eIfe (mc ma mb : Env → RE) : Env → RE := fun env => (mc env).bind fun x _ e1 => match x with
  | .bl true => ma e1
  | .bl false => mb e1
  | _ => .no
def aNil : Env → REs := fun env => .ok [] env
def aCons (ma : Env → RE) (ms : Env → REs) : Env → REs := fun env => (ma env).bindI fun x _ e1 => match ms e1 with
  | .ok ds e2 => .ok (x :: ds) e2
  | .ex c e2 => .ex c e2
  | .no => .no
def eTup (ms : Env → REs) : Env → RE := fun env => (ms env).bind fun ds e1 => if ds.length ≤ lim then .ok (.tup ds) false e1 else .no
def eLst (ms : Env → REs) : Env → RE := fun env => (ms env).bind fun ds e1 => if ds.length ≤ lim then .ok (.lst ds) true e1 else .no
def eSub (ma mb : Env → RE) : Env → RE := fun env => (ma env).bind fun x _ e1 => (mb e1).bind fun y _ e2 => outD (subD x y) e2
def eSubR (i : Nat) (mb : Env → RE) : Env → RE := fun env => match (getS env i).get with
  | none => .no
  | some _ => (mb env).bind fun y _ e1 => match (getS e1 i).get with
    | some x => outD (subD x y) e1
    | none => .no
def oNone : Env → REs := fun env => .ok [] env
def oSome (ma : Env → RE) : Env → REs := fun env => (ma env).bindI fun x _ e1 => match x with
  | .int i => .ok [.int i] e1
  | _ => .no
def eSlc (ma : Env → RE) (ml mh : Env → REs) : Env → RE := fun env => (ma env).bind fun x _ e1 => (ml e1).bind fun l e2 => (mh e2).bind fun h e3 => match intO l.head?, intO h.head? with
  | some l', some h' => outE (slcD x l' h') e3
  | _, _ => .no
def eCall (f : Sem) (ms : Env → REs) : Env → RE := fun env => (ms env).bind fun ds e1 => callR false (f ds) e1
def eCallB (f : Sem) (ms : Env → REs) : Env → RE := fun env => (ms env).bind fun ds e1 => callR true (f ds) e1
def eCallIo (f : Sem) (i : Nat) (ms : Env → REs) : Env → RE := fun env => match ioGet env i with
  | none => .no
  | some _ => (ms env).bind fun ds e1 => match ioGet e1 i with
    | some d => callRio i (f (d :: ds)) e1
    | none => .no
def eB1 (f : BF) (ma : Env → RE) : Env → RE := fun env => (ma env).bind fun x _ e1 => outE (b1D f x) e1
def eM1 (mf : MF) (ma mb : Env → RE) : Env → RE := fun env => (ma env).bind fun x _ e1 => match x with
  | .str z => (mb e1).bind fun y _ e2 => outD (m1D mf (.str z) y) e2
  | _ => .no
def eComp (vs : List Nat) (mi : Env → REs) (t : TG) (mc me : Env → RE) : Env → RE := fun env => (mi env).bind fun ds e1 => match wipeE e1 vs with
  | none => .no
  | some e2 => (compL vs e1 t mc me ds e2 []).bind fun rs e3 => .ok (.lst rs) true (backE e1 e3 vs)
def eYes : Env → RE := fun env => .ok (.bl true) false env
/-! ### what is walked -/
def iLst (ma : Env → RE) : Env → REs := fun env => (ma env).bindI fun x _ e1 => match x with
  | .lst xs => .ok xs e1
  | _ => .no
def iTup (ma : Env → RE) : Env → REs := fun env => (ma env).bindI fun x _ e1 => match x with
  | .tup xs => .ok xs e1
  | _ => .no
def iStr (ma : Env → RE) : Env → REs := fun env => (ma env).bindI fun x _ e1 => match x with
  | .str xs => if xs.length ≤ lim then .ok (xs.map fun c => .str [c]) e1 else .no
  | _ => .no
def iRng1 (ma : Env → RE) : Env → REs := fun env => (ma env).bindI fun x _ e1 => match x with
  | .int n => outI (rngD 0 n) e1
  | _ => .no
def iRng2 (ma mb : Env → RE) : Env → REs := fun env => (ma env).bindI fun x _ e1 => (mb e1).bindI fun y _ e2 => match x, y with
  | .int n, .int m => outI (rngD n m) e2
  | _, _ => .no
/-! ### statements -/
def bNil : Env → RS := fun env => .nx env
def bCons (ms mt : Env → RS) : Env → RS := fun env => match ms env with
  | .nx e1 => mt e1
  | r => r
def sExpr (m : Env → RE) : Env → RS := fun env => (m env).bindS fun _ _ e1 => .nx e1
def sSet (i : Nat) (m : Env → RE) : Env → RS := fun env => (m env).bindS fun d fr e1 => putS e1 i d fr
def sUnp (t : TG) (m : Env → RE) : Env → RS := fun env => (m env).bindS fun d _ e1 => nxO (asg t d e1)
def sPar (i j : Nat) (ma mb : Env → RE) : Env → RS := fun env => (ma env).bindS fun x fx e1 => (mb e1).bindS fun y fy e2 => match putS e2 i x fx with
  | .nx e3 => putS e3 j y fy
  | _ => .no
def sPar3 (i j l : Nat) (ma mb mc : Env → RE) : Env → RS := fun env => (ma env).bindS fun x fx e1 => (mb e1).bindS fun y fy e2 => (mc e2).bindS fun z fz e3 => match putS e3 i x fx with
  | .nx e4 => match putS e4 j y fy with
    | .nx e5 => putS e5 l z fz
    | _ => .no
  | _ => .no
def sApp (i : Nat) (m : Env → RE) : Env → RS := fun env => match ioGet env i with
  | some (.lst _) => (m env).bindS fun d _ e1 => match ioGet e1 i with
    | some (.lst xs) => if xs.length < lim then .nx (e1.set i (putBack (getS e1 i) (.lst (xs ++ [d])))) else .no
    | _ => .no
  | _ => .no
def sStI (i : Nat) (mb ma : Env → RE) : Env → RS := fun env => (ma env).bindS fun d _ e1 => match ioGet e1 i with
  | none => .no
  | some _ => (mb e1).bindS fun z _ e2 => match ioGet e2 i, z with
    | some (.lst xs), .int n => match ixN xs.length n with
      | some j => .nx (e2.set i (putBack (getS e2 i) (.lst (xs.set j d))))
      | none => .no
    | _, _ => .no
def sStD (i : Nat) (mb ma : Env → RE) : Env → RS := fun env => (ma env).bindS fun d _ e1 => match ioGet e1 i with
  | some (.dct _ _ _) => (mb e1).bindS fun z _ e2 => match ioGet e2 i with
    | some (.dct tk ks ds) => if keyB tk z = true ∧ ks.length < lim then .nx (e2.set i (putBack (getS e2 i) (.dct tk (putKs ks z ks z) (putVs ks z ds d)))) else .no
    | _ => .no
  | _ => .no
def sRet (m : Env → RE) : Env → RS := fun env => (m env).bindS fun d fr e1 => .rt d fr e1
def sRetN : Env → RS := fun env => .rt .non false env
def sRetV (i : Nat) : Env → RS := fun env => match getS env i with
  | .own d => .rt d true (env.set i .no)
  | .val d => .rt d false env
  | _ => .no
def sIf (mc : Env → RE) (ms mt : Env → RS) : Env → RS := fun env => (mc env).bindS fun x _ e1 => match x with
  | .bl true => ms e1
  | .bl false => mt e1
  | _ => .no
def sFor (mi : Env → REs) (t : TG) (ms : Env → RS) : Env → RS := fun env => (mi env).bindS fun ds e1 => forL (fun x e => match asg t x e with
  | some e2 => ms e2
  | none => .no) ds e1
def sWhl (mc : Env → RE) (ms : Env → RS) : Env → RS := fun env => (whlL mc ms env).getD .no
def sBrk : Env → RS := fun env => .bk env
def sCnt : Env → RS := fun env => .ct env
def sAug (i : Nat) (op : Operator) (m : Env → RE) : Env → RS := fun env => match getS env i with
  | .val (.int x) => (m env).bindS fun y _ e1 => match y with
    | .int y => (match binD op (.int x) (.int y) with
      | some (z, _) => .nx (e1.set i (.val z))
      | none => .no)
    | _ => .no
  | _ => .no

/-! ### the rules -/
section
variable [LamDefs]
variable {X : Cx} {W : WX} {k : Nat} {a b c e : Expr} {es : List Expr} {pos p : Pos} {m ma mb mc : Env → RE} {ms mt : Env → REs} {st sa sb sc pa pb pc pu ps pt : Bool} {n i j l : Nat}
theorem pI {i : Int} {j : Nat} : PE X (.Constant (.int i) j pos) (tI X.K X.mg W true true (eLit (.int i))) := s_lit pe_int fun _ => .int i
theorem pB {b : Bool} {j : Nat} : PE X (.Constant (.bool b) j pos) (tI X.K X.mg W true true (eLit (.bl b))) := s_lit pe_bl fun _ => .bl b
theorem pN {j : Nat} : PE X (.Constant .none j pos) (tI X.K X.mg W true true (eLit .non)) := s_lit pe_non fun _ => .non
theorem pS {x : Str} {j : Nat} (xs : List Nat) (h : x = ⟨xs.toArray⟩ := by kernel_rfl) : PE X (.Constant (.str x) j pos) (tI X.K X.mg W true true (eLit (.str xs))) := s_lit pe_str fun _ => h ▸ .str xs
theorem pGI {x : Str} {i : Int} (hm : ∃ t, X.mg x = some (.int i t)) (hg : X.env.kindOf x = some .globalImplicit := by kernel_rfl) (hd : (x == ("__debug__" : Str)) = false := by kernel_rfl) : PE X (.Name x pos) (tI X.K X.mg W true true (eLit (.int i))) :=
  let ⟨t, h⟩ := hm; s_lit (pe_glob (v := .int i) hg h ⟨t, rfl⟩ hd) fun _ => .int i
theorem pGS {x z : Str} (xs : List Nat) (hm : ∃ t, X.mg x = some (.str z t)) (h : z = ⟨xs.toArray⟩ := by kernel_rfl) (hg : X.env.kindOf x = some .globalImplicit := by kernel_rfl) (hd : (x == ("__debug__" : Str)) = false := by kernel_rfl) : PE X (.Name x pos) (tI X.K X.mg W true true (eLit (.str xs))) :=
  let ⟨t, q⟩ := hm; s_lit (pe_glob (v := .str z) hg q ⟨t, rfl⟩ hd) fun _ => h ▸ .str xs
/-- a name that can be seen, as a test that computes -/
def visB (sc : Scope) (x : Str) : Bool := match sc.names.lookup x with
  | some .local => true
  | some .cell => true
  | some .free => true
  | _ => false
def locB (sc : Scope) (x : Str) : Bool := match sc.names.lookup x with
  | some .local => true
  | some .cell => true
  | _ => false
theorem vis_of {sc : Scope} {x : Str} (h : visB sc x = true) : Vis sc x := by
  unfold visB at h
  split at h
  · exact .inl (by assumption)
  · exact .inr (.inl (by assumption))
  · exact .inr (.inr (by assumption))
  · cases h
theorem loc_of {sc : Scope} {x : Str} (h : locB sc x = true) : Loc sc x := by
  unfold locB at h
  split at h
  · exact .inl (by assumption)
  · exact .inr (by assumption)
  · cases h
theorem pv0 (i : Nat) {x : Str} (hN : X.N[i]? = some x := by kernel_rfl) (hv : visB X.env.scope x = true := by kernel_rfl) (hd : (x == ("__debug__" : Str)) = false := by kernel_rfl) (hcd : (x == ("__classdict__" : Str)) = false := by kernel_rfl) : PE X (.Name x pos) (tVar i) := pe_var hN (vis_of hv) hd hcd
theorem pVar (h : PE X e (tVar i)) : PE X e (tI X.K X.mg W true true (eVar i)) := s_var h
theorem pRd (h : PE X e (tVar i)) : PE X e (tI X.K X.mg W false true (eRd i)) := s_rd h
theorem pBin {op : Operator} (ha : PE X a (tI X.K X.mg W true pa ma)) (hb : PE X b (tI X.K X.mg W true pb mb)) : PE X (.BinOp a op b pos) (tI X.K X.mg W true (pa && pb) (eBin op ma mb)) := s_bin ha hb
theorem pNeg (ha : PE X a (tI X.K X.mg W sa pa ma)) : PE X (.UnaryOp .USub a pos) (tI X.K X.mg W true pa (eNeg ma)) := s_neg ha
theorem pNot (ha : PE X a (tI X.K X.mg W sa pa ma)) : PE X (.UnaryOp .Not a pos) (tI X.K X.mg W true pa (eNot ma)) := s_not ha
theorem pCmp {op : CmpOp} (g : Gd k X W) (ha : PE X a (tI X.K X.mg W sa pa ma)) (hb : PE X b (tI X.K X.mg W sb pb mb)) (hs : (sa || pb) = true := by rfl) (hm : behindInMarks op b = false := by rfl) : PE X (.Compare a [op] [b] pos) (tI X.K X.mg W true (pa && pb) (eCmp op ma mb)) := s_cmp g.hu hm ha hb hs
theorem pChain {o1 o2 : CmpOp} (g : Gd k X W) (ha : PE X a (tI X.K X.mg W true pa ma)) (hb : PE X b (tI X.K X.mg W true pb mb)) (hc : PE X c (tI X.K X.mg W sc pc mc)) (hm : lastMarks [o1, o2] [b, c] = false := by rfl) : PE X (.Compare a [o1, o2] [b, c] pos) (tI X.K X.mg W true (pa && pb && pc) (eChain o1 o2 ma mb mc)) := s_chain g.hu hm ha hb hc
theorem pAnd {rest : List Expr} (ha : PE X a (tI X.K X.mg W sa pa ma)) (hb : PE X (.BoolOp .And (b :: rest) pos) (tI X.K X.mg W true pb mb)) : PE X (.BoolOp .And (a :: b :: rest) pos) (tI X.K X.mg W true (pa && pb) (eAnd ma mb)) := s_and ha hb
theorem pOr {rest : List Expr} (ha : PE X a (tI X.K X.mg W sa pa ma)) (hb : PE X (.BoolOp .Or (b :: rest) pos) (tI X.K X.mg W true pb mb)) : PE X (.BoolOp .Or (a :: b :: rest) pos) (tI X.K X.mg W true (pa && pb) (eOr ma mb)) := s_or ha hb
theorem pOne {op : BoolOp} {t : TE} (h : PE X a t) : PE X (.BoolOp op [a] pos) t := pe_one h
theorem pIfe (hc : PT X c (tTI X.K X.mg W mc)) (ha : PE X a (tI X.K X.mg W true pa ma)) (hb : PE X b (tI X.K X.mg W true pb mb)) : PE X (.IfExp c a b pos) (tI X.K X.mg W true false (eIfe mc ma mb)) := s_ife hc (PE.weak ha (fun h => nomatch h)) (PE.weak hb (fun h => nomatch h))
/-- arguments -/
structure QA (X : Cx) (W : WX) (es : List Expr) (n : Nat) (st ps : Bool) (ms : Env → REs) : Prop where
  pa : PA X es (tIs X.K X.mg W st ps ms)
  len : ∀ env ds e1, ms env = .ok ds e1 → ds.length = n
  star : starEach es X.env = es.map fun a => (false, eval a X.env)
theorem qNil : QA X W [] 0 st true aNil := ⟨s_anil, fun _ _ _ h => by cases h; rfl, rfl⟩
theorem qCons (ha : PE X a (tI X.K X.mg W sa pa ma)) (hr : QA X W es n st ps ms) (h1 : (!st || sa) = true := by rfl) (h2 : (st || ps) = true := by rfl) (hs : starEach (a :: es) X.env = (false, eval a X.env) :: starEach es X.env := by rfl) : QA X W (a :: es) (n + 1) st (pa && ps) (aCons ma ms) :=
  ⟨s_acons (fun h => by rw [h] at h1; simpa using h1) (fun h => by rw [h] at h2; simpa using h2) ha hr.pa hs, fun env ds e1 h => by
    unfold aCons at h
    cases q : ma env with
    | no => rw [q] at h; cases h
    | ex x e2 => rw [q] at h; cases h
    | ok d fr e2 =>
      rw [q] at h
      simp only [RE.bindI] at h
      cases q2 : ms e2 with
      | no => rw [q2] at h; cases h
      | ex x e3 => rw [q2] at h; cases h
      | ok ds2 e3 =>
        rw [q2] at h
        cases h
        simp [hr.len _ _ _ q2], by rw [hs, hr.star]; rfl⟩
theorem QA.any (h : QA X W es n st ps ms) : (backTo pos (starEach es X.env)).any (·.1) = false := by
  rw [h.star]
  have key : ∀ l : List Expr, (backTo pos (l.map fun a => (false, eval a X.env))).any (·.1) = false := fun l => by
    induction l with
    | nil => rfl
    | cons a l ih => exact ih
  exact key es
theorem pTup {x1 : Nat} (h : QA X W es n true ps ms) : PE X (.Tuple es x1 pos) (tI X.K X.mg W true ps (eTup ms)) := s_tup h.pa
theorem pLst (h : QA X W es n true ps ms) : PE X (.List es pos) (tI X.K X.mg W true ps (eLst ms)) := s_lst h.pa
theorem pSub (g : Gd k X W) (ha : PE X a (tI X.K X.mg W true pa ma)) (hb : PE X b (tI X.K X.mg W sb pb mb)) (hs : PlainIx b := by intro _ _; rfl) : PE X (.Subscript a b pos) (tI X.K X.mg W true (pa && pb) (eSub ma mb)) := s_sub g.hu hs ha hb
theorem pSubR (g : Gd k X W) (ha : PE X a (tVar i)) (hb : PE X b (tI X.K X.mg W sb pb mb)) (hs : PlainIx b := by intro _ _; rfl) : PE X (.Subscript a b pos) (tI X.K X.mg W true pb (eSubR i mb)) := s_subR g.hu hs ha hb
/-- a part of a slice -/
structure QO (X : Cx) (W : WX) (o : Option Expr) (pu : Bool) (mo : Env → REs) : Prop where
  po : PO X o (tOI X.K X.mg W pu mo)
  int : IntP mo
theorem qN : QO X W none true oNone := ⟨s_ono, intP_none⟩
theorem qS (ha : PE X a (tI X.K X.mg W sa pa ma)) : QO X W (some a) pa (oSome ma) := ⟨s_oso ha, intP_some⟩
theorem pSlc {lo hi : Option Expr} {ml mh : Env → REs} {pl ph : Bool} {p2' : Pos} (ha : PE X a (tI X.K X.mg W true pa ma)) (hl : QO X W lo pl ml) (hh : QO X W hi ph mh) : PE X (.Subscript a (.Slice lo hi none p2') pos) (tI X.K X.mg W true (pa && pl && ph) (eSlc ma ml mh)) := s_slc hl.int hh.int ha hl.po hh.po
theorem pCall {j : Nat} {x : Str} {f : Sem} (g : Gd k X W) (F : FnS X.prog X.w X.K X.mg X.base j x n false f) (ha : QA X W (a :: es) n true ps ms) (hj : j ≤ k := by decide) (hg : X.env.kindOf x = some .globalImplicit := by kernel_rfl) (hd : (x == ("__debug__" : Str)) = false := by kernel_rfl)
    (hn : (a :: es).length = n := by rfl) (he : starEach (a :: es) X.env = (false, eval a X.env) :: starEach es X.env := by rfl) (hpl : (backTo pos (starEach es X.env)).any (·.1) = false := by rfl) : PE X (.Call (.Name x p) (a :: es) [] pos) (tI X.K X.mg W true ps (eCall f ms)) :=
  s_call (F.mono hj) g.room hg g.tk hd hn ha.pa ha.len he hpl
theorem pCallB {j : Nat} {x : Str} {f : Sem} (g : Gd k X W) (F : FnS X.prog X.w X.K X.mg X.base j x n false f) (ha : QA X W (a :: es) n false ps ms) (hj : j ≤ k := by decide) (hg : X.env.kindOf x = some .globalImplicit := by kernel_rfl) (hd : (x == ("__debug__" : Str)) = false := by kernel_rfl)
    (hn : (a :: es).length = n := by rfl) (he : starEach (a :: es) X.env = (false, eval a X.env) :: starEach es X.env := by rfl) (hpl : (backTo pos (starEach es X.env)).any (·.1) = false := by rfl) : PE X (.Call (.Name x p) (a :: es) [] pos) (tI X.K X.mg W true ps (eCallB f ms)) :=
  s_callB (F.mono hj) g.room hg g.tk hd hn ha.pa ha.len he hpl
theorem pCallIo {j : Nat} {x : Str} {f : Sem} (g : Gd k X W) (F : FnS X.prog X.w X.K X.mg X.base j x (n + 1) true f) (ha : PE X a (tVar i)) (hes : QA X W es n true ps ms) (hj : j ≤ k := by decide) (hg : X.env.kindOf x = some .globalImplicit := by kernel_rfl) (hd : (x == ("__debug__" : Str)) = false := by kernel_rfl)
    (hn : (a :: es).length = n + 1 := by rfl) (he : starEach (a :: es) X.env = (false, eval a X.env) :: starEach es X.env := by rfl) (hpl : (backTo pos (starEach es X.env)).any (·.1) = false := by rfl) : PE X (.Call (.Name x p) (a :: es) [] pos) (tI X.K X.mg W true false (eCallIo f i ms)) :=
  s_callIo (F.mono hj) g.room hg g.tk hd hn ha hes.pa (fun env ds e1 h => by rw [hes.len env ds e1 h]) he hpl
theorem pB1 {f : BF} {x : Str} (hb : BCall X f x) (ha : PE X a (tI X.K X.mg W sa pa ma)) (hs : (sa || f.atomic) = true := by rfl) (hg : X.env.kindOf x = some .globalImplicit := by kernel_rfl) (he : starEach [a] X.env = (false, eval a X.env) :: starEach [] X.env := by rfl) : PE X (.Call (.Name x p) [a] [] pos) (tI X.K X.mg W true pa (eB1 f ma)) :=
  s_b1 hb hg (by simpa using hs) ha he
theorem pIsi {f : BF} {T : String} {t : Expr} (h : IsOk X T (b1D f)) (hff : ∀ d q fr, b1D f d = some (q, fr) → fr = false) (hm : X.mg "isinstance" = none) (ht : PE X t (tC (.ty T))) (ha : PE X a (tI X.K X.mg W sa pa ma)) (hf : f.atomic = true := by rfl) (hg : X.env.kindOf "isinstance" = some .globalImplicit := by kernel_rfl)
    (he : starEach [a, t] X.env = (false, eval a X.env) :: starEach [t] X.env := by rfl) (he2 : starEach [t] X.env = (false, eval t X.env) :: starEach [] X.env := by rfl) (hpl : (backTo pos (starEach [t] X.env)).any (·.1) = false := by rfl) : PE X (.Call (.Name "isinstance" p) [a, t] [] pos) (tI X.K X.mg W true pa (eB1 f ma)) :=
  s_isi (p2' := pos) h hf hff hm hg ht ha he he2 hpl
theorem pM1 {mf : MF} {id : String} {name : Str} {o : Expr} {apos : Pos} (h : SmOk X id mf) (slot : PySem.Slot "str" name id) (ty : typeOf (.builtin id) = pure (.type "method_descriptor")) (ho : PE X o (tI X.K X.mg W true pa ma)) (ha : PE X a (tI X.K X.mg W true pb mb))
    (hs : starEach [a] X.env = [(false, eval a X.env)] := by rfl) (hbase : attributeBase o name X.env (eval o X.env) = eval o X.env := by rfl) (hline : (apos.endLine == pos.line) = true := by rfl) : PE X (.Call (.Attribute o name apos) [a] [] pos) (tI X.K X.mg W true (pa && pb) (eM1 mf ma mb)) :=
  s_m1 h slot ty ho ha hs hbase hline
/-! ### tests -/
theorem tVal (h : PE X e (tI X.K X.mg W st pu m)) (he : ∀ whole, isTrue e X.env whole = (do let v ← whole; standAt e.pos; holding [v] (truthy v)) := by intro _; rfl) : PT X e (tTI X.K X.mg W m) := s_test h he
theorem tCmp {op : CmpOp} (g : Gd k X W) (ha : PE X a (tI X.K X.mg W sa pa ma)) (hb : PE X b (tI X.K X.mg W sb pb mb)) (hs : (sa || pb) = true := by rfl) (hm : behindInMarks op b = false := by rfl) : PT X (.Compare a [op] [b] pos) (tTI X.K X.mg W (eCmp op ma mb)) := s_tcmp g.hu hm ha hb hs
theorem tChn {o1 o2 : CmpOp} (g : Gd k X W) (ha : PE X a (tI X.K X.mg W true pa ma)) (hb : PE X b (tI X.K X.mg W true pb mb)) (hc : PE X c (tI X.K X.mg W sc pc mc)) (hm : lastMarks [o1, o2] [b, c] = false := by rfl) : PT X (.Compare a [o1, o2] [b, c] pos) (tTI X.K X.mg W (eChain o1 o2 ma mb mc)) := s_tchain g.hu hm ha hb hc
theorem tNt (ha : PT X a (tTI X.K X.mg W ma)) : PT X (.UnaryOp .Not a pos) (tTI X.K X.mg W (eNot ma)) := s_tnot ha
theorem wAnd (ha : PT X a (tTI X.K X.mg W ma)) {rest : List Expr} (hb : PW X (.BoolOp .And (b :: rest) pos) (tTI X.K X.mg W mb)) : PW X (.BoolOp .And (a :: b :: rest) pos) (tTI X.K X.mg W (eAnd ma mb)) := s_tand ha hb
theorem wOr (ha : PT X a (tTI X.K X.mg W ma)) {rest : List Expr} (hb : PW X (.BoolOp .Or (b :: rest) pos) (tTI X.K X.mg W mb)) : PW X (.BoolOp .Or (a :: b :: rest) pos) (tTI X.K X.mg W (eOr ma mb)) := s_tor ha hb
theorem wAnd1 (ha : PT X a (tTI X.K X.mg W ma)) : PW X (.BoolOp .And [a] pos) (tTI X.K X.mg W ma) := pw_and1 ha
theorem wOr1 (ha : PT X a (tTI X.K X.mg W ma)) : PW X (.BoolOp .Or [a] pos) (tTI X.K X.mg W ma) := pw_or1 ha
theorem tBool {t : TT} (h : PW X e t) : PT X e t := h.pt
/-! ### what is walked, targets, comprehensions -/
theorem jLst {tg : Expr} (ha : PE X a (tI X.K X.mg W true pa ma)) : PI X tg a (tJ X.K X.mg W pa (iLst ma)) := i_lst ha
theorem jTup {tg : Expr} (ha : PE X a (tI X.K X.mg W true pa ma)) : PI X tg a (tJ X.K X.mg W pa (iTup ma)) := i_tup ha
theorem jStr {tg : Expr} (ha : PE X a (tI X.K X.mg W true pa ma)) : PI X tg a (tJ X.K X.mg W pa (iStr ma)) := i_str ha
theorem jRng1 {tg : Expr} (hm : X.mg "range" = none) (ha : PE X a (tI X.K X.mg W sa pa ma)) (hg : X.env.kindOf "range" = some .globalImplicit := by kernel_rfl) (hs : starEach [a] X.env = [(false, eval a X.env)] := by rfl) : PI X tg (.Call (.Name "range" p) [a] [] pos) (tJ X.K X.mg W pa (iRng1 ma)) := i_rng1 hg hm ha hs
theorem jRng2 {tg : Expr} (hm : X.mg "range" = none) (ha : PE X a (tI X.K X.mg W sa pa ma)) (hb : PE X b (tI X.K X.mg W sb pb mb)) (hg : X.env.kindOf "range" = some .globalImplicit := by kernel_rfl) (hs : starEach [a, b] X.env = [(false, eval a X.env), (false, eval b X.env)] := by rfl) (hs2 : starEach [b] X.env = [(false, eval b X.env)] := by rfl) : PI X tg (.Call (.Name "range" p) [a, b] [] pos) (tJ X.K X.mg W (pa && pb) (iRng2 ma mb)) := i_rng2 hg hm ha hb hs hs2
theorem gNm (g : Gd k X W) (i : Nat) {x : Str} (hi : X.N[i]? = some x := by kernel_rfl) (hx : locB X.env.scope x = true := by kernel_rfl) (hf : (X.fn x || match X.env.scope.names.lookup x with
    | some .local => true
    | _ => false) = true := by kernel_rfl) : PG X (.Name x pos) (tG X.K X.mg (.nm i)) :=
  g_nm (pg_name g.nd hi (loc_of hx) (by
    rw [Bool.or_eq_true] at hf
    refine hf.imp id fun h => ?_
    split at h
    · assumption
    · cases h))
theorem gsNil : PGs X [] (tGs X.K X.mg []) := gs_nil
theorem gsCons {t : TG} {ts : List TG} (h1 : PG X e (tG X.K X.mg t)) (h2 : PGs X es (tGs X.K X.mg ts)) (hs : (assignEach (e :: es) X.env).map (·.2) = assign e X.env :: (assignEach es X.env).map (·.2) := by rfl) : PGs X (e :: es) (tGs X.K X.mg (t :: ts)) := gs_cons h1 h2 hs
theorem gTp (g : Gd k X W) {x1 : Nat} {ts : List TG} (h : PGs X es (tGs X.K X.mg ts)) (hn : (assignEach es X.env).length = ts.length := by rfl) (hst : (assignEach es X.env).findIdx? (·.1) = none := by rfl) : PG X (.Tuple es x1 pos) (tG X.K X.mg (.tup ts)) := g_tup g.calm h hn hst
theorem cNil : PTs X [] (tTI X.K X.mg W eYes) := PTs.imp pts_nil fun σ H Q ⟨Hf, env, R, g⟩ => g H Hf R Tr.refl
theorem cOne (h : PT X c (tTI X.K X.mg W mc)) : PTs X [c] (tTI X.K X.mg W mc) := pts_one h
theorem pComp {tg iter elt : Expr} {ifs : List Expr} {scope : Scope} (own : List (Str × Nat)) {t : TG} {pi pe : Bool} {mi : Env → REs} {mc me : Env → RE} (g : Gd k X W) (hi : PI X tg iter (tJ X.K X.mg W pi mi))
    (hg : ∀ (s : Shared) (H : Hp) (C : Addr) (cl : List (Str × Addr)) (fp : List Addr), PG (X.blk s H scope (compEnvC scope cl C X.env) fp) tg (tG X.K X.mg t)) (ht : ∀ (s : Shared) (H : Hp) (C : Addr) (cl : List (Str × Addr)) (fp : List Addr), PTs (X.blk s H scope (compEnvC scope cl C X.env) fp) ifs (tTI X.K X.mg WF mc))
    (he : ∀ (s : Shared) (H : Hp) (C : Addr) (cl : List (Str × Addr)) (fp : List Addr), PE (X.blk s H scope (compEnvC scope cl C X.env) fp) elt (tI X.K X.mg WF true pe me)) (ok : blkC X.N X.env.scope scope own = true := by kernel_rfl) (hix : (t.ix.all fun j => decide (j ∈ own.map (·.2))) = true := by kernel_rfl) (hs : ∀ x, foldedSetIterable iter X.env x = pure x := by intro _; rfl) :
    PE X (.ListComp elt [⟨tg, iter, ifs, 0⟩] scope pos) (tI X.K X.mg W true false (eComp (own.map (·.2)) mi t mc me)) :=
  s_comp g.calm g.nd hi (blkOk_by ok) (fun j hj => by simpa using List.all_eq_true.mp hix j hj) hg ht he hs
end

section
variable [LamDefs] {X : Cx} {W : WX} {k : Nat} {a b c e : Expr} {es : List Expr} {pos p : Pos} {m ma mb mc : Env → RE} {ms mt : Env → RS} {st sa sb sc pa pb pc pu ps pt : Bool} {n i j l : Nat}
theorem kNil : PSs X [] (tS X.K X.mg W bNil) := ss_nil
theorem kCons {s : Stmt} {ss : List Stmt} (h1 : PS X s (tS X.K X.mg W ms)) (h2 : PSs X ss (tS X.K X.mg W mt)) : PSs X (s :: ss) (tS X.K X.mg W (bCons ms mt)) := ss_cons h1 h2
theorem kExpr (he : PE X e (tI X.K X.mg W sa pa m)) (hs : swapsWith e none pos.line X.env = pure false := by rfl) : PS X (.Expr e pos) (tS X.K X.mg W (sExpr m)) := s_expr he hs
theorem kSet (g : Gd k X W) (i : Nat) {x : Str} (he : PE X e (tI X.K X.mg W true pa m)) (hi : X.N[i]? = some x := by kernel_rfl) (hx : locB X.env.scope x = true := by kernel_rfl) (hf : X.fn x = true := by rfl) (hs : swapsWith e (some (.Name x p)) pos.line X.env = pure false := by rfl) : PS X (.Assign [.Name x p] e pos) (tS X.K X.mg W (sSet i m)) :=
  s_set g.nd hi (loc_of hx) (PE.weak he (fun h => nomatch h)) hs (.inl hf)
theorem kSetLc {y : Str} {py : Pos} {tg iter elt : Expr} {ifs : List Expr} {scope : Scope} {spos : Pos} {t : TG} {pi pe : Bool} {mi : Env → REs} {mc me : Env → RE} (g : Gd k X W) (i : Nat) (own : List (Str × Nat)) (hi : PI X tg iter (tJ X.K X.mg W pi mi))
    (hg : ∀ (s : Shared) (H : Hp) (C : Addr) (cl : List (Str × Addr)) (fp : List Addr), PG (X.blk s H scope (compEnvC scope cl C X.env) fp) tg (tG X.K X.mg t)) (ht : ∀ (s : Shared) (H : Hp) (C : Addr) (cl : List (Str × Addr)) (fp : List Addr), PTs (X.blk s H scope (compEnvC scope cl C X.env) fp) ifs (tTI X.K X.mg WF mc))
    (he : ∀ (s : Shared) (H : Hp) (C : Addr) (cl : List (Str × Addr)) (fp : List Addr), PE (X.blk s H scope (compEnvC scope cl C X.env) fp) elt (tI X.K X.mg WF true pe me)) (hy : X.N[i]? = some y := by kernel_rfl) (hyl : X.env.scope.names.lookup y = some .local := by kernel_rfl)
    (hk : X.env.scope.kind = .function := by kernel_rfl) (hl : (py.line == pos.line) = true := by rfl) (hna : (scope.names.any fun (n, k) => n == y && (k == .local || k == .cell)) = false := by kernel_rfl)
    (ok : blkC X.N X.env.scope scope own = true := by kernel_rfl) (hix : (t.ix.all fun j => decide (j ∈ own.map (·.2))) = true := by kernel_rfl) (hs : ∀ x, foldedSetIterable iter X.env x = pure x := by intro _; rfl) :
    PS X (.Assign [.Name y py] (.ListComp elt [⟨tg, iter, ifs, 0⟩] scope pos) spos) (tS X.K X.mg W (sSet i (eComp (own.map (·.2)) mi t mc me))) :=
  s_setLc g.calm g.nd hy hyl (sw_true hk hyl hl hna) hi (blkOk_by ok) (fun j hj => by simpa using List.all_eq_true.mp hix j hj) hg ht he hs
theorem kUnp {tg : Expr} {t : TG} (he : PE X e (tI X.K X.mg W true pa m)) (hg : PG X tg (tG X.K X.mg t)) (hs : swapsWithSole [tg] e pos.line X.env = pure false := by rfl) (hw : swappedStores [tg] e X.env = pure none := by rfl) (h1 : (assignEach [tg] X.env).map (·.2) = [assign tg X.env] := by rfl) : PS X (.Assign [tg] e pos) (tS X.K X.mg W (sUnp t m)) :=
  s_unp (PE.weak he (fun h => nomatch h)) hg hs hw h1
theorem kPar {x y : Str} {px py pt : Pos} {kt k2 pt2} (g : Gd k X W) (i j : Nat) (ha : PE X a (tI X.K X.mg W true pa ma)) (hb : PE X b (tI X.K X.mg W true pb mb)) (hi : X.N[i]? = some x := by kernel_rfl) (hj : X.N[j]? = some y := by kernel_rfl) (hij : i ≠ j := by decide)
    (hx : X.env.scope.names.lookup x = some .local := by kernel_rfl) (hy : X.env.scope.names.lookup y = some .local := by kernel_rfl) (hse : starEach [a, b] X.env = (false, eval a X.env) :: starEach [b] X.env := by rfl) (hse2 : starEach [b] X.env = (false, eval b X.env) :: starEach [] X.env := by rfl)
    (hw : swappedStores [.Tuple [.Name x px, .Name y py] kt pt] (.Tuple [a, b] k2 pt2) X.env = pure (some [x, y]) := by rfl) (hs : swapsWithSole [.Tuple [.Name x px, .Name y py] kt pt] (.Tuple [a, b] k2 pt2) pos.line X.env = pure false := by rfl) :
    PS X (.Assign [.Tuple [.Name x px, .Name y py] kt pt] (.Tuple [a, b] k2 pt2) pos) (tS X.K X.mg W (sPar i j ma mb)) := s_par g.calm g.nd hi hj hij hx hy ha hb hse hse2 hw hs
theorem kPar3 {x y z : Str} {px py pz pt : Pos} {kt k2 pt2} (g : Gd k X W) (i j l : Nat) (ha : PE X a (tI X.K X.mg W true pa ma)) (hb : PE X b (tI X.K X.mg W true pb mb)) (hc : PE X c (tI X.K X.mg W true pc mc)) (hi : X.N[i]? = some x := by kernel_rfl) (hj : X.N[j]? = some y := by kernel_rfl) (hl : X.N[l]? = some z := by kernel_rfl) (hij : i ≠ j := by decide) (hil : i ≠ l := by decide) (hjl : j ≠ l := by decide)
    (hx : X.env.scope.names.lookup x = some .local := by kernel_rfl) (hy : X.env.scope.names.lookup y = some .local := by kernel_rfl) (hz : X.env.scope.names.lookup z = some .local := by kernel_rfl)
    (hse : starEach [a, b, c] X.env = (false, eval a X.env) :: starEach [b, c] X.env := by rfl) (hse2 : starEach [b, c] X.env = (false, eval b X.env) :: starEach [c] X.env := by rfl) (hse3 : starEach [c] X.env = (false, eval c X.env) :: starEach [] X.env := by rfl)
    (hw : swappedStores [.Tuple [.Name x px, .Name y py, .Name z pz] kt pt] (.Tuple [a, b, c] k2 pt2) X.env = pure (some [x, y, z]) := by rfl) (hs : swapsWithSole [.Tuple [.Name x px, .Name y py, .Name z pz] kt pt] (.Tuple [a, b, c] k2 pt2) pos.line X.env = pure false := by rfl) :
    PS X (.Assign [.Tuple [.Name x px, .Name y py, .Name z pz] kt pt] (.Tuple [a, b, c] k2 pt2) pos) (tS X.K X.mg W (sPar3 i j l ma mb mc)) := s_par3 g.calm g.nd hi hj hl hij hil hjl hx hy hz ha hb hc hse hse2 hse3 hw hs
theorem kApp {apos cpos : Pos} {o : Expr} (ho : PE X o (tVar i)) (he : PE X e (tI X.K X.mg W true pa m)) (hbase : attributeBase o "append" X.env (eval o X.env) = eval o X.env := by rfl)
    (hfew : ((backTo cpos (starEach [e] X.env)).all (fun x => !x.1) && (backToKw cpos (keywordEach [] X.env)).all (fun x => x.1.isSome) && decide (([e] : List Expr).length + ([] : List Keyword).length + (if ([] : List Keyword).isEmpty then 0 else 1) < 30)) = true := by rfl)
    (hline : (apos.endLine == cpos.line) = true := by rfl) (hse : starEach [e] X.env = (false, eval e X.env) :: starEach [] X.env := by rfl) (hs : swapsWith (.Call (.Attribute o "append" apos) [e] [] cpos) none pos.line X.env = pure false := by rfl) :
    PS X (.Expr (.Call (.Attribute o "append" apos) [e] [] cpos) pos) (tS X.K X.mg W (sApp i m)) := s_app ho he hbase hfew hline hse rfl hs
theorem kStI {o kx v : Expr} {spos : Pos} (ho : PE X o (tVar i)) (hk : PE X kx (tI X.K X.mg W sb pb mb)) (hv : PE X v (tI X.K X.mg W true pa ma))
    (has : ∀ u, assign (.Subscript o kx spos) X.env u = (do
      let ov ← holding [u] (eval o X.env)
      let iv ← holding [u, ov] (eval kx X.env)
      standAt spos
      holding [u, ov, iv] (setItem ov iv u)
      release [u, ov, iv] []) := by intro _; rfl)
    (hs : swapsWithSole [.Subscript o kx spos] v pos.line X.env = pure false := by rfl) (hw : swappedStores [.Subscript o kx spos] v X.env = pure none := by rfl)
    (h1 : (assignEach [.Subscript o kx spos] X.env).map (·.2) = [assign (.Subscript o kx spos) X.env] := by rfl) :
    PS X (.Assign [.Subscript o kx spos] v pos) (tS X.K X.mg W (sStI i mb ma)) := s_stI ho hk hv has hs hw h1
theorem kStD {o kx v : Expr} {spos : Pos} (g : Gd k X W) (ho : PE X o (tVar i)) (hk : PE X kx (tI X.K X.mg W true pb mb)) (hv : PE X v (tI X.K X.mg W true pa ma))
    (has : ∀ u, assign (.Subscript o kx spos) X.env u = (do
      let ov ← holding [u] (eval o X.env)
      let iv ← holding [u, ov] (eval kx X.env)
      standAt spos
      holding [u, ov, iv] (setItem ov iv u)
      release [u, ov, iv] []) := by intro _; rfl)
    (hs : swapsWithSole [.Subscript o kx spos] v pos.line X.env = pure false := by rfl) (hw : swappedStores [.Subscript o kx spos] v X.env = pure none := by rfl)
    (h1 : (assignEach [.Subscript o kx spos] X.env).map (·.2) = [assign (.Subscript o kx spos) X.env] := by rfl) :
    PS X (.Assign [.Subscript o kx spos] v pos) (tS X.K X.mg W (sStD i mb ma)) := s_stD g.hu ho hk hv has hs hw h1
theorem kRet (he : PE X e (tI X.K X.mg W true pa m)) : PS X (.Return (some e) pos) (tS X.K X.mg W (sRet m)) := s_ret he
theorem kRetN : PS X (.Return none pos) (tS X.K X.mg W sRetN) := s_retN
theorem kRetV (h : PE X e (tVar i)) : PS X (.Return (some e) pos) (tS X.K X.mg W (sRetV i)) := s_retV h
theorem kIf {A B : List Stmt} (hc : PT X c (tTI X.K X.mg W mc)) (ha : PSs X A (tS X.K X.mg W ms)) (hb : PSs X B (tS X.K X.mg W mt)) : PS X (.If c A B pos) (tS X.K X.mg W (sIf mc ms mt)) := s_ifs hc ha hb
theorem kFor {tg iter : Expr} {body : List Stmt} {t : TG} {mi : Env → REs} (g : Gd k X W) (hp : PassesOwn (model X.prog X.w) X.A X.env X.xe) (hi : PI X tg iter (tJ X.K X.mg W pa mi)) (hg : PG X tg (tG X.K X.mg t)) (hb : PSs X body (tS X.K X.mg W ms)) (hs : ∀ x, foldedSetIterable iter X.env x = pure x := by intro _; rfl) : PS X (.For tg iter body [] pos) (tS X.K X.mg W (sFor mi t ms)) := s_for hp g.calm hi hg hb hs
theorem kWhl {body : List Stmt} (hp : PassesOwn (model X.prog X.w) X.A X.env X.xe) (hc : PT X c (tTI X.K X.mg W mc)) (hb : PSs X body (tS X.K X.mg W ms)) : PS X (.While c body [] pos) (tS X.K X.mg W (sWhl mc ms)) := s_whl hp hc hb
theorem kBrk : PS X (.Break pos) (tS X.K X.mg W sBrk) := s_brk
theorem kCnt : PS X (.Continue pos) (tS X.K X.mg W sCnt) := s_cnt
theorem kPass : PS X (.Pass pos) (tS X.K X.mg W bNil) := s_pass
theorem kAug {x : Str} {op : Operator} (g : Gd k X W) (i : Nat) (he : PE X e (tI X.K X.mg W sa pa m)) (hop : op = .Add ∨ op = .Sub := by first | exact .inl rfl | exact .inr rfl) (hi : X.N[i]? = some x := by kernel_rfl) (hx : locB X.env.scope x = true := by kernel_rfl) (hf : X.fn x = true := by rfl) : PS X (.AugAssign (.Name x p) op e pos) (tS X.K X.mg W (sAug i op m)) :=
  s_aug hop g.nd hi (loc_of hx) he (.inl hf)
end
end Cor
set_option Elab.async false
set_option linter.all false
set_option maxRecDepth 100000
set_option maxHeartbeats 2000000
/-! CorE: dicts made, walked, asked. -/
namespace Cor
open PySem PySem.Spec L2
section
variable [LamDefs] {K : PySem.W.Frag} {mg : Str → Option Value} {H Hf : Hp}
/-- the entries, in order -/
structure Ent (o : Obj) (kvv vvs : List V) (es : Array DictEntry) (ep : Nat) : Prop where
  ex : o.ExactDict
  dat : o.data = .dict es ep
  ks : Vals kvv (es.toList.map (·.key))
  vs : Vals vvs (es.toList.map (·.val))
theorem Ent.sizeK {o : Obj} {kvv vvs : List V} {es : Array DictEntry} {ep : Nat} (e : Ent o kvv vvs es ep) : es.size = kvv.length := by
  have := e.ks.length
  simpa using this.symm
theorem Ent.sizeV {o : Obj} {kvv vvs : List V} {es : Array DictEntry} {ep : Nat} (e : Ent o kvv vvs es ep) : es.size = vvs.length := by
  have := e.vs.length
  simpa using this.symm
theorem dsh_ent (P : Program) (w : World) {tk : Bool} {o : Obj} {ks : List D} {kvv vvs : List V} (sh : DSh tk o ks kvv vvs) : ∃ es ep, Ent o kvv vvs es ep := by
  unfold DSh at sh
  cases tk with
  | true =>
    rw [if_pos rfl] at sh
    obtain ⟨es, ep, xs, hx, hdt, he, hn, h1, h2, h3, h4⟩ := sh
    have e := he P w
    refine ⟨es, ep, hx, hdt, ?_, ?_⟩
    · rw [e, h3, List.map_map]
      have : ∀ l : List (NestedKey × Addr × Value), Vals (l.map fun x => V.ref x.2.1) (l.map ((·.key) ∘ entryOfKey (nestedKind P w))) := fun l => by
        induction l with
        | nil => exact .nil
        | cons x l ih => exact .cons rfl ih
      exact this xs
    · rw [e, List.map_map]
      exact h4
  | false =>
    rw [if_neg Bool.false_ne_true] at sh
    obtain ⟨es, ep, kvs, hx, hdt, he, hn, h1, h2, h3⟩ := sh
    obtain ⟨e1, e2⟩ := he P w
    refine ⟨es, ep, hx, hdt, ?_, ?_⟩
    · rw [← h1]
      have : ∀ (l : List DictEntry) (kvs : List (Key × Value)), Pairs (mixKind P w) l kvs → Vals (kvs.map fun x => kV x.1) (l.map (·.key)) := fun l kvs p => by
        induction p with
        | nil => exact .nil
        | @cons e kv es kvs q1 q2 _ ih =>
          refine .cons ?_ ih
          rcases keyIs_shape q1 with ⟨i, t, e3, e4⟩ | ⟨x, t, e3, e4⟩
          · show RelV (kV kv.1) e.key
            rw [e3, e4]; exact ⟨t, rfl⟩
          · show RelV (kV kv.1) e.key
            rw [e3, e4]; exact ⟨t, rfl⟩
      exact this _ _ e2
    · have : ∀ (l : List DictEntry) (kvs : List (Key × Value)), Pairs (mixKind P w) l kvs → l.map (·.val) = kvs.map (·.2) := fun l kvs p => by
        induction p with
        | nil => rfl
        | cons q1 q2 _ ih => simp [q2, ih]
      rw [this _ _ e2]
      exact h3
theorem ent_key {o : Obj} {kvv vvs : List V} {es : Array DictEntry} {ep i : Nat} (e : Ent o kvv vvs es ep) (hi : i < es.size) : ∃ v, kvv[i]? = some v ∧ RelV v es[i].key := by
  have hv : kvv[i]? = some (kvv[i]'(by rw [← e.sizeK]; exact hi)) := List.getElem?_eq_getElem _
  obtain ⟨u, hu, r⟩ := e.ks.get hv
  rw [List.getElem?_map] at hu
  have : es.toList[i]? = some es[i] := by simp [hi]
  rw [this] at hu
  cases hu
  exact ⟨_, hv, r⟩
theorem ent_val {o : Obj} {kvv vvs : List V} {es : Array DictEntry} {ep i : Nat} (e : Ent o kvv vvs es ep) (hi : i < es.size) : ∃ v, vvs[i]? = some v ∧ RelV v es[i].val := by
  have hv : vvs[i]? = some (vvs[i]'(by rw [← e.sizeV]; exact hi)) := List.getElem?_eq_getElem _
  obtain ⟨u, hu, r⟩ := e.vs.get hv
  rw [List.getElem?_map] at hu
  have : es.toList[i]? = some es[i] := by simp [hi]
  rw [this] at hu
  cases hu
  exact ⟨_, hv, r⟩
/-- the dict's keys, its values, its pairs -/
def ItK (a : Addr) (o : Obj) (vs : List V) : It :=
  ⟨fun i H => i < vs.length ∧ H a = some (DObj a o), fun i H v H' => H' = H ∧ vs[i]? = some v, fun i H => vs.length ≤ i ∧ H a = some (DObj a o)⟩
def ItP (a : Addr) (o : Obj) (ks vs : List V) : It :=
  ⟨fun i H => i < ks.length ∧ H a = some (DObj a o), fun i H v H' => ∃ T x y, v = .ref T ∧ H T = none ∧ H' = upd H T (.tup [x, y]) ∧ ks[i]? = some x ∧ vs[i]? = some y, fun i H => ks.length ≤ i ∧ H a = some (DObj a o)⟩
section
variable {P : Program} {w : World} {tg : Expr} {a : Addr} {o : Obj} {kvv vvs : List V} {es : Array DictEntry} {ep : Nat}
theorem turn_K (it : Addr) (e : Ent o kvv vvs es ep) : Turn P w K tg (ItK a o kvv) [it] it (fun i h => h.IsKeyIter it a i es.size ep) where
  mem := by simp
  obj := fun i h st b hb => by
    have e : b = it := by simpa using hb
    subst e
    obtain ⟨oi, e, c, dd⟩ := st
    exact ⟨oi, e, fun v z => by rw [dd] at z; cases z⟩
  keep := fun i h h' st k => st.at fun oi e => k it (by simp) oi e
  item := by
    intro X hP hw hK hc i pins s σ H E I hf st ⟨hi, hd⟩
    subst hP hw hK
    obtain ⟨f0, f1, f2, f3, f4, f5⟩ := hf it (by simp)
    have hi' : i < es.size := by rw [e.sizeK]; exact hi
    refine wpAny_pyNext_keys_item_raw st ⟨o, dobj_at I hd, e.ex, e.dat⟩ hi' fun h' st' sb => ?_
    have I1 : Inv X pins σ H { s with heap := h' } := I.turned (t' := s.toks) (fun b ob hb q => (sb.2 b hb).trans q) f0 f1 f3 f4 f5
    obtain ⟨v, hv, rv⟩ := ent_key e hi'
    obtain ⟨oi, q1, q2, q3⟩ := id st'
    exact ⟨_, rfl, go_of (s := { s with heap := h' }) q1 q2 q3 (by decide) ⟨v, H, I1, rv, ⟨rfl, hv⟩, st', fun b hb => (hf b hb).1⟩⟩
  done := by
    intro X hP hw hK hc i pins s σ H E I hf st ⟨hi, hd⟩
    subst hP hw hK
    obtain ⟨f0, f1, f2, f3, f4, f5⟩ := hf it (by simp)
    exact wpAny_pyNext_keys_end_raw (I.ok.hd hc) st ⟨o, dobj_at I hd, e.ex, e.dat⟩ (by rw [e.sizeK]; exact hi) fun h' eb => ⟨rfl, I.turned (t' := s.toks) (fun b ob hb q => eb b ob hb q) f0 f1 f3 f4 f5⟩
  self := fun A i s Q E st h => wpAny_pyIter_keyiter st h
theorem turn_V (it : Addr) (e : Ent o kvv vvs es ep) : Turn P w K tg (ItK a o vvs) [it] it (fun i h => h.IsValIter it a i es.size ep) where
  mem := by simp
  obj := fun i h st b hb => by
    have e : b = it := by simpa using hb
    subst e
    obtain ⟨oi, e, c, dd⟩ := st
    exact ⟨oi, e, fun v z => by rw [dd] at z; cases z⟩
  keep := fun i h h' st k => st.at fun oi e => k it (by simp) oi e
  item := by
    intro X hP hw hK hc i pins s σ H E I hf st ⟨hi, hd⟩
    subst hP hw hK
    obtain ⟨f0, f1, f2, f3, f4, f5⟩ := hf it (by simp)
    have hi' : i < es.size := by rw [e.sizeV]; exact hi
    refine wpAny_pyNext_values_item_raw st ⟨o, dobj_at I hd, e.ex, e.dat⟩ hi' fun h' st' sb => ?_
    have I1 : Inv X pins σ H { s with heap := h' } := I.turned (t' := s.toks) (fun b ob hb q => (sb.2 b hb).trans q) f0 f1 f3 f4 f5
    obtain ⟨v, hv, rv⟩ := ent_val e hi'
    obtain ⟨oi, q1, q2, q3⟩ := id st'
    exact ⟨_, rfl, go_of (s := { s with heap := h' }) q1 q2 q3 (by decide) ⟨v, H, I1, rv, ⟨rfl, hv⟩, st', fun b hb => (hf b hb).1⟩⟩
  done := by
    intro X hP hw hK hc i pins s σ H E I hf st ⟨hi, hd⟩
    subst hP hw hK
    obtain ⟨f0, f1, f2, f3, f4, f5⟩ := hf it (by simp)
    exact wpAny_pyNext_values_end_raw (I.ok.hd hc) st ⟨o, dobj_at I hd, e.ex, e.dat⟩ (by rw [e.sizeV]; exact hi) fun h' eb => ⟨rfl, I.turned (t' := s.toks) (fun b ob hb q => eb b ob hb q) f0 f1 f3 f4 f5⟩
  self := fun A i s Q E st h => wpAny_pyIter_valiter st h
theorem turn_P {elts : List Expr} {kk : Nat} {tpos : Pos} (it : Addr) (e : Ent o kvv vvs es ep) : Turn P w K (.Tuple elts kk tpos) (ItP a o kvv vvs) [it] it (fun i h => ∃ ok ov, IsItemIter h it a i es.size ep ok ov) where
  mem := by simp
  obj := fun i h ⟨ok, ov, e⟩ b hb => by
    have e : b = it := by simpa using hb
    subst e
    exact ⟨_, ‹IsItemIter h b a i es.size ep ok ov›, fun v z => nomatch z⟩
  keep := fun i h h' ⟨ok, ov, e⟩ k => ⟨ok, ov, k it (by simp) _ e⟩
  item := by
    intro X hP hw hK hc i pins s σ H E I hf ⟨ok, ov, he⟩ ⟨hi, hd⟩
    subst hP hw hK
    have hi' : i < es.size := by rw [e.sizeK]; exact hi
    obtain ⟨x, hx, rx⟩ := ent_key e hi'
    obtain ⟨y, hy, ry⟩ := ent_val e hi'
    have hlt : it < s.heap.objs.size := Heap.lt_size he
    refine wpAny_pyNext_items_item_raw he ⟨o, dobj_at I hd, e.ex, e.dat⟩ hi' fun h' ho hT hz hk => ?_
    refine ⟨_, rfl, wpAny_letOwnedTupleGo_items (s := { s with heap := h' }) ho fun h'' he' sb => ?_⟩
    have hT2 : h''.get? s.heap.objs.size = some { cls := .type "tuple", data := .seq #[es[i].key, es[i].val] } := (sb.2 _ (Nat.ne_of_gt hlt)).trans hT
    have new : ObjOk X.prog X.w (upd H s.heap.objs.size (.tup [x, y])) h'' s.heap.objs.size (.tup [x, y]) :=
      ⟨by show 2 ≤ sizeLine; decide, [es[i].key, es[i].val], .cons rx (.cons ry .nil), ⟨_, hT2, rfl, _, rfl⟩⟩
    have I1 : Inv X pins σ (upd H s.heap.objs.size (.tup [x, y])) { s with heap := h'' } :=
      I.turnedNew (t' := s.toks) (ch := [it]) (fun b ob hb q => (sb.2 b (by simpa using hb)).trans (hk b ob (by simpa using hb) q)) hf (Nat.le_refl _) new
    refine ⟨.ref s.heap.objs.size, _, I1, rfl, ⟨_, x, y, rfl, I.hok.fresh (Nat.le_refl _), rfl, hx, hy⟩, ⟨_, _, he'⟩, fun b hb => ?_⟩
    have eb : b = it := by simpa using hb
    rw [eb, upd_ne (Nat.ne_of_lt hlt)]
    exact (hf it (by simp)).1
  done := by
    intro X hP hw hK hc i pins s σ H E I hf ⟨ok, ov, he⟩ ⟨hi, hd⟩
    subst hP hw hK
    obtain ⟨f0, f1, f2, f3, f4, f5⟩ := hf it (by simp)
    exact wpAny_pyNext_items_end_raw (I.ok.hd hc) he ⟨o, dobj_at I hd, e.ex, e.dat⟩ (by rw [e.sizeK]; exact hi) fun h' eb => ⟨rfl, I.turned (t' := s.toks) (fun b ob hb q => eb b ob hb q) f0 f1 f3 f4 f5⟩
  self := fun A i s Q E ⟨_, _, e⟩ h => PySem.W.kcp_self e h
end
theorem walkK {ds : List D} {vs : List V} {a : Addr} {o : Obj} (h : Hf a = some (DObj a o)) (r : Reps K mg Hf ds vs) : WalkD K mg Hf ds (ItK a o vs) := by
  unfold WalkD
  rw [r.length]
  refine ⟨fun i H hi le => ⟨hi, le _ _ h⟩, fun H le => ⟨Nat.le_refl _, le _ _ h⟩, fun i H v H' hi le ⟨e1, e2⟩ => ?_⟩
  obtain ⟨d, hd, rr⟩ := r.getV e2
  subst e1
  exact ⟨d, hd, .old rr⟩
theorem walkP {ks ds : List D} {kvv vvs : List V} {a : Addr} {o : Obj} (h : Hf a = some (DObj a o)) (r1 : Reps K mg Hf ks kvv) (r2 : Reps K mg Hf ds vvs) (hl : ks.length = ds.length) : WalkD K mg Hf (List.zipWith (fun x y => D.tup [x, y]) ks ds) (ItP a o kvv vvs) := by
  unfold WalkD
  have hn : (List.zipWith (fun x y => D.tup [x, y]) ks ds).length = kvv.length := by
    rw [List.length_zipWith, ← hl, Nat.min_self, r1.length]
  rw [hn]
  refine ⟨fun i H hi le => ⟨hi, le _ _ h⟩, fun H le => ⟨Nat.le_refl _, le _ _ h⟩, fun i H v H' hi le ⟨T, x, y, e1, e2, e3, e4, e5⟩ => ?_⟩
  obtain ⟨d1, hd1, rr1⟩ := r1.getV e4
  obtain ⟨d2, hd2, rr2⟩ := r2.getV e5
  subst e1 e3
  exact ⟨.tup [d1, d2], by rw [List.getElem?_zipWith, hd1, hd2], .tup e2 (.cons rr1 (.cons rr2 .nil))⟩
end
section
variable [LamDefs] {X : Cx} {W : WX} {tg a e : Expr} {td : TE} {apos cpos tpos : Pos} {elts : List Expr} {kk : Nat} {pa : Bool} {ma : Env → RE}
/-- a dict comes, as it stands -/
def iDctV (td : TE) (J : Addr → Obj → List V → List V → It) : TI := fun σ H R => td σ H fun x H1 => ∃ (a : Addr) (o : Obj) (tk : Bool) (ks : List D) (kvv vvs : List V), x = .ref a ∧ H1 a = some (DObj a o) ∧ (a == sysModules) = false ∧ DSh tk o ks kvv vvs ∧ R (J a o kvv vvs) H1
theorem pi_dctK (he : PE X e td) : PI X tg e (iDctV td fun a o kvv vvs => ItK a o kvv) := by
  refine ⟨fun pins s σ H R I h => ?_⟩
  refine thn (he.run pins s σ H _ I h) fun u s1 ⟨x, H1, I1, rx, d, o, tk, ks, kvv, vvs, ex, hd, hs, sh, q⟩ => ?_
  subst ex
  obtain rfl : u = Value.ref d := rx
  obtain ⟨es, ep, en⟩ := dsh_ent X.prog X.w sh
  exact wpAny_pyIter_dict_raw hs ⟨o, dobj_at I1 hd, en.ex, en.dat⟩ (pi_one (tk := s1.toks) I1 _ (turn_K _ en) ⟨_, Heap.get?_push_size _ rfl, rfl, rfl⟩ q)
theorem dct_recv {X : Cx} {pins : List (Addr × Obj)} {σ : L2.St} {H : Hp} {s : Shared} (I : Inv X pins σ H s) {a : Addr} {o : Obj} (h : H a = some (DObj a o)) (c : o.ExactDict) : s.TypeIs (.ref a) "dict" ∧ ∀ b, Value.ref a = .ref b → ∃ ob, s.heap.get? b = some ob ∧ ob.dict = none :=
  ⟨⟨o, dobj_at I h, c.1⟩, fun b e => by cases e; exact ⟨o, dobj_at I h, c.2.1⟩⟩
theorem pi_dctV (he : PE X e td) (hbase : attributeBase e "values" X.env (eval e X.env) = eval e X.env) (hline : (apos.endLine == cpos.line) = true) : PI X tg (.Call (.Attribute e "values" apos) [] [] cpos) (iDctV td fun a o kvv vvs => ItK a o vvs) := by
  refine ⟨fun pins s σ H R I h => ?_⟩
  refine wpAny_Call_method (T := "dict") (id := "dict.values") hbase rfl hline PySem.F.plainAttrs_dict PySem.F.slot_dict_values PySem.F.type_dict_values (thn (he.run pins s σ H _ I h) fun u s1 ⟨x, H1, I1, rx, d, o, tk, ks, kvv, vvs, ex, hd, hs, sh, q⟩ => ?_)
  subst ex
  obtain rfl : u = Value.ref d := rx
  obtain ⟨es, ep, en⟩ := dsh_ent X.prog X.w sh
  obtain ⟨r1, r2⟩ := dct_recv I1 hd en.ex
  refine ⟨r1, r2, ?_⟩
  have raw : s1.heap.DictRaw d es ep := ⟨o, dobj_at I1 hd, en.ex, en.dat⟩
  have I2 : Inv X pins σ H1 { s1 with heap := s1.heap.push { cls := .type "dict_values", data := .fields #[.ref d] } } := I1.kept (t' := s1.toks) fun b ob q => Heap.get?_push_of_some _ q
  have fin : wpAny (model X.prog X.w) X.A (pyIter (.ref s1.heap.objs.size)) (PIE X pins σ tg R) X.xe { s1 with heap := s1.heap.push { cls := .type "dict_values", data := .fields #[.ref d] } } :=
    wpAny_pyIter_values_raw (d := d) ⟨_, Heap.get?_push_size _ rfl, rfl, rfl⟩ (raw.at fun oo q => Heap.get?_push_of_some _ q) (pi_one (tk := s1.toks) I2 _ (turn_V _ en) ⟨_, Heap.get?_push_size _ rfl, rfl, rfl⟩ q)
  show wpAny _ _ (callWith cpos (.builtin "dict.values") [.ref d] [] []) _ X.xe s1
  exact method_meetsIn PySem.F.slot_dict_values PySem.F.entry_dict_values rfl (PySem.evalArgs_none ⟨rfl, r1, PySem.F.args_dict_values_1 _, _, meets_dict_values_raw d hs, ⟨es, ep, raw⟩, fin⟩)
theorem pi_dctI (he : PE X e td) (hbase : attributeBase e "items" X.env (eval e X.env) = eval e X.env) (hline : (apos.endLine == cpos.line) = true) : PI X (.Tuple elts kk tpos) (.Call (.Attribute e "items" apos) [] [] cpos) (iDctV td fun a o kvv vvs => ItP a o kvv vvs) := by
  refine ⟨fun pins s σ H R I h => ?_⟩
  refine wpAny_Call_method (T := "dict") (id := "dict.items") hbase rfl hline PySem.F.plainAttrs_dict PySem.F.slot_dict_items PySem.F.type_dict_items (thn (he.run pins s σ H _ I h) fun u s1 ⟨x, H1, I1, rx, d, o, tk, ks, kvv, vvs, ex, hd, hs, sh, q⟩ => ?_)
  subst ex
  obtain rfl : u = Value.ref d := rx
  obtain ⟨es, ep, en⟩ := dsh_ent X.prog X.w sh
  obtain ⟨r1, r2⟩ := dct_recv I1 hd en.ex
  refine ⟨r1, r2, ?_⟩
  have raw : s1.heap.DictRaw d es ep := ⟨o, dobj_at I1 hd, en.ex, en.dat⟩
  have I2 : Inv X pins σ H1 { s1 with heap := s1.heap.push { cls := .type "dict_items", data := .fields #[.ref d] } } := I1.kept (t' := s1.toks) fun b ob q => Heap.get?_push_of_some _ q
  have fin : wpAny (model X.prog X.w) X.A (pyIter (.ref s1.heap.objs.size)) (PIE X pins σ (.Tuple elts kk tpos) R) X.xe { s1 with heap := s1.heap.push { cls := .type "dict_items", data := .fields #[.ref d] } } :=
    wpAny_pyIter_items_raw (d := d) ⟨_, Heap.get?_push_size _ rfl, rfl, rfl⟩ (raw.at fun oo q => Heap.get?_push_of_some _ q) (pi_one (tk := s1.toks) I2 _ (turn_P _ en) ⟨.none, .none, Heap.get?_push_size _ rfl⟩ q)
  show wpAny _ _ (callWith cpos (.builtin "dict.items") [.ref d] [] []) _ X.xe s1
  exact method_meetsIn PySem.F.slot_dict_items PySem.F.entry_dict_items rfl (PySem.evalArgs_none ⟨rfl, r1, PySem.F.args_dict_items_1 _, _, meets_dict_items_raw d hs, ⟨es, ep, raw⟩, fin⟩)
end
def iKeys (ma : Env → RE) : Env → REs := fun env => (ma env).bindI fun x _ e1 => match x with
  | .dct _ ks _ => .ok ks e1
  | _ => .no
def iVals (ma : Env → RE) : Env → REs := fun env => (ma env).bindI fun x _ e1 => match x with
  | .dct _ _ ds => .ok ds e1
  | _ => .no
def iItms (ma : Env → RE) : Env → REs := fun env => (ma env).bindI fun x _ e1 => match x with
  | .dct _ ks ds => if ks.length = ds.length then .ok (List.zipWith (fun x y => D.tup [x, y]) ks ds) e1 else .no
  | _ => .no
section
variable [LamDefs] {X : Cx} {W : WX} {tg a e : Expr} {apos cpos tpos : Pos} {elts : List Expr} {kk : Nat} {pa : Bool} {ma : Env → RE}
theorem jDctG {iter : Expr} {J : Addr → Obj → List V → List V → It} {f : List D → List D → Option (List D)} (hp : PI X tg iter (iDctV (tI X.K X.mg W true pa ma) J))
    (hw : ∀ (Hf : Hp) (a : Addr) (o : Obj) (ks ds rs : List D) (kvv vvs : List V), Hf a = some (DObj a o) → Reps X.K X.mg Hf ks kvv → Reps X.K X.mg Hf ds vvs → f ks ds = some rs → WalkD X.K X.mg Hf rs (J a o kvv vvs)) :
    PI X tg iter (tJ X.K X.mg W pa fun env => (ma env).bindI fun x _ e1 => match x with
      | .dct _ ks ds => outI (f ks ds) e1
      | _ => .no) := by
  refine ⟨fun pins s σ H R I ⟨Hf, env, R0, g⟩ => ?_⟩
  dsimp only at g
  cases q : ma env with
  | no => rw [q] at g; exact g.elim
  | ex x e1 =>
    rw [q] at g
    refine hp.run pins s σ H R I ⟨Hf, env, R0, ?_⟩
    rw [q]; exact g
  | ok d fr e1 =>
    rw [q] at g
    cases d <;> try exact g.elim
    rename_i tk ks ds
    refine hp.run pins s σ H R I ⟨Hf, env, R0, ?_⟩
    rw [q]
    refine fun v H1 Hf1 R1 t1 z1 => ?_
    obtain ⟨Hf1, R1, t1, z1⟩ := stab R0 R1 t1 z1
    cases z1 with
    | dct h hm hl hd r1 r2 =>
      cases qf : f ks ds with
      | none => simp only [RE.bindI, qf, outI] at g; exact g.elim
      | some rs =>
        simp only [RE.bindI, qf, outI] at g
        exact ⟨_, _, _, _, _, _, rfl, R1.le _ _ h, hm, hd, g _ H1 Hf1 R1 t1 (hw _ _ _ _ _ _ _ _ h r1 r2 qf)⟩
theorem pi_cast {iter : Expr} {m m' : Env → REs} (h : PI X tg iter (tJ X.K X.mg W pa m)) (e : m = m') : PI X tg iter (tJ X.K X.mg W pa m') := e ▸ h
theorem jKeys (ha : PE X a (tI X.K X.mg W true pa ma)) : PI X tg a (tJ X.K X.mg W pa (iKeys ma)) :=
  pi_cast (jDctG (f := fun ks _ => some ks) (pi_dctK ha) fun Hf a o ks ds rs kvv vvs h r1 r2 q => by cases q; exact walkK h r1) (by funext env; unfold iKeys; congr 1)
theorem jVals (ha : PE X a (tI X.K X.mg W true pa ma)) (hbase : attributeBase a "values" X.env (eval a X.env) = eval a X.env := by rfl) (hline : (apos.endLine == cpos.line) = true := by rfl) : PI X tg (.Call (.Attribute a "values" apos) [] [] cpos) (tJ X.K X.mg W pa (iVals ma)) :=
  pi_cast (jDctG (f := fun _ ds => some ds) (pi_dctV ha hbase hline) fun Hf a o ks ds rs kvv vvs h r1 r2 q => by cases q; exact walkK h r2) (by funext env; unfold iVals; congr 1)
theorem jItms (ha : PE X a (tI X.K X.mg W true pa ma)) (hbase : attributeBase a "items" X.env (eval a X.env) = eval a X.env := by rfl) (hline : (apos.endLine == cpos.line) = true := by rfl) : PI X (.Tuple elts kk tpos) (.Call (.Attribute a "items" apos) [] [] cpos) (tJ X.K X.mg W pa (iItms ma)) :=
  pi_cast (jDctG (f := fun ks ds => if ks.length = ds.length then some (List.zipWith (fun x y => D.tup [x, y]) ks ds) else none) (pi_dctI ha hbase hline) fun Hf a o ks ds rs kvv vvs h r1 r2 q => by
    by_cases hl : ks.length = ds.length
    · rw [if_pos hl] at q; cases q; exact walkP h r1 r2 hl
    · rw [if_neg hl] at q; cases q) (by
      funext env
      unfold iItms
      congr 1
      funext x _ e1
      cases x <;> try rfl
      rename_i tk ks ds
      dsimp only
      by_cases hl : ks.length = ds.length
      · rw [if_pos hl, if_pos hl]; rfl
      · rw [if_neg hl, if_neg hl]; rfl)
end
end Cor
set_option Elab.async false
set_option linter.all false
set_option maxRecDepth 100000
set_option maxHeartbeats 2000000
/-! Cor13: the built-ins by name; the law's def. -/
namespace Cor
open PySem PySem.Spec L2
variable [LamDefs]
open PyProof.Rows (envOfC)
section
variable {X : Cx} {W : WX} {k : Nat} {a o e t : Expr} {pos p p2 apos : Pos} {ma mb : Env → RE} {sa sb pa pb : Bool}
theorem bLen (hm : X.mg "len" = none) : BCall X .len "len" := .fn (cr_len X) hm (by decide +kernel) (by decide) (by decide)
theorem bSum (g : Gd k X W) (hm : X.mg "sum" = none) : BCall X .sum "sum" := .fn (cr_sum' X g.calm) hm (by decide +kernel) (by decide) (by decide)
theorem bMax (g : Gd k X W) (hm : X.mg "max" = none) : BCall X .max "max" := .fn (cr_max' X g.calm) hm (by decide +kernel) (by decide) (by decide)
theorem bMin (g : Gd k X W) (hm : X.mg "min" = none) : BCall X .min "min" := .fn (cr_min' X g.calm) hm (by decide +kernel) (by decide) (by decide)
theorem bAny (g : Gd k X W) (hm : X.mg "any" = none) : BCall X .any "any" := .fn (cr_any' X g.calm) hm (by decide +kernel) (by decide) (by decide)
theorem bAll (g : Gd k X W) (hm : X.mg "all" = none) : BCall X .all "all" := .fn (cr_all' X g.calm) hm (by decide +kernel) (by decide) (by decide)
theorem bAbs (hm : X.mg "abs" = none) : BCall X .abs "abs" := .fn (cr_abs' X) hm (by decide +kernel) (by decide) (by decide)
theorem bTuple (hm : X.mg "tuple" = none) : BCall X .tuple "tuple" := .ty (cr_tuple' X) hm (by decide +kernel) (by decide) (by decide)
theorem bList (hm : X.mg "list" = none) : BCall X .list "list" := .ty (cr_list' X) hm (by decide +kernel) (by decide) (by decide)
theorem bInt (hm : X.mg "int" = none) : BCall X .int "int" := .ty (cr_int' X) hm (by decide +kernel) (by decide) (by decide)
theorem bBool (hm : X.mg "bool" = none) : BCall X .bool "bool" := .ty (cr_bool' X) hm (by decide +kernel) (by decide) (by decide)
theorem bStr (hm : X.mg "str" = none) : BCall X .str "str" := .ty (cr_str' X) hm (by decide +kernel) (by decide) (by decide)
theorem tyN {x : Str} {T : String} (hm : X.mg x = none) (hv : bootBuiltins x = some (.type T)) (hn : x ≠ "__name__") (hd : (x == ("__debug__" : Str)) = false) (hg : X.env.kindOf x = some .globalImplicit := by kernel_rfl) : PE X (.Name x p) (tC (.ty T)) := pe_bltn hg hm hv rfl hn hd
theorem yInt (hm : X.mg "int" = none) (hg : X.env.kindOf "int" = some .globalImplicit := by kernel_rfl) : PE X (.Name "int" p) (tC (.ty "int")) := tyN hm (by decide +kernel) (by decide) (by decide) hg
theorem yBool (hm : X.mg "bool" = none) (hg : X.env.kindOf "bool" = some .globalImplicit := by kernel_rfl) : PE X (.Name "bool" p) (tC (.ty "bool")) := tyN hm (by decide +kernel) (by decide) (by decide) hg
theorem yStr (hm : X.mg "str" = none) (hg : X.env.kindOf "str" = some .globalImplicit := by kernel_rfl) : PE X (.Name "str" p) (tC (.ty "str")) := tyN hm (by decide +kernel) (by decide) (by decide) hg
theorem yTuple (hm : X.mg "tuple" = none) (hg : X.env.kindOf "tuple" = some .globalImplicit := by kernel_rfl) : PE X (.Name "tuple" p) (tC (.ty "tuple")) := tyN hm (by decide +kernel) (by decide) (by decide) hg
theorem yList (hm : X.mg "list" = none) (hg : X.env.kindOf "list" = some .globalImplicit := by kernel_rfl) : PE X (.Name "list" p) (tC (.ty "list")) := tyN hm (by decide +kernel) (by decide) (by decide) hg
theorem isi_fr {f : BF} (hf : f = .isInt ∨ f = .isBool ∨ f = .isStr ∨ f = .isTup ∨ f = .isLst) : ∀ d q fr, b1D f d = some (q, fr) → fr = false := fun d q fr h => by
  rcases hf with rfl | rfl | rfl | rfl | rfl <;> cases d <;> simp only [b1D, reduceCtorEq] at h <;> first | cases h; rfl | cases h
theorem pIsInt (hm : X.mg "isinstance" = none) (ht : PE X t (tC (.ty "int"))) (ha : PE X a (tI X.K X.mg W sa pa ma)) (hg : X.env.kindOf "isinstance" = some .globalImplicit := by kernel_rfl) (he : starEach [a, t] X.env = (false, eval a X.env) :: starEach [t] X.env := by rfl) (he2 : starEach [t] X.env = (false, eval t X.env) :: starEach [] X.env := by rfl) : PE X (.Call (.Name "isinstance" p) [a, t] [] pos) (tI X.K X.mg W true pa (eB1 .isInt ma)) :=
  pIsi (is_int X) (isi_fr (.inl rfl)) hm ht ha rfl hg he he2 (by rw [he2]; rfl)
theorem pIsBool (hm : X.mg "isinstance" = none) (ht : PE X t (tC (.ty "bool"))) (ha : PE X a (tI X.K X.mg W sa pa ma)) (hg : X.env.kindOf "isinstance" = some .globalImplicit := by kernel_rfl) (he : starEach [a, t] X.env = (false, eval a X.env) :: starEach [t] X.env := by rfl) (he2 : starEach [t] X.env = (false, eval t X.env) :: starEach [] X.env := by rfl) : PE X (.Call (.Name "isinstance" p) [a, t] [] pos) (tI X.K X.mg W true pa (eB1 .isBool ma)) :=
  pIsi (is_bool X) (isi_fr (.inr (.inl rfl))) hm ht ha rfl hg he he2 (by rw [he2]; rfl)
theorem pIsStr (hm : X.mg "isinstance" = none) (ht : PE X t (tC (.ty "str"))) (ha : PE X a (tI X.K X.mg W sa pa ma)) (hg : X.env.kindOf "isinstance" = some .globalImplicit := by kernel_rfl) (he : starEach [a, t] X.env = (false, eval a X.env) :: starEach [t] X.env := by rfl) (he2 : starEach [t] X.env = (false, eval t X.env) :: starEach [] X.env := by rfl) : PE X (.Call (.Name "isinstance" p) [a, t] [] pos) (tI X.K X.mg W true pa (eB1 .isStr ma)) :=
  pIsi (is_str X) (isi_fr (.inr (.inr (.inl rfl)))) hm ht ha rfl hg he he2 (by rw [he2]; rfl)
theorem pIsTup (hm : X.mg "isinstance" = none) (ht : PE X t (tC (.ty "tuple"))) (ha : PE X a (tI X.K X.mg W sa pa ma)) (hg : X.env.kindOf "isinstance" = some .globalImplicit := by kernel_rfl) (he : starEach [a, t] X.env = (false, eval a X.env) :: starEach [t] X.env := by rfl) (he2 : starEach [t] X.env = (false, eval t X.env) :: starEach [] X.env := by rfl) : PE X (.Call (.Name "isinstance" p) [a, t] [] pos) (tI X.K X.mg W true pa (eB1 .isTup ma)) :=
  pIsi (is_tup X) (isi_fr (.inr (.inr (.inr (.inl rfl))))) hm ht ha rfl hg he he2 (by rw [he2]; rfl)
theorem pIsLst (hm : X.mg "isinstance" = none) (ht : PE X t (tC (.ty "list"))) (ha : PE X a (tI X.K X.mg W sa pa ma)) (hg : X.env.kindOf "isinstance" = some .globalImplicit := by kernel_rfl) (he : starEach [a, t] X.env = (false, eval a X.env) :: starEach [t] X.env := by rfl) (he2 : starEach [t] X.env = (false, eval t X.env) :: starEach [] X.env := by rfl) : PE X (.Call (.Name "isinstance" p) [a, t] [] pos) (tI X.K X.mg W true pa (eB1 .isLst ma)) :=
  pIsi (is_lst X) (isi_fr (.inr (.inr (.inr (.inr rfl))))) hm ht ha rfl hg he he2 (by rw [he2]; rfl)
theorem pJoin (ho : PE X o (tI X.K X.mg W true pa ma)) (ha : PE X a (tI X.K X.mg W true pb mb)) (hs : starEach [a] X.env = [(false, eval a X.env)] := by rfl) (hbase : attributeBase o "join" X.env (eval o X.env) = eval o X.env := by rfl) (hline : (apos.endLine == pos.line) = true := by rfl) : PE X (.Call (.Attribute o "join" apos) [a] [] pos) (tI X.K X.mg W true (pa && pb) (eM1 .join ma mb)) :=
  pM1 (sm_join X) PySem.F.slot_str_join PySem.F.type_str_join ho ha hs hbase hline
theorem pFind (ho : PE X o (tI X.K X.mg W true pa ma)) (ha : PE X a (tI X.K X.mg W true pb mb)) (hs : starEach [a] X.env = [(false, eval a X.env)] := by rfl) (hbase : attributeBase o "find" X.env (eval o X.env) = eval o X.env := by rfl) (hline : (apos.endLine == pos.line) = true := by rfl) : PE X (.Call (.Attribute o "find" apos) [a] [] pos) (tI X.K X.mg W true (pa && pb) (eM1 .find ma mb)) :=
  pM1 (sm_find X) PySem.F.slot_str_find PySem.F.type_str_find ho ha hs hbase hline
theorem pIndex (ho : PE X o (tI X.K X.mg W true pa ma)) (ha : PE X a (tI X.K X.mg W true pb mb)) (hs : starEach [a] X.env = [(false, eval a X.env)] := by rfl) (hbase : attributeBase o "index" X.env (eval o X.env) = eval o X.env := by rfl) (hline : (apos.endLine == pos.line) = true := by rfl) : PE X (.Call (.Attribute o "index" apos) [a] [] pos) (tI X.K X.mg W true (pa && pb) (eM1 .index ma mb)) :=
  pM1 (sm_index X) PySem.F.slot_str_index PySem.F.type_str_index ho ha hs hbase hline
end
/-- the law's own promise, from its worth -/
theorem Reps.ofInts {K : PySem.W.Frag} {mg : Str → Option Value} {H : Hp} : ∀ ns : List Int, Reps K mg H (ns.map D.int) (ns.map V.int)
  | [] => .nil
  | n :: ns => .cons (.int n) (Reps.ofInts ns)
end Cor
namespace Cor
open PySem PySem.Spec L2
variable [LamDefs]
/-- a list, a tuple or a text, item by item -/
def iAny (ma : Env → RE) : Env → REs := fun env => (ma env).bindI fun x _ e1 => match x with
  | .lst xs => .ok xs e1
  | .tup xs => .ok xs e1
  | .str xs => if xs.length ≤ lim then .ok (xs.map fun c => .str [c]) e1 else .no
  | .dct _ ks _ => .ok ks e1
  | _ => .no
theorem jAny {X : Cx} {W : WX} {a : Expr} {pa : Bool} {ma : Env → RE} {tg : Expr} (ha : PE X a (tI X.K X.mg W true pa ma)) : PI X tg a (tJ X.K X.mg W pa (iAny ma)) := by
  refine ⟨fun pins s σ H R I ⟨Hf, env, R0, g⟩ => ?_⟩
  cases q : ma env with
  | no => unfold iAny at g; rw [q] at g; exact g.elim
  | ex x e1 => exact (jLst ha).run pins s σ H R I ⟨Hf, env, R0, by unfold iAny at g; unfold iLst; rw [q] at g ⊢; exact g⟩
  | ok d fr e1 =>
    cases d with
    | lst xs => exact (jLst ha).run pins s σ H R I ⟨Hf, env, R0, by unfold iAny at g; unfold iLst; rw [q] at g ⊢; exact g⟩
    | tup xs => exact (jTup ha).run pins s σ H R I ⟨Hf, env, R0, by unfold iAny at g; unfold iTup; rw [q] at g ⊢; exact g⟩
    | str xs => exact (jStr ha).run pins s σ H R I ⟨Hf, env, R0, by unfold iAny at g; unfold iStr; rw [q] at g ⊢; exact g⟩
    | dct tk ks ds => exact (jKeys ha).run pins s σ H R I ⟨Hf, env, R0, by unfold iAny at g; unfold iKeys; rw [q] at g ⊢; exact g⟩
    | _ => unfold iAny at g; rw [q] at g; exact g.elim
end Cor
namespace Cor
open PySem PySem.Spec PyProof.Rows L2
theorem cx_none {P : Program} {w : World} {H : Hp} {s : Shared} {e : Value} {s' : Shared} (h : L2N.CX P w [] H s (fun _ _ _ => False) e s') : False :=
  let ⟨_, _, _, _, _, _, _, _, _, _, _, _, z⟩ := h; z
/-- a law's end, the context by the world -/
theorem walk_ofW {l : PySem.W.OpenLaw} {n k : Nat} {q : Program} {loose : List Str} {XP : (Str → Option Value) → Heap → Prop} {YP : World → Heap → Prop} {d : DefRec} {CX : World → CXT} {x : Str}
    (hn : l.most = some n) (hn2 : n ≤ sizeLine) (hdf : d.params.defaults = []) (hr : Room k callerA)
    (F : ∀ (w : World) (mg : Str → Option Value) (fa : Addr) (h : Heap), YP w h → h.Ns mainGlobals mg → mg d.name = some (.ref fa) →
      ∃ (K : PySem.W.Frag) (fd : FuncData) (sp : Sp), K.In h ∧ (∀ (s : Shared) (u : Value), BindsTo s fd ⟨[u], []⟩ [(x, u)]) ∧
        (∀ (H : Hp) (a : Addr) (ns : List Int), ns.length ≤ n → Only H → SqL K H a (ns.map V.int) → sp [.ref a] H (fun v _ => v = .bl true) fun _ _ _ => False) ∧
        ∀ base : Heap, K.In base → base.Ns mainGlobals mg → FnOk l.prog w K mg base (CX w) k fa fd [x] sp)
    (hCX : ∀ (w : World) (H : Hp) (s : Shared) (e : Value) (s' : Shared), CX w [] H s (fun _ _ _ => False) e s' → False) :
    PySem.W.WalkO q loose XP YP l.row.toRowW d [] (fun f vs => PySem.call f vs) := by
  refine Att.attach_call hn hdf fun w s₀ s₁ mg mb fa o pm cd doc a vs ns G Y ho hd hcd hmg hobj hints hlen hg => ?_
  obtain ⟨K, fd, sp, KX, hb, hsp, hF⟩ := F w mg fa _ Y G.T.g hmg
  exact law_call KX G.T.g G.T.b G.T.builtins G.T.nolimit hg hobj hints (Nat.le_trans hlen hn2) hr hF hb (fun H hO hS => hsp H a ns hlen hO hS) fun H e s' => hCX w H s₁ e s'
end Cor
set_option Elab.async false
set_option linter.all false
set_option maxRecDepth 100000
set_option maxHeartbeats 2000000
/-! Cor14: the words computed, step by step (for simp): what comes behind a part is never opened before the part is through. -/
namespace Cor
open PySem L2
section
variable {env e e1 e2 e3 : Env} {m ma mb mc : Env → RE} {ms mt : Env → REs} {ss st : Env → RS} {d x y : D} {f fr b : Bool} {ds : List D} {i j : Nat} {c : XC}
def K1 (r : RE) (g : D → Env → RE) : RE := r.bind fun y _ e => g y e
def K2 (r : RE) (mb : Env → RE) (g : D → D → Env → RE) : RE := r.bind fun x _ e1 => (mb e1).bind fun y _ e2 => g x y e2
@[simp] theorem K1_ok {g : D → Env → RE} : K1 (.ok y f e) g = g y e := rfl
@[simp] theorem K1_ex {g : D → Env → RE} : K1 (.ex c e) g = .ex c e := rfl
@[simp] theorem K1_no {g : D → Env → RE} : K1 .no g = .no := rfl
@[simp] theorem K2_ok {g : D → D → Env → RE} : K2 (.ok x f e) mb g = K1 (mb e) (g x) := rfl
@[simp] theorem K2_ex {g : D → D → Env → RE} : K2 (.ex c e) mb g = .ex c e := rfl
@[simp] theorem K2_no {g : D → D → Env → RE} : K2 .no mb g = .no := rfl
@[simp] theorem x_eLit : eLit d env = .ok d false env := rfl
@[simp] theorem x_eYes : eYes env = .ok (.bl true) false env := rfl
def varK (s : Slot) (env : Env) (i : Nat) : RE := match s with
  | .val d => .ok d false env
  | .own d => .ok d false (env.set i (.val d))
  | _ => .no
@[simp] theorem x_eVar : eVar i env = varK (getS env i) env i := rfl
@[simp] theorem varK_val : varK (.val d) env i = .ok d false env := rfl
@[simp] theorem varK_own : varK (.own d) env i = .ok d false (env.set i (.val d)) := rfl
def rdK (o : Option D) (env : Env) : RE := match o with
  | some d => .ok d false env
  | none => .no
@[simp] theorem x_eRd : eRd i env = rdK (getS env i).get env := rfl
@[simp] theorem rdK_some : rdK (some d) env = .ok d false env := rfl
@[simp] theorem get_val : (Slot.val d).get = some d := rfl
@[simp] theorem get_own : (Slot.own d).get = some d := rfl
@[simp] theorem get_io : (Slot.io d).get = some d := rfl
@[simp] theorem getS_0 {s : Slot} : getS (s :: env) 0 = s := rfl
@[simp] theorem getS_s {s : Slot} : getS (s :: env) (i + 1) = getS env i := rfl
@[simp] theorem outE_some : outE (some (d, fr)) env = .ok d fr env := rfl
@[simp] theorem outB_some : outB (some b) env = .ok (.bl b) false env := rfl
@[simp] theorem outD_some : outD (some d) env = .ok d false env := rfl
@[simp] theorem x_eBin {op : Operator} : eBin op ma mb env = K2 (ma env) mb fun x y e => outE (binD op x y) e := rfl
@[simp] theorem x_eCmp {op : CmpOp} : eCmp op ma mb env = K2 (ma env) mb fun x y e => outB (cmpD op x y) e := rfl
@[simp] theorem x_eSub : eSub ma mb env = K2 (ma env) mb fun x y e => outD (subD x y) e := rfl
def negF (x : D) (e : Env) : RE := match x with
  | .int i => .ok (.int (-i)) false e
  | _ => .no
def notF (x : D) (e : Env) : RE := match x with
  | .bl b => .ok (.bl (!b)) false e
  | _ => .no
@[simp] theorem x_eNeg : eNeg ma env = K1 (ma env) negF := rfl
@[simp] theorem x_eNot : eNot ma env = K1 (ma env) notF := rfl
@[simp] theorem negF_int {i : Int} : negF (.int i) e = .ok (.int (-i)) false e := rfl
@[simp] theorem notF_bl : notF (.bl b) e = .ok (.bl (!b)) false e := rfl
def chK (o1 o2 : CmpOp) (r : RE) (mb mc : Env → RE) : RE := r.bind fun x _ e1 => (mb e1).bind fun y _ e2 => match cmpD o1 x y with
  | some true => (mc e2).bind fun z _ e3 => outB (cmpD o2 y z) e3
  | some false => .ok (.bl false) false e2
  | none => .no
def chK2 (o1 o2 : CmpOp) (x : D) (r : RE) (mc : Env → RE) : RE := r.bind fun y _ e2 => match cmpD o1 x y with
  | some true => (mc e2).bind fun z _ e3 => outB (cmpD o2 y z) e3
  | some false => .ok (.bl false) false e2
  | none => .no
def chK3 (o2 : CmpOp) (o : Option Bool) (y : D) (mc : Env → RE) (e2 : Env) : RE := match o with
  | some true => (mc e2).bind fun z _ e3 => outB (cmpD o2 y z) e3
  | some false => .ok (.bl false) false e2
  | none => .no
@[simp] theorem x_eChain {o1 o2 : CmpOp} : eChain o1 o2 ma mb mc env = chK o1 o2 (ma env) mb mc := rfl
@[simp] theorem chK_ok {o1 o2 : CmpOp} : chK o1 o2 (.ok x f e) mb mc = chK2 o1 o2 x (mb e) mc := rfl
@[simp] theorem chK2_ok {o1 o2 : CmpOp} : chK2 o1 o2 x (.ok y f e) mc = chK3 o2 (cmpD o1 x y) y mc e := rfl
@[simp] theorem chK3_some {o2 : CmpOp} : chK3 o2 (some b) y mc e = if b = true then K1 (mc e) (fun z e3 => outB (cmpD o2 y z) e3) else .ok (.bl false) false e := by cases b <;> rfl
def andK (r : RE) (mb : Env → RE) : RE := r.bind fun x _ e1 => match x with
  | .bl true => mb e1
  | .bl false => .ok (.bl false) false e1
  | _ => .no
def orK (r : RE) (mb : Env → RE) : RE := r.bind fun x _ e1 => match x with
  | .bl true => .ok (.bl true) false e1
  | .bl false => mb e1
  | _ => .no
@[simp] theorem x_eAnd : eAnd ma mb env = andK (ma env) mb := rfl
@[simp] theorem x_eOr : eOr ma mb env = orK (ma env) mb := rfl
@[simp] theorem andK_bl : andK (.ok (.bl b) f e) mb = if b = true then mb e else .ok (.bl false) false e := by cases b <;> rfl
@[simp] theorem orK_bl : orK (.ok (.bl b) f e) mb = if b = true then .ok (.bl true) false e else mb e := by cases b <;> rfl
def ifeK (r : RE) (ma mb : Env → RE) : RE := r.bind fun x _ e1 => match x with
  | .bl true => ma e1
  | .bl false => mb e1
  | _ => .no
@[simp] theorem x_eIfe : eIfe mc ma mb env = ifeK (mc env) ma mb := rfl
@[simp] theorem ifeK_bl : ifeK (.ok (.bl b) f e) ma mb = if b = true then ma e else mb e := by cases b <;> rfl
def aK (r : RE) (ms : Env → REs) : REs := r.bindI fun x _ e1 => match ms e1 with
  | .ok ds e2 => .ok (x :: ds) e2
  | .ex c e2 => .ex c e2
  | .no => .no
def aK2 (x : D) (r : REs) : REs := match r with
  | .ok ds e2 => .ok (x :: ds) e2
  | .ex c e2 => .ex c e2
  | .no => .no
@[simp] theorem x_aNil : aNil env = .ok [] env := rfl
@[simp] theorem x_aCons : aCons ma ms env = aK (ma env) ms := rfl
@[simp] theorem aK_ok : aK (.ok x f e) ms = aK2 x (ms e) := rfl
@[simp] theorem aK_ex : aK (.ex c e) ms = .ex c e := rfl
@[simp] theorem aK2_ok : aK2 x (.ok ds e) = .ok (x :: ds) e := rfl
@[simp] theorem aK2_ex : aK2 x (.ex c e) = .ex c e := rfl
def tupK (r : REs) : RE := r.bind fun ds e1 => if ds.length ≤ lim then .ok (.tup ds) false e1 else .no
def lstK (r : REs) : RE := r.bind fun ds e1 => if ds.length ≤ lim then .ok (.lst ds) true e1 else .no
@[simp] theorem x_eTup : eTup ms env = tupK (ms env) := rfl
@[simp] theorem x_eLst : eLst ms env = lstK (ms env) := rfl
@[simp] theorem tupK_ok : tupK (.ok ds e) = if ds.length ≤ lim then .ok (.tup ds) false e else .no := rfl
@[simp] theorem lstK_ok : lstK (.ok ds e) = if ds.length ≤ lim then .ok (.lst ds) true e else .no := rfl
def subRK (i : Nat) (o : Option D) (r : RE) : RE := match o with
  | none => .no
  | some _ => r.bind fun y _ e1 => match (getS e1 i).get with
    | some x => outD (subD x y) e1
    | none => .no
def subRK2 (o : Option D) (y : D) (e1 : Env) : RE := match o with
  | some x => outD (subD x y) e1
  | none => .no
@[simp] theorem x_eSubR : eSubR i mb env = subRK i (getS env i).get (mb env) := rfl
@[simp] theorem subRK_ok : subRK i (some d) (.ok y f e) = subRK2 (getS e i).get y e := rfl
@[simp] theorem subRK2_ok : subRK2 (some x) y e = outD (subD x y) e := rfl
@[simp] theorem x_oNone : oNone env = .ok [] env := rfl
def oK (r : RE) : REs := r.bindI fun x _ e1 => match x with
  | .int i => .ok [.int i] e1
  | _ => .no
@[simp] theorem x_oSome : oSome ma env = oK (ma env) := rfl
@[simp] theorem oK_int {i : Int} : oK (.ok (.int i) f e) = .ok [.int i] e := rfl
def slK (r : RE) (ml mh : Env → REs) : RE := r.bind fun x _ e1 => (ml e1).bind fun l e2 => (mh e2).bind fun h e3 => match intO l.head?, intO h.head? with
  | some l', some h' => outE (slcD x l' h') e3
  | _, _ => .no
def slK2 (x : D) (r : REs) (mh : Env → REs) : RE := r.bind fun l e2 => (mh e2).bind fun h e3 => match intO l.head?, intO h.head? with
  | some l', some h' => outE (slcD x l' h') e3
  | _, _ => .no
def slK3 (x : D) (l : List D) (r : REs) : RE := r.bind fun h e3 => match intO l.head?, intO h.head? with
  | some l', some h' => outE (slcD x l' h') e3
  | _, _ => .no
@[simp] theorem x_eSlc {ml mh : Env → REs} : eSlc ma ml mh env = slK (ma env) ml mh := rfl
@[simp] theorem slK_ok {ml mh : Env → REs} : slK (.ok x f e) ml mh = slK2 x (ml e) mh := rfl
@[simp] theorem slK2_ok {mh : Env → REs} : slK2 x (.ok ds e) mh = slK3 x ds (mh e) := rfl
@[simp] theorem slK3_nn : slK3 x [] (.ok [] e) = outE (slcD x none none) e := rfl
@[simp] theorem slK3_ni {k : Int} : slK3 x [] (.ok [.int k] e) = outE (slcD x none (some k)) e := rfl
@[simp] theorem slK3_in {k : Int} : slK3 x [.int k] (.ok [] e) = outE (slcD x (some k) none) e := rfl
@[simp] theorem slK3_ii {k l : Int} : slK3 x [.int k] (.ok [.int l] e) = outE (slcD x (some k) (some l)) e := rfl
def calK (brw : Bool) (g : Sem) (r : REs) : RE := r.bind fun ds e1 => callR brw (g ds) e1
@[simp] theorem x_eCall {g : Sem} : eCall g ms env = calK false g (ms env) := rfl
@[simp] theorem x_eCallB {g : Sem} : eCallB g ms env = calK true g (ms env) := rfl
@[simp] theorem calK_ok {g : Sem} : calK b g (.ok ds e) = callR b (g ds) e := rfl
@[simp] theorem callR_ret : callR false (.ret d fr none) e = .ok d fr e := rfl
@[simp] theorem callR_retB : callR true (.ret d fr none) e = if d.isAtom = true then .ok d fr e else .no := by cases h : d.isAtom <;> simp [callR, h]
@[simp] theorem callR_exc : callR b (.exc c none) e = .ex c e := rfl
def ioK (g : Sem) (i : Nat) (o : Option D) (r : REs) : RE := match o with
  | none => .no
  | some _ => r.bind fun ds e1 => match ioGet e1 i with
    | some d => callRio i (g (d :: ds)) e1
    | none => .no
def ioK2 (g : Sem) (i : Nat) (ds : List D) (o : Option D) (e1 : Env) : RE := match o with
  | some d => callRio i (g (d :: ds)) e1
  | none => .no
@[simp] theorem x_eCallIo {g : Sem} : eCallIo g i ms env = ioK g i (ioGet env i) (ms env) := rfl
@[simp] theorem ioK_ok {g : Sem} : ioK g i (some d) (.ok ds e) = ioK2 g i ds (ioGet e i) e := rfl
@[simp] theorem ioK2_ok {g : Sem} : ioK2 g i ds (some d) e = callRio i (g (d :: ds)) e := rfl
@[simp] theorem callRio_ret {z : D} : callRio i (.ret d fr (some z)) e = .ok d fr (e.set i (putBack (getS e i) z)) := rfl
@[simp] theorem callRio_exc {z : D} : callRio i (.exc c (some z)) e = .ex c (e.set i (putBack (getS e i) z)) := rfl
@[simp] theorem putBack_own {z : D} : putBack (.own d) z = .own z := rfl
@[simp] theorem putBack_io {z : D} : putBack (.io d) z = .io z := rfl
def ioS2 (s : Slot) : Option D := match s with
  | .own d => some d
  | .io d => some d
  | _ => none
@[simp] theorem x_ioGet : ioGet env i = ioS2 (getS env i) := by unfold ioGet ioS2; cases getS env i <;> rfl
@[simp] theorem ioS2_own : ioS2 (.own d) = some d := rfl
@[simp] theorem ioS2_io : ioS2 (.io d) = some d := rfl
@[simp] theorem x_eB1 {g : BF} : eB1 g ma env = K1 (ma env) fun x e => outE (b1D g x) e := rfl
def m1K (mf : MF) (r : RE) (mb : Env → RE) : RE := r.bind fun x _ e1 => match x with
  | .str z => (mb e1).bind fun y _ e2 => outD (m1D mf (.str z) y) e2
  | _ => .no
@[simp] theorem x_eM1 {mf : MF} : eM1 mf ma mb env = m1K mf (ma env) mb := rfl
@[simp] theorem m1K_ok {mf : MF} {z : List Nat} : m1K mf (.ok (.str z) f e) mb = K1 (mb e) fun y e2 => outD (m1D mf (.str z) y) e2 := rfl
/-! comprehensions -/
def cK (vs : List Nat) (t : TG) (mc me : Env → RE) (r : REs) : RE := r.bind fun ds e1 => match wipeE e1 vs with
  | none => .no
  | some e2 => (compL vs e1 t mc me ds e2 []).bind fun rs e3 => .ok (.lst rs) true (backE e1 e3 vs)
def cK2 (vs : List Nat) (t : TG) (mc me : Env → RE) (ds : List D) (e1 : Env) (o : Option Env) : RE := match o with
  | none => .no
  | some e2 => (compL vs e1 t mc me ds e2 []).bind fun rs e3 => .ok (.lst rs) true (backE e1 e3 vs)
def cK3 (vs : List Nat) (e1 : Env) (r : REs) : RE := r.bind fun rs e3 => .ok (.lst rs) true (backE e1 e3 vs)
@[simp] theorem x_eComp {vs : List Nat} {mi : Env → REs} {t : TG} : eComp vs mi t mc me env = cK vs t mc me (mi env) := rfl
@[simp] theorem cK_ok {vs : List Nat} {t : TG} : cK vs t mc me (.ok ds e) = cK2 vs t mc me ds e (wipeE e vs) := rfl
@[simp] theorem cK2_ok {vs : List Nat} {t : TG} : cK2 vs t mc me ds e1 (some e2) = cK3 vs e1 (compL vs e1 t mc me ds e2 []) := rfl
@[simp] theorem cK3_ok {vs : List Nat} : cK3 vs e1 (.ok ds e) = .ok (.lst ds) true (backE e1 e vs) := rfl
def cL1 (vs : List Nat) (base : Env) (t : TG) (mc me : Env → RE) (xs acc : List D) (o : Option Env) : REs := match o with
  | none => .no
  | some e1 => match mc e1 with
    | .ok (.bl true) _ e2 => match me e2 with
      | .ok d _ e3 => if acc.length < lim then (match wipeE e3 vs with
        | some e4 => compL vs base t mc me xs e4 (acc ++ [d])
        | none => .no) else .no
      | _ => .no
    | .ok (.bl false) _ e2 => (match wipeE e2 vs with
      | some e4 => compL vs base t mc me xs e4 acc
      | none => .no)
    | _ => .no
def cL2 (vs : List Nat) (base : Env) (t : TG) (mc me : Env → RE) (xs acc : List D) (r : RE) : REs := match r with
    | .ok (.bl true) _ e2 => match me e2 with
      | .ok d _ e3 => if acc.length < lim then (match wipeE e3 vs with
        | some e4 => compL vs base t mc me xs e4 (acc ++ [d])
        | none => .no) else .no
      | _ => .no
    | .ok (.bl false) _ e2 => (match wipeE e2 vs with
      | some e4 => compL vs base t mc me xs e4 acc
      | none => .no)
    | _ => .no
def cL3 (vs : List Nat) (base : Env) (t : TG) (mc me : Env → RE) (xs acc : List D) (r : RE) : REs := match r with
  | .ok d _ e3 => if acc.length < lim then (match wipeE e3 vs with
    | some e4 => compL vs base t mc me xs e4 (acc ++ [d])
    | none => .no) else .no
  | _ => .no
def cL4 (vs : List Nat) (base : Env) (t : TG) (mc me : Env → RE) (xs acc : List D) (o : Option Env) : REs := match o with
  | some e4 => compL vs base t mc me xs e4 acc
  | none => .no
@[simp] theorem compL_nil {vs : List Nat} {base : Env} {t : TG} {acc : List D} : compL vs base t mc me [] e acc = .ok acc e := rfl
@[simp] theorem compL_cons {vs : List Nat} {base : Env} {t : TG} {xs acc : List D} : compL vs base t mc me (x :: xs) e acc = cL1 vs base t mc me xs acc (asg t x e) := rfl
@[simp] theorem cL1_ok {vs : List Nat} {base : Env} {t : TG} {xs acc : List D} : cL1 vs base t mc me xs acc (some e) = cL2 vs base t mc me xs acc (mc e) := rfl
@[simp] theorem cL2_ok {vs : List Nat} {base : Env} {t : TG} {xs acc : List D} : cL2 vs base t mc me xs acc (.ok (.bl b) f e) = if b = true then cL3 vs base t mc me xs acc (me e) else cL4 vs base t mc me xs acc (wipeE e vs) := by cases b <;> rfl
@[simp] theorem cL3_ok {vs : List Nat} {base : Env} {t : TG} {xs acc : List D} : cL3 vs base t mc me xs acc (.ok d f e) = if acc.length < lim then cL4 vs base t mc me xs (acc ++ [d]) (wipeE e vs) else .no := rfl
@[simp] theorem cL4_ok {vs : List Nat} {base : Env} {t : TG} {xs acc : List D} : cL4 vs base t mc me xs acc (some e) = compL vs base t mc me xs e acc := rfl
@[simp] theorem wipeE_nil : wipeE env [] = some env := rfl
def wK (s : Slot) (v : Nat) (o : Option Env) : Option Env := match s with
  | .own _ => none
  | .io _ => none
  | _ => o.map fun e => e.set v .no
@[simp] theorem wipeE_cons {v : Nat} {vs : List Nat} : wipeE env (v :: vs) = wK (getS env v) v (wipeE env vs) := by
  rw [wipeE]
  unfold wK
  cases getS env v <;> rfl
@[simp] theorem wK_no {v : Nat} : wK .no v (some e) = some (e.set v .no) := rfl
@[simp] theorem wK_val {v : Nat} : wK (.val d) v (some e) = some (e.set v .no) := rfl
@[simp] theorem backE_nil {old : Env} : backE old env [] = env := rfl
@[simp] theorem backE_cons {old : Env} {v : Nat} {vs : List Nat} : backE old env (v :: vs) = (backE old env vs).set v (getS old v) := rfl
def asK (s : Slot) (i : Nat) (d : D) (env : Env) : Option Env := match s with
  | .io _ => none
  | _ => some (env.set i (.val d))
@[simp] theorem asg_nm : asg (.nm i) d env = asK (getS env i) i d env := by
  rw [asg]
  unfold asK
  cases getS env i <;> rfl
@[simp] theorem asK_no : asK .no i d env = some (env.set i (.val d)) := rfl
@[simp] theorem asK_val : asK (.val x) i d env = some (env.set i (.val d)) := rfl
@[simp] theorem asK_own : asK (.own x) i d env = some (env.set i (.val d)) := rfl
@[simp] theorem asg_tup {ts : List TG} : asg (.tup ts) (.tup ds) env = asgs ts ds env := by rw [asg]
@[simp] theorem asgs_nil : asgs [] [] env = some env := by rw [asgs]
@[simp] theorem asgs_cons {t : TG} {ts : List TG} : asgs (t :: ts) (d :: ds) env = (asg t d env).bind fun e => asgs ts ds e := by
  rw [asgs]
  cases asg t d env <;> rfl
/-! what is walked -/
def iK (r : RE) (g : D → Env → REs) : REs := r.bindI fun x _ e => g x e
@[simp] theorem iK_ok {g : D → Env → REs} : iK (.ok x f e) g = g x e := rfl
@[simp] theorem iK_ex {g : D → Env → REs} : iK (.ex c e) g = .ex c e := rfl
def rg1 (x : D) (e : Env) : REs := match x with
  | .int n => outI (rngD 0 n) e
  | _ => .no
def rg2 (mb : Env → RE) (x : D) (e : Env) : REs := (mb e).bindI fun y _ e2 => match x, y with
  | .int n, .int m => outI (rngD n m) e2
  | _, _ => .no
def rg3 (x y : D) (e : Env) : REs := match x, y with
  | .int n, .int m => outI (rngD n m) e
  | _, _ => .no
def anyI (x : D) (e : Env) : REs := match x with
  | .lst xs => .ok xs e
  | .tup xs => .ok xs e
  | .str xs => if xs.length ≤ lim then .ok (xs.map fun c => .str [c]) e else .no
  | .dct _ ks _ => .ok ks e
  | _ => .no
@[simp] theorem x_iAny : iAny ma env = iK (ma env) anyI := rfl
@[simp] theorem anyI_lst : anyI (.lst ds) e = .ok ds e := rfl
@[simp] theorem anyI_dct {tk : Bool} {ks : List D} : anyI (.dct tk ks ds) e = .ok ks e := rfl
@[simp] theorem anyI_tup : anyI (.tup ds) e = .ok ds e := rfl
@[simp] theorem anyI_str {z : List Nat} : anyI (.str z) e = if z.length ≤ lim then .ok (z.map fun c => .str [c]) e else .no := rfl
@[simp] theorem x_iRng1 : iRng1 ma env = iK (ma env) rg1 := rfl
@[simp] theorem x_iRng2 : iRng2 ma mb env = iK (ma env) (rg2 mb) := rfl
@[simp] theorem rg1_int {n : Int} : rg1 (.int n) e = outI (rngD 0 n) e := rfl
@[simp] theorem rg2_int : rg2 mb x e = iK (mb e) (rg3 x) := rfl
@[simp] theorem rg3_int {n m : Int} : rg3 (.int n) (.int m) e = outI (rngD n m) e := rfl
@[simp] theorem outI_some : outI (some ds) e = .ok ds e := rfl
/-! statements -/
def bK (r : RS) (mt : Env → RS) : RS := match r with
  | .nx e1 => mt e1
  | r => r
@[simp] theorem x_bNil : bNil env = .nx env := rfl
@[simp] theorem x_bCons : bCons ss st env = bK (ss env) st := rfl
@[simp] theorem bK_nx : bK (.nx e) st = st e := rfl
@[simp] theorem bK_rt : bK (.rt d fr e) st = .rt d fr e := rfl
@[simp] theorem bK_bk : bK (.bk e) st = .bk e := rfl
@[simp] theorem bK_ct : bK (.ct e) st = .ct e := rfl
@[simp] theorem bK_ex : bK (.ex c e) st = .ex c e := rfl
def sK (r : RE) (g : D → Bool → Env → RS) : RS := r.bindS g
@[simp] theorem sK_ok {g : D → Bool → Env → RS} : sK (.ok d fr e) g = g d fr e := rfl
@[simp] theorem sK_ex {g : D → Bool → Env → RS} : sK (.ex c e) g = .ex c e := rfl
@[simp] theorem x_sExpr : sExpr m env = sK (m env) fun _ _ e1 => .nx e1 := rfl
@[simp] theorem x_sSet : sSet i m env = sK (m env) fun d fr e1 => putS e1 i d fr := rfl
@[simp] theorem x_sUnp {t : TG} : sUnp t m env = sK (m env) fun d _ e1 => nxO (asg t d e1) := rfl
@[simp] theorem nxO_some : nxO (some e) = .nx e := rfl
@[simp] theorem x_sRet : sRet m env = sK (m env) fun d fr e1 => .rt d fr e1 := rfl
@[simp] theorem x_sRetN : sRetN env = .rt .non false env := rfl
@[simp] theorem x_sBrk : sBrk env = .bk env := rfl
@[simp] theorem x_sCnt : sCnt env = .ct env := rfl
def putK (s : Slot) (env : Env) (i : Nat) (d : D) (fr : Bool) : RS := match s with
  | .io _ => .no
  | _ => .nx (env.set i (if fr then .own d else .val d))
@[simp] theorem x_putS : putS env i d fr = putK (getS env i) env i d fr := by unfold putS putK; cases getS env i <;> rfl
@[simp] theorem putK_no : putK .no env i d fr = .nx (env.set i (if fr then .own d else .val d)) := rfl
@[simp] theorem putK_val : putK (.val x) env i d fr = .nx (env.set i (if fr then .own d else .val d)) := rfl
@[simp] theorem putK_own : putK (.own x) env i d fr = .nx (env.set i (if fr then .own d else .val d)) := rfl
def rvK (s : Slot) (env : Env) (i : Nat) : RS := match s with
  | .own d => .rt d true (env.set i .no)
  | .val d => .rt d false env
  | _ => .no
@[simp] theorem x_sRetV : sRetV i env = rvK (getS env i) env i := rfl
@[simp] theorem rvK_own : rvK (.own d) env i = .rt d true (env.set i .no) := rfl
@[simp] theorem rvK_val : rvK (.val d) env i = .rt d false env := rfl
def ifK (r : RE) (ss st : Env → RS) : RS := r.bindS fun x _ e1 => match x with
  | .bl true => ss e1
  | .bl false => st e1
  | _ => .no
@[simp] theorem x_sIf : sIf mc ss st env = ifK (mc env) ss st := rfl
@[simp] theorem ifK_bl : ifK (.ok (.bl b) f e) ss st = if b = true then ss e else st e := by cases b <;> rfl
@[simp] theorem ifK_ex : ifK (.ex c e) ss st = .ex c e := rfl
def parK (i j : Nat) (r : RE) (mb : Env → RE) : RS := r.bindS fun x fx e1 => (mb e1).bindS fun y fy e2 => match putS e2 i x fx with
  | .nx e3 => putS e3 j y fy
  | _ => .no
def parK2 (i j : Nat) (x : D) (fx : Bool) (r : RE) : RS := r.bindS fun y fy e2 => match putS e2 i x fx with
  | .nx e3 => putS e3 j y fy
  | _ => .no
def parK3 (j : Nat) (y : D) (fy : Bool) (r : RS) : RS := match r with
  | .nx e3 => putS e3 j y fy
  | _ => .no
@[simp] theorem x_sPar : sPar i j ma mb env = parK i j (ma env) mb := rfl
@[simp] theorem parK_ok : parK i j (.ok x fr e) mb = parK2 i j x fr (mb e) := rfl
@[simp] theorem parK2_ok {fx : Bool} : parK2 i j x fx (.ok y fr e) = parK3 j y fr (putS e i x fx) := rfl
@[simp] theorem parK3_ok : parK3 j y fr (.nx e) = putS e j y fr := rfl
def par3K (i j l : Nat) (r : RE) (mb mc : Env → RE) : RS := r.bindS fun x fx e1 => (mb e1).bindS fun y fy e2 => (mc e2).bindS fun z fz e3 => match putS e3 i x fx with
  | .nx e4 => match putS e4 j y fy with
    | .nx e5 => putS e5 l z fz
    | _ => .no
  | _ => .no
def par3K2 (i j l : Nat) (x : D) (fx : Bool) (r : RE) (mc : Env → RE) : RS := r.bindS fun y fy e2 => (mc e2).bindS fun z fz e3 => match putS e3 i x fx with
  | .nx e4 => match putS e4 j y fy with
    | .nx e5 => putS e5 l z fz
    | _ => .no
  | _ => .no
def par3K3 (i j l : Nat) (x : D) (fx : Bool) (y : D) (fy : Bool) (r : RE) : RS := r.bindS fun z fz e3 => parK3 l z fz (parK3 j y fy (putS e3 i x fx))
@[simp] theorem x_sPar3 {l : Nat} : sPar3 i j l ma mb mc env = par3K i j l (ma env) mb mc := rfl
@[simp] theorem par3K_ok {l : Nat} : par3K i j l (.ok x fr e) mb mc = par3K2 i j l x fr (mb e) mc := rfl
@[simp] theorem par3K2_ok {l : Nat} {fx : Bool} : par3K2 i j l x fx (.ok y fr e) mc = par3K3 i j l x fx y fr (mc e) := by
  unfold par3K2 par3K3
  cases q : mc e with
  | ok z fz e3 =>
    simp only [RE.bindS, q]
    cases q2 : putS e3 i x fx <;> rfl
  | _ => simp only [RE.bindS, q]
@[simp] theorem par3K3_ok {l : Nat} {fx fy : Bool} {z : D} : par3K3 i j l x fx y fy (.ok z fr e) = parK3 l z fr (parK3 j y fy (putS e i x fx)) := rfl
def apK (i : Nat) (o : Option D) (r : RE) : RS := match o with
  | some (.lst _) => r.bindS fun d _ e1 => match ioGet e1 i with
    | some (.lst xs) => if xs.length < lim then .nx (e1.set i (putBack (getS e1 i) (.lst (xs ++ [d])))) else .no
    | _ => .no
  | _ => .no
def apK2 (i : Nat) (o : Option D) (d : D) (e1 : Env) : RS := match o with
    | some (.lst xs) => if xs.length < lim then .nx (e1.set i (putBack (getS e1 i) (.lst (xs ++ [d])))) else .no
    | _ => .no
@[simp] theorem x_sApp : sApp i m env = apK i (ioGet env i) (m env) := rfl
@[simp] theorem apK_ok : apK i (some (.lst ds)) (.ok d fr e) = apK2 i (ioGet e i) d e := rfl
@[simp] theorem apK2_ok : apK2 i (some (.lst ds)) d e = if ds.length < lim then .nx (e.set i (putBack (getS e i) (.lst (ds ++ [d])))) else .no := rfl
def stK (i : Nat) (mb : Env → RE) (r : RE) : RS := r.bindS fun d _ e1 => match ioGet e1 i with
  | none => .no
  | some _ => (mb e1).bindS fun z _ e2 => match ioGet e2 i, z with
    | some (.lst xs), .int n => match ixN xs.length n with
      | some j => .nx (e2.set i (putBack (getS e2 i) (.lst (xs.set j d))))
      | none => .no
    | _, _ => .no
def stK2 (i : Nat) (d : D) (o : Option D) (r : RE) : RS := match o with
  | none => .no
  | some _ => r.bindS fun z _ e2 => match ioGet e2 i, z with
    | some (.lst xs), .int n => match ixN xs.length n with
      | some j => .nx (e2.set i (putBack (getS e2 i) (.lst (xs.set j d))))
      | none => .no
    | _, _ => .no
def stK3 (i : Nat) (d : D) (o : Option D) (z : D) (e2 : Env) : RS := match o, z with
    | some (.lst xs), .int n => match ixN xs.length n with
      | some j => .nx (e2.set i (putBack (getS e2 i) (.lst (xs.set j d))))
      | none => .no
    | _, _ => .no
def stK4 (i : Nat) (d : D) (xs : List D) (o : Option Nat) (e2 : Env) : RS := match o with
      | some j => .nx (e2.set i (putBack (getS e2 i) (.lst (xs.set j d))))
      | none => .no
@[simp] theorem x_sStI : sStI i mb ma env = stK i mb (ma env) := rfl
@[simp] theorem stK_ok : stK i mb (.ok d fr e) = stK2 i d (ioGet e i) (mb e) := rfl
@[simp] theorem stK2_ok : stK2 i d (some x) (.ok y fr e) = stK3 i d (ioGet e i) y e := rfl
@[simp] theorem stK3_ok {n : Int} : stK3 i d (some (.lst ds)) (.int n) e = stK4 i d ds (ixN ds.length n) e := rfl
@[simp] theorem stK4_ok : stK4 i d ds (some j) e = .nx (e.set i (putBack (getS e i) (.lst (ds.set j d)))) := rfl
def agK (i : Nat) (op : Operator) (s : Slot) (r : RE) : RS := match s with
  | .val (.int x) => r.bindS fun y _ e1 => match y with
    | .int y => (match binD op (.int x) (.int y) with
      | some (z, _) => .nx (e1.set i (.val z))
      | none => .no)
    | _ => .no
  | _ => .no
@[simp] theorem x_sAug {op : Operator} : sAug i op m env = agK i op (getS env i) (m env) := rfl
@[simp] theorem agK_add {x y : Int} : agK i .Add (.val (.int x)) (.ok (.int y) f e) = .nx (e.set i (.val (.int (x + y)))) := rfl
@[simp] theorem agK_sub {x y : Int} : agK i .Sub (.val (.int x)) (.ok (.int y) f e) = .nx (e.set i (.val (.int (x - y)))) := rfl
/-! loops -/
def stepF (t : TG) (ss : Env → RS) (x : D) (e : Env) : RS := match asg t x e with
  | some e2 => ss e2
  | none => .no
def foK (t : TG) (ss : Env → RS) (r : REs) : RS := r.bindS fun ds e1 => forL (stepF t ss) ds e1
@[simp] theorem x_sFor {mi : Env → REs} {t : TG} : sFor mi t ss env = foK t ss (mi env) := rfl
@[simp] theorem foK_ok {t : TG} : foK t ss (.ok ds e) = forL (stepF t ss) ds e := rfl
def feK (t : TG) (ss : Env → RS) (ds : List D) (r : RS) : RS := match r with
    | .nx e => forL (stepF t ss) ds e
    | .ct e => forL (stepF t ss) ds e
    | .bk e => .nx e
    | r => r
def seK (ss : Env → RS) (o : Option Env) : RS := match o with
  | some e2 => ss e2
  | none => .no
@[simp] theorem forL_nil {g : D → Env → RS} : forL g [] e = .nx e := rfl
@[simp] theorem forL_step {t : TG} : forL (stepF t ss) (x :: ds) e = feK t ss ds (seK ss (asg t x e)) := rfl
@[simp] theorem seK_ok : seK ss (some e) = ss e := rfl
@[simp] theorem feK_nx {t : TG} : feK t ss ds (.nx e) = forL (stepF t ss) ds e := rfl
@[simp] theorem feK_ct {t : TG} : feK t ss ds (.ct e) = forL (stepF t ss) ds e := rfl
@[simp] theorem feK_bk {t : TG} : feK t ss ds (.bk e) = .nx e := rfl
@[simp] theorem feK_rt {t : TG} : feK t ss ds (.rt d fr e) = .rt d fr e := rfl
@[simp] theorem feK_ex {t : TG} : feK t ss ds (.ex c e) = .ex c e := rfl
/-- a loop that goes through, with what stays true -/
theorem forL_inv {g : D → Env → RS} {P : Nat → Env → Prop} : ∀ {ds : List D} {e : Env} (n : Nat), P n e → (∀ i x e, ds[i]? = some x → P (n + i) e → ∃ e', (g x e = .nx e' ∨ g x e = .ct e') ∧ P (n + i + 1) e') → ∃ e', forL g ds e = .nx e' ∧ P (n + ds.length) e'
  | [], e, n, h, _ => ⟨e, rfl, h⟩
  | x :: ds, e, n, h, s => by
    obtain ⟨e1, h1, p1⟩ := s 0 x e rfl h
    obtain ⟨e2, h2, p2⟩ := forL_inv (g := g) (P := P) (ds := ds) (e := e1) (n + 1) p1 fun i y e hy p => by
      have := s (i + 1) y e (by simpa using hy) (by rw [show n + (i + 1) = n + 1 + i by omega]; exact p)
      rw [show n + (i + 1) + 1 = n + 1 + i + 1 by omega] at this
      exact this
    refine ⟨e2, ?_, by rw [List.length_cons, show n + (ds.length + 1) = n + 1 + ds.length by omega]; exact p2⟩
    rcases h1 with h1 | h1 <;> simp only [forL, h1] <;> exact h2
/-! a def's worth -/
def fin0 (r : RS) : FR := match r with
  | .rt d fr _ => .ret d fr none
  | .nx _ => .ret .non false none
  | .ex c _ => .exc c none
  | _ => .no
def io0 (s : Slot) : Option (Option D) := match s with
  | .io d => some (some d)
  | _ => none
def fin1 (r : RS) : FR := match r with
  | .rt d fr env => match io0 (getS env 0) with
    | some o => .ret d fr o
    | none => .no
  | .nx env => match io0 (getS env 0) with
    | some o => .ret .non false o
    | none => .no
  | .ex c env => match io0 (getS env 0) with
    | some o => .exc c o
    | none => .no
  | _ => .no
theorem x_sem0 {n : Nat} {mm : Env → RS} : semS n false mm ds = fin0 (mm (startE n false ds)) := by
  unfold semS fin0
  cases mm (startE n false ds) <;> rfl
theorem x_sem1 {n : Nat} {mm : Env → RS} : semS n true mm ds = fin1 (mm (startE n true ds)) := by
  unfold semS fin1
  cases mm (startE n true ds) with
  | rt d fr e => first | (simp only [io0, if_true]; done) | (simp only [io0, if_true]; cases q : getS e 0 <;> simp)
  | nx e => first | (simp only [io0, if_true]; done) | (simp only [io0, if_true]; cases q : getS e 0 <;> simp)
  | ex c e => first | (simp only [io0, if_true]; done) | (simp only [io0, if_true]; cases q : getS e 0 <;> simp)
  | _ => rfl
@[simp] theorem fin0_rt : fin0 (.rt d fr e) = .ret d fr none := rfl
@[simp] theorem fin0_nx : fin0 (.nx e) = .ret .non false none := rfl
@[simp] theorem fin0_ex : fin0 (.ex c e) = .exc c none := rfl
def fiK (d : D) (fr : Bool) (s : Slot) : FR := match io0 s with
    | some o => .ret d fr o
    | none => .no
@[simp] theorem fin1_rt : fin1 (.rt d fr e) = fiK d fr (getS e 0) := rfl
@[simp] theorem fin1_nx : fin1 (.nx e) = fiK .non false (getS e 0) := rfl
@[simp] theorem fiK_io {z : D} : fiK d fr (.io z) = .ret d fr (some z) := rfl
end
end Cor
set_option Elab.async false
set_option linter.all false
set_option maxRecDepth 100000
set_option maxHeartbeats 2000000
/-! Cor15: the operations on known values (for simp). -/
namespace Cor
open PySem L2
section
variable {i j k : Int} {a b : Bool} {xs ys : List D} {s t : List Nat} {d x y : D}
@[simp] theorem lim_eq : lim = 1000000 := rfl
@[simp] theorem binD_addI : binD .Add (.int i) (.int j) = some (.int (i + j), false) := rfl
@[simp] theorem binD_addS : binD .Add (.str s) (.str t) = if s.length + t.length ≤ 1000000 then some (.str (s ++ t), false) else none := rfl
@[simp] theorem binD_addT : binD .Add (.tup xs) (.tup ys) = if xs.length + ys.length ≤ 1000000 then some (.tup (xs ++ ys), false) else none := rfl
@[simp] theorem binD_addL : binD .Add (.lst xs) (.lst ys) = if xs.length + ys.length ≤ 1000000 then some (.lst (xs ++ ys), true) else none := rfl
@[simp] theorem binD_sub : binD .Sub (.int i) (.int j) = some (.int (i - j), false) := rfl
@[simp] theorem binD_mul : binD .Mult (.int i) (.int j) = if i.natAbs < 18446744073709551616 ∨ j.natAbs < 18446744073709551616 then some (.int (i * j), false) else none := by
  have : (2 : Nat) ^ 64 = 18446744073709551616 := by decide
  rw [binD, this]
@[simp] theorem binD_mulL : binD .Mult (.lst xs) (.int j) = if xs.length * j.toNat ≤ 1000000 ∧ j < 1000000 ∧ -1000000 < j then some (.lst (List.replicate j.toNat xs).flatten, true) else none := rfl
theorem binD_mod (h : j ≠ 0) : binD .Mod (.int i) (.int j) = some (.int (i.fmod j), false) := by rw [binD, if_pos h]
@[simp] theorem binD_modP (h : 0 < j) : binD .Mod (.int i) (.int j) = some (.int (i % j), false) := by rw [binD, if_pos (by omega), Int.fmod_eq_emod_of_nonneg _ (by omega)]
@[simp] theorem binD_divP (h : 0 < j) (h2 : j < 1073741824) : binD .FloorDiv (.int i) (.int j) = some (.int (i / j), false) := by
  rw [binD, if_pos (by omega), Int.fdiv_eq_ediv_of_nonneg _ (by omega)]
@[simp] theorem binD_pow : binD .Pow (.int i) (.int j) = if 0 ≤ j ∧ j ≤ 1000000 ∧ i.natAbs < 18446744073709551616 then some (.int (i ^ j.toNat), false) else none := by
  have : (2 : Nat) ^ 64 = 18446744073709551616 := by decide
  rw [binD, this]
@[simp] theorem eqv_int : D.eqv (.int i) (.int j) = (i == j) := by rw [D.eqv]
@[simp] theorem eqv_bl : D.eqv (.bl a) (.bl b) = (a == b) := by rw [D.eqv]
@[simp] theorem eqv_str : D.eqv (.str s) (.str t) = decide (s = t) := by rw [D.eqv]
@[simp] theorem eqv_tup : D.eqv (.tup xs) (.tup ys) = eqvs xs ys := by rw [D.eqv]
@[simp] theorem eqv_lst : D.eqv (.lst xs) (.lst ys) = eqvs xs ys := by rw [D.eqv]
@[simp] theorem eqvs_nil : eqvs [] [] = true := by rw [eqvs]
@[simp] theorem eqvs_cons : eqvs (x :: xs) (y :: ys) = (D.eqv x y && eqvs xs ys) := by rw [eqvs]
@[simp] theorem eqvs_cn : eqvs (x :: xs) [] = false := by rw [eqvs]; simp; simp
@[simp] theorem eqvs_nc : eqvs [] (x :: xs) = false := by rw [eqvs]; simp; simp
@[simp] theorem okN_int {n : Nat} : D.okN n (.int i) = true := by cases n <;> rfl
@[simp] theorem okN_bl {n : Nat} : D.okN n (.bl a) = true := by cases n <;> rfl
@[simp] theorem okN_non {n : Nat} : D.okN n .non = true := by cases n <;> rfl
@[simp] theorem okN_str {n : Nat} : D.okN n (.str s) = s.all fun c => decide (c < 1114112) := by cases n <;> rfl
@[simp] theorem okN_tup {n : Nat} : D.okN (n + 1) (.tup xs) = xs.all (D.okN n) := by rw [D.okN]
@[simp] theorem okN_lst {n : Nat} : D.okN (n + 1) (.lst xs) = xs.all (D.okN n) := by rw [D.okN]
@[simp] theorem cmpD_eq : cmpD .Eq x y = if (D.okN 8 x && D.okN 8 y) = true then some (D.eqv x y) else none := rfl
@[simp] theorem cmpD_ne : cmpD .NotEq x y = if (D.okN 8 x && D.okN 8 y) = true then some (!D.eqv x y) else none := rfl
@[simp] theorem cmpD_lt : cmpD .Lt (.int i) (.int j) = some (decide (i < j)) := rfl
@[simp] theorem cmpD_le : cmpD .LtE (.int i) (.int j) = some (decide (i ≤ j)) := rfl
@[simp] theorem cmpD_gt : cmpD .Gt (.int i) (.int j) = some (decide (j < i)) := rfl
@[simp] theorem cmpD_ge : cmpD .GtE (.int i) (.int j) = some (decide (j ≤ i)) := rfl
@[simp] theorem cmpD_is : cmpD .Is x .non = some (isNon x) := by cases x <;> rfl
@[simp] theorem cmpD_isnt : cmpD .IsNot x .non = some (!isNon x) := by cases x <;> rfl
@[simp] theorem cmpD_isB : cmpD .Is (.bl a) (.bl b) = some (a == b) := rfl
@[simp] theorem cmpD_isntB : cmpD .IsNot (.bl a) (.bl b) = some (!(a == b)) := rfl
@[simp] theorem isNon_non : isNon .non = true := rfl
@[simp] theorem isNon_int : isNon (.int i) = false := rfl
@[simp] theorem isNon_bl : isNon (.bl a) = false := rfl
@[simp] theorem isNon_str : isNon (.str s) = false := rfl
@[simp] theorem isNon_tup : isNon (.tup xs) = false := rfl
@[simp] theorem isNon_lst : isNon (.lst xs) = false := rfl
@[simp] theorem sub_tup : subD (.tup xs) (.int i) = atI xs i := rfl
@[simp] theorem sub_lst : subD (.lst xs) (.int i) = atI xs i := rfl
@[simp] theorem sub_str : subD (.str s) (.int i) = if s.length ≤ 1000000 then (atI s i).map fun c => .str [c] else none := rfl
end
theorem ixN_nat {n k : Nat} : ixN n (k : Int) = if k < n then some k else none := by
  unfold ixN
  rw [if_pos (by omega)]
  by_cases h : k < n
  · rw [if_pos (by omega), if_pos h]; rfl
  · rw [if_neg (by omega), if_neg h]
theorem atI_nat {α : Type} {xs : List α} {k : Nat} : atI xs (k : Int) = xs[k]? := by
  unfold atI
  rw [ixN_nat]
  by_cases h : k < xs.length
  · rw [if_pos h]; rfl
  · rw [if_neg h, List.getElem?_eq_none (by omega)]; rfl
section
variable {α : Type} {xs : List α} {n : Nat}
@[simp] theorem ixN_0 : ixN n 0 = if 0 < n then some 0 else none := ixN_nat (k := 0)
@[simp] theorem ixN_1 : ixN n 1 = if 1 < n then some 1 else none := ixN_nat (k := 1)
@[simp] theorem ixN_2 : ixN n 2 = if 2 < n then some 2 else none := ixN_nat (k := 2)
@[simp] theorem atI_0 : atI xs 0 = xs[0]? := atI_nat (k := 0)
@[simp] theorem atI_1 : atI xs 1 = xs[1]? := atI_nat (k := 1)
@[simp] theorem atI_2 : atI xs 2 = xs[2]? := atI_nat (k := 2)
@[simp] theorem atI_3 : atI xs 3 = xs[3]? := atI_nat (k := 3)
@[simp] theorem atI_4 : atI xs 4 = xs[4]? := atI_nat (k := 4)
@[simp] theorem atI_5 : atI xs 5 = xs[5]? := atI_nat (k := 5)
@[simp] theorem atI_6 : atI xs 6 = xs[6]? := atI_nat (k := 6)
theorem atI_last : atI xs (-1) = xs.getLast? := by
  unfold atI ixN
  cases xs with
  | nil => simp
  | cons x xs =>
    rw [if_neg (by omega), if_pos (by simp only [List.length_cons]; omega)]
    have : ((-1 : Int) + ((x :: xs).length : Nat)).toNat = xs.length := by simp only [List.length_cons]; omega
    rw [Option.bind_some, this, List.getLast?_eq_getElem?]
    simp
end
section
variable {i j k : Int} {a b : Bool} {xs ys : List D} {s t : List Nat} {d x y : D}
@[simp] theorem b1_lenT : b1D .len (.tup xs) = some (.int xs.length, false) := rfl
@[simp] theorem b1_lenL : b1D .len (.lst xs) = some (.int xs.length, false) := rfl
@[simp] theorem b1_lenS : b1D .len (.str s) = if s.length ≤ 1000000 then some (.int s.length, false) else none := rfl
@[simp] theorem b1_sumL : b1D .sum (.lst xs) = (intsOf xs).map fun is => (.int is.sum, false) := rfl
@[simp] theorem b1_sumT : b1D .sum (.tup xs) = (intsOf xs).map fun is => (.int is.sum, false) := rfl
@[simp] theorem b1_maxL : b1D .max (.lst xs) = ((intsOf xs).bind maxI).map fun i => (.int i, false) := rfl
@[simp] theorem b1_minL : b1D .min (.lst xs) = ((intsOf xs).bind minI).map fun i => (.int i, false) := rfl
@[simp] theorem b1_anyL : b1D .any (.lst xs) = (blsOf xs).map fun bs => (.bl (bs.any id), false) := rfl
@[simp] theorem b1_allL : b1D .all (.lst xs) = (blsOf xs).map fun bs => (.bl (bs.all id), false) := rfl
@[simp] theorem b1_tupL : b1D .tuple (.lst xs) = some (.tup xs, false) := rfl
@[simp] theorem b1_tupT : b1D .tuple (.tup xs) = some (.tup xs, false) := rfl
@[simp] theorem b1_lstL : b1D .list (.lst xs) = some (.lst xs, true) := rfl
@[simp] theorem b1_lstT : b1D .list (.tup xs) = some (.lst xs, true) := rfl
@[simp] theorem b1_int : b1D .int (.int i) = some (.int i, false) := rfl
@[simp] theorem b1_intB : b1D .int (.bl a) = some (.int (if a then 1 else 0), false) := rfl
@[simp] theorem b1_boolB : b1D .bool (.bl a) = some (.bl a, false) := rfl
@[simp] theorem b1_abs : b1D .abs (.int i) = some (.int (if i < 0 then -i else i), false) := rfl
/-- no dict, no def -/
def D.plain : D → Bool
  | .dct _ _ _ => false
  | .fn _ => false
  | _ => true
def D.isI : D → Bool
  | .int _ => true
  | .bl _ => true
  | _ => false
def D.isB : D → Bool
  | .bl _ => true
  | _ => false
def D.isS : D → Bool
  | .str _ => true
  | _ => false
def D.isT : D → Bool
  | .tup _ => true
  | _ => false
def D.isL : D → Bool
  | .lst _ => true
  | _ => false
theorem b1_isI (h : d.plain = true) : b1D .isInt d = some (.bl d.isI, false) := by cases d <;> first | rfl | cases h
theorem b1_isB (h : d.plain = true) : b1D .isBool d = some (.bl d.isB, false) := by cases d <;> first | rfl | cases h
theorem b1_isS (h : d.plain = true) : b1D .isStr d = some (.bl d.isS, false) := by cases d <;> first | rfl | cases h
theorem b1_isT (h : d.plain = true) : b1D .isTup d = some (.bl d.isT, false) := by cases d <;> first | rfl | cases h
theorem b1_isL (h : d.plain = true) : b1D .isLst d = some (.bl d.isL, false) := by cases d <;> first | rfl | cases h
@[simp] theorem intsOf_nil : intsOf [] = some [] := rfl
@[simp] theorem intsOf_cons : intsOf (.int i :: xs) = (intsOf xs).map (i :: ·) := rfl
@[simp] theorem blsOf_nil : blsOf [] = some [] := rfl
@[simp] theorem blsOf_cons : blsOf (.bl a :: xs) = (blsOf xs).map (a :: ·) := rfl
@[simp] theorem strsOf_nil : strsOf [] = some [] := rfl
@[simp] theorem strsOf_cons : strsOf (.str s :: xs) = (strsOf xs).map (s :: ·) := rfl
@[simp] theorem intsOf_map {is : List Int} : intsOf (is.map D.int) = some is := by
  induction is with
  | nil => rfl
  | cons i is ih => simp [ih]
@[simp] theorem blsOf_map {is : List Bool} : blsOf (is.map D.bl) = some is := by
  induction is with
  | nil => rfl
  | cons i is ih => simp [ih]
@[simp] theorem strsOf_map {is : List (List Nat)} : strsOf (is.map D.str) = some is := by
  induction is with
  | nil => rfl
  | cons i is ih => simp [ih]
end
section
variable {α : Type} {xs : List α} {k l : Int}
theorem sIx_none {n d : Nat} : HT.sIx n d none = d := rfl
theorem sIx_pos {n d : Nat} (h : 0 ≤ k) : HT.sIx n d (some k) = min k.toNat n := by
  unfold HT.sIx
  simp only
  split <;> omega
@[simp] theorem cut_nn : cutD xs none none = xs := by simp [cutD, sIx_none]
@[simp] theorem cut_pn (h : 0 ≤ k) : cutD xs (some k) none = xs.drop k.toNat := by
  unfold cutD
  rw [sIx_pos h, sIx_none]
  by_cases hk : k.toNat ≤ xs.length
  · rw [Nat.min_eq_left hk, List.take_of_length_le (by simp)]
  · rw [Nat.min_eq_right (by omega), List.drop_eq_nil_of_le (by omega), List.drop_eq_nil_of_le (by omega)]
    simp
@[simp] theorem cut_np (h : 0 ≤ k) : cutD xs none (some k) = xs.take k.toNat := by
  unfold cutD
  rw [sIx_pos h, sIx_none]
  by_cases hk : k.toNat ≤ xs.length
  · simp [Nat.min_eq_left hk]
  · rw [Nat.min_eq_right (by omega), List.take_of_length_le (by simp), List.take_of_length_le (by omega)]
    simp
theorem cut_pp (h : 0 ≤ k) (h2 : 0 ≤ l) : cutD xs (some k) (some l) = (xs.drop k.toNat).take (l.toNat - k.toNat) := by
  unfold cutD
  rw [sIx_pos h, sIx_pos h2]
  by_cases hk : k.toNat ≤ xs.length
  · rw [Nat.min_eq_left hk]
    by_cases hl : l.toNat ≤ xs.length
    · rw [Nat.min_eq_left hl]
    · rw [Nat.min_eq_right (by omega), List.take_of_length_le (by simp), List.take_of_length_le (by simp; omega)]
  · rw [List.drop_eq_nil_of_le (by omega), List.drop_eq_nil_of_le (by omega)]
    simp
@[simp] theorem slc_tup {xs : List D} {lo hi : Option Int} : slcD (.tup xs) lo hi = some (.tup (cutD xs lo hi), false) := rfl
@[simp] theorem slc_lst {xs : List D} {lo hi : Option Int} : slcD (.lst xs) lo hi = some (.lst (cutD xs lo hi), true) := rfl
@[simp] theorem slc_str {s : List Nat} {lo hi : Option Int} : slcD (.str s) lo hi = if s.length ≤ 1000000 then some (.str (cutD s lo hi), false) else none := rfl
end
theorem rngD_nat {n : Nat} (h : n ≤ 1000000) : rngD 0 (n : Int) = some ((List.range n).map fun k => .int (k : Nat)) := by
  unfold rngD
  rw [if_pos (by omega)]
  simp
end Cor
namespace Cor
open PySem L2
def Slot.nio : Slot → Bool
  | .io _ => false
  | _ => true
@[simp] theorem nio_no : Slot.nio .no = true := rfl
@[simp] theorem nio_val {d : D} : Slot.nio (.val d) = true := rfl
@[simp] theorem nio_own {d : D} : Slot.nio (.own d) = true := rfl
theorem nio_ite {d : D} {fr : Bool} : Slot.nio (if fr = true then .own d else .val d) = true := by cases fr <;> rfl
@[simp] theorem putK_nio {s : Slot} {env : Env} {i : Nat} {d : D} {fr : Bool} (h : s.nio = true) : putK s env i d fr = .nx (env.set i (if fr then .own d else .val d)) := by
  cases s <;> first | rfl | cases h
@[simp] theorem asK_nio {s : Slot} {env : Env} {i : Nat} {d : D} (h : s.nio = true) : asK s i d env = some (env.set i (.val d)) := by
  cases s <;> first | rfl | cases h
@[simp] theorem plain_int {i : Int} : (D.int i).plain = true := rfl
@[simp] theorem plain_bl {i : Bool} : (D.bl i).plain = true := rfl
@[simp] theorem plain_str {i : List Nat} : (D.str i).plain = true := rfl
@[simp] theorem plain_tup {i : List D} : (D.tup i).plain = true := rfl
@[simp] theorem plain_lst {i : List D} : (D.lst i).plain = true := rfl
@[simp] theorem plain_non : D.non.plain = true := rfl
@[simp] theorem isI_int {i : Int} : (D.int i).isI = true := rfl
@[simp] theorem isI_bl {i : Bool} : (D.bl i).isI = true := rfl
@[simp] theorem isI_str {i : List Nat} : (D.str i).isI = false := rfl
@[simp] theorem isI_tup {i : List D} : (D.tup i).isI = false := rfl
@[simp] theorem isI_lst {i : List D} : (D.lst i).isI = false := rfl
@[simp] theorem isI_non : D.non.isI = false := rfl
@[simp] theorem isB_int {i : Int} : (D.int i).isB = false := rfl
@[simp] theorem isB_bl {i : Bool} : (D.bl i).isB = true := rfl
@[simp] theorem isB_str {i : List Nat} : (D.str i).isB = false := rfl
@[simp] theorem isB_tup {i : List D} : (D.tup i).isB = false := rfl
@[simp] theorem isB_lst {i : List D} : (D.lst i).isB = false := rfl
@[simp] theorem isB_non : D.non.isB = false := rfl
@[simp] theorem isS_int {i : Int} : (D.int i).isS = false := rfl
@[simp] theorem isS_bl {i : Bool} : (D.bl i).isS = false := rfl
@[simp] theorem isS_str {i : List Nat} : (D.str i).isS = true := rfl
@[simp] theorem isS_tup {i : List D} : (D.tup i).isS = false := rfl
@[simp] theorem isS_lst {i : List D} : (D.lst i).isS = false := rfl
@[simp] theorem isS_non : D.non.isS = false := rfl
@[simp] theorem isT_int {i : Int} : (D.int i).isT = false := rfl
@[simp] theorem isT_bl {i : Bool} : (D.bl i).isT = false := rfl
@[simp] theorem isT_str {i : List Nat} : (D.str i).isT = false := rfl
@[simp] theorem isT_tup {i : List D} : (D.tup i).isT = true := rfl
@[simp] theorem isT_lst {i : List D} : (D.lst i).isT = false := rfl
@[simp] theorem isT_non : D.non.isT = false := rfl
@[simp] theorem isL_int {i : Int} : (D.int i).isL = false := rfl
@[simp] theorem isL_bl {i : Bool} : (D.bl i).isL = false := rfl
@[simp] theorem isL_str {i : List Nat} : (D.str i).isL = false := rfl
@[simp] theorem isL_tup {i : List D} : (D.tup i).isL = false := rfl
@[simp] theorem isL_lst {i : List D} : (D.lst i).isL = true := rfl
@[simp] theorem isL_non : D.non.isL = false := rfl
end Cor
namespace Cor
open PySem L2
section
variable {i : Int} {b : Bool} {s : List Nat} {xs : List D}
@[simp] theorem b1_isI_non : b1D .isInt (D.non) = some (.bl false, false) := rfl
@[simp] theorem b1_isI_int : b1D .isInt (D.int i) = some (.bl true, false) := rfl
@[simp] theorem b1_isI_bl : b1D .isInt (D.bl b) = some (.bl true, false) := rfl
@[simp] theorem b1_isI_str : b1D .isInt (D.str s) = some (.bl false, false) := rfl
@[simp] theorem b1_isI_tup : b1D .isInt (D.tup xs) = some (.bl false, false) := rfl
@[simp] theorem b1_isI_lst : b1D .isInt (D.lst xs) = some (.bl false, false) := rfl
@[simp] theorem b1_isB_non : b1D .isBool (D.non) = some (.bl false, false) := rfl
@[simp] theorem b1_isB_int : b1D .isBool (D.int i) = some (.bl false, false) := rfl
@[simp] theorem b1_isB_bl : b1D .isBool (D.bl b) = some (.bl true, false) := rfl
@[simp] theorem b1_isB_str : b1D .isBool (D.str s) = some (.bl false, false) := rfl
@[simp] theorem b1_isB_tup : b1D .isBool (D.tup xs) = some (.bl false, false) := rfl
@[simp] theorem b1_isB_lst : b1D .isBool (D.lst xs) = some (.bl false, false) := rfl
@[simp] theorem b1_isS_non : b1D .isStr (D.non) = some (.bl false, false) := rfl
@[simp] theorem b1_isS_int : b1D .isStr (D.int i) = some (.bl false, false) := rfl
@[simp] theorem b1_isS_bl : b1D .isStr (D.bl b) = some (.bl false, false) := rfl
@[simp] theorem b1_isS_str : b1D .isStr (D.str s) = some (.bl true, false) := rfl
@[simp] theorem b1_isS_tup : b1D .isStr (D.tup xs) = some (.bl false, false) := rfl
@[simp] theorem b1_isS_lst : b1D .isStr (D.lst xs) = some (.bl false, false) := rfl
@[simp] theorem b1_isT_non : b1D .isTup (D.non) = some (.bl false, false) := rfl
@[simp] theorem b1_isT_int : b1D .isTup (D.int i) = some (.bl false, false) := rfl
@[simp] theorem b1_isT_bl : b1D .isTup (D.bl b) = some (.bl false, false) := rfl
@[simp] theorem b1_isT_str : b1D .isTup (D.str s) = some (.bl false, false) := rfl
@[simp] theorem b1_isT_tup : b1D .isTup (D.tup xs) = some (.bl true, false) := rfl
@[simp] theorem b1_isT_lst : b1D .isTup (D.lst xs) = some (.bl false, false) := rfl
@[simp] theorem b1_isL_non : b1D .isLst (D.non) = some (.bl false, false) := rfl
@[simp] theorem b1_isL_int : b1D .isLst (D.int i) = some (.bl false, false) := rfl
@[simp] theorem b1_isL_bl : b1D .isLst (D.bl b) = some (.bl false, false) := rfl
@[simp] theorem b1_isL_str : b1D .isLst (D.str s) = some (.bl false, false) := rfl
@[simp] theorem b1_isL_tup : b1D .isLst (D.tup xs) = some (.bl false, false) := rfl
@[simp] theorem b1_isL_lst : b1D .isLst (D.lst xs) = some (.bl true, false) := rfl
end
end Cor
namespace Cor
open PySem L2
/-- a part goes through to a state with Q -/
def Goes (r : RS) (Q : Env → Prop) : Prop := ∃ e, r = .nx e ∧ Q e
section
variable {r : RS} {Q P : Env → Prop} {e : Env} {st ss : Env → RS} {R : FR}
theorem goes_nx (h : Q e) : Goes (.nx e) Q := ⟨e, rfl, h⟩
theorem goes_bK (h : Goes r P) (h2 : ∀ e, P e → Goes (st e) Q) : Goes (bK r st) Q := by
  obtain ⟨e, rfl, p⟩ := h
  exact h2 e p
theorem fin_bK (h : Goes r P) (h2 : ∀ e, P e → fin0 (st e) = R) : fin0 (bK r st) = R := by
  obtain ⟨e, rfl, p⟩ := h
  exact h2 e p
theorem fin1_bK (h : Goes r P) (h2 : ∀ e, P e → fin1 (st e) = R) : fin1 (bK r st) = R := by
  obtain ⟨e, rfl, p⟩ := h
  exact h2 e p
theorem Goes.mono (h : Goes r P) (h2 : ∀ e, P e → Q e) : Goes r Q := by
  obtain ⟨e, rfl, p⟩ := h
  exact ⟨e, rfl, h2 e p⟩
/-- a for: what stays true by the turn -/
theorem goes_for {t : TG} {ds : List D} (I : Nat → Env → Prop) (h0 : I 0 e) (hs : ∀ i x e, ds[i]? = some x → I i e → ∃ e2, asg t x e = some e2 ∧ (Goes (ss e2) (I (i + 1)) ∨ ∃ e', ss e2 = .ct e' ∧ I (i + 1) e')) (hd : ∀ e, I ds.length e → Q e) : Goes (forL (stepF t ss) ds e) Q := by
  obtain ⟨e', h, p⟩ := forL_inv (g := stepF t ss) (P := I) (ds := ds) (e := e) 0 h0 fun i x e hx p => by
    rw [Nat.zero_add] at p ⊢
    obtain ⟨e2, h1, h2⟩ := hs i x e hx p
    rcases h2 with ⟨e', h2, p'⟩ | ⟨e', h2, p'⟩
    · exact ⟨e', .inl (by simp [stepF, h1, h2]), p'⟩
    · exact ⟨e', .inr (by simp [stepF, h1, h2]), p'⟩
  rw [Nat.zero_add] at p
  exact ⟨e', h, hd e' p⟩
/-- range(n), item by item -/
theorem rng_get (n : Nat) (h : n ≤ 1000000) : ∃ ds, rngD 0 (n : Int) = some ds ∧ ds.length = n ∧ ∀ (i : Nat) (x : D), ds[i]? = some x → x = .int i ∧ i < n := by
  refine ⟨_, rngD_nat h, by simp, fun i x hx => ?_⟩
  rw [List.getElem?_map] at hx
  by_cases hi : i < n
  · rw [List.getElem?_range hi] at hx
    cases hx
    exact ⟨rfl, hi⟩
  · rw [List.getElem?_eq_none (by simpa using hi)] at hx
    cases hx
end
end Cor
set_option Elab.async false
set_option linter.all false
set_option maxRecDepth 100000
set_option maxHeartbeats 2000000
/-! Cor16: enumerate over a tuple or a text. -/
namespace PySem
set_option maxHeartbeats 1000000 in
theorem cor_meetsEnum {v : Value} {o : Obj} {G : Heap → Prop} (B : Begins v o G) :
    Meets (Builtin.«enumerate.__new__» ⟨[.type "enumerate", v], []⟩) (fun _ R s => G s.heap ∧
      R (.ok (.ret (.ref (s.heap.push o).objs.size))) { s with heap := (s.heap.push o).push { cls := .type "enumerate", data := .fields #[.none, .bool false, .ref s.heap.objs.size, rawInt 0, .none, .none] } }) :=
  .of_wp fun prog w A R s hyp => by
    obtain ⟨hp, gg, dd, tt, oo⟩ := s; obtain ⟨hG, hyp⟩ := hyp
    have hsubT := sub_enumerate
    have go1 : ∀ {A' : Around} {E' : Value → Shared → Prop} {Q' : Value → Shared → Prop}, Q' (.ref hp.objs.size) ⟨hp.push o, gg, dd, tt, oo⟩ → wpAny (model prog w) A' (pyIter v) Q' E' ⟨hp, gg, dd, tt, oo⟩ := fun qq => B.iter prog w _ _ ⟨hp, gg, dd, tt, oo⟩ _ hG qq
    wp_walk using go1
    refine wpAny_stack_any fun stk => wpAny_pure ?_
    split
    · rename_i c _ _ _ _ _
      cases (c == Value.type "enumerate") <;> (wp_walk using go1; exact ⟨_, rfl, hyp⟩)
    · wp_walk using go1
      exact ⟨_, rfl, hyp⟩
theorem cor_callEnum {prog : Program} {w : World} {A : Around} {E : Value → Shared → Prop} {s : Shared} {v : Value} {o : Obj} {G : Heap → Prop} {Q : Value → Shared → Prop} (B : Begins v o G) (hG : G s.heap)
    (hyp : ∀ h', IsEnum h' (s.heap.objs.size + 1) s.heap.objs.size 0 .none → h'.get? s.heap.objs.size = some o → h'.objs.size = s.heap.objs.size + 2 → (∀ b o, s.heap.get? b = some o → h'.get? b = some o) → Q (.ref (s.heap.objs.size + 1)) { s with heap := h' }) :
    wpAny (model prog w) A (call (.type "enumerate") [v]) Q E s := by
  refine callType_new F.called_enumerate (by decide) (F.typeCall_enumerate_1 _) (F.newCall_enumerate_1 _) (fun ob => F.args_object_init_2 ob _)
    F.entry_enumerate_new (cor_meetsEnum B) ⟨hG, ?_⟩
  have sz : (s.heap.push o).objs.size = s.heap.objs.size + 1 := Heap.size_push ..
  show _ ∧ _
  rw [sz]
  have en : IsEnum ((s.heap.push o).push { cls := .type "enumerate", data := .fields #[.none, .bool false, .ref s.heap.objs.size, rawInt 0, .none, .none] }) (s.heap.objs.size + 1) s.heap.objs.size 0 .none := by
    have q := Heap.get?_push_size (s.heap.push o) (o := { cls := .type "enumerate", data := .fields #[.none, .bool false, .ref s.heap.objs.size, rawInt 0, .none, .none] }) rfl
    rw [sz] at q
    exact q
  exact ⟨⟨_, en, rfl⟩, hyp _ en (Heap.get?_push_of_some _ (Heap.get?_push_size _ B.free)) (by rw [Heap.size_push, sz]) fun b o x => Heap.get?_push_of_some _ (Heap.get?_push_of_some _ x)⟩
end PySem
namespace Cor
open PySem PySem.Spec L2
variable [LamDefs]
/-- what draws vs, one behind another, under enumerate -/
def ItE (G : Hp → Prop) (n : Nat) (Y : Nat → V → Prop) : It :=
  ⟨fun i H => i < n ∧ G H, fun i H v H' => ∃ T x, v = .ref T ∧ H T = none ∧ H' = upd H T (.tup [.int (i : Nat), x]) ∧ Y i x, fun i H => n ≤ i ∧ G H⟩
theorem turn_enumT {P : Program} {w : World} {K : PySem.W.Frag} {elts : List Expr} {kk : Nat} {tpos : Pos} (a e it : Addr) (xs : List V) :
    Turn P w K (.Tuple elts kk tpos) (ItE (fun H => SqT K H a xs) xs.length (fun i x => xs[i]? = some x)) [e, it] e (fun i h => i ≤ xs.length ∧ (∃ old, IsEnum h e it ((i : Nat) : Int) old) ∧ h.IsTupleIter it a i ∧ e ≠ it) where
  mem := by simp
  obj := fun i h ⟨_, ⟨old, he⟩, ⟨o, ho, hc, hd⟩, _⟩ b hb => by
    have hb : b = e ∨ b = it := by simpa using hb
    rcases hb with rfl | rfl
    · exact ⟨_, he, fun v q => nomatch q⟩
    · exact ⟨o, ho, fun v q => by rw [hd] at q; cases q⟩
  keep := fun i h h' ⟨hi, ⟨old, he⟩, ht, hne⟩ k => ⟨hi, ⟨old, k e (by simp) _ he⟩, ht.at fun o q => k it (by simp) o q, hne⟩
  item := by
    intro X hP hw hK hc i pins s σ H E I hf ⟨hin, ⟨old, he⟩, hit, hne⟩ ⟨hlt, hq⟩
    subst hP hw hK
    obtain ⟨its, rv, p, hz⟩ := I.tuple hq
    have hl := rv.length
    have hel : e < s.heap.objs.size := Heap.lt_size he
    have hil : it < s.heap.objs.size := by obtain ⟨_, q, _⟩ := hit; exact Heap.lt_size q
    have hti : a ≠ it := fun z => by
      obtain ⟨o1, g1, c1, _⟩ := p
      obtain ⟨o2, g2, c2, _⟩ := hit
      rw [z, g2] at g1; cases g1; rw [c2] at c1; simp at c1
    have hte : e ≠ a := fun z => by
      obtain ⟨o1, g1, c1, _⟩ := p
      rw [← z] at g1
      have he' : s.heap.get? e = _ := he
      rw [he'] at g1; cases g1; simp at c1
    refine wpAny_pyNext_enum_itemD (Draws.tuple (A := X.A.in1) (I.ok.hd hc) it a hti its.toArray) he ⟨hit, p⟩ (by simpa [← hl] using hlt) hne (by simp [hne, hte]) fun u h' tk hu ho hst hT hsz hk => ?_
    have hu : its[i]? = some u := by simpa using hu
    obtain ⟨x, hx, ru⟩ : ∃ x, xs[i]? = some x ∧ RelV x u := by
      have hx : xs[i]? = some xs[i] := List.getElem?_eq_getElem hlt
      obtain ⟨u', hu', ru⟩ := rv.get hx
      rw [hu] at hu'; cases hu'
      exact ⟨_, hx, ru⟩
    refine ⟨_, rfl, wpAny_letOwnedTupleGo_enum (s := { s with heap := h', toks := tk + 1 }) ho fun h'' he' sb => ?_⟩
    have hT2 : h''.get? s.heap.objs.size = some { cls := .type "tuple", data := .seq #[.int i tk, u] } := (sb.2 _ (Nat.ne_of_gt hel)).trans hT
    have nw : ObjOk X.prog X.w (upd H s.heap.objs.size (.tup [.int (i : Nat), x])) h'' s.heap.objs.size (.tup [.int (i : Nat), x]) :=
      ⟨by show 2 ≤ sizeLine; decide, [.int i tk, u], .cons ⟨_, rfl⟩ (.cons ru .nil), ⟨_, hT2, rfl, _, rfl⟩⟩
    have I1 : Inv X pins σ (upd H s.heap.objs.size (.tup [.int (i : Nat), x])) { s with heap := h'', toks := tk + 1 } :=
      I.turnedNew (ch := [e, it]) (fun b ob hb q => (sb.2 b (fun z => hb (by simp [z]))).trans (hk b ob (fun z => hb (by simp [z])) (fun z => hb (by simp [z])) q)) hf (Nat.le_refl _) nw
    refine ⟨.ref s.heap.objs.size, _, I1, rfl, ⟨_, x, rfl, I.hok.fresh (Nat.le_refl _), rfl, hx⟩, ⟨hlt, ⟨u, ?_⟩, hst.1.at fun o q => (sb.2 it (Ne.symm hne)).trans q, hne⟩, fun b hb => ?_⟩
    · have e1 : ((i + 1 : Nat) : Int) = (i : Int) + 1 := by omega
      rw [e1]; exact he'
    · have hb' : b < s.heap.objs.size := by
        have hb : b = e ∨ b = it := by simpa using hb
        rcases hb with rfl | rfl
        · exact hel
        · exact hil
      rw [upd_ne (Nat.ne_of_lt hb')]
      exact (hf b hb).1
  done := by
    intro X hP hw hK hc i pins s σ H E I hf ⟨hin, ⟨old, he⟩, hit, hne⟩ ⟨hge, hq⟩
    subst hP hw hK
    obtain ⟨its, rv, p, hz⟩ := I.tuple hq
    have hl := rv.length
    have hti : a ≠ it := fun z => by
      obtain ⟨o1, g1, c1, _⟩ := p
      obtain ⟨o2, g2, c2, _⟩ := hit
      rw [z, g2] at g1; cases g1; rw [c2] at c1; simp at c1
    obtain ⟨f0, f1, f2, f3, f4, f5⟩ := hf it (by simp)
    have hi : i = its.toArray.size := by simp [← hl]; omega
    subst hi
    exact wpAny_pyNext_enum_endD (Draws.tuple (A := X.A.in1) (I.ok.hd hc) it a hti its.toArray) he ⟨hit, p⟩ fun h' eb => ⟨rfl, I.turned (t' := s.toks) (fun b o hb q => eb b o hb q) f0 f1 f3 f4 f5⟩
  self := fun A i s Q E ⟨_, ⟨_, he⟩, _⟩ h => wpAny_pyIter_enum he h
theorem turn_enumS {P : Program} {w : World} {K : PySem.W.Frag} {elts : List Expr} {kk : Nat} {tpos : Pos} (z : Str) (t : Tok) (e it : Addr) :
    Turn P w K (.Tuple elts kk tpos) (ItE (fun _ => True) z.cps.size (fun i x => ∃ c, z.cps[i]? = some c ∧ x = .str ⟨#[c]⟩)) [e, it] e (fun i h => i ≤ z.cps.size ∧ (∃ old, IsEnum h e it ((i : Nat) : Int) old) ∧ h.IsStrIter it (strIterType z) z t i ∧ e ≠ it) where
  mem := by simp
  obj := fun i h ⟨_, ⟨old, he⟩, ⟨o, ho, hc, hd⟩, _⟩ b hb => by
    have hb : b = e ∨ b = it := by simpa using hb
    rcases hb with rfl | rfl
    · exact ⟨_, he, fun v q => nomatch q⟩
    · exact ⟨o, ho, fun v q => by rw [hd] at q; cases q⟩
  keep := fun i h h' ⟨hi, ⟨old, he⟩, ht, hne⟩ k => ⟨hi, ⟨old, k e (by simp) _ he⟩, (let ⟨o, h1, h2, h3⟩ := ht; ⟨o, k it (by simp) o h1, h2, h3⟩), hne⟩
  item := by
    intro X hP hw hK hc i pins s σ H E I hf ⟨hin, ⟨old, he⟩, hit, hne⟩ ⟨hlt, _⟩
    subst hP hw hK
    have hel : e < s.heap.objs.size := Heap.lt_size he
    have hil : it < s.heap.objs.size := by obtain ⟨_, q, _⟩ := hit; exact Heap.lt_size q
    refine wpAny_pyNext_enum_itemD (Draws.text (A := X.A.in1) (I.ok.hd hc) it z t) he hit hlt hne (by simp [hne]) fun u h' tk hu ho hst hT hsz hk => ?_
    obtain ⟨c, ut, hc1, rfl⟩ := hu
    refine ⟨_, rfl, wpAny_letOwnedTupleGo_enum (s := { s with heap := h', toks := tk + 1 }) ho fun h'' he' sb => ?_⟩
    have hT2 : h''.get? s.heap.objs.size = some { cls := .type "tuple", data := .seq #[.int i tk, .str ⟨#[c]⟩ ut] } := (sb.2 _ (Nat.ne_of_gt hel)).trans hT
    have nw : ObjOk X.prog X.w (upd H s.heap.objs.size (.tup [.int (i : Nat), .str ⟨#[c]⟩])) h'' s.heap.objs.size (.tup [.int (i : Nat), .str ⟨#[c]⟩]) :=
      ⟨by show 2 ≤ sizeLine; decide, [.int i tk, .str ⟨#[c]⟩ ut], .cons ⟨_, rfl⟩ (.cons ⟨_, rfl⟩ .nil), ⟨_, hT2, rfl, _, rfl⟩⟩
    have I1 : Inv X pins σ (upd H s.heap.objs.size (.tup [.int (i : Nat), .str ⟨#[c]⟩])) { s with heap := h'', toks := tk + 1 } :=
      I.turnedNew (ch := [e, it]) (fun b ob hb q => (sb.2 b (fun z => hb (by simp [z]))).trans (hk b ob (fun z => hb (by simp [z])) (fun z => hb (by simp [z])) q)) hf (Nat.le_refl _) nw
    refine ⟨.ref s.heap.objs.size, _, I1, rfl, ⟨_, .str ⟨#[c]⟩, rfl, I.hok.fresh (Nat.le_refl _), rfl, c, hc1, rfl⟩, ⟨hlt, ⟨.str ⟨#[c]⟩ ut, ?_⟩, (let ⟨o, h1, h2, h3⟩ := hst; ⟨o, (sb.2 it (Ne.symm hne)).trans h1, h2, h3⟩), hne⟩, fun b hb => ?_⟩
    · have e1 : ((i + 1 : Nat) : Int) = (i : Int) + 1 := by omega
      rw [e1]; exact he'
    · have hb' : b < s.heap.objs.size := by
        have hb : b = e ∨ b = it := by simpa using hb
        rcases hb with rfl | rfl
        · exact hel
        · exact hil
      rw [upd_ne (Nat.ne_of_lt hb')]
      exact (hf b hb).1
  done := by
    intro X hP hw hK hc i pins s σ H E I hf ⟨hin, ⟨old, he⟩, hit, hne⟩ ⟨hge, _⟩
    subst hP hw hK
    obtain ⟨f0, f1, f2, f3, f4, f5⟩ := hf it (by simp)
    have hi : i = z.cps.size := by omega
    subst hi
    exact wpAny_pyNext_enum_endD (Draws.text (A := X.A.in1) (I.ok.hd hc) it z t) he hit fun h' eb => ⟨rfl, I.turned (t' := s.toks) (fun b o hb q => eb b o hb q) f0 f1 f3 f4 f5⟩
  self := fun A i s Q E ⟨_, ⟨_, he⟩, _⟩ h => wpAny_pyIter_enum he h
section
variable {X : Cx} {W : WX} {e : Expr} {p pos tpos : Pos} {elts : List Expr} {kk : Nat} {ta : TA}
theorem pi_enumT (hg : Gl X "enumerate") (hm : X.mg "enumerate" = none) (ha : PA X [e] ta) (hs : starEach [e] X.env = [(false, eval e X.env)]) :
    PI X (.Tuple elts kk tpos) (.Call (.Name "enumerate" p) [e] [] pos) (fun σ H R => ta σ H fun vs H1 => ∃ a xs, vs = [.ref a] ∧ SqT X.K H1 a xs ∧ R (ItE (fun H => SqT X.K H a xs) xs.length (fun i x => xs[i]? = some x)) H1) := by
  refine ⟨fun pins s σ H R I h => ?_⟩
  refine PyProof.Rows.Call_ (ld_blt I hg hm PyProof.Rows.boot_enumerate (PyProof.Rows.callWith_type1 (thn (ha.run pos pins s σ H _ I h) fun us s1 ⟨vs, H1, I1, r1, a, xs, ex, hq, q⟩ => ?_) hs rfl))
  subst ex
  cases r1 with
  | cons r rr =>
    cases rr
    cases r
    obtain ⟨its, rv, p', hz⟩ := I1.tuple hq
    refine cor_callEnum (begins_tuple a its.toArray) p' fun h' he hit hsz hk => wpAny_pyIter_enum he ?_
    have I2 : Inv X pins σ H1 { s1 with heap := h' } := I1.kept (t' := s1.toks) hk
    refine ⟨s1.heap.objs.size + 1, [s1.heap.objs.size + 1, s1.heap.objs.size], _, _, H1, rfl, I2, turn_enumT a (s1.heap.objs.size + 1) s1.heap.objs.size xs, ⟨Nat.zero_le _, ⟨.none, he⟩, ⟨_, hit, rfl, rfl⟩, Nat.succ_ne_self _⟩, fun b hb => ?_, q⟩
    have hb : b = s1.heap.objs.size + 1 ∨ b = s1.heap.objs.size := by simpa using hb
    have hle : s1.heap.objs.size ≤ b := by
      rcases hb with z | z <;> rw [z]
      · exact Nat.le_add_right _ _
      · exact Nat.le_refl _
    exact I1.fpOk hle (I1.hok.fresh hle)
theorem pi_enumS (hg : Gl X "enumerate") (hm : X.mg "enumerate" = none) (ha : PA X [e] ta) (hs : starEach [e] X.env = [(false, eval e X.env)]) :
    PI X (.Tuple elts kk tpos) (.Call (.Name "enumerate" p) [e] [] pos) (fun σ H R => ta σ H fun vs H1 => ∃ z, vs = [.str z] ∧ R (ItE (fun _ => True) z.cps.size (fun i x => ∃ c, z.cps[i]? = some c ∧ x = .str ⟨#[c]⟩)) H1) := by
  refine ⟨fun pins s σ H R I h => ?_⟩
  refine PyProof.Rows.Call_ (ld_blt I hg hm PyProof.Rows.boot_enumerate (PyProof.Rows.callWith_type1 (thn (ha.run pos pins s σ H _ I h) fun us s1 ⟨vs, H1, I1, r1, z, ex, q⟩ => ?_) hs rfl))
  subst ex
  cases r1 with
  | cons r rr =>
    cases rr
    obtain ⟨t, rfl⟩ := r
    refine cor_callEnum (begins_text z t) trivial fun h' he hit hsz hk => wpAny_pyIter_enum he ?_
    have I2 : Inv X pins σ H1 { s1 with heap := h' } := I1.kept (t' := s1.toks) hk
    refine ⟨s1.heap.objs.size + 1, [s1.heap.objs.size + 1, s1.heap.objs.size], _, _, H1, rfl, I2, turn_enumS z t (s1.heap.objs.size + 1) s1.heap.objs.size, ⟨Nat.zero_le _, ⟨.none, he⟩, ⟨_, hit, rfl, rfl⟩, Nat.succ_ne_self _⟩, fun b hb => ?_, q⟩
    have hb : b = s1.heap.objs.size + 1 ∨ b = s1.heap.objs.size := by simpa using hb
    have hle : s1.heap.objs.size ≤ b := by
      rcases hb with z | z <;> rw [z]
      · exact Nat.le_add_right _ _
      · exact Nat.le_refl _
    exact I1.fpOk hle (I1.hok.fresh hle)
end
section
variable {K : PySem.W.Frag} {mg : Str → Option Value} {Hf : Hp}
theorem walkE {ds : List D} {G : Hp → Prop} {n : Nat} {Y : Nat → V → Prop} (hn : ds.length = n) (hG : ∀ H, Same Hf H → G H) (hY : ∀ i x, Y i x → ∃ d, ds[i]? = some d ∧ Rep K mg Hf d x) : WalkD K mg Hf (ds.mapIdx fun k y => .tup [.int (k : Nat), y]) (ItE G n Y) := by
  unfold WalkD
  rw [List.length_mapIdx, hn]
  refine ⟨fun i H hi h => ⟨hi, hG H h⟩, fun H h => ⟨Nat.le_refl _, hG H h⟩, fun i H v H' hi h ⟨T, x, e1, e2, e3, y⟩ => ?_⟩
  obtain ⟨d, hd, r⟩ := hY i x y
  subst e1 e3
  exact ⟨.tup [.int (i : Nat), d], by rw [List.getElem?_mapIdx, hd]; rfl, .tup e2 (.cons (.int _) (.cons r .nil))⟩
theorem walkL {ds : List D} {vs : List V} {a : Addr} (h : SqL K Hf a vs) (r : Reps K mg Hf ds vs) : WalkD K mg Hf (ds.mapIdx fun k y => .tup [.int (k : Nat), y]) (Ite K a) := by
  unfold WalkD
  rw [List.length_mapIdx, r.length]
  refine walk_enum.mono (fun H e => e.seq h) fun i H v H' _ e y => ?_
  obtain ⟨T, x, z, e1, e2, e3, e4, e5⟩ := y
  cases e4
  obtain ⟨d, hd, rr⟩ := r.getV e5
  subst e1 e3
  exact ⟨.tup [.int (i : Nat), d], by rw [List.getElem?_mapIdx, hd]; rfl, .tup e2 (.cons (.int _) (.cons rr .nil))⟩
end
/-- enumerate(e) of a list, a tuple or a text -/
def iEnu (ma : Env → RE) : Env → REs := fun env => (ma env).bindI fun x _ e1 => match x with
  | .lst xs => .ok (xs.mapIdx fun k y => .tup [.int (k : Nat), y]) e1
  | .tup xs => .ok (xs.mapIdx fun k y => .tup [.int (k : Nat), y]) e1
  | .str xs => if xs.length ≤ lim then .ok ((xs.map fun c => D.str [c]).mapIdx fun k y => .tup [.int (k : Nat), y]) e1 else .no
  | _ => .no
theorem jEnu {X : Cx} {W : WX} {a : Expr} {pa : Bool} {ma : Env → RE} {p pos tpos : Pos} {elts : List Expr} {kk : Nat} (hm : X.mg "enumerate" = none) (ha : PE X a (tI X.K X.mg W true pa ma)) (hg : X.env.kindOf "enumerate" = some .globalImplicit := by kernel_rfl) (hs : starEach [a] X.env = [(false, eval a X.env)] := by rfl) :
    PI X (.Tuple elts kk tpos) (.Call (.Name "enumerate" p) [a] [] pos) (tJ X.K X.mg W pa (iEnu ma)) := by
  have pa1 : PA X [a] (tCons (tI X.K X.mg W true pa ma) tNil) := pa_cons ha pa_nil (by rw [hs]; rfl)
  refine ⟨fun pins s σ H R I ⟨Hf, env, R0, g⟩ => ?_⟩
  unfold iEnu at g
  cases q : ma env with
  | no => rw [q] at g; exact g.elim
  | ex x e1 =>
    rw [q] at g
    refine (pi_enumT hg hm pa1 hs).run pins s σ H R I ⟨Hf, env, R0, ?_⟩
    rw [q]; exact g
  | ok d fr e1 =>
    rw [q] at g
    cases d with
    | lst xs =>
      refine (pi_enum hg hm pa1 hs).run pins s σ H R I ⟨Hf, env, R0, ?_⟩
      rw [q]
      refine fun v H1 Hf1 R1 t1 z1 => ?_
      obtain ⟨Hf1, R1, t1, z1⟩ := stab R0 R1 t1 z1
      obtain ⟨a, vs, rfl, h1, h2⟩ := z1.lstInv
      exact ⟨a, vs, rfl, R1.le.seq h1, g _ H1 Hf1 R1 t1 (walkL h1 h2)⟩
    | tup xs =>
      refine (pi_enumT hg hm pa1 hs).run pins s σ H R I ⟨Hf, env, R0, ?_⟩
      rw [q]
      refine fun v H1 Hf1 R1 t1 z1 => ?_
      obtain ⟨Hf1, R1, t1, z1⟩ := stab R0 R1 t1 z1
      obtain ⟨a, vs, rfl, h1, h2⟩ := z1.tupInv
      exact ⟨a, vs, rfl, same_t R1.le h1, g _ H1 Hf1 R1 t1 (walkE h2.length (fun H e => same_t e h1) fun i x hx => h2.getV hx)⟩
    | str xs =>
      by_cases hz : xs.length ≤ lim
      · refine (pi_enumS hg hm pa1 hs).run pins s σ H R I ⟨Hf, env, R0, ?_⟩
        rw [q]
        simp only [RE.bindI, hz, if_true] at g
        refine fun v H1 Hf1 R1 t1 z1 => ?_
        obtain rfl := (z1.now R1.le).strInv
        refine ⟨_, rfl, g _ H1 Hf1 R1 t1 (walkE (by simp) (fun _ _ => trivial) fun i x ⟨c, hc, hx⟩ => ?_)⟩
        subst hx
        refine ⟨.str [c], ?_, .str [c]⟩
        rw [List.getElem?_map]
        have : xs[i]? = some c := by simpa using hc
        rw [this]; rfl
      · simp only [RE.bindI, hz, if_false] at g
        exact g.elim
    | _ => exact g.elim
end Cor
set_option Elab.async false
set_option linter.all false
set_option maxRecDepth 100000
set_option maxHeartbeats 2000000
/-! Cor17: more words: never reached, a module's tuple, list and tuple of a range, count, a def that calls itself. -/
namespace Cor
open PySem PySem.Spec L2
variable [LamDefs]
open PyProof.Rows (envOfC)
def sNo : Env → RS := fun _ => .no
theorem kNo {X : Cx} {W : WX} {st : Stmt} : PS X st (tS X.K X.mg W sNo) := PS.imp ps_never fun D σ H ⟨_, _, _, g⟩ => g
/-- a module's tuple -/
theorem pGT {X : Cx} {W : WX} {x : Str} {pos : Pos} (ds : List D) {vs : List V} (hm : ∃ a, X.mg x = some (.ref a) ∧ ∀ H, SqT X.K H a vs) (hr : ∀ H, Reps X.K X.mg H ds vs) (hg : X.env.kindOf x = some .globalImplicit := by kernel_rfl) (hd : (x == ("__debug__" : Str)) = false := by kernel_rfl) : PE X (.Name x pos) (tI X.K X.mg W true true (eLit (.tup ds))) := by
  obtain ⟨a, h1, h2⟩ := hm
  exact s_lit (pe_glob (v := .ref a) hg h1 rfl hd) fun H => .tup (h2 H) (hr H)
/-! ### list(range(a, b)), tuple(range(a, b)) -/
def rgD (n m : Int) : Option (List D) := if -(2 ^ 62) ≤ n ∧ n < 2 ^ 62 ∧ -(2 ^ 62) ≤ m ∧ m < 2 ^ 62 ∧ (m - n).toNat ≤ 1000000 then some ((List.range (m - n).toNat).map fun i => .int (n + (i : Nat))) else none
def lrF (x y : D) (e : Env) : RE := match x, y with
  | .int n, .int m => (match rgD n m with
    | some ds => .ok (.lst ds) true e
    | none => .no)
  | _, _ => .no
def trF (x y : D) (e : Env) : RE := match x, y with
  | .int n, .int m => (match rgD n m with
    | some ds => .ok (.tup ds) false e
    | none => .no)
  | _, _ => .no
def eLRg (ma mb : Env → RE) : Env → RE := fun env => (ma env).bind fun x _ e1 => (mb e1).bind fun y _ e2 => lrF x y e2
def eTRg (ma mb : Env → RE) : Env → RE := fun env => (ma env).bind fun x _ e1 => (mb e1).bind fun y _ e2 => trF x y e2
theorem rgD_some {n m : Int} {ds : List D} {K : PySem.W.Frag} {mg : Str → Option Value} {H : Hp} (h : rgD n m = some ds) : RgOk n m ∧ Reps K mg H ds (rgV n m) := by
  unfold rgD at h
  split at h
  · rename_i q
    cases h
    refine ⟨⟨q.1, q.2.1, q.2.2.1, q.2.2.2.1, by omega⟩, ?_⟩
    unfold rgV
    have key : ∀ l : List Nat, Reps K mg H (l.map fun i => D.int (n + (i : Nat))) (l.map fun i => V.int (n + (i : Nat))) := fun l => by
      induction l with
      | nil => exact .nil
      | cons i l ih => exact .cons (.int _) ih
    exact key _
  · cases h
section
variable {X : Cx} {W : WX} {k : Nat} {a b e : Expr} {pos p p2 pos2 : Pos} {ma mb : Env → RE} {sa sb pa pb : Bool}
theorem pLRg (g : Gd k X W) (hm : X.mg "list" = none) (hmr : X.mg "range" = none) (ha : PE X a (tI X.K X.mg W sa pa ma)) (hb : PE X b (tI X.K X.mg W sb pb mb)) (hg : X.env.kindOf "list" = some .globalImplicit := by kernel_rfl) (hgr : X.env.kindOf "range" = some .globalImplicit := by kernel_rfl)
    (na : starEach [a, b] X.env = (false, eval a X.env) :: starEach [b] X.env := by rfl) (nb : starEach [b] X.env = (false, eval b X.env) :: starEach [] X.env := by rfl) (hp : (backTo pos2 (starEach [b] X.env)).any (·.1) = false := by rfl)
    (nc : starEach [.Call (.Name "range" p2) [a, b] [] pos2] X.env = (false, eval (.Call (.Name "range" p2) [a, b] [] pos2) X.env) :: starEach [] X.env := by rfl) :
    PE X (.Call (.Name "list" p) [.Call (.Name "range" p2) [a, b] [] pos2] [] pos) (tI X.K X.mg W true (pa && pb) (eLRg ma mb)) := by
  refine PE.imp (pe_listRg g.calm hg hm (prg_2 hgr hmr ha hb na nb hp) nc) fun σ H Q ⟨Hf, env, R, g⟩ => ⟨Hf, env, R, GE.first (fun h => (Bool.and_eq_true_iff.mp h).1) g fun x fx e1 v H1 Hf1 _ R1 t1 z1 g1 => ?_⟩
  refine ⟨Hf1, e1, R1, GE.next t1 (fun h => h) g1 fun y fy e2 u H2 Hf2 _ R2 t2 z2 g2 => ?_⟩
  cases x <;> try exact g2.elim
  cases y <;> try exact g2.elim
  rename_i n _ m _
  obtain rfl := (z1.now R1.le).intInv
  obtain rfl := (z2.now R2.le).intInv
  unfold lrF at g2
  dsimp only at g2
  cases q : rgD n m with
  | none => rw [q] at g2; exact g2.elim
  | some ds =>
    rw [q] at g2
    exact ⟨n, m, rfl, rfl, (rgD_some (K := X.K) (mg := X.mg) (H := Hf2) q).1, fun r hr => GE.out g2 (t1.trans t2) (fun h => h) R2 (.lst hr (rgD_some q).2)⟩
theorem pTRg (g : Gd k X W) (hm : X.mg "tuple" = none) (hmr : X.mg "range" = none) (ha : PE X a (tI X.K X.mg W sa pa ma)) (hb : PE X b (tI X.K X.mg W sb pb mb)) (hg : X.env.kindOf "tuple" = some .globalImplicit := by kernel_rfl) (hgr : X.env.kindOf "range" = some .globalImplicit := by kernel_rfl)
    (na : starEach [a, b] X.env = (false, eval a X.env) :: starEach [b] X.env := by rfl) (nb : starEach [b] X.env = (false, eval b X.env) :: starEach [] X.env := by rfl) (hp : (backTo pos2 (starEach [b] X.env)).any (·.1) = false := by rfl)
    (nc : starEach [.Call (.Name "range" p2) [a, b] [] pos2] X.env = (false, eval (.Call (.Name "range" p2) [a, b] [] pos2) X.env) :: starEach [] X.env := by rfl) :
    PE X (.Call (.Name "tuple" p) [.Call (.Name "range" p2) [a, b] [] pos2] [] pos) (tI X.K X.mg W true (pa && pb) (eTRg ma mb)) := by
  refine PE.imp (pe_tupRg g.calm hg hm (prg_2 hgr hmr ha hb na nb hp) nc) fun σ H Q ⟨Hf, env, R, g⟩ => ⟨Hf, env, R, GE.first (fun h => (Bool.and_eq_true_iff.mp h).1) g fun x fx e1 v H1 Hf1 _ R1 t1 z1 g1 => ?_⟩
  refine ⟨Hf1, e1, R1, GE.next t1 (fun h => h) g1 fun y fy e2 u H2 Hf2 _ R2 t2 z2 g2 => ?_⟩
  cases x <;> try exact g2.elim
  cases y <;> try exact g2.elim
  rename_i n _ m _
  obtain rfl := (z1.now R1.le).intInv
  obtain rfl := (z2.now R2.le).intInv
  unfold trF at g2
  dsimp only at g2
  cases q : rgD n m with
  | none => rw [q] at g2; exact g2.elim
  | some ds =>
    rw [q] at g2
    exact ⟨n, m, rfl, rfl, (rgD_some (K := X.K) (mg := X.mg) (H := Hf2) q).1, fun r hr => GE.out g2 (t1.trans t2) (fun h => h) R2 (.tup hr (rgD_some q).2)⟩
end
/-! ### text.count(sign) -/
theorem occ_cnt (x : Str) (c : Nat) : ∀ (n lo : Nat) (f : Array Nat) (fr : Nat), lo + n = x.length + 1 → fr ≤ lo → f.size ≤ lo →
    (forIn (List.range' lo n) (f, fr) (StrLaws.occBody x ⟨#[c]⟩ x.length (x.length + 1))).run.fst.size = f.size + ((x.cps.toList.drop lo).filter fun y => y == c).length
  | 0, lo, f, fr, h1, h2, h3 => by
    have hq : x.cps.toList.length = x.length := by simp [Str.length]
    have hd : x.cps.toList.drop lo = [] := List.drop_eq_nil_of_le (by omega)
    rw [hd]
    rfl
  | n + 1, lo, f, fr, h1, h2, h3 => by
    have hl : x.cps.toList.length = x.length := by simp [Str.length]
    rw [List.range'_succ, List.forIn_cons]
    unfold StrLaws.occBody
    by_cases hc : x.cps.toList[lo]? = some c
    · have hs := (StrLaws.subAt_one x c lo).mpr hc
      rw [if_pos ⟨⟨⟨by show f.size < _; omega, h2⟩, hs.1⟩, hs.2⟩]
      have ih := occ_cnt x c n (lo + 1) (f.push lo) (lo + 1) (by omega) (Nat.le_refl _) (by simp only [Array.size_push]; omega)
      obtain ⟨hlt, e⟩ := List.getElem?_eq_some_iff.mp hc
      rw [List.drop_eq_getElem_cons hlt, e]
      refine ih.trans ?_
      simp only [Array.size_push, List.filter_cons, beq_self_eq_true, if_true, List.length_cons]
      omega
    · have hs : ¬ (((f.size < x.length + 1 ∧ fr ≤ lo) ∧ lo + (⟨#[c]⟩ : Str).length ≤ x.length) ∧ Builtin.Str.subAt x ⟨#[c]⟩ lo = true) := fun z => hc ((StrLaws.subAt_one x c lo).mp ⟨z.1.2, z.2⟩)
      rw [if_neg hs]
      have ih := occ_cnt x c n (lo + 1) f fr (by omega) (by omega) (by omega)
      refine ih.trans ?_
      congr 1
      by_cases hlt : lo < x.cps.toList.length
      · rw [List.drop_eq_getElem_cons hlt, List.filter_cons]
        have : ¬ (x.cps.toList[lo] == c) = true := fun z => hc (by rw [List.getElem?_eq_getElem hlt, eq_of_beq z])
        rw [if_neg this]
      · rw [List.drop_eq_nil_of_le (by omega), List.drop_eq_nil_of_le (by omega)]
theorem sm_count (X : Cx) : SmOk X "str.count" .count := by
  refine ⟨_, mt_count, fun Hf H x y d e q Q le rx ry hs => ?_⟩
  unfold m1D at hs
  split at hs <;> simp only [reduceCtorEq] at *
  rename_i xs c _
  cases hs
  obtain rfl := rx.strInv
  obtain rfl := ry.strInv
  refine ⟨⟨_, rfl⟩, fun hq => ⟨_, _, rfl, rfl, ?_⟩⟩
  have e : Txt.count ⟨xs.toArray⟩ ⟨[c].toArray⟩ = (((xs.filter fun x => x == c).length : Nat) : Int) := by
    show ((Builtin.Str.occurrences _ _ 0 _ _).length : Int) = _
    rw [StrLaws.occ_eq, Array.length_toList]
    have := occ_cnt ⟨xs.toArray⟩ c ((⟨xs.toArray⟩ : Str).length + 1) 0 #[] 0 (by omega) (Nat.le_refl _) (Nat.zero_le _)
    simp only [List.drop_zero, Array.size_empty, Nat.zero_add] at this
    exact congrArg Int.ofNat this
  rw [e]
  exact hq _ fun Hf => .int _
theorem pCount {X : Cx} {W : WX} {a o : Expr} {pos apos : Pos} {ma mb : Env → RE} {pa pb : Bool} (ho : PE X o (tI X.K X.mg W true pa ma)) (ha : PE X a (tI X.K X.mg W true pb mb)) (hs : starEach [a] X.env = [(false, eval a X.env)] := by rfl) (hbase : attributeBase o "count" X.env (eval o X.env) = eval o X.env := by rfl) (hline : (apos.endLine == pos.line) = true := by rfl) : PE X (.Call (.Attribute o "count" apos) [a] [] pos) (tI X.K X.mg W true (pa && pb) (eM1 .count ma mb)) :=
  pM1 (sm_count X) PySem.F.slot_str_count PySem.F.type_str_count ho ha hs hbase hline
/-! ### a def that calls itself: by fuel -/
theorem fnS_none {P : Program} {w : World} {K : PySem.W.Frag} {mg : Str → Option Value} {base : Heap} {k n : Nat} {x qual : Str} {params : Arguments} {body : List Stmt} {scope : Scope} {f : Addr} {fd : FuncData} {ps : List Str} {io : Bool} (hg : mg x = some (.ref f)) (F : FunD K x qual params body scope [] [] f fd) (b : Binds K fd ps []) (hn : ps.length = n) : FnS P w K mg base k x n io (fun _ => .no) := by
  subst hn
  exact ⟨f, fd, ps, hg, F.kp, b, ⟨fun vs H Q E h => h.1, fun A outer s H args us vs Q E _ _ _ _ h => by
    obtain ⟨_, _, _, _, _, _, _, _, z⟩ := h
    exact z.elim⟩⟩
end Cor
namespace Cor
open PySem L2
section
variable {mc : Env → RE} {ms : Env → RS} {e : Env} {d : D} {fr f b : Bool} {c : XC}
/-- while, turn by turn -/
def whK (mc : Env → RE) (ms : Env → RS) (r : RE) : RS := match r with
  | .ok (.bl true) _ e1 => (match ms e1 with
    | .nx e => sWhl mc ms e
    | .ct e => sWhl mc ms e
    | .bk e => .nx e
    | r => r)
  | .ok (.bl false) _ e1 => .nx e1
  | .ex x e1 => .ex x e1
  | _ => .no
def whK2 (mc : Env → RE) (ms : Env → RS) (r : RS) : RS := match r with
    | .nx e => sWhl mc ms e
    | .ct e => sWhl mc ms e
    | .bk e => .nx e
    | r => r
theorem sWhl_step : sWhl mc ms e = whK mc ms (mc e) := by
  unfold sWhl
  rw [whlL]
  unfold whK
  cases mc e with
  | no => rfl
  | ex x e1 => rfl
  | ok d fr e1 =>
    cases d <;> try rfl
    rename_i b
    cases b
    · rfl
    · dsimp only
      cases ms e1 <;> rfl
@[simp] theorem whK_bl : whK mc ms (.ok (.bl b) f e) = if b = true then whK2 mc ms (ms e) else .nx e := by cases b <;> rfl
@[simp] theorem whK2_nx : whK2 mc ms (.nx e) = sWhl mc ms e := rfl
@[simp] theorem whK2_ct : whK2 mc ms (.ct e) = sWhl mc ms e := rfl
@[simp] theorem whK2_bk : whK2 mc ms (.bk e) = .nx e := rfl
@[simp] theorem whK2_rt : whK2 mc ms (.rt d fr e) = .rt d fr e := rfl
end
end Cor
set_option Elab.async false
set_option linter.all false
set_option maxRecDepth 100000
set_option maxHeartbeats 2000000
/-! Cor18: a call that reads what a slot holds. -/
namespace Cor
open PySem PySem.Spec L2
variable [LamDefs]
section
variable {X : Cx} {W : WX} {a : Expr} {es : List Expr} {pos p : Pos} {ms : Env → REs} {ps : Bool}
theorem Now.rep {K : PySem.W.Frag} {mg : Str → Option Value} {Hf H : Hp} {d : D} {v : V} (h : Now K mg Hf H d v) (e : Same Hf H) : Rep K mg H d v := by
  cases h with
  | frz r => exact r.up e
  | own c => exact c.rep e
/-- the first argument stands in slot i and is only read; the answer is flat -/
theorem s_callRd {k n i : Nat} {x : Str} {f : Sem} (F : FnS X.prog X.w X.K X.mg X.base k x n false f) (hr : Room k X.A) (hg : Gl X x) (tk : L2N.Takes X W) (hd : (x == ("__debug__" : Str)) = false) (hn : (a :: es).length = n)
    (ha : PE X a (tVar i)) (hes : PA X es (tIs X.K X.mg W true ps ms)) (hl : ∀ env ds e1, ms env = .ok ds e1 → ds.length + 1 = n) (he : starEach (a :: es) X.env = (false, eval a X.env) :: starEach es X.env) (hpl : (backTo pos (starEach es X.env)).any (·.1) = false) :
    PE X (.Call (.Name x p) (a :: es) [] pos) (tI X.K X.mg W true false fun env => match (getS env i).get with
      | none => .no
      | some _ => (ms env).bind fun ds e1 => match (getS e1 i).get with
        | some d => callR true (f (d :: ds)) e1
        | none => .no) := by
  obtain ⟨fa, fd, pl, h1, h2, h3, h4⟩ := F.ex
  refine PE.imp (pe_callS h4 hr hg h1 h2 h3 (fun σ => L2N.passAt tk σ) (pa_cons ha hes he) hd he hpl) fun σ H Q ⟨Hf, env, R, g⟩ => ?_
  dsimp only at g
  cases q0 : (getS env i).get with
  | none => rw [q0] at g; exact g.elim
  | some d0 =>
    rw [q0] at g
    dsimp only at g
    obtain ⟨v0, ev, _⟩ := R.now q0
    refine ⟨v0, ev, Hf, env, R, GEs.fst (pu := false) (by intro h; cases h) g fun ds e1 vs H1 Hf1 hm R1 t1 rs g1 => ?_⟩
    cases q1 : (getS e1 i).get with
    | none => rw [q1] at g1; exact g1.elim
    | some d =>
      rw [q1] at g1
      dsimp only at g1
      rw [if_pos rfl] at rs
      obtain ⟨v', ev', nw⟩ := R1.now q1
      rw [ev] at ev'
      cases ev'
      refine ⟨by rw [List.length_cons, ← rs.length]; exact hl env ds e1 hm, none, d :: ds, noT H1, rfl, (fun h => nomatch h), ER.nil noT_same R1.tab noT_nt, .cons ((nw.rep R1.le).upN noT_kep) ((rs.up R1.le).upN noT_kep), ?_⟩
      show match f (d :: ds) with
        | .ret d fr z => _
        | .exc c z => _
        | .no => False
      have lift : ∀ {H' Hf'}, ER X.K X.mg Hf' H' [] [] → Tr true (noT H1) H1 [] Hf' H' [] [] → ER X.K X.mg Hf1 H' e1 σ ∧ Tr true Hf1 H1 e1 Hf1 H' e1 σ := fun {H' Hf'} r t => by
        have s := t.pure rfl
        refine ⟨⟨s.of R1.le R1.nt, R1.len, R1.val, fun i d h => ?_, R1.inj, R1.raw, r.tab, R1.nt⟩, ⟨Same.refl _, rfl, fun _ h => h, fun _ d h => ⟨d, h⟩, fun a o h z _ => s a o h z, fun a h => .inl h, fun _ => s, t.there⟩⟩
        obtain ⟨a, e, n, c⟩ := R1.mu i d h
        exact ⟨a, e, n, c.move (Same.refl _) fun o q => s a o q (c.not q).1⟩
      unfold callR at g1
      cases q : f (d :: ds) with
      | no => rw [q] at g1; exact g1.elim
      | ret dd fr z =>
        rw [q] at g1
        cases z with
        | some z => exact g1.elim
        | none =>
          refine ⟨rfl, fun v H' Hf' r t y => ?_⟩
          obtain ⟨R2, t2⟩ := lift r t
          simp only [Bool.true_and] at g1
          cases hat : dd.isAtom with
          | false => rw [hat] at g1; exact g1.elim
          | true =>
            rw [hat] at g1
            unfold VR at y
            cases fr with
            | true =>
              rw [if_pos rfl] at y
              obtain ⟨p', _, _, _, c⟩ := y
              cases c <;> simp [D.isAtom] at hat
            | false =>
              rw [if_neg Bool.false_ne_true, if_pos rfl] at y
              exact GE.fin g1 (t1.trans t2) (fun h => nomatch h) R2 (VR.old (atom_rep y hat))
      | exc c z =>
        rw [q] at g1
        cases z with
        | some z => exact g1.elim
        | none =>
          refine ⟨rfl, fun C H' Hf' hC r t => ?_⟩
          obtain ⟨R2, t2⟩ := lift r t
          exact g1 C H' Hf1 hC R2 ((t1.trans t2).weak fun h => nomatch h)
end
def eCallRd (f : Sem) (i : Nat) (ms : Env → REs) : Env → RE := fun env => match (getS env i).get with
  | none => .no
  | some _ => (ms env).bind fun ds e1 => match (getS e1 i).get with
    | some d => callR true (f (d :: ds)) e1
    | none => .no
end Cor
namespace Cor
open PySem PySem.Spec L2
variable [LamDefs]
theorem pCallRd {X : Cx} {W : WX} {k : Nat} {a : Expr} {es : List Expr} {pos p : Pos} {ms : Env → REs} {ps : Bool} {n i j : Nat} {x : Str} {f : Sem} (g : Gd k X W) (F : FnS X.prog X.w X.K X.mg X.base j x (n + 1) false f) (ha : PE X a (tVar i)) (hes : QA X W es n true ps ms) (hj : j ≤ k := by decide) (hg : X.env.kindOf x = some .globalImplicit := by kernel_rfl) (hd : (x == ("__debug__" : Str)) = false := by kernel_rfl)
    (hn : (a :: es).length = n + 1 := by rfl) (he : starEach (a :: es) X.env = (false, eval a X.env) :: starEach es X.env := by rfl) (hpl : (backTo pos (starEach es X.env)).any (·.1) = false := by rfl) : PE X (.Call (.Name x p) (a :: es) [] pos) (tI X.K X.mg W true false (eCallRd f i ms)) :=
  s_callRd (F.mono hj) g.room hg g.tk hd hn ha hes.pa (fun env ds e1 h => by rw [hes.len env ds e1 h]) he hpl
section
variable {f : Sem} {i : Nat} {env e : Env} {d : D} {ds : List D} {ms : Env → REs}
def rdK2 (f : Sem) (i : Nat) (o : Option D) (r : REs) : RE := match o with
  | none => .no
  | some _ => r.bind fun ds e1 => match (getS e1 i).get with
    | some d => callR true (f (d :: ds)) e1
    | none => .no
def rdK3 (f : Sem) (ds : List D) (o : Option D) (e1 : Env) : RE := match o with
  | some d => callR true (f (d :: ds)) e1
  | none => .no
@[simp] theorem x_eCallRd : eCallRd f i ms env = rdK2 f i (getS env i).get (ms env) := rfl
@[simp] theorem rdK2_ok : rdK2 f i (some d) (.ok ds e) = rdK3 f ds (getS e i).get e := rfl
@[simp] theorem rdK3_ok : rdK3 f ds (some d) e = callR true (f (d :: ds)) e := rfl
end
end Cor
set_option Elab.async false
set_option linter.all false
set_option maxRecDepth 100000
set_option maxHeartbeats 2000000
/-! Cor19: dicts made. -/
namespace Cor
open PySem PySem.Spec L2
def eDnew (tk : Bool) : Env → RE := fun env => .ok (.dct tk [] []) true env
def eD1 (tk : Bool) (mk mv : Env → RE) : Env → RE := fun env => (mk env).bind fun k _ e1 => (mv e1).bind fun v _ e2 => if keyB tk k then .ok (.dct tk [k] [v]) true e2 else .no
section
variable [LamDefs] {X : Cx} {W : WX} {pos : Pos} {a b : Expr} {ma mb : Env → RE} {pa pb : Bool}
theorem pDnew (tk : Bool) : PE X (.Dict [] [] pos) (tI X.K X.mg W true true (eDnew tk)) := by
  refine PE.imp pe_dctNew fun σ H Q ⟨Hf, env, R, g⟩ => fun p o hp hs sh => ?_
  obtain ⟨R', t⟩ := R.grow (pu := true) (o := DObj p o) hp
  exact g (.ref p) _ _ R' t (VR.new hp (R.freshF hp) (.dct upd_same hs (Nat.zero_le _) (sh tk) .nil .nil))
/-- a display of one pair -/
def tDisp1 (K : PySem.W.Frag) (mg : Str → Option Value) (tk : Bool) (tx ty : TE) : TE := fun σ H Q => ∀ p o, H p = none → (p == sysModules) = false → (∀ tk, DSh tk o [] [] []) →
  tx σ (upd H p (DObj p o)) fun x H1 => ty σ H1 fun y H2 => H2 p = some (DObj p o) ∧ ∃ kd, Rep K mg H2 kd x ∧ keyB tk kd = true ∧ ∀ o', DSh tk o' [kd] [x] [y] → Q (.ref p) (upd H2 p (DObj p o'))
theorem pe_disp1 {tk : Bool} {tx ty : TE} (hu : X.A.units + 65 < cLine) (hx : PE X a tx) (hy : PE X b ty) : PE X (.Dict [some a] [b] pos) (tDisp1 X.K X.mg tk tx ty) := by
  refine ⟨fun pins s σ H Q I q => ?_⟩
  have hb := I.big
  generalize ho : ({ cls := .type "dict", data := .dict #[] } : Obj) = o
  have e0 : (s.heap.push o).get? s.heap.objs.size = some o := by rw [← ho]; exact Heap.get?_push_size _ rfl
  have I1 : Inv X pins σ (upd H s.heap.objs.size (DObj s.heap.objs.size o)) { s with heap := s.heap.push o } := I.laid (a := s.heap.objs.size) (t' := s.toks) (fun _ _ q => Heap.get?_push_of_some _ q) (Nat.le_refl _) (ext_ok e0)
  have hs : (s.heap.objs.size == sysModules) = false := beq_eq_false_iff_ne.mpr (Nat.ne_of_gt hb)
  have q1 := q s.heap.objs.size o (I.hok.fresh (Nat.le_refl _)) hs (by rw [← ho]; exact dsh_nil)
  have ev := (pps_cons (pos := pos) hx hy pps_nil).run pins _ σ _ (fun ps H2 => match ps with
    | [(x, y)] => H2 s.heap.objs.size = some (DObj s.heap.objs.size o) ∧ ∃ kd, Rep X.K X.mg H2 kd x ∧ keyB tk kd = true ∧ ∀ o', DSh tk o' [kd] [x] [y] → Q (.ref s.heap.objs.size) (upd H2 s.heap.objs.size (DObj s.heap.objs.size o'))
    | _ => False) I1 q1
  have wr : ∀ {H2 : Hp} {s2 : Shared} {h' : Heap} {o' : Obj} {t' : Nat}, Inv X pins σ H2 s2 → H2 s.heap.objs.size = some (DObj s.heap.objs.size o) → Heap.SameBut s.heap.objs.size s2.heap h' → h'.get? s.heap.objs.size = some o' → Inv X pins σ (upd H2 s.heap.objs.size (DObj s.heap.objs.size o')) { s2 with heap := h', toks := t' } := fun {H2 s2 h' o' t'} I2 e hs e' =>
    I2.write (x := s.heap.objs.size) (e := s.heap.objs.size) (by rw [e]; exact True.intro) (.inl rfl) (fun b q hb z => (hs.2 b hb).trans z) ⟨o', e'⟩ (ext_ok e')
  cases tk with
  | true =>
    rw [arm_eval_Dict, zip_pairTrees _ _ _ _ rfl rfl, dictDisplay_pairs _ (by simp [pairTrees]) (by simp [pairTrees])]
    refine wpAny_bind (wpAny_standAt (wpAny_bind (wpAny_subDictH (knd := nestedKind X.prog X.w) (Q := fun d s' => wpAny (model X.prog X.w) X.A (pure (Value.ref d)) (EP X pins σ Q) X.xe s') (by show X.A.units + 8 < cLine; omega) (by simp [pairTrees]) ?_)))
    rw [ho]
    refine thn ev fun vs s2 ⟨ps, H2, I2, rel, q2⟩ => ?_
    match ps, rel, q2 with
    | [(x, y)], .cons (b := (u, w)) ⟨rx, ry⟩ .nil, ⟨e2, kd, rk, hk, q3⟩ =>
      obtain ⟨ok, z, rfl⟩ := isTup_ok hk
      obtain ⟨ba, bs, rfl, _⟩ := rep_tup rk
      obtain rfl : u = Value.ref ba := rx
      refine ⟨[(nk (.tup z), ba, w)], ⟨rfl, rfl, rep_is I2 rk hk, trivial⟩, ?_, fun h' tk' dd hs' => ?_⟩
      · refine ⟨o, #[], 0, dobj_at I2 e2, ?_, ?_, rfl, (fun _ h => nomatch h), List.nodup_nil⟩
        · rw [← ho]; exact ⟨rfl, rfl, rfl⟩
        · rw [← ho]
      · have hm : storedAllH [] [(nk (D.tup z), ba, w)] = [(nk (D.tup z), ba, w)] := rfl
        rw [hm] at dd
        obtain ⟨o', es, ep, g1, g2, g3, g4, g5, g6⟩ := dd
        refine wpAny_pure ⟨.ref s.heap.objs.size, _, wr I2 e2 hs' g1, rfl, q3 o' ?_⟩
        unfold DSh
        rw [if_pos rfl]
        have k1 : ([(nk (D.tup z), ba, w)] : List (NestedKey × Addr × Value)).map (·.1) = nks [.tup z] := rfl
        have k2 : ∀ k ∈ [D.tup z], isTupK k = true := fun k hk' => by rw [List.mem_singleton.mp hk']; exact hk
        exact ⟨es, ep, _, g2, g3, fun P w' => g4.trans (entry_any _ _ k1 k2), g6, k1, k2, rfl, .cons ry .nil⟩
  | false =>
    refine wpAny_Dict_walk (knd := mixKind X.prog X.w) rfl rfl (by simp) (by simp) ?_
    rw [ho]
    refine thn ev fun vs s2 ⟨ps, H2, I2, rel, q2⟩ => ?_
    match ps, rel, q2 with
    | [(x, y)], .cons (b := (u, w)) ⟨rx, ry⟩ .nil, ⟨e2, kd, rk, hk, q3⟩ =>
      obtain ⟨i, rfl⟩ := isNum_ok hk
      obtain rfl := rep_int rk
      obtain ⟨t, rfl⟩ := rx
      refine ⟨[(.inl i, w)], ⟨mixKind_int _ _ _ _, rfl, trivial⟩, ?_, fun h' dd hs' => ?_⟩
      · refine ⟨o, #[], 0, dobj_at I2 e2, ?_, ?_, (fun e he => by simp at he), .nil, List.nodup_nil⟩
        · rw [← ho]; exact ⟨rfl, rfl, rfl⟩
        · rw [← ho]
      · have hm : merged [] [((Sum.inl i : Key), w)] = [(Sum.inl i, w)] := rfl
        rw [hm] at dd
        obtain ⟨o', es, ep, g1, g2, g3, g4, g5, g6⟩ := dd
        refine ⟨.ref s.heap.objs.size, _, wr I2 e2 hs' g1, rfl, q3 o' ?_⟩
        unfold DSh
        rw [if_neg Bool.false_ne_true]
        have hin : ∀ x ∈ [((Sum.inl i : Key), w)], ∃ j, x.1 = Sum.inl j := fun x hx => by rw [List.mem_singleton.mp hx]; exact ⟨i, rfl⟩
        exact ⟨es, ep, _, g2, g3, fun P w' => ⟨keysOf_any g4 g5 hin, pairs_any g5⟩, g6, rfl, fun k hk' => by rw [List.mem_singleton.mp hk']; rfl, .cons ry .nil⟩
theorem pD1 (tk : Bool) {k : Nat} (g : Gd k X W) (ha : PE X a (tI X.K X.mg W true pa ma)) (hb : PE X b (tI X.K X.mg W true pb mb)) : PE X (.Dict [some a] [b] pos) (tI X.K X.mg W true (pa && pb) (eD1 tk ma mb)) := by
  refine PE.imp (pe_disp1 (tk := tk) g.hu ha hb) fun σ H Q ⟨Hf, env, R, g⟩ => fun p o hp hs sh => ?_
  obtain ⟨R0, t0⟩ := R.grow (pu := true) (o := DObj p o) hp
  unfold eD1 at g
  have hfp := R.freshF hp
  -- the new dict stays as it is while the pair is made
  have stay : ∀ {pu : Bool} {Hx Hfx : Hp} {ex : Env}, Tr pu Hf (upd H p (DObj p o)) env Hfx Hx ex σ → Hx p = some (DObj p o) ∧ Hfx p = none := fun {pu Hx Hfx ex} t => by
    have no : ¬ OwnAt env σ p := R.fresh (noT_none hp)
    refine ⟨t.fr p _ upd_same (fun ps e => nomatch e) no, ?_⟩
    cases q : Hfx p with
    | none => rfl
    | some u =>
      rcases t.new p (by rw [q]; simp) with z | z | z
      · exact absurd hfp z
      · obtain ⟨es, ep, hd⟩ := (sh true).dict
        rw [noC_some (o := DObj p o) upd_same (fun ps e => nomatch e) (fun q => dobj_code hd rfl)] at z; cases z
      · exact absurd z no
  refine ⟨Hf, env, R0, GE.next (p1 := true) t0 (fun h => by rw [(Bool.and_eq_true_iff.mp h).1]; rfl) g fun d1 f1 e1 v1 H1 Hf1 _ R1 t1 z1 g1 => ?_⟩
  obtain ⟨Hf1, R1, t1, z1⟩ := stab R0 R1 t1 z1
  refine ⟨Hf1, e1, R1, GE.next (t0.trans t1) (fun h => by simpa using h) g1 fun d2 f2 e2 v2 H2 Hf2 _ R2 t2 z2 g2 => ?_⟩
  obtain ⟨Hf2, R2, t2, z2⟩ := stab R1 R2 t2 z2
  obtain ⟨s1, s2⟩ := stay (t1.trans t2)
  by_cases hk : keyB tk d1 = true
  · rw [if_pos hk] at g2
    refine ⟨s1, d1, (z1.up t2.up).up R2.le, hk, fun o' sh' => ?_⟩
    have no2 : ¬ OwnAt e2 σ p := fun z => R.fresh (noT_none hp) ((z.back t2.mt).back t1.mt)
    have c0 : Cont X.K X.mg Hf2 H2 (.dct tk [] []) p := .dct s1 hs (Nat.zero_le _) (sh tk) .nil .nil
    have R3 := R2.updN (o := DObj p o') s2 no2 fun u e => c0.not e
    have t3 := (t0.trans t1).trans t2
    have T : Tr (pa && pb) Hf H env Hf2 (upd H2 p (DObj p o')) e2 σ := by
      refine ⟨t3.up, t3.len, t3.mt, t3.io, fun a o h x n => ?_, t3.new, fun h a o q x => ?_, fun a h => ?_⟩
      · rw [upd_ne (ne_of_none h hp)]; exact t3.fr a o h x n
      · rw [upd_ne (ne_of_none q hp)]; exact t3.pure (by simpa using h) a o q x
      · by_cases ea : a = p
        · rw [ea, noT_some (o := DObj p o') upd_same (fun ps e => nomatch e)]; simp
        · have q := t3.there a h
          unfold noT at q ⊢
          rw [upd_ne ea]; exact q
    exact g2 _ _ Hf2 R3 T (VR.new hp s2 (.dct upd_same hs (by simp [lim]) sh' (.cons (z1.up t2.up) .nil) (.cons z2 .nil)))
  · rw [if_neg hk] at g2; exact g2.elim
end
/-! ### d.get(k, x) -/
section
variable [LamDefs] {X : Cx} {pins : List (Addr × Obj)} {σ : L2.St} {H : Hp} {s : Shared} {tk : Bool} {ks : List D} {a : Addr} {o : Obj} {kvv vvs : List V} {k : D} {kv : V} {u r : Value}
theorem d_getOr (hu : X.A.units + 65 < cLine) (I : Inv X pins σ H s) (h : DH X.K X.mg H tk ks a o kvv vvs) (rk : Rep X.K X.mg H k kv) (ru : RelV kv u) (hk : keyB tk k = true) {y : V} (ry : RelV y r) (hv : ks.length = vvs.length)
    {Q : Value → Shared → Prop} (hq : ∀ w s', Inv X pins σ H s' → RelV (((findK ks k).bind fun i => vvs[i]?).getD y) w → Q w s') : wpAny (model X.prog X.w) X.A (call (.builtin "dict.get") [.ref a, u, r]) Q X.xe s := by
  have sh := h.sh
  unfold DSh at sh
  unfold keyB at hk
  cases tk with
  | true =>
    rw [if_pos rfl] at sh hk
    obtain ⟨xs, hx, e1, e2, _, e4⟩ := dsh_T I h.obj sh h.keys
    obtain ⟨ok, z, rfl⟩ := isTup_ok hk
    obtain ⟨b, vs, rfl, _⟩ := rep_tup rk
    cases ru
    have key := find_T ok ks xs e1 e2
    refine call_meetsIn PySem.F.slot_dict_get hx.typeIs PySem.F.entry_dict_get (PySem.F.args_dict_get_3 _ _ _) (meetsH_dict_get_default (nestedKind X.prog X.w) a b h.sys r) ⟨by show X.A.units + 1 + 8 < cLine; omega, nk (.tup z), xs, rep_is I rk hk, hx, hq _ _ (I.tok _) ?_⟩
    rw [key]
    cases hf : findK ks (.tup z) with
    | none => exact ry
    | some i =>
      have hlt := findK_lt hf
      have hi : i < xs.length := by rw [keys_T e1]; exact hlt
      obtain ⟨w, hw, rw'⟩ := e4.get (List.getElem?_eq_getElem (by rw [← hv]; exact hlt))
      simp only [Option.bind_some, List.getElem?_eq_getElem hi, Option.map_some, List.getElem?_map] at hw ⊢
      cases hw
      rw [List.getElem?_eq_getElem (by rw [← hv]; exact hlt)]
      exact rw'
  | false =>
    rw [if_neg Bool.false_ne_true] at sh hk
    obtain ⟨kvs, hx, e1, e2, e3⟩ := dsh_N I h.obj sh h.keys
    obtain ⟨i', rfl⟩ := isNum_ok hk
    obtain rfl := rep_int rk
    obtain ⟨t, rfl⟩ := ru
    have key := find_N (i := i') ks kvs (e1 ▸ h.keys) e2
    refine call_meetsIn PySem.F.slot_dict_get hx.typeIs PySem.F.entry_dict_get (PySem.F.args_dict_get_3 _ _ _) (meets_dict_get_default (mixKind X.prog X.w) a (mixKind_int _ _ _ _) h.sys r) ⟨_, hx.mapOf, hq _ _ (I.tok _) ?_⟩
    rw [key]
    cases hf : findK ks (.int i') with
    | none => exact ry
    | some i =>
      have hlt := findK_lt hf
      have hl := h.keys.length
      rw [← e1, List.length_map] at hl
      have hi : i < kvs.length := by rw [← hl]; exact hlt
      obtain ⟨w, hw, rw'⟩ := e3.get (List.getElem?_eq_getElem (by rw [← hv]; exact hlt))
      simp only [Option.bind_some, List.getElem?_eq_getElem hi, Option.map_some, List.getElem?_map] at hw ⊢
      cases hw
      rw [List.getElem?_eq_getElem (by rw [← hv]; exact hlt)]
      exact rw'
end
def eGetR (i : Nat) (mk mx : Env → RE) : Env → RE := fun env => match (getS env i).get with
  | some (.dct _ _ _) => (mk env).bind fun k _ e1 => (mx e1).bind fun y _ e2 => match (getS e2 i).get with
    | some (.dct tk ks ds) => if keyB tk k = true ∧ ks.length = ds.length then .ok ((lookD ks ds k).getD y) false e2 else .no
    | _ => .no
  | _ => .no
section
variable [LamDefs] {X : Cx} {W : WX} {apos cpos : Pos} {o a b : Expr} {ma mb : Env → RE} {pa pb : Bool} {i : Nat}
def tGet2 (K : PySem.W.Frag) (mg : Str → Option Value) (to tx ty : TE) : TE := fun σ H Q => to σ H fun x H1 => ∃ (a : Addr) (o : Obj), x = .ref a ∧ H1 a = some (DObj a o) ∧ o.ExactDict ∧ tx σ H1 fun kv H2 => ty σ H2 fun y H3 => ∃ tk ks o' kvv vvs k, DH K mg H3 tk ks a o' kvv vvs ∧ Rep K mg H3 k kv ∧ keyB tk k = true ∧ ks.length = vvs.length ∧ Q (((findK ks k).bind fun i => vvs[i]?).getD y) H3
theorem pe_get2 {to tx ty : TE} (hu : X.A.units + 65 < cLine) (ho : PE X o to) (ha : PE X a tx) (hb : PE X b ty) (hbase : attributeBase o "get" X.env (eval o X.env) = eval o X.env)
    (hfew : ((backTo cpos (starEach [a, b] X.env)).all (fun x => !x.1) && (backToKw cpos (keywordEach [] X.env)).all (fun x => x.1.isSome) && decide (([a, b] : List Expr).length + ([] : List Keyword).length + (if ([] : List Keyword).isEmpty then 0 else 1) < 30)) = true)
    (hline : (apos.endLine == cpos.line) = true) (htree : backTo cpos (starEach [a, b] X.env) = [(false, eval a X.env), (false, eval b X.env)]) : PE X (.Call (.Attribute o "get" apos) [a, b] [] cpos) (tGet2 X.K X.mg to tx ty) := by
  refine ⟨fun pins s σ H Q I h => ?_⟩
  refine wpAny_Call_method hbase hfew hline PySem.F.plainAttrs_dict PySem.F.slot_dict_get PySem.F.type_dict_get (thn (ho.run pins s σ H _ I h) fun u s1 ⟨x, H1, I1, rx, aa, oo, ex, hd, hx, q1⟩ => ?_)
  subst ex
  obtain rfl : u = Value.ref aa := rx
  obtain ⟨t1, t2⟩ := dct_recv I1 hd hx
  refine ⟨t1, t2, ?_⟩
  rw [htree]
  refine Calls.callWith_builtin rfl (Calls.evalArgs_plain (Calls.spliced_cons (thn (ha.run pins s1 σ H1 _ I1 q1) fun iv s2 ⟨y, H2, I2, ry, q2⟩ =>
    Calls.spliced_cons (thn (hb.run pins s2 σ H2 _ I2 q2) fun fv s3 ⟨z, H3, I3, rz, tk, ks, o', kvv, vvs, k, dh, rk, hk, hl, q3⟩ => Calls.spliced_nil ?_))))
  exact d_getOr hu I3 dh rk ry hk rz hl fun w' s4 I4 rw' => ⟨_, H3, I4, rw', q3⟩
theorem pGetR {k : Nat} (g : Gd k X W) (ho : PE X o (tVar i)) (ha : PE X a (tI X.K X.mg W true pa ma)) (hb : PE X b (tI X.K X.mg W true pb mb)) (hbase : attributeBase o "get" X.env (eval o X.env) = eval o X.env := by rfl)
    (hfew : ((backTo cpos (starEach [a, b] X.env)).all (fun x => !x.1) && (backToKw cpos (keywordEach [] X.env)).all (fun x => x.1.isSome) && decide (([a, b] : List Expr).length + ([] : List Keyword).length + (if ([] : List Keyword).isEmpty then 0 else 1) < 30)) = true := by rfl)
    (hline : (apos.endLine == cpos.line) = true := by rfl) (htree : backTo cpos (starEach [a, b] X.env) = [(false, eval a X.env), (false, eval b X.env)] := by rfl) : PE X (.Call (.Attribute o "get" apos) [a, b] [] cpos) (tI X.K X.mg W true (pa && pb) (eGetR i ma mb)) := by
  refine PE.imp (pe_get2 g.hu ho ha hb hbase hfew hline htree) fun σ H Q ⟨Hf, env, R, g⟩ => ?_
  unfold eGetR at g
  cases q0 : (getS env i).get with
  | none => rw [q0] at g; exact g.elim
  | some d0 =>
    rw [q0] at g
    cases d0 <;> try exact g.elim
    obtain ⟨v0, ev, nw⟩ := R.now q0
    obtain ⟨a0, o0, kvv0, vvs0, rfl, dh0, _⟩ := now_dh R.le nw
    obtain ⟨es0, ep0, en0⟩ := dsh_ent X.prog X.w dh0.sh
    refine ⟨_, ev, a0, o0, rfl, dh0.obj, en0.ex, Hf, env, R, GE.first (st := true) (pu := pa && pb) (fun h => (Bool.and_eq_true_iff.mp h).1) g fun d1 f1 e1 v1 H1 Hf1 _ R1 t1 z1 g1 => ?_⟩
    obtain ⟨Hf1, R1, t1, z1⟩ := stab R R1 t1 z1
    refine ⟨Hf1, e1, R1, GE.next t1 (fun h => h) g1 fun d2 f2 e2 v2 H2 Hf2 _ R2 t2 z2 g2 => ?_⟩
    obtain ⟨Hf2, R2, t2, z2⟩ := stab R1 R2 t2 z2
    cases q1 : (getS e2 i).get with
    | none => simp only [q1] at g2; exact g2.elim
    | some x =>
      simp only [q1] at g2
      cases x <;> try exact g2.elim
      rename_i tk ks ds
      obtain ⟨v', ev', nw'⟩ := R2.now q1
      rw [ev] at ev'
      cases ev'
      obtain ⟨a1, o1, kvv1, vvs1, e1', dh1, r1⟩ := now_dh R2.le nw'
      cases e1'
      dsimp only at g2
      by_cases hc : keyB tk d1 = true ∧ ks.length = ds.length
      · rw [if_pos hc] at g2
        refine ⟨tk, ks, o1, kvv1, vvs1, d1, dh1, (z1.up t2.up).up R2.le, hc.1, by rw [hc.2]; exact r1.length, ?_⟩
        refine GE.fin g2 (t1.trans t2) (fun h => h) R2 (VR.old ?_)
        unfold lookD
        cases hf : findK ks d1 with
        | none => exact z2
        | some j =>
          have hj : j < ds.length := by rw [← hc.2]; exact findK_lt hf
          obtain ⟨w, ew, rw'⟩ := r1.get (List.getElem?_eq_getElem hj)
          simp only [Option.bind_some, ew, List.getElem?_eq_getElem hj, Option.getD_some]
          exact rw'
      · rw [if_neg hc] at g2; exact g2.elim
end
end Cor
set_option Elab.async false
set_option linter.all false
set_option maxRecDepth 100000
set_option maxHeartbeats 2000000
/-! CorH: what runs while an exception is handled: the ends of list and tuple iterators, a pair unpacked, [x for x, y in zip(a, b) if y]. -/
namespace Cor
open PySem PySem.Spec PyProof.Rows L2 HotX
section
variable {P : Program} {w : World} {A : Around} {E : Value → Shared → Prop} {s : Shared}
/-- StopIteration, raised while x1 is handled -/
theorem stop_hot {α : Type} {x1 : Addr} {Q : α → Shared → Prop} (hot : HotAt A x1 s.heap)
    (hE : ∀ h' e, (∀ b o, s.heap.get? b = some o → h'.get? b = some o) → (∃ o, h'.get? e = some o ∧ o.cls = .type "StopIteration") → E (.ref e) { s with heap := h' }) :
    wpAny (model P w) A (newExc (.type "StopIteration") [] >>= fun x => (raiseNew x : PySem.Sem α)) Q E s := by
  obtain ⟨hh, o1, vs1, h1, d1, c1⟩ := hot
  refine wpAny_bind ?_
  simp only [newExc, newTuple]
  refine wpAny_bind (wpAny_newObj_type ?_ (by size_fits))
  refine wpAny_bind (m := firstArgMember _ _) (wpAny_of_eq (a := Value.none) (by first | rfl | (simp only [firstArgMember] <;> rfl)) ?_)
  refine wpAny_newObj_type ?_ (by size_fits)
  have g1 := Heap.get?_push_of_some { cls := .type "tuple", data := .seq ([] : List Value).toArray } h1
  refine raiseNew_hot ⟨hh, o1, vs1, Heap.get?_push_of_some _ g1, d1, c1⟩ (Nat.ne_of_lt (Heap.lt_size g1)) (Heap.get?_push_size _ rfl) rfl ?_ ?_
  · first | (simp; done) | (simp; omega)
  refine hE _ _ (fun b o e => ?_) ⟨_, Heap.get?_update_self _ (Heap.get?_push_size _ rfl) rfl, rfl⟩
  have g2 := Heap.get?_push_of_some { cls := .type "tuple", data := .seq ([] : List Value).toArray } e
  show (Heap.update _ _ _).get? b = some o
  rw [Heap.get?_update_other _ _ (Nat.ne_of_gt (Heap.lt_size g2))]
  exact Heap.get?_push_of_some _ g2
theorem hot_at {x1 : Addr} {h h' : Heap} (hot : HotAt A x1 h) (k : ∀ o, h.get? x1 = some o → h'.get? x1 = some o) : HotAt A x1 h' := by
  obtain ⟨hh, o1, vs1, h1, d1, c1⟩ := hot
  exact ⟨hh, o1, vs1, k _ h1, d1, c1⟩
/-- a list's iterator is through -/
theorem listEndH {it l x1 : Addr} {i : Nat} {items : Array Value} {Q : Value → Shared → Prop} (hot : HotAt A x1 s.heap) (hne : x1 ≠ it) (hit : s.heap.IsListIter it l i) (hl : s.heap.IsList l items) (hx : items[i]? = none)
    (hE : ∀ h' e, Heap.ExtBut it s.heap h' → (∃ o, h'.get? e = some o ∧ o.cls = .type "StopIteration") → E (.ref e) { s with heap := h' }) : wpAny (model P w) A (Builtin.SmallTypes.nextOf (.ref it)) Q E s := by
  obtain ⟨oi, hoi, ci, di⟩ := id hit
  obtain ⟨ol, hol, _, nl, dl⟩ := hl
  unfold Builtin.SmallTypes.nextOf
  have sl := slot_listiter_next
  refine wpAny_bind (wpAny_callSpecial?_slot (name := Str.ofString "__next__") hit.typeIs sl (wpAny_call_entry sl hit.typeIs entry_listiter_next ?_ (args_listiter_next _)))
  show wpAny _ _ (field (.ref it) 0 >>= _) _ _ _
  refine wpAny_bind (wpAny_field hoi di (x := .ref l) rfl ?_)
  show wpAny _ _ (if (Value.ref l == Value.none) = true then _ else _) _ _ _
  rw [if_neg (by intro z; exact Bool.false_ne_true z)]
  show wpAny _ _ (field (.ref it) 1 >>= _) _ _ _
  refine wpAny_bind (wpAny_field hoi di (x := .int i 0) rfl ?_)
  show wpAny _ _ (seqItems? (.ref l) >>= _) _ _ _
  refine wpAny_bind (wpAny_seqItems hol dl ?_)
  simp only [Int.toNat_natCast, hx]
  refine wpAny_bind (wpAny_rule (wpAny_bind (wpAny_setField hoi di (by simp) ?_)))
  have sb : Heap.SameBut it s.heap (s.heap.update it (Obj.mapFields (·.setIfInBounds 0 .none))) := Heap.SameBut.update ..
  refine stop_hot (s := { s with heap := s.heap.update it (Obj.mapFields (·.setIfInBounds 0 .none)) }) (x1 := x1) (hot_at hot fun o e => sb.extBut _ _ hne e) fun h' e k he => hE h' e (fun b o hb q => k b o (sb.extBut _ _ hb q)) he
/-- a tuple's iterator is through -/
theorem tupEndH {it t x1 : Addr} {i : Nat} {items : Array Value} {Q : Option Value → Shared → Prop} (hot : HotAt A x1 s.heap) (hne : x1 ≠ it) (hit : IsTupIter s.heap it t i) (ht : IsTup s.heap t items) (hx : items[i]? = none)
    (hQ : ∀ h', Heap.ExtBut it s.heap h' → Q none { s with heap := h' }) : wpAny (model P w) A (pyNext (.ref it)) Q E s := by
  obtain ⟨oi, hoi, ci, di⟩ := id hit
  obtain ⟨ol, hol, _, nl, dl⟩ := ht
  unfold pyNext
  have sl := slot_tupleiter_next
  refine wpAny_bind (wpAny_attempt (wpAny_callSpecial?_slot (name := Str.ofString "__next__") hit.typeIs sl (wpAny_call_entry sl hit.typeIs entry_tupleiter_next ?_ (args_tupleiter_next _))))
  show wpAny _ _ (field (.ref it) 0 >>= _) _ _ _
  refine wpAny_bind (wpAny_field hoi di (x := .ref t) rfl ?_)
  show wpAny _ _ (if (Value.ref t == Value.none) = true then _ else _) _ _ _
  rw [if_neg (by intro z; exact Bool.false_ne_true z)]
  show wpAny _ _ (field (.ref it) 1 >>= _) _ _ _
  refine wpAny_bind (wpAny_field hoi di (x := .int i 0) rfl ?_)
  show wpAny _ _ (seqItems? (.ref t) >>= _) _ _ _
  refine wpAny_bind (wpAny_seqItems hol dl ?_)
  simp only [Int.toNat_natCast, hx]
  refine wpAny_bind (wpAny_rule (wpAny_bind (wpAny_setField hoi di (by simp) ?_)))
  have sb : Heap.SameBut it s.heap (s.heap.update it (Obj.mapFields (·.setIfInBounds 0 .none))) := Heap.SameBut.update ..
  refine stop_hot (s := { s with heap := s.heap.update it (Obj.mapFields (·.setIfInBounds 0 .none)) }) (x1 := x1) (hot_at hot fun o e => sb.extBut _ _ hne e) fun h' e k ⟨oe, e1, e2⟩ => ?_
  refine wpAny_bind (wpAny_isInstance (T := "StopIteration") (b := true) ⟨oe, e1, e2⟩ isSubtype_stop ?_)
  exact wpAny_pure (hQ h' fun b o hb q => k b o (sb.extBut _ _ hb q))
/-- a list's iterator, drawn from -/
theorem drawsH {it l x1 : Addr} {o1 : Obj} {vs1 : Array Value} (hh : A.handled = some (.ref x1)) (d1 : o1.data = .fields vs1) (c1 : vs1[2]? = some .none) (hne : l ≠ it) (hx : x1 ≠ it) (items : Array Value) :
    Draws P w A it [it, l, x1] items.size (fun i v => items[i]? = some v) (fun i h => h.IsListIter it l i ∧ h.IsList l items ∧ h.get? x1 = some o1) where
  live := fun _ _ st => let ⟨o, ho, _⟩ := st.1; ⟨o, ho⟩
  frame := fun _ _ _ st hk => ⟨st.1.at fun o e => hk it (by simp) o e, st.2.1.at fun o e => hk l (by simp) o e, hk x1 (by simp) _ st.2.2⟩
  item := fun i s Q E hi st hQ => by
    refine wpAny_nextOf_list_item st.1 st.2.1 (x := items[i]) (by simp [hi]) fun h' hit' hs' => ?_
    exact hQ _ h' s.toks (by simp [hi]) ⟨hit', st.2.1.extBut hs'.extBut hne, hs'.extBut _ _ hx st.2.2⟩ hs'
  done := fun s Q E st hE => listEndH ⟨hh, o1, vs1, st.2.2, d1, c1⟩ hx st.1 st.2.1 (by simp) hE
/-- a, b = a pair -/
theorem unpackH {t x1 : Addr} {a b : Value} {Q : List Value → Shared → Prop} (hot : HotAt A x1 s.heap) (ht : IsTup s.heap t #[a, b])
    (hQ : ∀ h', Heap.ExtBut s.heap.objs.size s.heap h' → Q [a, b] { s with heap := h' }) : wpAny (model P w) A (unpackItems (.ref t) 2 none) Q E s := by
  have hlt : t ≠ s.heap.objs.size := by obtain ⟨o, ho, _⟩ := ht; exact Nat.ne_of_lt (Heap.lt_size ho)
  have hxl : x1 ≠ s.heap.objs.size := by obtain ⟨_, o, _, ho, _⟩ := hot; exact Nat.ne_of_lt (Heap.lt_size ho)
  unfold unpackItems
  refine wpAny_bind ?_
  unfold notIterableAtAll
  refine wpAny_bind (wpAny_specialOf ht.typeIs slot_tuple_iter.lookup (wpAny_pure ?_))
  simp only [Bool.false_eq_true, if_false]
  refine wpAny_bind (wpAny_holding (iter_tuple ht ?_))
  refine wpAny_bind (wpAny_holding (draw_tuple hlt 2 0 _ _ ⟨_, Heap.get?_push_size _ rfl, rfl, rfl⟩ (ht.push _) (by simp) fun g hit sb => ?_))
  rw [if_neg (by simp)]
  have up : ∀ b o, b ≠ s.heap.objs.size → s.heap.get? b = some o → g.get? b = some o := fun b o hb q => sb.extBut _ _ hb (Heap.get?_push_of_some _ q)
  refine wpAny_bind (wpAny_holding (tupEndH (s := { s with heap := g }) (x1 := x1) (hot_at hot fun o e => up _ _ hxl e) hxl hit ((ht.push _).extBut sb.extBut hlt) (by simp) fun g2 he => ?_))
  simp only [Option.isSome_none, Bool.false_eq_true, if_false]
  exact wpAny_pure (hQ g2 fun c o hc q => he c o hc (up c o hc q))
end
end Cor
set_option Elab.async false
set_option linter.all false
set_option maxRecDepth 100000
set_option maxHeartbeats 2000000
/-! CorH2: [x for x, y in zip(a, b) if y] while an exception is handled. -/
namespace Cor
open PySem PySem.Spec PyProof.Rows L2 HotX L2H
/-- the items whose mark is set -/
def selV {α : Type} : List α → List Bool → List α
  | x :: xs, b :: bs => if b = true then x :: selV xs bs else selV xs bs
  | _, _ => []
theorem selV_snoc {α : Type} : ∀ {xs : List α} {bs : List Bool} {i : Nat} {x : α} {b : Bool}, xs[i]? = some x → bs[i]? = some b → selV (xs.take (i + 1)) (bs.take (i + 1)) = selV (xs.take i) (bs.take i) ++ (if b = true then [x] else [])
  | x :: xs, c :: bs, 0, y, b, h1, h2 => by
    simp at h1 h2
    subst h1 h2
    cases c <;> simp [selV]
  | x :: xs, c :: bs, i + 1, y, b, h1, h2 => by
    have := selV_snoc (xs := xs) (bs := bs) (i := i) (x := y) (b := b) (by simpa using h1) (by simpa using h2)
    simp only [List.take_succ_cons, selV]
    rw [this]
    cases c <;> simp
  | [], _, _, _, _, h1, _ => by simp at h1
  | _ :: _, [], _, _, _, _, h2 => by simp at h2
theorem lt5 (n a b p c : Nat) (ha : a < n) (hb : b < n) (hp : p < n) (h : c = n + 4 ∨ c = n + 2 ∨ c = n + 3 ∨ c = n ∨ c = a ∨ c = p ∨ c = n + 1 ∨ c = b ∨ c = p) : c < n + 5 := by omega
theorem far5 (n l c : Nat) (hl : n + 5 ≤ l) (hc : c < n) (h : c = l ∨ c = n + 4 ∨ c = n + 3 ∨ c = n ∨ c = n + 1) : False := by omega
theorem near5 (n c : Nat) (hc : n + 5 ≤ c) (h : c = n + 4 ∨ c = n + 3 ∨ c = n ∨ c = n + 1) : False := by omega
theorem ne5 (n C c : Nat) (h : n + 5 ≤ C) (hc : c < n + 5) : c ≠ C := by omega
theorem selV_le {α : Type} : ∀ (xs : List α) (bs : List Bool), (selV xs bs).length ≤ xs.length
  | x :: xs, b :: bs => by
    have := selV_le xs bs
    unfold selV
    split
    · simpa using this
    · simp; omega
  | [], _ => by simp [selV]
  | _ :: _, [] => by simp [selV]
section
variable {X : Cx} {x g y : Str} {i : Nat} {e1 e2 : Expr} {ta : TA} {scope : Scope} {kk : Nat} {p1 p2 p3 p4 tpos zp zpos pos py spos : Pos}
theorem ps_selH (hot : HotC X) (hN : X.N.Nodup) (hy : X.N[i]? = some y) (hyl : X.env.scope.names.lookup y = some .local)
    (hsw : swapsWith (.ListComp (.Name x p1) [⟨.Tuple [.Name x p2, .Name g p3] kk tpos, .Call (.Name "zip" zp) [e1, e2] [] zpos, [.Name g p4], 0⟩] scope pos) (some (.Name y py)) spos.line X.env = pure true)
    (hz : Gl X "zip") (hmz : X.mg "zip" = none) (ha : PA X [e1, e2] ta) (hsc : scope.kind = .function)
    (hnm : (scope.names.all fun z => z.2 != .cell && z.2 != .free && (z.2 != .local || scope.names.lookup z.1 == some .local)) = true)
    (hx : scope.names.lookup x = some .local) (hg : scope.names.lookup g = some .local) (hxg : x ≠ g) (hdx : (x == ("__debug__" : Str)) = false) (hdg : (g == ("__debug__" : Str)) = false)
    (hs : starEach [e1, e2] X.env = (false, eval e1 X.env) :: starEach [e2] X.env := by rfl) (hpl : (backTo zpos (starEach [e2] X.env)).any (·.1) = false := by rfl) :
    PS X (.Assign [.Name y py] (.ListComp (.Name x p1) [⟨.Tuple [.Name x p2, .Name g p3] kk tpos, .Call (.Name "zip" zp) [e1, e2] [] zpos, [.Name g p4], 0⟩] scope pos) spos)
      (fun D σ H => ta σ H fun vs H1 => ∃ a b xs bs, vs = [.ref a, .ref b] ∧ SqL X.K H1 a xs ∧ SqL X.K H1 b (bs.map V.bl) ∧ xs.length = bs.length ∧ ∀ L, H1 L = none → D.nx (σ.set i (some (.ref L))) (upd H1 L (.lst (selV xs bs)))) := by
  have nm : ∀ z ∈ scope.names, z.2 ≠ .cell ∧ z.2 ≠ .free ∧ (z.2 = .local → scope.names.lookup z.1 = some .local) := fun z hz => by
    have q := List.all_eq_true.mp hnm z hz
    simp only [Bool.and_eq_true, Bool.or_eq_true, bne_iff_ne, beq_iff_eq] at q
    exact ⟨q.1.1, q.1.2, fun e => q.2.resolve_left fun n => n e⟩
  obtain ⟨pp, ⟨hh, vs1, d1, c1⟩, hp⟩ := hot
  refine ⟨fun pins s σ H D I h => ?_⟩
  refine Assign_ListComp_goes hsw (closure_ok fun z hz e => absurd e (nm z hz).2.1) (fun z hz => (nm z hz).1) hsc (fun z hz e => (nm z hz).2.2 e) ?_
  refine Call_ (ld_blt I hz hmz PyProof.Rows.boot_zip (PyProof.Rows.callWith_type1 (thn (ha.run zpos pins s σ H _ I h) fun us s1 ⟨vs, H1, I1, r1, q1⟩ => ?_) hs hpl))
  obtain ⟨a, b, xs, bs, rfl, hqx, hqb, hlen, q⟩ := q1
  cases r1 with
  | cons r rr =>
  cases rr with
  | cons r' rr =>
  cases rr
  cases r
  cases r'
  obtain ⟨its, rv, l1, hz1⟩ := I1.list hqx
  obtain ⟨its2, rv2, l2, _⟩ := I1.list hqb
  have la : a < s1.heap.objs.size := l1.lt
  have lb : b < s1.heap.objs.size := l2.lt
  have hpin := (I1.pin pp (List.mem_append_left _ hp)).1
  have lp : pp.1 < s1.heap.objs.size := Heap.lt_size hpin
  have e1 := rv.length
  have e2 := rv2.length
  refine call_zip_2 l1.isList l2.isList fun h' hzz hTI hTO h1 h2 hsz hk => wpAny_pyIter_zip hzz ?_
  generalize hn0 : s1.heap.objs.size = n0 at *
  have W := Goes.zip2 (elts := [.Name x p2, .Name g p3]) (x1 := kk) (pos := tpos) (zip_sep2 (N := n0) (fp1 := [a, pp.1]) (fp2 := [b, pp.1]) (by simp; exact ⟨la, lp⟩) (by simp; exact ⟨lb, lp⟩))
    (drawsH (P := X.prog) (w := X.w) (A := X.A.in1) hh d1 c1 (Nat.ne_of_lt la) (Nat.ne_of_lt lp) its.toArray) (drawsH (A := X.A.in1) hh d1 c1 (Nat.ne_of_lt (Nat.lt_succ_of_lt lb)) (Nat.ne_of_lt (Nat.lt_succ_of_lt lp)) its2.toArray)
  have hfp : ∀ c ∈ (n0 + 4) :: (n0 + 2) :: (n0 + 3) :: ((n0 :: [a, pp.1]) ++ ((n0 + 1) :: [b, pp.1])), (c : Nat) < n0 + 5 := fun c hc => by
    have hc' : c = n0 + 4 ∨ c = n0 + 2 ∨ c = n0 + 3 ∨ c = n0 ∨ c = a ∨ c = pp.1 ∨ c = n0 + 1 ∨ c = b ∨ c = pp.1 := by simpa using hc
    exact lt5 n0 a b pp.1 c la lb lp hc'
  refine ⟨n0 + 4, _, _, _, _, _, rfl, W, ?_, ⟨hzz, hTI, ⟨_, _, hTO⟩, ⟨h1, l1.isList.at fun o e => hk _ _ e, hk _ _ hpin⟩, ⟨h2, l2.isList.at fun o e => hk _ _ e, hk _ _ hpin⟩⟩, ?_, fun L C s3 B => ?_⟩
  · simp only [List.size_toArray]
    omega
  · intro c hc
    show c < h'.objs.size
    rw [hsz]
    exact hfp c hc
  · refine ⟨fun j ys st => (∃ h2 tk, st = { s1 with heap := h2, toks := tk }) ∧ (∀ c o, s1.heap.get? c = some o → st.heap.get? c = some o) ∧ (∃ m, st.heap.Ns C m) ∧ Vals (selV (xs.take j) (bs.take j)) ys, ?_, ?_, ?_, ?_⟩
    · obtain ⟨h2', tk, e⟩ := B.only
      refine ⟨⟨h2', tk, by rw [e]⟩, fun c o e => B.old c o (hk c o e), ⟨_, B.names⟩, ?_⟩
      rw [List.take_zero]
      exact .nil
    · rintro j ys st h2' tk ⟨⟨_, _, e⟩, k, ⟨m, hm⟩, v⟩ kp _
      have far : ∀ c, (c : Nat) < n0 → c ∉ L :: [n0 + 4, n0 + 3, n0, n0 + 1] := fun c hc z => by
        have hL : n0 + 5 ≤ L := by have := B.newD; rw [← hsz]; exact this
        have z' : c = L ∨ c = n0 + 4 ∨ c = n0 + 3 ∨ c = n0 ∨ c = n0 + 1 := by simpa using z
        exact far5 n0 L c hL hc z'
      refine ⟨⟨h2', tk, by rw [e]⟩, fun c o q => kp c o (far c (by rw [← hn0]; exact Heap.lt_size q)) (k c o q), ⟨m, hm.at fun o q => kp C o (fun z => ?_) q⟩, v⟩
      have hC : n0 + 5 ≤ C := by have := B.newC; rw [← hsz]; exact this
      have z' : C = L ∨ C = n0 + 4 ∨ C = n0 + 3 ∨ C = n0 ∨ C = n0 + 1 := by simpa using z
      rcases z' with z | z
      · exact B.ne z.symm
      · exact near5 n0 C hC z
    · rintro j v ys st hj ⟨T, u, u2, rfl, hu, hu2, hT⟩ hst ⟨⟨hst1, tk1, es⟩, k, ⟨m, hm⟩, vv⟩ hpl
      have hCC : n0 + 5 ≤ C := by have := B.newC; rw [← hsz]; exact this
      have hCl : ∀ c : Nat, c < n0 + 5 → c ≠ C := fun c hc => ne5 n0 C c hCC hc
      have hjx : j < its.length := by simp only [List.size_toArray] at hj; omega
      have hjb : j < its2.length := by simp only [List.size_toArray] at hj; omega
      have hxj : xs[j]? = some xs[j] := List.getElem?_eq_getElem (by omega)
      have hbl : bs.length = its2.length := by rw [← e2]; simp
      have hbj : bs[j]? = some bs[j] := List.getElem?_eq_getElem (by omega)
      obtain ⟨w1, f1, r1⟩ := rv.get hxj
      obtain ⟨w2, f2, r2⟩ := rv2.get (show (bs.map V.bl)[j]? = some (V.bl bs[j]) by rw [List.getElem?_map, hbj]; rfl)
      obtain rfl : w1 = u := by
        have z : its.toArray[j]? = some u := hu
        rw [List.getElem?_toArray, f1] at z
        exact Option.some.inj z
      obtain rfl : w2 = u2 := by
        have z : its2.toArray[j]? = some u2 := hu2
        rw [List.getElem?_toArray, f2] at z
        exact Option.some.inj z
      obtain rfl : w2 = .bool bs[j] := r2
      have hTs : T < st.heap.objs.size := by obtain ⟨_, e, _⟩ := hT; exact Heap.lt_size e
      have hotS : HotAt X.A pp.1 st.heap := ⟨hh, pp.2, vs1, k _ _ hpin, d1, c1⟩
      have lx : (compEnvC scope (cloFrom X.env.cells scope.names []) C X.env).kindOf x = some .local := lookup_relabel_local hx
      have lg : (compEnvC scope (cloFrom X.env.cells scope.names []) C X.env).kindOf g = some .local := lookup_relabel_local hg
      have hcls : ((compEnvC scope (cloFrom X.env.cells scope.names []) C X.env).scope.kind == .class || ((compEnvC scope (cloFrom X.env.cells scope.names []) C X.env).scope.kind == .module && (compEnvC scope (cloFrom X.env.cells scope.names []) C X.env).locals != (compEnvC scope (cloFrom X.env.cells scope.names []) C X.env).globals)) = false := by
        show (scope.kind == .class || (scope.kind == .module && _)) = false
        rw [hsc]; rfl
      rw [assign_Tuple]
      refine wpAny_bind (wpAny_standAt ?_)
      unfold unpack
      refine wpAny_bind (wpAny_holding (unpackH hotS hT fun ha eA => ?_))
      refine assignInOrder_cons (wpAny_assign_Name (wpAny_storeName_local lx (hm.at fun o e => eA C o (Nat.ne_of_lt (Heap.lt_size e)) e) (fun hb nb sb => ?_) hcls))
      refine assignInOrder_cons (wpAny_assign_Name (wpAny_storeName_local lg nb (fun hc nc sc => ?_) hcls))
      refine assignInOrder_nil ?_
      have up : ∀ c o, c ≠ C → st.heap.get? c = some o → hc.get? c = some o := fun c o h q => sc.extBut _ _ h (sb.extBut _ _ h (eA c o (Nat.ne_of_lt (Heap.lt_size q)) q))
      have stE : ∀ tk, (⟨hc, st.gens, st.drawn, tk, st.os⟩ : Shared) = { s1 with heap := hc, toks := tk } := fun tk => by rw [es]
      have fin : ∀ tk, (∃ h2 tk', (⟨hc, st.gens, st.drawn, tk, st.os⟩ : Shared) = { s1 with heap := h2, toks := tk' }) ∧ (∀ c o, s1.heap.get? c = some o → hc.get? c = some o) ∧ (∃ m, hc.Ns C m) := fun tk =>
        ⟨⟨hc, tk, stE tk⟩, fun c o q => up c o (hCl c (Nat.lt_of_lt_of_le (hn0 ▸ Heap.lt_size q) (Nat.le_add_right _ _))) (k c o q), ⟨_, nc⟩⟩
      have hst' := W.frame _ _ hc hst fun c hm o q => up c o (hCl c (hfp c hm)) q
      have hpl' : hc.PlainList L ys.toArray := by obtain ⟨n, q⟩ := hpl; exact ⟨n, up L _ B.ne q⟩
      refine wpAny_tests_one (wpAny_isTrue_value (wpAny_Name (wpAny_loadName_local hsc lg nc (v := .bool bs[j]) (by simp) ?_) hdg) rfl)
      refine wpAny_truthy_bool ?_
      have sn := selV_snoc hxj hbj
      cases hbv : bs[j] with
      | false =>
        rw [hbv] at sn
        simp only [Bool.false_eq_true, if_false]
        obtain ⟨g1, g2, g3⟩ := fin (st.toks + 1 + 1)
        exact ⟨⟨g1, g2, g3, by rw [sn]; simpa using vv⟩, hst', hpl'⟩
      | true =>
        rw [hbv] at sn
        simp only [if_true]
        refine wpAny_Name (wpAny_loadName_local hsc lx nc (v := w1) (by simp [hxg]) ?_) hdx
        obtain ⟨g1, g2, g3⟩ := fin (st.toks + 1 + 1)
        exact ⟨⟨g1, g2, g3, by rw [sn]; simpa using vv.append (.cons r1 .nil)⟩, hst', hpl'⟩
    · rintro ys st ⟨⟨h2', tk, es⟩, k, ⟨m, hm⟩, vv⟩ ⟨n, hpl⟩
      have hbl : (bs.map V.bl).length = bs.length := by simp
      have t1 : xs.take (min its.toArray.size its2.toArray.size) = xs := by
        refine List.take_of_length_le ?_
        simp only [List.size_toArray]
        omega
      have t2 : bs.take (min its.toArray.size its2.toArray.size) = bs := by
        refine List.take_of_length_le ?_
        simp only [List.size_toArray]
        omega
      rw [t1, t2] at vv
      have hL : s1.heap.objs.size ≤ L := by
        have := B.newD
        rw [hn0]
        have z : n0 + 5 ≤ L := by rw [← hsz]; exact this
        exact Nat.le_trans (Nat.le_add_right _ _) z
      have hC : s1.heap.objs.size ≤ C := by
        have := B.newC
        rw [hn0]
        have z : n0 + 5 ≤ C := by rw [← hsz]; exact this
        exact Nat.le_trans (Nat.le_add_right _ _) z
      have nL : H1 L = none := I1.hok.fresh hL
      have nC : (upd H1 L (.lst (selV xs bs))) C = none := by rw [upd_ne B.ne.symm]; exact I1.hok.fresh hC
      have lsel : (selV xs bs).length ≤ sizeLine := Nat.le_trans (selV_le xs bs) (by omega)
      have heq : st.heap = h2' := by rw [es]
      have I2 : Inv X pins σ (upd H1 L (.lst (selV xs bs))) st := by
        have := I1.laid (t' := tk) (h' := h2') (fun c o q => heq ▸ k c o q) hL (o := .lst (selV xs bs)) ⟨lsel, ys, n, vv, heq ▸ hpl⟩
        rw [es]; exact this
      obtain ⟨f0, f1, f2, f3, f4, f5⟩ := I1.fpOk hC nC
      show wpAny _ _ (assign (.Name y py) X.env (.ref L)) _ _ _
      refine wpAny_assign_Name (store_ok2 (v := V.ref L) I2 hN hy (.inl hyl) rfl (fun s2 J ⟨c, sb, hc⟩ => ?_) (.inr hyl))
      have hcc : C ≠ c := by
        rcases hc with z | z
        · rw [z]; exact f1
        · exact fun e => f4 y c z e.symm
      exact ⟨m, hm.sameBut sb hcc, fun h3 sb3 => ⟨_, _, J.turned (t' := s2.toks) (fun d o hd e => (sb3.2 d hd).trans e) f0 f1 f3 f4 f5, q L nL⟩⟩
end
end Cor
set_option Elab.async false
set_option linter.all false
set_option maxRecDepth 100000
set_option maxHeartbeats 2000000
/-! CorX: raise; what the law's def of the errors' names says of a caught error. -/
namespace Cor
open PySem PySem.Spec PyProof.Rows L2 HotX L2H
section
variable [LamDefs] {K : PySem.W.Frag} {mg : Str → Option Value} {H H' Hf : Hp} {env : Env} {σ : L2.St}
theorem ER.keep (R : ER K mg Hf H env σ) (s : Kep H H') (tb : Tb K H') : ER K mg Hf H' env σ ∧ Tr true Hf H env Hf H' env σ := by
  refine ⟨⟨s.of R.le R.nt, R.len, R.val, fun i d h => ?_, R.inj, R.raw, tb, R.nt⟩, ⟨Same.refl _, rfl, fun _ h => h, fun _ d h => ⟨d, h⟩, fun a o h z _ => s a o h z, fun a h => .inl h, fun _ => s, fun a h => kp_there s h⟩⟩
  obtain ⟨a, e, n, c⟩ := R.mu i d h
  exact ⟨a, e, n, c.move (Same.refl _) fun o q => s a o q (c.not q).1⟩
theorem Reps.sel : ∀ {ds : List D} {vs : List V} (bs : List Bool), Reps K mg H ds vs → Reps K mg H (selV ds bs) (selV vs bs)
  | _, _, [], .nil => .nil
  | _, _, _ :: _, .nil => .nil
  | _, _, [], .cons _ _ => .nil
  | _, _, b :: bs, .cons h hs => by
    have r := Reps.sel bs hs
    cases b
    · exact r
    · exact .cons h r
end

/-! ### raise -/
/-- the error class x: it stands, it can be made and raised -/
structure XcOk (K : PySem.W.Frag) (mg : Str → Option Value) (x : Str) : Prop where
  ex : ∃ C, mg x = some (.ref C) ∧ PySem.W.excIn K C He.veBase "ValueError.__new__" = true ∧ PySem.W.keepIn K (.ref C) = true ∧ PySem.W.subIn K (.ref C) (.type "BaseException") = some true ∧ PySem.W.typeIn K (.ref C) = some (.type "type")
def sRais (x : Str) : Env → RS := fun env => .ex ⟨x, []⟩ env
section
variable [LamDefs] {X : Cx} {W : WX} {k : Nat}
theorem kRais {x m : Str} {j : Nat} {p p2 cpos pos : Pos} (g : Gd k X W) (xc : XcOk X.K X.mg x) (hg : X.env.kindOf x = some .globalImplicit := by kernel_rfl) (hd : (x == ("__debug__" : Str)) = false := by kernel_rfl) :
    PS X (.Raise (some (.Call (.Name x p) [.Constant (.str m) j p2] [] cpos)) none pos) (tS X.K X.mg W (sRais x)) := by
  obtain ⟨C, gC, q, kC, b, t⟩ := xc.ex
  exact PS.imp (L2N.ps_raise g.calm g.tk (L2N.pmk_own PySem.F.excBase_ValueError q gC kC (raises_own b t) hg hd)) fun D σ H ⟨Hf, env, R, gs⟩ => gs C σ H Hf gC R TrS.refl
end

/-! ### isinstance(e, C), e the handled error -/
section
variable {X : Cx} {Dc : Addr} {p : Addr × Obj}
theorem call_isx (hp : p ∈ X.pn) (C : L2.ExcC X.K Dc) (hz : Zc (.ref Dc) none p.2) (hf : ∃ vs, p.2.data = .fields vs) : CallR X (.builtin "isinstance") (L2.rIsE X.K Dc p.1) := by
  rintro pins s σ H xs us Q I r ⟨c, cv, b, rfl, hcv, e, q⟩
  match us, r with
  | [_, _], .cons rx (.cons rt .nil) =>
    cases rx
    obtain rfl := hcv _ rt
    have hget := (I.pin p (List.mem_append_left _ hp)).1
    obtain ⟨vs, hv⟩ := hf
    have J : PySem.W.InstAt s.heap p.1 p.2 Dc none := by
      obtain ⟨pa, oc, od, oda, osl⟩ := p
      obtain ⟨h1, h2⟩ := hz
      dsimp only at h1 h2 hv hget
      subst h1 h2 hv
      exact ⟨hget, rfl, rfl, trivial⟩
    exact PySem.W.kia_one (PySem.W.handS_kitx_exc C.hg C.hk C.hs C.hd C.ha C.hn C.ht C.hm) I.kIn J e (fun z => nomatch z) fun tk => ⟨.bl b, H, I.kept (t' := tk) fun _ _ z => z, rfl, q⟩
end
def eIsx (i : Nat) (a : Addr) (b : Bool) : Env → RE := fun env => match getS env i with
  | .raw (.ref x) => if x = a then .ok (.bl b) false env else .no
  | _ => .no
section
variable [LamDefs] {X : Cx} {W : WX} {Dc : Addr} {p : Addr × Obj}
theorem pIsx {i : Nat} {e t : Expr} {c : V} {cv : Value} {b : Bool} {q pos : Pos} (hc : CallR X (.builtin "isinstance") (L2.rIsE X.K Dc p.1)) (hm : X.mg "isinstance" = none) (he : PE X e (tVar i)) (ht : PE X t (tC c)) (hcv : ∀ u, RelV c u → u = cv) (hk : PySem.W.kitOne X.K (.ref Dc) cv = some b)
    (hg : X.env.kindOf "isinstance" = some .globalImplicit := by kernel_rfl) (hs : starEach [e, t] X.env = (false, eval e X.env) :: starEach [t] X.env := by rfl) (hs2 : starEach [t] X.env = (false, eval t X.env) :: starEach [] X.env := by rfl) (hpl : (backTo pos (starEach [t] X.env)).any (·.1) = false := by rfl) :
    PE X (.Call (.Name "isinstance" q) [e, t] [] pos) (tI X.K X.mg W true true (eIsx i p.1 b)) := by
  refine PE.imp (pe_callB hc hg hm (by decide +kernel) (pa_cons he (pa_cons ht pa_nil hs2) hs) (by decide) (by decide) hs hpl) fun σ H Q ⟨Hf, env, R, g⟩ => ?_
  unfold eIsx at g
  split at g
  · rename_i x hx
    split at g
    · rename_i ex
      subst ex
      exact ⟨.ref p.1, R.raw i _ (getS_lt hx (by simp)), c, cv, b, rfl, hcv, hk, g (.bl b) H Hf R Tr.refl (VR.old (.bl b))⟩
    · exact g.elim
  · exact g.elim
/-- the class n is asked -/
theorem pIsn {i : Nat} {e : Expr} {n : Str} {b : Bool} {q q2 pos : Pos} (hc : CallR X (.builtin "isinstance") (L2.rIsE X.K Dc p.1)) (hm : X.mg "isinstance" = none) (he : PE X e (tVar i)) (hn : ∃ a, X.mg n = some (.ref a) ∧ PySem.W.kitOne X.K (.ref Dc) (.ref a) = some b)
    (hgn : X.env.kindOf n = some .globalImplicit := by kernel_rfl) (hd : (n == ("__debug__" : Str)) = false := by kernel_rfl)
    (hg : X.env.kindOf "isinstance" = some .globalImplicit := by kernel_rfl) (hs : starEach [e, .Name n q2] X.env = (false, eval e X.env) :: starEach [.Name n q2] X.env := by rfl) (hs2 : starEach [.Name n q2] X.env = (false, eval (.Name n q2) X.env) :: starEach [] X.env := by rfl) (hpl : (backTo pos (starEach [.Name n q2] X.env)).any (·.1) = false := by rfl) :
    PE X (.Call (.Name "isinstance" q) [e, .Name n q2] [] pos) (tI X.K X.mg W true true (eIsx i p.1 b)) := by
  obtain ⟨a, h1, h2⟩ := hn
  exact pIsx hc hm he (pe_glob (v := .ref a) hgn h1 rfl hd) (fun u h => h) h2 hg hs hs2 hpl
/-- ValueError is asked -/
theorem pIsv {i : Nat} {e : Expr} {b : Bool} {q q2 pos : Pos} (hc : CallR X (.builtin "isinstance") (L2.rIsE X.K Dc p.1)) (hm : X.mg "isinstance" = none) (he : PE X e (tVar i)) (hv : X.mg "ValueError" = none) (h2 : PySem.W.kitOne X.K (.ref Dc) (.type "ValueError") = some b)
    (hgn : X.env.kindOf "ValueError" = some .globalImplicit := by kernel_rfl)
    (hg : X.env.kindOf "isinstance" = some .globalImplicit := by kernel_rfl) (hs : starEach [e, .Name "ValueError" q2] X.env = (false, eval e X.env) :: starEach [.Name "ValueError" q2] X.env := by rfl) (hs2 : starEach [.Name "ValueError" q2] X.env = (false, eval (.Name "ValueError" q2) X.env) :: starEach [] X.env := by rfl) (hpl : (backTo pos (starEach [.Name "ValueError" q2] X.env)).any (·.1) = false := by rfl) :
    PE X (.Call (.Name "isinstance" q) [e, .Name "ValueError" q2] [] pos) (tI X.K X.mg W true true (eIsx i p.1 b)) :=
  pIsx hc hm he (pe_bltn (v := .ty "ValueError") hgn hv (by decide +kernel) rfl) (fun u h => h) h2 hg hs hs2 hpl
/-- an assignment, wherever it runs -/
theorem kSetN {i : Nat} {x : Str} {e : Expr} {m : Env → RE} {pa : Bool} {q pos : Pos} (nd : X.N.Nodup) (he : PE X e (tI X.K X.mg W true pa m)) (hi : X.N[i]? = some x := by kernel_rfl) (hx : locB X.env.scope x = true := by kernel_rfl) (hf : X.fn x = true := by rfl) (hs : swapsWith e (some (.Name x q)) pos.line X.env = pure false := by rfl) : PS X (.Assign [.Name x q] e pos) (tS X.K X.mg W (sSet i m)) :=
  s_set nd hi (loc_of hx) (PE.weak he (fun h => nomatch h)) hs (.inl hf)
/-- [x for x, y in zip(a, b) if y] -/
def sSelH (i : Nat) (ms : Env → REs) : Env → RS := fun env => match ms env with
  | .ok [.lst xs, .lst ys] e1 => (match blsOf ys with
    | some bs => if xs.length = ys.length then putS e1 i (.lst (selV xs bs)) true else .no
    | none => .no)
  | _ => .no
theorem kSelH {x g y : Str} {i : Nat} {e1 e2 : Expr} {scope : Scope} {kk : Nat} {p1 p2 p3 p4 tpos zp zpos pos py spos : Pos} {ms : Env → REs} {ps : Bool} (hot : HotC X) (nd : X.N.Nodup) (hmz : X.mg "zip" = none) (ha : QA X W [e1, e2] 2 true ps ms)
    (hy : X.N[i]? = some y := by kernel_rfl) (hyl : X.env.scope.names.lookup y = some .local := by kernel_rfl) (hk : X.env.scope.kind = .function := by kernel_rfl) (hl : (py.line == pos.line) = true := by rfl) (hna : (scope.names.any fun (n, k) => n == y && (k == .local || k == .cell)) = false := by kernel_rfl)
    (hz : X.env.kindOf "zip" = some .globalImplicit := by kernel_rfl) (hsc : scope.kind = .function := by kernel_rfl) (hnm : (scope.names.all fun z => z.2 != .cell && z.2 != .free && (z.2 != .local || scope.names.lookup z.1 == some .local)) = true := by kernel_rfl)
    (hx : scope.names.lookup x = some .local := by kernel_rfl) (hg : scope.names.lookup g = some .local := by kernel_rfl) (hxg : (x == g) = false := by kernel_rfl) (hdx : (x == ("__debug__" : Str)) = false := by kernel_rfl) (hdg : (g == ("__debug__" : Str)) = false := by kernel_rfl)
    (hs : starEach [e1, e2] X.env = (false, eval e1 X.env) :: starEach [e2] X.env := by rfl) (hpl : (backTo zpos (starEach [e2] X.env)).any (·.1) = false := by rfl) :
    PS X (.Assign [.Name y py] (.ListComp (.Name x p1) [⟨.Tuple [.Name x p2, .Name g p3] kk tpos, .Call (.Name "zip" zp) [e1, e2] [] zpos, [.Name g p4], 0⟩] scope pos) spos) (tS X.K X.mg W (sSelH i ms)) := by
  refine PS.imp (ps_selH hot nd hy hyl (sw_true hk hyl hl hna) hz hmz ha.pa hsc hnm hx hg (by simpa using hxg) hdx hdg hs hpl) fun Dd σ H ⟨Hf, env, R, gs⟩ => ⟨Hf, env, R, ?_⟩
  unfold sSelH at gs
  cases q : ms env with
  | no => rw [q] at gs; exact gs.elim
  | ex c e1 => rw [q] at gs; exact gs.elim
  | ok ds e1 =>
    have hl := ha.len env ds e1 q
    rw [q] at gs
    intro vs H1 Hf1 R1 t1 rs
    rw [if_pos rfl] at rs
    match ds, hl, rs, gs with
    | [u, v], _, rs, gs =>
      cases u <;> try exact gs.elim
      cases v <;> try exact gs.elim
      rename_i xs ys _
      match rs with
      | .cons (.lst sa ra) (.cons (.lst sb rb) .nil) =>
        simp only at gs
        cases qb : blsOf ys with
        | none => simp only [qb] at gs; exact gs.elim
        | some bs =>
          simp only [qb] at gs
          by_cases hlen : xs.length = ys.length
          · rw [if_pos hlen] at gs
            have eb := Reps.bls rb qb
            refine ⟨_, _, _, bs, rfl, R1.le.seq sa, eb ▸ R1.le.seq sb, ?_, fun L hL => ?_⟩
            · have e1 := ra.length
              have e2 := rb.length
              rw [eb, List.length_map] at e2
              omega
            · obtain ⟨R2, t2⟩ := R1.grow (pu := true) (o := .lst (selV _ bs)) hL
              exact GS.put (d := .lst (selV xs bs)) (fr := true) gs (t1.trans t2).s R2 (fun p hp _ _ z => R.fresh hp (z.back t1.mt)) ((VR.new hL (R1.freshF hL) (.lst upd_same (ra.sel bs))).back t1.there)
          · rw [if_neg hlen] at gs; exact gs.elim
end
end Cor
set_option Elab.async false
set_option linter.all false
set_option maxRecDepth 100000
set_option maxHeartbeats 2000000
/-! CorX2: the def that names a caught error. -/
namespace Cor
open PySem PySem.Spec PyProof.Rows L2 HotX L2H
/-- the classes that are asked, their words -/
def nmL : List (Str × List Nat) := [("InvalidRule", [82, 117, 108, 101]), ("InvalidRow", [82, 111, 119]), ("InvalidSizes", [83, 105, 122, 101, 115]), ("InvalidNumber", [78, 117, 109, 98, 101, 114]), ("InvalidPart", [80, 97, 114, 116]),
  ("InvalidTotals", [84, 111, 116, 97, 108, 115]), ("InvalidSeen", [83, 101, 101, 110]), ("InvalidEvent", [69, 118, 101, 110, 116]), ("NothingToUndo", [85, 110, 100, 111]), ("TooMany", [77, 97, 110, 121]), ("InvalidText", [84, 101, 120, 116])]
/-- what an error of the class x is called -/
def nm0 (x : Str) : Option (List Nat) := (nmL.lookup x).map (· ++ [43])
def nmS [LamDefs] (x : Str) : Option (List Nat) := if LamDefs.excs.contains x = true then nm0 x else none
theorem nmS_some [LamDefs] {x : Str} {z : List Nat} (h : nmS x = some z) : nm0 x = some z ∧ x ∈ LamDefs.excs := by
  unfold nmS at h
  split at h
  · rename_i c
    exact ⟨h, by simpa using c⟩
  · cases h
/-- what is known of the error class x at C -/
structure XcN (K : PySem.W.Frag) (mg : Str → Option Value) (x : Str) (C : Addr) : Prop where
  at_ : mg x = some (.ref C)
  ec : L2.ExcC K C
  kit : ∀ n ∈ nmL.map (·.1), ∃ a, mg n = some (.ref a) ∧ PySem.W.kitOne K (.ref C) (.ref a) = some (n == x)
  kv : PySem.W.kitOne K (.ref C) (.type "ValueError") = some true
  em : ∃ L, mg "LogError" = some (.ref L) ∧ PySem.W.exmOne K (.ref C) (.ref L) = some true
section
variable [LamDefs] (P : Program) (w : World) (K : PySem.W.Frag) (mg : Str → Option Value) (base : Heap)
/-- the def's promise -/
structure NmOk (k : Nat) : Prop where
  ex : ∃ (f : Addr) (fd : FuncData) (e : Str), mg "_law_name_of" = some (.ref f) ∧ PySem.W.keepIn K (.ref f) = true ∧ Binds K fd [e] [] ∧
    ∀ (A : Around) (outer : List PySem.Env) (s : Shared) (H : Hp) (args : Args) (p : Addr × Obj) (x : Str) (C : Addr) (z : List Nat) (Q : VK), RoomH k A → Hot1 A p → PinOk outer H s p → Env0 P w K mg base A outer s H → BindsTo s fd args [(e, .ref p.1)] →
      Zc (.ref C) none p.2 → XcN K mg x C → nmS x = some z → Tb K H → (∀ H', Kep H H' → Tb K H' → Q (.str ⟨z.toArray⟩) H') → codeAny (model P w) A (.call (.ref f) args) (CR C8.CX0 outer P w H s Q C8.E0) s
/-- its body's reading -/
def BodyNm (N : List Str) (qual : Str) (scope : Scope) (f : Addr) (body : List Stmt) (m : Addr → Str → Env → RS) : Prop :=
  ∀ (cdv : Value) (A : Around) (outer : List PySem.Env) (s : Shared) (H : Hp) (p : Addr × Obj) (x : Str) (C : Addr), Zc (.ref C) none p.2 → XcN K mg x C → HotC (cxH C8.CX0 P w K mg base N qual scope f cdv A outer s H C8.E0 p) →
    CallR (cxH C8.CX0 P w K mg base N qual scope f cdv A outer s H C8.E0 p) (.builtin "isinstance") (L2.rIsE K C p.1) → N.Nodup →
    PSs (cxH C8.CX0 P w K mg base N qual scope f cdv A outer s H C8.E0 p) body (tS K mg WF (m p.1 x))
end
section
variable [LamDefs] {P : Program} {w : World} {K : PySem.W.Frag} {mg : Str → Option Value} {base : Heap}
theorem startN {n : Nat} {H : Hp} {a : Addr} (tb : Tb K H) : ER K mg (noT H) H (.raw (.ref a) :: List.replicate n .no) (some (.ref a) :: List.replicate n none) ∧ ∀ i, ¬ Mt (.raw (.ref a) :: List.replicate n .no) i := by
  have key : ∀ (i : Nat) (s : Slot), (Slot.raw (.ref a) :: List.replicate n .no)[i]? = some s → s = .no ∨ (i = 0 ∧ s = .raw (.ref a)) := fun i s h => by
    cases i with
    | zero => exact .inr ⟨rfl, by simpa using h.symm⟩
    | succ i =>
      rw [List.getElem?_cons_succ, List.getElem?_replicate] at h
      split at h
      · exact .inl (Option.some.inj h).symm
      · cases h
  have no : ∀ i, ¬ Mt (.raw (.ref a) :: List.replicate n .no) i := fun i ⟨d, h⟩ => by
    rcases h with h | h <;> rcases key i _ h with z | ⟨_, z⟩ <;> cases z
  refine ⟨⟨noT_same, by simp, fun i d h => ?_, fun i d h => absurd ⟨d, h⟩ (no i), fun i j b hi => absurd hi (no i), fun i v h => ?_, tb, noT_nt⟩, no⟩
  · rcases key i _ h with z | ⟨_, z⟩ <;> cases z
  · rcases key i _ h with z | ⟨rfl, z⟩
    · cases z
    · cases z; rfl
/-- THE RULE -/
theorem nm_of {k : Nat} {qual : Str} {params : Arguments} {body : List Stmt} {scope : Scope} {f : Addr} {fd : FuncData} {N : List Str} {e : Str} {m : Addr → Str → Env → RS} (hmg : mg "_law_name_of" = some (.ref f)) (F : FunD K "_law_name_of" qual params body scope [] [] f fd) (b : Binds K fd [e] []) (S : FnScope N [e] scope)
    (hb : BodyNm P w K mg base N qual scope f body m) (hz : ∀ (a : Addr) (x : Str) (z : List Nat), nmS x = some z → ∃ env', m a x (.raw (.ref a) :: List.replicate (N.length - 1) .no) = .rt (.str z) false env') : NmOk P w K mg base (k + 1) := by
  obtain ⟨oc, od, dV, kV, doc, pm, an, cdv, ct, osl, rfl, lk, hcd, _, _⟩ := F.ex
  refine ⟨f, _, e, hmg, F.kp, b, fun A outer s H args p x C z Q hr hot hpin e0 hbd hzc xn hz' tb hQ => ?_⟩
  have kp : ∀ c o, base.get? c = some o → s.heap.get? c = some o := fun c o q => (e0.bs c o q).1
  have KX := e0.mod.kin.keeps kp
  have loc : scope.names.lookup e = some .local ∨ (scope.names.lookup e = some .cell ∧ ((cellsFrom (s.heap.objs.size + 1) scope.names []).lookup e).isSome = true) :=
    (S.par e (by simp)).imp (fun q => q) fun q => ⟨q, PySem.W.cellsFrom_some _ _ _ (.inl q)⟩
  refine codeAny_call_function hr.depth (KX _ _ lk) rfl S.co S.gen rfl (PySem.W.codeRec_of KX hcd) (hbd _ _ _ _ ?_)
  refine wpAny_newFunctionEnv_cells S.kind (fun y hy => by
    have ey : y = (e, .ref p.1) := by simpa using hy
    subst ey
    exact loc) fun env he s1 st => ?_
  subst he
  refine ⟨(e0.mod.nolimit.keeps kp).keeps st.toInCall.keep, codeAny_func ?_⟩
  have I := inv_startH (CX := C8.CX0) (E := C8.E0) (vs := [.ref p.1]) (us := [.ref p.1]) S hpin e0 rfl (.cons rfl .nil) st
  have hot' : HotC (cxH C8.CX0 P w K mg base N qual scope f cdv A outer s H C8.E0 p) := ⟨p, hot, show p ∈ [p] from List.mem_cons_self⟩
  have body := hb cdv A outer s H p x C hzc xn hot' (call_isx (X := cxH C8.CX0 P w K mg base N qual scope f cdv A outer s H C8.E0 p) (show p ∈ [p] from List.mem_cons_self) xn.ec hzc (by obtain ⟨_, vs, q, _⟩ := hot; exact ⟨vs, q⟩)) S.nd
  obtain ⟨R0, no⟩ := startN (mg := mg) (n := N.length - 1) (a := p.1) tb
  obtain ⟨e', hm⟩ := hz p.1 x z hz'
  have nown : ∀ a, ¬ OwnAt (.raw (.ref p.1) :: List.replicate (N.length - 1) .no) (some (.ref p.1) :: List.replicate (N.length - 1) none) a := fun a ⟨i, hi, _⟩ => no i hi
  have run := body.run [] s1 (L2.start N [.ref p.1]) H { nx := fun _ H' => Q .non H', rt := Q } I ⟨_, _, R0, by
    rw [hm]
    intro v σ' H' Hf' R' t y
    unfold RV at y
    obtain rfl := (show Rep K mg Hf' (.str z) v by simpa using y).strInv
    exact hQ H' (fun a o h x => t.fr a o h x (nown a)) R'.tab⟩
  refine wpAny_mono run (fun fl s' hs => ?_) fun e s' hs => hs
  cases fl with
  | ret u =>
    obtain ⟨v, σ', H', J, rv, q⟩ := hs
    exact ⟨v, H', J.os, J.bare, J.base, J.hok, rv, q⟩
  | next =>
    obtain ⟨σ', H', J, q⟩ := hs
    exact ⟨.non, H', J.os, J.bare, J.base, J.hok, rfl, q⟩
  | brk => obtain ⟨_, _, _, q⟩ := hs; exact q.elim
  | cont => obtain ⟨_, _, _, q⟩ := hs; exact q.elim
/-- it is called in the suite that caught the error -/
theorem pe_nm {X : Cx} {a C : Addr} {oe : Obj} {pn : List (Addr × Obj)} {k i : Nat} {x : Str} {z : List Nat} {e : Expr} {q pos : Pos} (F : NmOk X.prog X.w X.K X.mg X.base k) (hr : RoomH k X.A) (hzn : L2N.Zn (.ref C) none oe) (hf : ∃ vs, oe.data = .fields vs) (he : PE (X.suite a ((a, oe) :: pn)) e (tVar i))
    (hg : X.env.kindOf "_law_name_of" = some .globalImplicit := by kernel_rfl) (hs : starEach [e] X.env = [(false, eval e X.env)] := by rfl) :
    PE (X.suite a ((a, oe) :: pn)) (.Call (.Name "_law_name_of" q) [e] [] pos) (fun σ H Q => σ[i]? = some (some (.ref a)) ∧ XcN X.K X.mg x C ∧ nmS x = some z ∧ Tb X.K H ∧ ∀ H', Kep H H' → Tb X.K H' → Q (.str ⟨z.toArray⟩) H') := by
  obtain ⟨f, fd, ep, h1, h2, h3, h4⟩ := F.ex
  obtain ⟨vs, hv⟩ := hf
  refine ⟨fun pins s σ H Q I ⟨g1, xn, hz, tb, hQ⟩ => ?_⟩
  have hgl : Gl (X.suite a ((a, oe) :: pn)) "_law_name_of" := hg
  refine wpAny_Call_Name_kw (ld_glob I hgl h1 ?_)
  have ha := pa_cons he pa_nil hs
  refine PySem.W.callWith_K (h₀ := X.base) I.ok.mod.kin h2 (thn (ha.run pos pins s σ H (fun vs H1 => vs = [V.ref a] ∧ H1 = H) I ⟨.ref a, g1, rfl, rfl⟩) fun us s1 hh => ?_) hs (by rfl)
  obtain ⟨vs1, H1, I1, r1, e1, e2⟩ := hh
  subst e1 e2
  match us, r1 with
  | [u], .cons ru .nil =>
    obtain rfl : u = Value.ref a := ru
    refine ⟨I1.kIn, ?_⟩
    have P1 := I1.pin (a, oe) (List.mem_append_left _ List.mem_cons_self)
    have hpin : PinOk X.stack H1 s1 (a, oe) := ⟨P1.1, P1.2.1, fun hm => (List.mem_cons.mp (I1.stkSub a hm)).elim P1.2.2.1 P1.2.2.2.1, P1.2.2.2.2⟩
    have bd := h3 s1 [.ref a] I1.kIn rfl
    show wpAny _ _ (call (.ref f) [.ref a]) _ _ _
    refine wpAny_call (codeAny_mono (h4 (X.A.mark (some (.ref a))) X.stack s1 H1 ⟨[.ref a], []⟩ (a, oe) x C z Q ⟨hr.dp, hr.un⟩ ⟨rfl, vs, hv, hzn.2.2 vs hv⟩ hpin I1.env0 bd hzn.zc xn hz tb hQ) fun r s' hq => ?_)
    cases r with
    | error e => exact (show False from hq).elim
    | ok fl => cases fl with
      | ret u => exact I1.after hq
      | next => exact False.elim hq
      | brk => exact False.elim hq
      | cont => exact False.elim hq
end
end Cor
set_option Elab.async false
set_option linter.all false
set_option maxRecDepth 100000
set_option maxHeartbeats 2000000
/-! CorL: a lambda handed to the def that tries it. -/
namespace Cor
open PySem PySem.Spec PyProof.Rows L2 HotX L2H LamX
section
variable {X : Cx} {pins : List (Addr × Obj)} {σ : L2.St} {H : Hp} {s : Shared}
/-- the context of a lambda's body; what it lets out has no context of its own -/
def lamCxN (X : Cx) (A : Around) (outer : List PySem.Env) (s : Shared) (H : Hp) (E : XK) (scope : Scope) (f c' : Addr) : Cx :=
  (lamCx X A outer s H E scope f c').wish fun e s' => wpAny (model X.prog X.w) (A.deeper (lamEnv X scope s.heap.objs.size f c')) (leaving (lamEnv X scope s.heap.objs.size f c') e) (fun _ s2 => L2N.CX X.prog X.w outer H s E e s2) (fun e' s2 => L2N.CX X.prog X.w outer H s E e' s2) s'
theorem gd_lam {k : Nat} {A : Around} {outer : List PySem.Env} {E : XK} {scope : Scope} {f c' : Addr} (nd : X.N.Nodup) (hr : Room k (A.deeper (lamEnv X scope s.heap.objs.size f c'))) : Gd k (lamCxN X A outer s H E scope f c') (WE E) :=
  ⟨rfl, nd, hr, L2N.takes_of rfl rfl rfl rfl⟩
/-- the def that was handed the lambda calls it -/
theorem actN {CXg : CXT} {Eg : XK} {Ng : List Str} {qg : Str} {sg : Scope} {g f c' : Addr} {cdg pm ctv : Value} {params : Arguments} {body : Expr} {scope : Scope} {k i : Nat} {a : Str} {pn : List (Addr × Obj)} {xe : Value → Shared → Prop} {W : WX} {E : XK} {tb : TE} {p1 p2 : Pos}
    (I : Inv X pins σ H s) (L : LamS X.env.scope scope) (hf : s.heap.get? f = some (PySem.W.kla_obj "<lambda>" (X.env.qual ++ "<lambda>") params body scope (cloFrom X.env.cells scope.names []) pm c' ctv)) (hfn : H f = none) (hfr : f ∉ frs X.stack)
    (hbind : bindArgs (PySem.W.kla_fn "<lambda>" (X.env.qual ++ "<lambda>") params body scope (cloFrom X.env.cells scope.names []) pm (.ref c') ctv) ⟨[], []⟩ = pure [])
    (tk : L2N.Takes ((cxOf CXg X.prog X.w X.K X.mg X.base Ng qg sg g cdg X.A X.stack s H Eg).tr pn xe) W) (hW : ∀ cls d σ' H', E cls d H' → W cls d σ' H') (hr : Room (k + 1) (X.A.deeper (envOfC qg sg s.heap.objs.size g cdg)))
    (hbody : ∀ (A : Around) (outer : List PySem.Env) (s : Shared) (H : Hp), Room k (A.deeper (lamEnv X scope s.heap.objs.size f c')) → PE (lamCxN X A outer s H E scope f c') body tb)
    (hN : Ng[i]? = some a) (hv : Vis sg a) (hd : (a == ("__debug__" : Str)) = false) (hcd : (a == ("__classdict__" : Str)) = false) :
    PE ((cxOf CXg X.prog X.w X.K X.mg X.base Ng qg sg g cdg X.A X.stack s H Eg).tr pn xe) (.Call (.Name a p1) [] [] p2) (fun σz Hz Q => σz[i]? = some (some (.ref f)) ∧ Hz c' = some (CodeO c' (X.env.qual ++ "<lambda>")) ∧ tb σ Hz Q) := by
  refine ⟨fun qs sz σz Hz Q J ⟨h1, h2, h3⟩ => ?_⟩
  refine wpAny_Call_Name_kw (thn ((pe_var (pos := p1) (i := i) hN hv hd hcd).run qs sz σz Hz (fun v K1 => v = .ref f ∧ K1 = Hz) J ⟨_, h1, rfl, rfl⟩) fun u s1 hu => ?_)
  obtain ⟨v, K1, J1, r1, ev, eK⟩ := hu
  subst ev eK
  obtain rfl : u = Value.ref f := r1
  have un : Un (frs X.stack) [] H K1 s.heap s1.heap := J1.base
  have obj := un.keep f _ hf hfn hfr (fun z => nomatch z)
  refine PySem.W.callWith_F0 ⟨_, _, _, _, obj⟩ ?_
  obtain ⟨⟨oc, vs, t, q1, q2, q3⟩, _, _⟩ := J1.hok c' _ h2
  have run : codeAny (model X.prog X.w) (X.A.deeper (envOfC qg sg s.heap.objs.size g cdg)) (.call (.ref f) ⟨[], []⟩) (CR (L2N.CX X.prog X.w) (envOfC qg sg s.heap.objs.size g cdg :: X.stack) X.prog X.w K1 s1 Q E) s1 := by
    refine PySem.W.kla_callFunE hr.depth obj rfl L.co L.gen rfl ⟨c', oc, vs, t, rfl, q1, q2, q3⟩ ?_
    rw [hbind]
    refine wpAny_pure (wpAny_newFunctionEnv (fun y hy => (L.own y hy).2) (fun y hy => absurd hy (by simp)) (fun g1 hns hsb => ⟨J1.nolimit.fresh _ hsb, ?_⟩) L.kind)
    have kp : ∀ b o, s1.heap.get? b = some o → g1.get? b = some o := fun b o e => hsb.extBut b o (Nat.ne_of_lt (Heap.lt_size e)) (Heap.get?_push_of_some _ e)
    have st : Inv (lamCxN X (X.A.deeper (envOfC qg sg s.heap.objs.size g cdg)) (envOfC qg sg s.heap.objs.size g cdg :: X.stack) s1 K1 E scope f c') [] σ K1 { s1 with heap := g1, toks := s1.toks + ([] : List (Str × Value)).length } :=
      Inv.wish (lam_start2 I L J1.env0 hr.hd un hns kp) _
    refine PySem.W.kla_codeExpr (wpAny_mono ((hbody _ _ s1 K1 (hr.deeper _)).run [] _ _ K1 Q st h3) (fun v s2 hq => ?_) fun e s2 hq => hq)
    obtain ⟨x, K2, J2, rv, q⟩ := hq
    exact ⟨x, K2, J2.os, J2.bare, J2.base, J2.hok, rv, q⟩
  refine wpAny_call (codeAny_mono run fun r s2 hq => ?_)
  match r, hq with
  | .error e, hq => exact L2N.passes_call tk hW qs σz K1 s1 e s2 J1 hq
  | .ok (.ret u), hq => exact J1.after hq
  | .ok .next, hq => exact False.elim hq
  | .ok .brk, hq => exact False.elim hq
  | .ok .cont, hq => exact False.elim hq
end

/-! ### the def that tries -/
section
variable [LamDefs] (P : Program) (w : World) (K : PySem.W.Frag) (mg : Str → Option Value) (base : Heap)
/-- what it makes of the reading tl of the lambda's body -/
def TTry : (XK → Hp → VK → Prop) → Hp → VK → Prop := fun tl H Q => tl (fun cls d H' => ∃ x C z, cls = .ref C ∧ d = none ∧ XcN K mg x C ∧ nmS x = some z ∧ Tb K H' ∧ ∀ H2, Kep H' H2 → Tb K H2 → Q (.str ⟨z.toArray⟩) H2) H
  fun v H' => ∀ T, H' T = none → Q (.ref T) (upd H' T (.tup [.str "told", v]))
/-- its body -/
def BodyTry (Ng : List Str) (x : Str) (sg : Scope) (g : Addr) (bg : List Stmt) (a : Str) (k : Nat) : Prop :=
  ∀ (cdg : Value) (A : Around) (outer : List PySem.Env) (q : Str) (f c' : Addr) (s : Shared) (H : Hp) (Q : VK) (tl : XK → Hp → VK → Prop), Room k (A.deeper (envOfC x sg s.heap.objs.size g cdg)) →
    (∀ (W : WX) (pn : List (Addr × Obj)) (xe : Value → Shared → Prop) (E : XK) (p1 p2 : Pos), L2N.Takes ((cxOf C8.CX0 P w K mg base Ng x sg g cdg A outer s H C8.E0).tr pn xe) W → (∀ cls d σ' H', E cls d H' → W cls d σ' H') →
      PE ((cxOf C8.CX0 P w K mg base Ng x sg g cdg A outer s H C8.E0).tr pn xe) (.Call (.Name a p1) [] [] p2) (fun σz Hz Q => σz[0]? = some (some (.ref f)) ∧ Hz c' = some (CodeO c' q) ∧ tl E Hz Q)) →
    H c' = some (CodeO c' q) → TTry K mg tl H Q →
    ∃ t, PSs (cxOf C8.CX0 P w K mg base Ng x sg g cdg A outer s H C8.E0).nox bg t ∧ t { nx := fun _ H' => Q .non H', rt := Q } (L2.start Ng [.ref f]) H
/-- the def as a whole -/
structure TryOk (k : Nat) : Prop where
  ex : ∃ (g : Addr) (oc : Value) (od : Option Addr) (osl : Array (Option Value)) (pg : Arguments) (bg : List Stmt) (sg : Scope) (dV kV doc pm cdv ct : Value) (an : Option Addr) (Ng : List Str) (a : Str), mg "_law_try" = some (.ref g) ∧ PySem.W.keepIn K (.ref g) = true ∧
    K.lookup g = some ⟨oc, od, .func (PySem.W.fnOf "_law_try" "_law_try" pg bg sg dV kV doc pm an cdv ct), osl⟩ ∧ PySem.W.codeIn K cdv "_law_try" = true ∧ Binds K (PySem.W.fnOf "_law_try" "_law_try" pg bg sg dV kV doc pm an cdv ct) [a] [] ∧ FnScope Ng [a] sg ∧ Ng[0]? = some a ∧ Vis sg a ∧
    (a == ("__debug__" : Str)) = false ∧ (a == ("__classdict__" : Str)) = false ∧ BodyTry P w K mg base Ng "_law_try" sg g bg a k
end
section
variable [LamDefs] {P : Program} {w : World} {K : PySem.W.Frag} {mg : Str → Option Value} {base : Heap}
/-- its body's reading -/
theorem body_try {sg : Scope} {g : Addr} {k j1 j2 kk : Nat} {a fnd en : Str} {p1 p2 p3 p4 p5 p6 p7 p8 p9 p10 p11 p12 p13 p14 p15 p16 p17 p18 p19 : Pos} (F : NmOk P w K mg base k) (CL : Addr) (hCL : mg "LogError" = some (.ref CL)) (S : FnScope [a, fnd, en] [a] sg)
    (hge : sg.names.lookup ("LogError" : Str) = some .globalImplicit) (hgn : sg.names.lookup ("_law_name_of" : Str) = some .globalImplicit) (hf : sg.names.lookup fnd = some .local) (he : sg.names.lookup en = some .local) (hd1 : (fnd == ("__debug__" : Str)) = false) (hd2 : (fnd == ("__classdict__" : Str)) = false) (hd3 : (en == ("__debug__" : Str)) = false) (hd4 : (en == ("__classdict__" : Str)) = false) :
    BodyTry P w K mg base [a, fnd, en] "_law_try" sg g [.Assign [.Name fnd p1] (.Constant .none j1 p2) p3, .Try [.Assign [.Name fnd p4] (.Tuple [.Constant (.str "told") j2 p5, .Call (.Name a p6) [] [] p7] kk p8) p9]
      [.ExceptHandler (some (.Name "LogError" p10)) (some en) [.Assign [.Name fnd p11] (.Call (.Name "_law_name_of" p12) [.Name en p13] [] p14) p15] p16] [] [] p17, .Return (some (.Name fnd p18)) p19] a k := by
  intro cdg A outer q f c' s H Q tl hr act hc h
  have nd := S.nd
  have room := roomH_of hr
  -- the parts
  have s1 : PS (cxOf C8.CX0 P w K mg base [a, fnd, en] "_law_try" sg g cdg A outer s H C8.E0).nox (.Assign [.Name fnd p1] (.Constant .none j1 p2) p3) (tAsg (tC .non) (gName 1)) := ps_set nd rfl (.inl hf) pe_non rfl (.inl rfl)
  have s3 : PS (cxOf C8.CX0 P w K mg base [a, fnd, en] "_law_try" sg g cdg A outer s H C8.E0).nox (.Return (some (.Name fnd p18)) p19) (tRet (tVar 1)) := ps_ret (pe_var rfl (.inl hf) hd1 hd2)
  have s2 := L2N.ps_try_as (X := (cxOf C8.CX0 P w K mg base [a, fnd, en] "_law_try" sg g cdg A outer s H C8.E0).nox) (pos := p17) (pos' := p16) (np := p10) (x := "LogError") (n := en) (c := .ref CL) (i := 2)
    (body := [.Assign [.Name fnd p4] (.Tuple [.Constant (.str "told") j2 p5, .Call (.Name a p6) [] [] p7] kk p8) p9]) (b₀ := .Assign [.Name fnd p11] (.Call (.Name "_law_name_of" p12) [.Name en p13] [] p14) p15) (suite := [])
    (tb := fun W D σ H => ∃ (Ech : XK) (Q1 : VK), (∀ cls d σ' H', Ech cls d H' → W cls d σ' H') ∧ σ[0]? = some (some (.ref f)) ∧ H c' = some (CodeO c' q) ∧ tl Ech H Q1 ∧ ∀ v H', Q1 v H' → ∀ T, H' T = none → D.nx (σ.set 1 (some (.ref T))) (upd H' T (.tup [.str "told", v])))
    (ts := fun ad cls d D σ H => ∃ x C z, cls = .ref C ∧ d = none ∧ XcN K mg x C ∧ nmS x = some z ∧ Tb K H ∧ (σ.length = 3 → σ[2]? = some (some (.ref ad)) ∧ ∀ H2, Kep H H2 → Tb K H2 → D.nx (σ.set 1 (some (.str ⟨z.toArray⟩))) H2))
    (Wout := fun _ _ _ _ => False) rfl rfl nd rfl he ⟨hge, by decide, .inl hCL⟩ takesN0 (fun W pn xe tk _ => ?hb) (fun ad oe cls d pn hzn hfd => ?hsu)
  · refine ⟨_, pss_cons s1 (pss_cons s2 (pss_one s3)), ?_⟩
    refine ⟨_, _, fun cls d σ' H' hE => ?_, rfl, hc, h, fun v H' hq T hT => ⟨.ref T, rfl, hq T hT⟩⟩
    obtain ⟨x, C, z, rfl, rfl, xn, hz, tb, hQ⟩ := hE
    obtain ⟨L, hL, hb⟩ := xn.em
    rw [hCL] at hL
    cases hL
    refine ⟨true, hb, fun _ ad _ => ⟨x, C, z, rfl, rfl, xn, hz, tb, fun hl => ⟨?_, fun H2 kp tb2 => ⟨.str ⟨z.toArray⟩, ?_, hQ H2 kp tb2⟩⟩⟩, fun h => nomatch h⟩
    · rw [List.length_set] at hl
      rw [List.getElem?_set_self (by omega)]
    · rw [List.length_set] at hl
      rw [List.getElem?_set_ne (by omega), List.getElem?_set_self (by rw [List.length_set]; omega)]
  · refine pss_one ⟨fun pins s' σ H' D I ⟨Ech, Q1, hW, h1, h2, h3, h4⟩ => ?_⟩
    have hp := act W pn xe Ech p6 p7 tk hW
    have hp2 : PE ((cxOf C8.CX0 P w K mg base [a, fnd, en] "_law_try" sg g cdg A outer s H C8.E0).tr pn xe) (.Call (.Name a p6) [] [] p7) (fun σ H Q => ∃ Q1 : VK, (∀ v H', Q1 v H' → Q v H') ∧ σ[0]? = some (some (.ref f)) ∧ H c' = some (CodeO c' q) ∧ tl Ech H Q1) :=
      ⟨fun qs t1 σ1 K1 Q2 J ⟨Q1, hm, h⟩ => wpAny_mono (hp.run qs t1 σ1 K1 Q1 J h) (fun v t2 ⟨x, K2, J2, r, q⟩ => ⟨x, K2, J2, r, hm _ _ q⟩) fun _ _ z => z⟩
    have st := ps_set (pos := p9) (pos' := p4) nd (i := 1) rfl (.inl hf) (pe_tup (x1 := kk) (pos := p8) (pa_cons (pe_str (x := "told") (j := j2) (pos := p5)) (pa_cons hp2 pa_nil))) rfl (.inl rfl)
    exact st.run pins s' σ H' D I ⟨Q1, fun v H' hq => ⟨by show 2 ≤ sizeLine; rw [sizeLine_eq]; omega, fun T hT => h4 v H' hq T hT⟩, h1, h2, h3⟩
  · refine pss_one ⟨fun pins s' σ H' D I ⟨x, C, z, e1, e2, xn, hz, tb, h⟩ => ?_⟩
    subst e1 e2
    obtain ⟨h1, h2⟩ := h I.len
    have st := ps_set (pos := p15) (pos' := p11) nd (i := 1) rfl (.inl hf) (pe_nm (a := ad) (x := x) (z := z) (i := 2) (e := .Name en p13) (q := p12) (pos := p14) (pn := pn) (X := (cxOf C8.CX0 P w K mg base [a, fnd, en] "_law_try" sg g cdg A outer s H C8.E0).nox) F room hzn hfd (pe_var rfl (.inl he) hd3 hd4) hgn rfl) rfl (.inl rfl)
    exact st.run pins s' σ H' D I ⟨h1, xn, hz, tb, h2⟩
end
end Cor
set_option Elab.async false
set_option linter.all false
set_option maxRecDepth 100000
set_option maxHeartbeats 2000000
/-! CorL2: the try of a lambda as a word; defs that make lambdas. -/
namespace Cor
open PySem PySem.Spec PyProof.Rows L2 HotX L2H LamX
/-- what a def n that makes lambdas must know of its code object -/
structure LamC [LamDefs] (K : PySem.W.Frag) (mg : Str → Option Value) (base : Heap) (n : Str) (cd : Value) : Prop where
  code : cd = .ref (He.cT K (n, none)).1
  tb : TabB base mg (He.cT K (n, none)).1 (He.cT K (n, none)).2
  mem : n ∈ LamDefs.names
  uq : ∀ m ∈ LamDefs.names, (He.cT K (m, none)).2 = (He.cT K (n, none)).2 → m = n
section
variable [LamDefs] {X : Cx}
theorem pe_tryN {k j : Nat} {n : Str} {params : Arguments} {body : Expr} {scope : Scope} {t : XK → TE} {p lpos pos : Pos} (hg : Gl X "_law_try") (T : TryOk X.prog X.w X.K X.mg X.base j) (hj : j ≤ k + 1) (hr : Room (k + 2) X.A) (C : LamC X.K X.mg X.base n X.env.code)
    (hq : X.env.qual = n ++ ".<locals>.") (L : LamS X.env.scope scope) (hdef : defaultsOf params X.env = ([], []))
    (hbind : ∀ (q : Str) (cl : List (Str × Addr)) (pm cv ctv : Value), bindArgs (PySem.W.kla_fn "<lambda>" q params body scope cl pm cv ctv) ⟨[], []⟩ = pure [])
    (hbody : ∀ (A : Around) (outer : List PySem.Env) (s : Shared) (H : Hp) (E : XK) (f c' : Addr), Room k (A.deeper (lamEnv X scope s.heap.objs.size f c')) → PE (lamCxN X A outer s H E scope f c') body (t E)) :
    PE X (.Call (.Name "_law_try" p) [.Lambda params body scope lpos] [] pos) (fun σ H Q => Tb X.K H ∧ ∀ H1, Kep H H1 → Tb X.K H1 → TTry X.K X.mg (fun E H' Q' => t E σ H' Q') H1 Q) := by
  obtain ⟨g, oc, od, osl, pg, bg, sg, dV, kV, doc, pm, cdv, ct, an, Ng, a, h1, h2, h3, h4, h5, h6, h7, h8, h9, h10, hB⟩ := T.ex
  have e0 : (n ++ ".<locals>." ++ "<lambda>" : Str) = X.env.qual ++ "<lambda>" := by rw [hq]
  have hm : ((He.cT X.K (n, none)).2, X.env.qual ++ "<lambda>") ∈ tabsL X.K := by
    rw [← e0]
    exact List.mem_map.mpr ⟨n, C.mem, rfl⟩
  have hu : ∀ z ∈ tabsL X.K, z.1 = (He.cT X.K (n, none)).2 → z.2 = X.env.qual ++ "<lambda>" := fun z hz e => by
    obtain ⟨m, hmm, rfl⟩ := List.mem_map.mp hz
    obtain rfl := C.uq m hmm e
    exact e0
  refine ⟨fun pins s σ H Q I ⟨hT, h⟩ => ?_⟩
  refine wpAny_Call_Name_kw (ld_glob I hg h1 ?_)
  refine PySem.W.callWith_K (h₀ := X.base) I.ok.mod.kin h2 ?_ (by rfl) (by rfl)
  show wpAny _ _ (spliced ((false, eval (.Lambda params body scope lpos) X.env) :: backTo pos (starEach [] X.env))) _ _ s
  refine Calls.spliced_cons (lam_make2 I C.tb C.code hm hu hT hdef (L.has I.ok) fun f c' pm' ctv H1 s1 I1 eN T1 hf hfn hfr hco => Calls.spliced_nil ⟨I1.kIn, ?_⟩)
  have run : codeAny (model X.prog X.w) X.A (.call (.ref g) ⟨[.ref f], []⟩) (CR C8.CX0 X.stack X.prog X.w H1 s1 Q C8.E0) s1 := by
    refine run_ofS (N := Ng) (ps := [a]) (us := [.ref f]) (vs := [.ref f]) h3 h4 h6 hr I1.env0 (h5 s1 [.ref f] I1.kIn rfl) (.cons rfl .nil) rfl fun hr2 => ?_
    obtain ⟨t', u1, u2⟩ := hB cdv X.A X.stack (X.env.qual ++ "<lambda>") f c' s1 H1 Q (fun E H' Q' => t E σ H' Q') (hr2.mono hj)
      (fun W pn xe E p1 p2 tk hW => actN (i := 0) I1 L hf hfn hfr (hbind _ _ _ _ _) tk hW hr2 (fun A outer s H r => hbody A outer s H E f c' r) h7 h8 h9 h10) hco (h H1 eN T1)
    exact ⟨t', u1.nox, u2⟩
  refine wpAny_call (codeAny_mono run fun r s2 hq => ?_)
  match r, hq with
  | .error e, hq => exact (show False from hq).elim
  | .ok (.ret u), hq => exact I1.after hq
  | .ok .next, hq => exact False.elim hq
  | .ok .brk, hq => exact False.elim hq
  | .ok .cont, hq => exact False.elim hq
/-- ("told", result), or the error's name -/
def eTry (m : Env → RE) : Env → RE := fun env => match m env with
  | .ok d _ e1 => .ok (.tup [.str [116, 111, 108, 100], d]) false e1
  | .ex c e1 => (match nmS c.cls with
    | some z => .ok (.str z) false e1
    | none => .no)
  | .no => .no
variable {W : WX} {k : Nat}
theorem pTry {j : Nat} {n : Str} {params : Arguments} {body : Expr} {scope : Scope} {m : Env → RE} {pu : Bool} {p lpos pos : Pos} (gd : Gd (k + 2) X W) (T : TryOk X.prog X.w X.K X.mg X.base j) (xn : ∀ x z, nmS x = some z → ∃ C, XcN X.K X.mg x C) (C : LamC X.K X.mg X.base n X.env.code)
    (hbody : ∀ (A : Around) (outer : List PySem.Env) (s : Shared) (H : Hp) (E : XK) (f c' : Addr), Gd k (lamCxN X A outer s H E scope f c') (Cor.WE E) → PE (lamCxN X A outer s H E scope f c') body (tI X.K X.mg (Cor.WE E) true pu m)) (hj : j ≤ k + 1 := by decide)
    (hg : X.env.kindOf "_law_try" = some .globalImplicit := by kernel_rfl) (hq : X.env.qual = n ++ ".<locals>." := by kernel_rfl) (L : lamSB X.env.scope scope = true := by kernel_rfl) (hdef : defaultsOf params X.env = ([], []) := by rfl)
    (hbind : ∀ (q : Str) (cl : List (Str × Addr)) (pm cv ctv : Value), bindArgs (PySem.W.kla_fn "<lambda>" q params body scope cl pm cv ctv) ⟨[], []⟩ = pure [] := by intros; rfl) :
    PE X (.Call (.Name "_law_try" p) [.Lambda params body scope lpos] [] pos) (tI X.K X.mg W true false (eTry m)) := by
  refine PE.imp (pe_tryN hg T hj gd.room C hq (lamS_by L) hdef hbind (fun A outer s H E f c' r => hbody A outer s H E f c' (gd_lam gd.nd r))) fun σ H Q ⟨Hf, env, R, g⟩ => ⟨R.tab, fun H1 k1 tb1 => ?_⟩
  obtain ⟨R1, t1⟩ := R.keep k1 tb1
  refine ⟨Hf, env, R1, ?_⟩
  unfold eTry at g
  cases q : m env with
  | no => rw [q] at g; exact g.elim
  | ex c e1 =>
    rw [q] at g
    intro C' H2 Hf2 hC R2 t2
    cases q2 : nmS c.cls with
    | none => simp only [q2] at g; exact g.elim
    | some z =>
      simp only [q2] at g
      obtain ⟨C2, x2⟩ := xn _ _ q2
      have eC : C' = C2 := by
        have := hC.symm.trans x2.at_
        cases this; rfl
      subst eC
      refine ⟨c.cls, C', z, rfl, rfl, x2, q2, R2.tab, fun H3 k3 tb3 => ?_⟩
      obtain ⟨R3, t3⟩ := R2.keep k3 tb3
      exact g _ H3 Hf2 R3 (((t1.trans t2).trans t3).weak fun h => nomatch h) (VR.old (.str z))
  | ok d fr e1 =>
    rw [q] at g
    intro v H2 Hf2 R2 t2 z2 T' hT
    obtain ⟨Hf2, R2, t2, z2⟩ := stab R1 R2 t2 z2
    have told : (V.str "told") = V.str ⟨([116, 111, 108, 100] : List Nat).toArray⟩ := by
      have e : ("told" : Str) = ⟨([116, 111, 108, 100] : List Nat).toArray⟩ := by kernel_rfl
      rw [e]
    obtain ⟨R3, t3⟩ := R2.growF (pu := true) (o := .tup [.str "told", v]) hT
    refine g (.ref T') _ _ R3 (((t1.trans t2).trans t3).weak fun h => nomatch h) (VR.old (.tup (.inl (.inl upd_same)) (.cons (by rw [told]; exact .str _) (.cons (z2.up t3.up) .nil))))
end
/-- a body that is read so, in a def that makes lambdas -/
def BodyOkC [LamDefs] (P : Program) (w : World) (K : PySem.W.Frag) (mg : Str → Option Value) (base : Heap) (k : Nat) (N : List Str) (qual : Str) (scope : Scope) (f : Addr) (body : List Stmt) (m : Env → RS) : Prop :=
  ∀ (cdv : Value) (A : Around) (outer : List PySem.Env) (s : Shared) (H : Hp) (E : XK), LamC K mg base qual cdv → Gd k (cxOf (L2N.CX P w) P w K mg base N qual scope f cdv A outer s H E) (Cor.WE E) →
    PassesOwn (model P w) (A.deeper (envOfC qual scope s.heap.objs.size f cdv)) (envOfC qual scope s.heap.objs.size f cdv) (cxOf (L2N.CX P w) P w K mg base N qual scope f cdv A outer s H E).xe →
    PSs (cxOf (L2N.CX P w) P w K mg base N qual scope f cdv A outer s H E) body (tS K mg (Cor.WE E) m)
section
variable [LamDefs] {P : Program} {w : World} {K : PySem.W.Frag} {mg : Str → Option Value} {base : Heap}
/-- THE RULE: a def of the module that makes lambdas -/
theorem fnOk_ofC {k : Nat} {x : Str} {params : Arguments} {body : List Stmt} {scope : Scope} {f : Addr} {fd : FuncData} {N ps : List Str} {io : Bool} {m : Env → RS} (F : FunD K x x params body scope [] [] f fd) (hf : f = He.fAd K (x, none)) (S : FnScope N ps scope)
    (C : ∀ cdv, cdv = .ref (He.cT K (x, none)).1 → LamC K mg base x cdv) (hb : BodyOkC P w K mg base k N x scope f body m) : FnOk P w K mg base (L2N.CX P w) (k + 1) f fd ps (spOf K mg ps.length io (semS N.length io m)) := by
  have hle : ps.length ≤ N.length := by have := congrArg List.length S.pre; rw [List.length_take] at this; omega
  obtain ⟨oc, od, dV, kV, doc, pm, an, cdv, ct, osl, rfl, lk, hcd, _, _⟩ := F.ex
  obtain ⟨c, hc⟩ := He.codeIn_ref hcd
  have ec : cdv = .ref (He.cT K (x, none)).1 := by
    subst hf
    show cdv = .ref (He.codeOf K (x, none))
    rw [He.codeOf_eq (c := c) lk hc, hc]
  exact fn_of lk hcd S (fun vs H Q E h => h.1) fun A outer s H vs Q E hr h => ⟨_, hb cdv A outer s H E (C cdv ec) ⟨rfl, S.nd, hr, L2N.takes_of rfl rfl rfl rfl⟩ (passes_of rfl), entry hle h⟩
theorem fnS_ofC {k n : Nat} {x : Str} {params : Arguments} {body : List Stmt} {scope : Scope} {f : Addr} {fd : FuncData} {N ps : List Str} {io : Bool} {m : Env → RS} (hg : mg x = some (.ref f)) (F : FunD K x x params body scope [] [] f fd) (b : Binds K fd ps []) (S : FnScope N ps scope)
    (hn : ps.length = n) (hf : f = He.fAd K (x, none)) (C : ∀ cdv, cdv = .ref (He.cT K (x, none)).1 → LamC K mg base x cdv) (hb : BodyOkC P w K mg base k N x scope f body m) : FnS P w K mg base (k + 1) x n io (semS N.length io m) := by
  subst hn
  exact ⟨f, fd, ps, hg, F.kp, b, fnOk_ofC F hf S C hb⟩
/-- the def that tries -/
theorem try_of {k : Nat} {params : Arguments} {body : List Stmt} {scope : Scope} {f : Addr} {fd : FuncData} {N : List Str} {a : Str} (hg : mg "_law_try" = some (.ref f)) (F : FunD K "_law_try" "_law_try" params body scope [] [] f fd) (b : Binds K fd [a] []) (S : FnScope N [a] scope) (hN : N[0]? = some a) (hv : Vis scope a)
    (hd : (a == ("__debug__" : Str)) = false) (hcd : (a == ("__classdict__" : Str)) = false) (hb : BodyTry P w K mg base N "_law_try" scope f body a k) : TryOk P w K mg base k := by
  obtain ⟨oc, od, dV, kV, doc, pm, an, cdv, ct, osl, rfl, lk, hcd2, _, _⟩ := F.ex
  exact ⟨f, oc, od, osl, params, body, scope, dV, kV, doc, pm, cdv, ct, an, N, a, hg, F.kp, lk, hcd2, b, S, hN, hv, hd, hcd, hb⟩
end
end Cor
set_option Elab.async false
set_option linter.all false
set_option maxRecDepth 100000
set_option maxHeartbeats 2000000
/-! CorN: a lambda without free names, as a value: it is made, it is called. -/
namespace Cor
open PySem PySem.Spec PyProof.Rows L2 HotX L2H LamX
theorem lamO_ok {P : Program} {w : World} {H : Hp} {h : Heap} {f c : Addr} {L : LamI} (e : ∃ pm ctv : Value, h.get? f = some (PySem.W.kla_obj "<lambda>" L.qual L.params L.body L.scope [] pm c ctv)) : ObjOk P w H h f (LamO f c L) :=
  ⟨e, let ⟨_, _, z⟩ := e; ⟨_, z⟩, fun h1 h2 ⟨pm, ctv, z⟩ st => ⟨pm, ctv, st _ z⟩⟩
section
variable {X : Cx} {pins : List (Addr × Obj)} {σ : L2.St} {H : Hp} {s : Shared}
theorem lam_mk {T : List (Addr × Str)} {cd tb : Addr} {params : Arguments} {body : Expr} {scope : Scope} {at_ : Pos} {E Q : Value → Shared → Prop} (I : Inv X pins σ H s) (B : TabB X.base X.mg cd tb) (hcd : X.env.code = .ref cd) (hm : (tb, X.env.qual ++ "<lambda>") ∈ T)
    (hu : ∀ z ∈ T, z.1 = tb → z.2 = X.env.qual ++ "<lambda>") (hT : Tabs T H) (hd : defaultsOf params X.env = ([], [])) (hf : ∀ y ∈ scope.names, y.2 ≠ .free) (hcl : cloFrom X.env.cells scope.names [] = [])
    (go : ∀ (f c : Addr) (H1 : Hp) (s1 : Shared), Inv X pins σ H1 s1 → ExtN H H1 → Tabs T H1 → H f = none → H1 f = some (LamO f c ⟨X.env.qual ++ "<lambda>", params, body, scope⟩) → H1 c = some (CodeO c (X.env.qual ++ "<lambda>")) → (H c = none ∨ H c = some (CodeO c (X.env.qual ++ "<lambda>"))) → Q (.ref f) s1) :
    wpAny (model X.prog X.w) X.A (eval (.Lambda params body scope at_) X.env) Q E s := by
  obtain ⟨rows, hP, tr, am⟩ := hT _ hm
  refine PySem.W.kla_eval hd ?_
  have bt : s.heap.BuiltinsAt X.mg tb := B.bm.keeps I.bk
  have hP2 : s.heap.get? tb = some { cls := .none, data := .fields rows } := I.hok tb _ hP
  have nofree : ∀ y ∈ scope.names, y.2 = .free → ∃ c, X.env.cells.lookup y.1 = some c := fun y hy z => absurd z (hf y hy)
  cases hq : codeAmong at_ rows.toList with
  | none =>
    refine PySem.W.kla_makeFunction (mg := X.mg) (c := cd) (P := tb) (ps := rows) (closure_ok nofree) I.ok.glob (I.mod.glob.keeps I.bk) hcd (B.code.keeps I.bk) hP2 tr hq B.gP bt fun c ctv g tk kx ge lt rec tb2 => ?_
    obtain ⟨c2, oc, vs, t, e2, ho, hdd, hv⟩ := rec
    cases e2
    rw [hcl]
    have nC : H c = none := I.hok.fresh ge
    have nF : H g.objs.size = none := I.hok.fresh (Nat.le_trans ge (Nat.le_of_lt lt))
    have neT : tb ≠ c := ne_of_none hP nC
    have neF : tb ≠ g.objs.size := ne_of_none hP nF
    have cF : c ≠ g.objs.size := Nat.ne_of_lt lt
    have I1 := inv_table (t' := tk) (more := #[rawInt at_.line, rawInt at_.col, .ref c]) (h' := g) I hP kx tb2 ge ⟨oc, vs, t, ho, hdd, hv⟩
    have I2 := I1.laid (a := g.objs.size) (t' := tk) (h' := g.push (PySem.W.kla_obj "<lambda>" (X.env.qual ++ "<lambda>") params body scope [] ((X.mg "__name__").getD .none) c ctv)) (o := LamO g.objs.size c ⟨X.env.qual ++ "<lambda>", params, body, scope⟩) (fun b u e => Heap.get?_push_of_some _ e) (Nat.le_refl _)
      (lamO_ok ⟨_, ctv, Heap.get?_push_size _ rfl⟩)
    have cAt : upd (upd (upd H tb (.tbl (rows ++ #[rawInt at_.line, rawInt at_.col, .ref c]))) c (CodeO c (X.env.qual ++ "<lambda>"))) g.objs.size (LamO g.objs.size c ⟨X.env.qual ++ "<lambda>", params, body, scope⟩) c = some (CodeO c (X.env.qual ++ "<lambda>")) := by rw [upd_ne cF, upd_same]
    have ex : ExtN H (upd (upd (upd H tb (.tbl (rows ++ #[rawInt at_.line, rawInt at_.col, .ref c]))) c (CodeO c (X.env.qual ++ "<lambda>"))) g.objs.size (LamO g.objs.size c ⟨X.env.qual ++ "<lambda>", params, body, scope⟩)) := fun b o e n => by
      rw [upd_ne (ne_of_none e nF), upd_ne (ne_of_none e nC), upd_ne fun z => n rows (by rw [z, hP] at e; exact (Option.some.inj e).symm)]
      exact e
    have lstE : (rows ++ #[rawInt at_.line, rawInt at_.col, .ref c]).toList = rows.toList ++ [rawInt at_.line, rawInt at_.col, .ref c] := by simp
    refine go _ c _ _ I2 ex (fun z hz => ?_) nF upd_same cAt (.inl nC)
    by_cases hb : z.1 = tb
    · rw [hu z hz hb, hb]
      refine ⟨rows ++ #[rawInt at_.line, rawInt at_.col, .ref c], by rw [upd_ne neF, upd_ne neT, upd_same], by rw [lstE]; exact PySem.TriplesOk_snoc _ _ _ _ tr, fun p cv hcv => ?_⟩
      rw [lstE] at hcv
      rcases among_app _ tr hcv with y | y
      · obtain ⟨c0, e1, e3⟩ := am p cv y
        exact ⟨c0, e1, ex _ _ e3 codeO_ne⟩
      · exact ⟨c, y, cAt⟩
    · obtain ⟨r2, a1, a2, a3⟩ := hT z hz
      refine ⟨r2, by rw [upd_ne (ne_of_none a1 nF), upd_ne (ne_of_none a1 nC), upd_ne hb]; exact a1, a2, fun p cv hcv => ?_⟩
      obtain ⟨c0, e1, e3⟩ := a3 p cv hcv
      exact ⟨c0, e1, ex _ _ e3 codeO_ne⟩
  | some cv =>
    obtain ⟨c, e, hco⟩ := am at_ cv hq
    subst e
    refine PySem.W.kla_makeFunctionHit (mg := X.mg) (c := cd) (P := tb) (ps := rows) (closure_ok nofree) I.ok.glob (I.mod.glob.keeps I.bk) hcd (B.code.keeps I.bk) hP2 tr hq bt fun ctv g tk kx sz => ?_
    rw [hcl]
    have nF : H g.objs.size = none := I.hok.fresh sz
    have I1 : Inv X pins σ H { s with heap := g, toks := tk } := I.kept kx
    have I2 := I1.laid (a := g.objs.size) (t' := tk) (h' := g.push (PySem.W.kla_obj "<lambda>" (X.env.qual ++ "<lambda>") params body scope [] ((X.mg "__name__").getD .none) c ctv)) (o := LamO g.objs.size c ⟨X.env.qual ++ "<lambda>", params, body, scope⟩) (fun b u e => Heap.get?_push_of_some _ e) (Nat.le_refl _)
      (lamO_ok ⟨_, ctv, Heap.get?_push_size _ rfl⟩)
    have ex : Same H (upd H g.objs.size (LamO g.objs.size c ⟨X.env.qual ++ "<lambda>", params, body, scope⟩)) := fun b o e => by rw [upd_ne (ne_of_none e nF)]; exact e
    exact go _ c _ _ I2 (ExtN.of ex) (hT.ext ex) nF upd_same (ex _ _ hco) (.inr hco)
end
section
variable [LamDefs] {X : Cx} {W : WX}
/-- a lambda is made -/
theorem pLamV {n x : Str} {params : Arguments} {body : Expr} {scope : Scope} {lpos : Pos} (C : LamC X.K X.mg X.base n X.env.code) (hL : LamDefs.lams.lookup x = some ⟨n ++ ".<locals>." ++ "<lambda>", params, body, scope⟩ := by kernel_rfl) (hq : X.env.qual = n ++ ".<locals>." := by kernel_rfl)
    (hf : (scope.names.all fun y => !decide (y.2 = .free)) = true := by kernel_rfl) (hcl : ∀ cs, cloFrom cs scope.names [] = [] := by intro _; rfl) (hdef : defaultsOf params X.env = ([], []) := by rfl) : PE X (.Lambda params body scope lpos) (tI X.K X.mg W true true (eLit (.fn x))) := by
  have e0 : (n ++ ".<locals>." ++ "<lambda>" : Str) = X.env.qual ++ "<lambda>" := by rw [hq]
  have hm : ((He.cT X.K (n, none)).2, X.env.qual ++ "<lambda>") ∈ tabsL X.K := by
    rw [← e0]
    exact List.mem_map.mpr ⟨n, C.mem, rfl⟩
  have hu : ∀ z ∈ tabsL X.K, z.1 = (He.cT X.K (n, none)).2 → z.2 = X.env.qual ++ "<lambda>" := fun z hz e => by
    obtain ⟨m, hmm, rfl⟩ := List.mem_map.mp hz
    obtain rfl := C.uq m hmm e
    exact e0
  rw [e0] at hL
  refine ⟨fun pins s σ H Q I ⟨Hf, env, R, g⟩ => ?_⟩
  refine lam_mk I C.tb C.code hm hu R.tab hdef (fun y hy z => by have := List.all_eq_true.mp hf y hy; rw [z] at this; cases this) (hcl _) fun f c H1 s1 I1 eN T1 nF hF hC hC0 => ?_
  obtain ⟨R1, t1⟩ := R.keep eN T1
  have no : ∀ ps, LamO f c ⟨X.env.qual ++ "<lambda>", params, body, scope⟩ ≠ .tbl ps := fun ps z => by unfold LamO at z; cases z
  have R2 := R1.frz hF (R.freshF nF) (R.fresh (noT_none nF)) no
  have key : ∃ Hf2, ER X.K X.mg Hf2 H1 env σ ∧ Same (upd Hf f (LamO f c ⟨X.env.qual ++ "<lambda>", params, body, scope⟩)) Hf2 ∧ Hf2 c = some (CodeO c (X.env.qual ++ "<lambda>")) ∧ ∀ a, Hf2 a ≠ none → upd Hf f (LamO f c ⟨X.env.qual ++ "<lambda>", params, body, scope⟩) a ≠ none ∨ a = c := by
    cases q : upd Hf f (LamO f c ⟨X.env.qual ++ "<lambda>", params, body, scope⟩) c with
    | some o =>
      have e := R2.le c o q
      rw [hC] at e
      cases e
      exact ⟨_, R2, Same.refl _, q, fun a h => .inl h⟩
    | none =>
      refine ⟨_, R2.frz hC q (fun ⟨i, ⟨d, m⟩, e⟩ => ?_) codeO_ne, fun b o e => by rw [upd_ne (ne_of_none e q)]; exact e, upd_same, fun a h => ?_⟩
      · obtain ⟨b, e1, _, co⟩ := R1.mu i d m
        rw [e] at e1
        cases e1
        exact (co.not hC).2 _ rfl
      · by_cases z : a = c
        · exact .inr z
        · rw [upd_ne z] at h; exact .inl h
  obtain ⟨Hf2, R3, sm, hc2, nw⟩ := key
  have sm0 : Same Hf Hf2 := fun b o e => sm b o (by rw [upd_ne (ne_of_none e (R.freshF nF))]; exact e)
  refine ⟨.ref f, H1, I1, rfl, g (.ref f) H1 Hf2 R3 ⟨sm0, rfl, fun _ h => h, fun _ d h => ⟨d, h⟩, fun a o h z _ => eN a o h z, fun a h => ?_, fun _ => eN, fun a h => kp_there eN h⟩ (VR.old (.lam hL (sm _ _ upd_same) hc2))⟩
  rcases nw a h with z | z
  · by_cases y : a = f
    · rw [y]; exact .inr (.inl (noC_none (noT_none nF)))
    · rw [upd_ne y] at z; exact .inl z
  · rw [z]
    rcases hC0 with y | y
    · exact .inr (.inl (noC_none (noT_none y)))
    · exact .inr (.inl (noC_code y))
end
/-! ### the call -/
section
variable [LamDefs] {P : Program} {w : World} {K : PySem.W.Frag} {mg : Str → Option Value} {base : Heap}
theorem run_lam {k : Nat} {f c : Addr} {L : LamI} {N ps : List Str} {A : Around} {outer : List PySem.Env} {s : Shared} {H : Hp} {us : List Value} {vs : List V} {Q : VK} {E : XK} {pm ctv : Value} {t : TE} (ho : s.heap.get? f = some (PySem.W.kla_obj "<lambda>" L.qual L.params L.body L.scope [] pm c ctv))
    (hc : s.heap.CodeRec (.ref c) L.qual) (S : FnScope N ps L.scope) (hr : Room (k + 1) A) (e0 : Env0 P w K mg base A outer s H) (hb : bindArgs (PySem.W.kla_fn "<lambda>" L.qual L.params L.body L.scope [] pm (.ref c) ctv) ⟨us, []⟩ = pure (ps.zip us)) (r : Vals vs us) (hl : vs.length = ps.length)
    (hbody : PE (cxOf (L2N.CX P w) P w K mg base N L.qual L.scope f (.ref c) A outer s H E) L.body t) (ht : t (L2.start N vs) H Q) : codeAny (model P w) A (.call (.ref f) ⟨us, []⟩) (CR (L2N.CX P w) outer P w H s Q E) s := by
  have nolim : s.heap.NoLimit := e0.mod.nolimit.keeps fun b o e => (e0.bs b o e).1
  refine PySem.W.kla_callFunE hr.depth ho rfl S.co S.gen rfl hc ?_
  rw [hb]
  have hk : ∀ y ∈ ps.zip us, L.scope.names.lookup y.1 = some .local ∨ (L.scope.names.lookup y.1 = some .cell ∧ ((cellsFrom (s.heap.objs.size + 1) L.scope.names []).lookup y.1).isSome = true) := fun y hy => by
    rcases S.par y.1 (List.of_mem_zip (show (y.1, y.2) ∈ ps.zip us from hy)).1 with q | q
    · exact .inl q
    · exact .inr ⟨q, PySem.W.cellsFrom_some _ _ _ (.inl q)⟩
  refine wpAny_pure (wpAny_newFunctionEnv_cells S.kind hk fun env he s1 x => ?_)
  subst he
  refine ⟨nolim.keeps x.toInCall.keep, ?_⟩
  have J : Inv (cxOf (L2N.CX P w) P w K mg base N L.qual L.scope f (.ref c) A outer s H E) [] (L2.start N vs) H s1 := inv_start S hr.hd e0 hl r x
  refine PySem.W.kla_codeExpr (wpAny_mono (hbody.run [] s1 (L2.start N vs) H Q J ht) (fun u s2 hq => ?_) fun e s2 hq => hq)
  obtain ⟨v, H2, J2, rv, q⟩ := hq
  exact ⟨v, H2, J2.os, J2.bare, J2.base, J2.hok, rv, q⟩
theorem ret_read {W : WX} {m : Env → RE} {pu : Bool} {D : Ends} {σ : L2.St} {H : Hp} (h : tS K mg W (sRet m) D σ H) : tI K mg W true pu m σ H D.rt := by
  obtain ⟨Hf, env, R, g⟩ := h
  refine ⟨Hf, env, R, GS.first g fun d fr e2 v H2 Hf2 _ R2 t2 z2 g2 => g2 v σ H2 Hf2 R2 t2.s ?_⟩
  unfold VR at z2
  unfold RV
  cases fr with
  | false => simpa using z2
  | true =>
    rw [if_pos rfl] at z2 ⊢
    obtain ⟨p, e, hp, r⟩ := z2
    exact ⟨p, e, .inl hp, fun q => R.fresh hp (q.back t2.mt), r⟩
/-- a lambda's body, read -/
def BodyL (P : Program) (w : World) (K : PySem.W.Frag) (mg : Str → Option Value) (base : Heap) (k : Nat) (N : List Str) (L : LamI) (pu : Bool) (m : Env → RE) : Prop :=
  ∀ (cdv : Value) (A : Around) (outer : List PySem.Env) (s : Shared) (H : Hp) (E : XK) (f : Addr), Gd k (cxOf (L2N.CX P w) P w K mg base N L.qual L.scope f cdv A outer s H E) (Cor.WE E) → PE (cxOf (L2N.CX P w) P w K mg base N L.qual L.scope f cdv A outer s H E) L.body (tI K mg (Cor.WE E) true pu m)
/-- what the lambda x is worth -/
structure FnL (P : Program) (w : World) (K : PySem.W.Frag) (mg : Str → Option Value) (base : Heap) (k : Nat) (x : Str) (n : Nat) (f : Sem) : Prop where
  ex : ∃ (L : LamI) (N ps : List Str) (m : Env → RE) (pu : Bool), LamDefs.lams.lookup x = some L ∧ mg x = none ∧ FnScope N ps L.scope ∧ ps.length = n ∧ f = semS N.length false (sRet m) ∧
    (∀ (pm cv ctv : Value) (us : List Value), us.length = ps.length → bindArgs (PySem.W.kla_fn "<lambda>" L.qual L.params L.body L.scope [] pm cv ctv) ⟨us, []⟩ = pure (ps.zip us)) ∧ ∃ j, k = j + 1 ∧ BodyL P w K mg base j N L pu m
theorem FnL.of {k n : Nat} {x : Str} {L : LamI} {N ps : List Str} {m : Env → RE} (hL : LamDefs.lams.lookup x = some L) (hx : mg x = none) (S : FnScope N ps L.scope) (hn : ps.length = n)
    (hb : ∀ (pm cv ctv : Value) (us : List Value), us.length = ps.length → bindArgs (PySem.W.kla_fn "<lambda>" L.qual L.params L.body L.scope [] pm cv ctv) ⟨us, []⟩ = pure (ps.zip us)) (b : ∃ pu, BodyL P w K mg base k N L pu m) : FnL P w K mg base (k + 1) x n (semS N.length false (sRet m)) :=
  let ⟨pu, b⟩ := b; ⟨L, N, ps, m, pu, hL, hx, S, hn, rfl, hb, k, rfl, b⟩
theorem run_fnL {X : Cx} {W : WX} {k n : Nat} {x : Str} {g : Sem} (F : FnL X.prog X.w X.K X.mg X.base k x n g) (hr : Room k X.A) (tk : L2N.Takes X W) {pins : List (Addr × Obj)} {σ : L2.St} {H : Hp} {s : Shared} {Q : VK} {us : List Value} {vs : List V} {f c : Addr} {L : LamI} (hL : LamDefs.lams.lookup x = some L)
    (I : Inv X pins σ H s) (hf : H f = some (LamO f c L)) (hc : H c = some (CodeO c L.qual)) (r : Vals vs us) (sp : spOf X.K X.mg n false g vs H Q (L2.WE W σ)) :
    wpAny (model X.prog X.w) X.A (call (.ref f) us) (EP X pins σ Q) X.xe s := by
  obtain ⟨L', N, ps, m, pu, h1, h2, S, h4, h5, h6, j, rfl, h8⟩ := F.ex
  rw [hL] at h1
  cases h1
  subst h4 h5
  obtain ⟨⟨pm, ctv, ho⟩, _, _⟩ := I.hok f _ hf
  obtain ⟨⟨oc, vs2, t, q1, q2, q3⟩, _, _⟩ := I.hok c _ hc
  have hle : ps.length ≤ N.length := by have := congrArg List.length S.pre; rw [List.length_take] at this; omega
  have lv : us.length = ps.length := by rw [← r.length]; exact sp.1
  have run := run_lam (P := X.prog) (w := X.w) (Q := Q) (E := L2.WE W σ) ho ⟨c, oc, vs2, t, rfl, q1, q2, q3⟩ S hr I.env0 (h6 _ _ _ us lv) r sp.1 (h8 _ _ _ _ _ _ _ ⟨rfl, S.nd, hr.deeper _, L2N.takes_of rfl rfl rfl rfl⟩) (ret_read (entry hle sp))
  refine wpAny_call (codeAny_mono run fun z s2 hq => ?_)
  match z, hq with
  | .error e, hq => exact L2N.passAt tk σ _ _ _ e s2 I hq
  | .ok (.ret u), hq => exact I.after hq
  | .ok .next, hq => exact False.elim hq
  | .ok .brk, hq => exact False.elim hq
  | .ok .cont, hq => exact False.elim hq
end
end Cor
set_option Elab.async false
set_option linter.all false
set_option maxRecDepth 100000
set_option maxHeartbeats 2000000
/-! CorM: functions as values; what the head must say of the errors and of the lambdas; the end. -/
namespace Cor
open PySem PySem.Spec PyProof.Rows L2 HotX L2H
section
variable [LamDefs] {X : Cx} {W : WX} {k n i j : Nat} {a : Expr} {es : List Expr} {pos p : Pos} {ms : Env → REs} {ps : Bool}
/-- a def as a value -/
theorem pFn {x : Str} {io : Bool} {f : Sem} (F : FnS X.prog X.w X.K X.mg X.base j x n io f) (hg : X.env.kindOf x = some .globalImplicit := by kernel_rfl) (hd : (x == ("__debug__" : Str)) = false := by kernel_rfl) : PE X (.Name x pos) (tI X.K X.mg W true true (eLit (.fn x))) := by
  obtain ⟨f, fd, pl, h1, _⟩ := F.ex
  exact s_lit (pe_glob (v := .ref f) hg h1 rfl hd) fun H => .fn h1
/-- the def that a slot holds is called -/
def eDoor (tb : List (Str × Sem)) (i : Nat) (ms : Env → REs) : Env → RE := fun env => match getS env i with
  | .val (.fn x) => (match tb.lookup x with
    | some f => (ms env).bind fun ds e1 => callR false (f ds) e1
    | none => .no)
  | _ => .no
/-- the table of such defs and lambdas -/
def Doors (X : Cx) (k n : Nat) (tb : List (Str × Sem)) : Prop := ∀ x f, tb.lookup x = some f → (LamDefs.lams.lookup x = none ∧ ∃ j, j ≤ k ∧ FnS X.prog X.w X.K X.mg X.base j x n false f) ∨ ∃ j, j ≤ k ∧ FnL X.prog X.w X.K X.mg X.base j x n f
theorem pDoor {tb : List (Str × Sem)} {o : Expr} (g : Gd k X W) (hF : Doors X k n tb) (ho : PE X o (tVar i)) (ha : QA X W (a :: es) n true ps ms)
    (hcall : ∀ {Q : Value → Shared → Prop} {E : Value → Shared → Prop} {s : Shared}, wpAny (model X.prog X.w) X.A (eval o X.env) (fun f s1 => wpAny (model X.prog X.w) X.A (callWith pos f [] (backTo pos (starEach (a :: es) X.env)) (backToKw pos (keywordEach [] X.env))) Q E s1) E s → wpAny (model X.prog X.w) X.A (eval (.Call o (a :: es) [] pos) X.env) Q E s)
    (hn : (a :: es).length = n := by rfl) (he : starEach (a :: es) X.env = (false, eval a X.env) :: starEach es X.env := by rfl) (hpl : (backTo pos (starEach es X.env)).any (·.1) = false := by rfl) : PE X (.Call o (a :: es) [] pos) (tI X.K X.mg W true ps (eDoor tb i ms)) := by
  refine ⟨fun pins s σ H Q I ⟨Hf, env, R, gg⟩ => ?_⟩
  unfold eDoor at gg
  split at gg
  · rename_i x hx
    split at gg
    · rename_i f hf
      obtain ⟨v, ev, rv⟩ := R.val i _ (getS_lt hx (by simp))
      -- what the arguments are worth to the one called
      have sp : ∀ {H2 Hf2 : Hp} {vs : List V} {ds : List D} {e1 : Env}, ms env = .ok ds e1 → ER X.K X.mg Hf2 H2 e1 σ → Tr ps Hf H env Hf2 H2 e1 σ → Reps X.K X.mg (if true = true then Hf2 else H2) ds vs → GE X.K X.mg W true ps Hf H env σ Q (callR false (f ds) e1) → spOf X.K X.mg n false f vs H2 Q (L2.WE W σ) := fun {H2 Hf2 vs ds e1} hm R1 t1 rs g1 => by
        rw [if_pos rfl] at rs
        refine ⟨by rw [← rs.length, ha.len _ _ _ hm], none, ds, Hf2, rfl, (fun h => nomatch h), ER.nil R1.le R1.tab R1.nt, rs, ?_⟩
        show match f ds with
          | .ret d fr z => _
          | .exc c z => _
          | .no => False
        unfold callR at g1
        cases q : f ds with
        | no => rw [q] at g1; exact g1.elim
        | ret d fr z =>
          rw [q] at g1
          cases z with
          | some z => exact g1.elim
          | none =>
            refine ⟨rfl, fun v H' Hf' r t y => ?_⟩
            obtain ⟨R2, t2⟩ := lift0 R1 r t
            simp only [Bool.false_and, Bool.false_eq_true, if_false] at g1
            exact GE.fin g1 (t1.trans t2) (fun h => by simpa using h) R2 (y.back t1.there)
        | exc c z =>
          rw [q] at g1
          cases z with
          | some z => exact g1.elim
          | none =>
            refine ⟨rfl, fun C H' Hf' hC r t => ?_⟩
            obtain ⟨R2, t2⟩ := lift0 R1 r t
            exact g1 C H' Hf' hC R2 ((t1.trans t2).weak fun h => by simpa using h)
      rcases hF x f hf with ⟨hl, j, hj, F⟩ | ⟨j, hj, F⟩
      · obtain ⟨fa, fd, pl, h1, h2, h3, h4⟩ := F.ex
        cases rv with
        | lam q _ _ => rw [hl] at q; cases q
        | fn h0 =>
        rw [h1] at h0
        cases h0
        refine hcall (thn (ho.run pins s σ H (fun v H1 => v = .ref fa ∧ H1 = H) I ⟨_, ev, rfl, rfl⟩) fun u s1 hu => ?_)
        obtain ⟨v, H1, I1, r1, e1, e2⟩ := hu
        subst e1 e2
        obtain rfl : u = Value.ref fa := r1
        exact PySem.W.callWith_K (h₀ := X.base) I1.ok.mod.kin h2 (thn (ha.pa.run pos pins s1 σ H1 (fun vs H2 => spOf X.K X.mg n false f vs H2 Q (L2.WE W σ)) I1 ⟨Hf, env, R, GEs.fst (fun h => h) gg fun ds e1 vs H2 Hf2 hm R1 t1 rs g1 => sp hm R1 t1 rs g1⟩) fun us s2 ⟨vs, H2, I2, r, q⟩ => ⟨I2.kIn, run_fnS h4 (g.room.mono hj) h3 (L2N.passAt g.tk σ) I2 r q⟩) he hpl
      · obtain ⟨L, hL, hx0⟩ : ∃ L, LamDefs.lams.lookup x = some L ∧ X.mg x = none := let ⟨L, _, _, _, _, a, b, _⟩ := F.ex; ⟨L, a, b⟩
        cases rv with
        | fn h0 => rw [hx0] at h0; cases h0
        | @lam _ fa c L' q1 q2 q3 =>
        refine hcall (thn (ho.run pins s σ H (fun v H1 => v = .ref fa ∧ H1 = H) I ⟨_, ev, rfl, rfl⟩) fun u s1 hu => ?_)
        obtain ⟨v, H1, I1, r1, e1, e2⟩ := hu
        subst e1 e2
        obtain rfl : u = Value.ref fa := r1
        have at_ : ∀ {s2 : Shared} {H2 : Hp}, Inv X pins σ H2 s2 → H2 fa = some (LamO fa c L') → PySem.W.FnAt fa s2.heap := fun {s2 H2} I2 e => by
          obtain ⟨⟨pm, ctv, ho⟩, _, _⟩ := I2.hok fa _ e
          exact ⟨_, _, _, _, ho⟩
        refine PySem.W.callWith_F (at_ I1 (R.le _ _ q2)) (thn (ha.pa.run pos pins s1 σ H1 (fun vs H2 => (H2 fa = some (LamO fa c L') ∧ H2 c = some (LamX.CodeO c L'.qual)) ∧ spOf X.K X.mg n false f vs H2 Q (L2.WE W σ)) I1 ⟨Hf, env, R, GEs.fst (fun h => h) gg fun ds e1 vs H2 Hf2 hm R1 t1 rs g1 => ⟨⟨R1.le _ _ (t1.up _ _ q2), R1.le _ _ (t1.up _ _ q3)⟩, sp hm R1 t1 rs g1⟩⟩) fun us s2 ⟨vs, H2, I2, r, ⟨z1, z2⟩, q⟩ => ⟨at_ I2 z1, ?_⟩) he hpl
        exact run_fnL F (g.room.mono hj) g.tk q1 I2 z1 z2 r q
    · exact gg.elim
  · exact gg.elim
theorem dNil : Doors X k n [] := fun x f h => nomatch h
theorem dCons {x : Str} {f : Sem} {tb : List (Str × Sem)} (F : FnS X.prog X.w X.K X.mg X.base j x n false f) (r : Doors X k n tb) (hj : j ≤ k := by decide) (hl : LamDefs.lams.lookup x = none := by kernel_rfl) : Doors X k n ((x, f) :: tb) := fun y g h => by
  rw [List.lookup_cons] at h
  split at h
  · rename_i e
    rw [eq_of_beq e]
    cases h
    exact .inl ⟨hl, j, hj, F⟩
  · exact r y g h
theorem dLam {x : Str} {f : Sem} {tb : List (Str × Sem)} (F : FnL X.prog X.w X.K X.mg X.base j x n f) (r : Doors X k n tb) (hj : j ≤ k := by decide) : Doors X k n ((x, f) :: tb) := fun y g h => by
  rw [List.lookup_cons] at h
  split at h
  · rename_i e
    rw [eq_of_beq e]
    cases h
    exact .inr ⟨j, hj, F⟩
  · exact r y g h
theorem pDoorN {tb : List (Str × Sem)} {y : Str} {q : Pos} (g : Gd k X W) (hF : Doors X k n tb) (ho : PE X (.Name y q) (tVar i)) (ha : QA X W (a :: es) n true ps ms) (hn : (a :: es).length = n := by rfl) (he : starEach (a :: es) X.env = (false, eval a X.env) :: starEach es X.env := by rfl) (hpl : (backTo pos (starEach es X.env)).any (·.1) = false := by rfl) :
    PE X (.Call (.Name y q) (a :: es) [] pos) (tI X.K X.mg W true ps (eDoor tb i ms)) := pDoor g hF ho ha (fun h => wpAny_Call_Name_kw h) hn he hpl
end

/-! ### what the head computes -/
def excB (K : PySem.W.Frag) (D : Addr) : Bool := decide (PySem.W.findIn K (.ref D) "__getattribute__" = some (some (.builtin "BaseException.__getattribute__"))) && (decide (PySem.W.findIn K (.ref D) "__getattr__" = some none) && (decide (PySem.W.subIn K (.ref D) (.type "BaseException") = some true) &&
  (PySem.W.hasDictIn K D && (decide (PySem.W.findIn K (.ref D) "__class__" = some (some (.builtin "object.__class__"))) && (decide (PySem.W.specialIn K (.builtin "object.__class__") "__get__" = some (some (.builtin "getset_descriptor.__get__"))) && (decide (PySem.W.takesIn K (.builtin "object.__class__") = some true) && decide (PySem.W.mroIn K D (.type "object") = some true)))))))
theorem excB_ok {K : PySem.W.Frag} {D : Addr} (h : excB K D = true) : L2.ExcC K D := by
  obtain ⟨h1, h⟩ := He.ba h
  obtain ⟨h2, h⟩ := He.ba h
  obtain ⟨h3, h⟩ := He.ba h
  obtain ⟨h4, h⟩ := He.ba h
  obtain ⟨h5, h⟩ := He.ba h
  obtain ⟨h6, h⟩ := He.ba h
  obtain ⟨h7, h8⟩ := He.ba h
  exact ⟨of_decide_eq_true h1, of_decide_eq_true h2, of_decide_eq_true h3, h4, of_decide_eq_true h5, of_decide_eq_true h6, of_decide_eq_true h7, of_decide_eq_true h8⟩
def xn1B (K : PySem.W.Frag) (x : Str) : Bool := excB K (He.ga K x) && (nmL.all (fun y => decide (PySem.W.kitOne K (.ref (He.ga K x)) (.ref (He.ga K y.1)) = some (y.1 == x))) && (decide (PySem.W.kitOne K (.ref (He.ga K x)) (.type "ValueError") = some true) && decide (PySem.W.exmOne K (.ref (He.ga K x)) (.ref (He.ga K "LogError")) = some true)))
def xnB [LamDefs] (K : PySem.W.Frag) : Bool := LamDefs.excs.all fun x => xn1B K x
theorem nm0_mem {x : Str} {z : List Nat} (h : nm0 x = some z) : ∃ y, (x, y) ∈ nmL := by
  unfold nm0 at h
  cases q : nmL.lookup x with
  | none => rw [q] at h; cases h
  | some y => exact ⟨y, PySem.mem_of_lookup q⟩
theorem xnB_ok [LamDefs] {K : PySem.W.Frag} {mg : Str → Option Value} (h : xnB K = true) (hL : mg "LogError" = some (.ref (He.ga K "LogError"))) (G : ∀ n ∈ nmL.map (·.1), mg n = some (.ref (He.ga K n))) : ∀ x z, nmS x = some z → ∃ C, XcN K mg x C := fun x z hz => by
  obtain ⟨hz0, hx⟩ := nmS_some hz
  obtain ⟨y, hy⟩ := nm0_mem hz0
  obtain ⟨h1, h⟩ := He.ba (List.all_eq_true.mp h x hx)
  obtain ⟨h2, h⟩ := He.ba h
  obtain ⟨h3, h4⟩ := He.ba h
  refine ⟨He.ga K x, G x (List.mem_map.mpr ⟨_, hy, rfl⟩), excB_ok h1, fun n hn => ⟨_, G n hn, ?_⟩, of_decide_eq_true h3, ⟨_, hL, of_decide_eq_true h4⟩⟩
  obtain ⟨m, hm, rfl⟩ := List.mem_map.mp hn
  exact of_decide_eq_true (List.all_eq_true.mp h2 m hm)
/-- the tables lie apart -/
def uqB [LamDefs] (K : PySem.W.Frag) : Bool := LamDefs.names.all fun a => LamDefs.names.all fun b => decide ((He.cT K (a, none)).2 = (He.cT K (b, none)).2 → a = b)
theorem lamC_of [LamDefs] {K : PySem.W.Frag} {mg : Str → Option Value} {base : Heap} {n : Str} (u : uqB K = true) (tb : ∀ p ∈ LamDefs.names.map fun n => He.cT K (n, none), LamX.TabB base mg p.1 p.2) (hn : n ∈ LamDefs.names) : ∀ cdv, cdv = .ref (He.cT K (n, none)).1 → LamC K mg base n cdv := fun cdv e =>
  ⟨e, tb _ (List.mem_map.mpr ⟨n, hn, rfl⟩), hn, fun m hm q => of_decide_eq_true (List.all_eq_true.mp (List.all_eq_true.mp u m hm) n hn) q⟩
theorem tb_of [LamDefs] {K : PySem.W.Frag} {H : Hp} (h : ∀ p ∈ LamDefs.names.map fun n => He.cT K (n, none), H p.2 = some (.tbl #[])) : Tb K H := fun z hz => by
  obtain ⟨n, hn, rfl⟩ := List.mem_map.mp hz
  exact LamX.TabS.nil (h _ (List.mem_map.mpr ⟨n, hn, rfl⟩))
theorem xc_ok {K : PySem.W.Frag} {mg : Str → Option Value} {x : Str} (hg : mg x = some (.ref (He.ga K x))) (c : (He.Fa.exc x).ok K = true) : XcOk K mg x := let ⟨a, b, c, d⟩ := He.exc_ok c; ⟨_, hg, a, b, c, d⟩
/-! ### the end -/
/-- what a run of the law's def is worth -/
def spLaw [LamDefs] (K : PySem.W.Frag) : Sp := fun vs H Q _ => ∃ (a : Addr) (ns : List Int), vs = [.ref a] ∧ ns.length ≤ 63 ∧ Tb K H ∧ SqL K H a (ns.map V.int) ∧ ∀ H', Q (.bl true) H'
theorem sp_of [LamDefs] {K : PySem.W.Frag} {mg : Str → Option Value} {fl : Sem} (ok : ∀ ns : List Int, ns.length ≤ 63 → fl [.lst (ns.map D.int)] = .ret (.bl true) false none) (vs : List V) (H : Hp) (Q : VK) (E : XK) (h : spLaw K vs H Q E) : spOf K mg 1 false fl vs H Q E := by
  obtain ⟨a, ns, rfl, hl, tb, hS, hQ⟩ := h
  refine ⟨rfl, none, [.lst (ns.map D.int)], noT H, rfl, (fun h => nomatch h), ER.nil noT_same tb noT_nt, .cons (.lst (kep_l noT_kep hS) (Reps.ofInts ns)) .nil, ?_⟩
  show match fl [.lst (ns.map D.int)] with
    | .ret d fr z => _
    | .exc c z => _
    | .no => False
  rw [ok ns hl]
  refine ⟨rfl, fun v H' Hf' _ _ y => ?_⟩
  unfold VR at y
  have y : Rep K mg Hf' (.bl true) v := by simpa using y
  rw [y.blInv]
  exact hQ H'
theorem lawAt [LamDefs] {l : PySem.W.OpenLaw} {w : World} {K : PySem.W.Frag} {mg : Str → Option Value} {fa : Addr} {h : Heap} {k : Nat} {x : Str} {fd : FuncData} (KX : K.In h) (hd : ∀ p ∈ LamDefs.names.map (fun n => ((n, none) : He.Defn)), PySem.W.codeHdIn K (He.cT K p).1 (He.cT K p).2 = true)
    (out : ∀ p ∈ LamDefs.names.map (fun n => ((n, none) : He.Defn)), K.lookup (He.cT K p).2 = none) (em : ∀ p ∈ LamDefs.names.map (fun n => ((n, none) : He.Defn)), h.get? (He.cT K p).2 = some { cls := .none, data := .fields #[] }) (hb : ∀ (s : Shared) (u : Value), BindsTo s fd ⟨[u], []⟩ [(x, u)])
    (hF : ∀ base : Heap, K.In base → base.Ns mainGlobals mg → (∀ p ∈ LamDefs.names.map fun n => He.cT K (n, none), LamX.TabB base mg p.1 p.2) → FnOk l.prog w K mg base (L2N.CX l.prog w) k fa fd [x] (spLaw K)) : LamX.LawAtS l w K (L2N.CX l.prog w) k 63 x mg fa h := by
  have at_ : ∀ {p : Addr × Addr}, p ∈ (LamDefs.names.map fun n => He.cT K (n, none)) → ∃ q ∈ LamDefs.names.map (fun n => ((n, none) : He.Defn)), p = He.cT K q := fun {p} hp => by
    obtain ⟨n, hn, rfl⟩ := List.mem_map.mp hp
    exact ⟨(n, none), List.mem_map.mpr ⟨n, hn, rfl⟩, rfl⟩
  refine ⟨fd, LamDefs.names.map fun n => He.cT K (n, none), spLaw K, fun p hp => ?_, fun p hp => ?_, fun p hp => ?_, hb, fun H a ns hl _ hT hS => ⟨a, ns, rfl, hl, tb_of hT, hS, fun _ => rfl⟩, hF⟩
  · obtain ⟨q, hq, rfl⟩ := at_ hp; exact em q hq
  · obtain ⟨q, hq, rfl⟩ := at_ hp; exact out q hq
  · obtain ⟨q, hq, rfl⟩ := at_ hp; exact PySem.W.codeHd_of_K KX (hd q hq)
end Cor
set_option Elab.async false
set_option linter.all false
set_option maxRecDepth 100000
set_option maxHeartbeats 2000000
/-! CorS: the newer words, computed. -/
namespace Cor
open PySem PySem.Spec L2
section
variable {env e : Env} {a : Addr} {i : Nat} {b : Bool} {d : D} {fr : Bool} {ds xs ys : List D} {x : Str} {m : Env → RE} {ms : Env → REs} {f : Sem}
def isK (a : Addr) (b : Bool) (s : Slot) (env : Env) : RE := match s with
  | .raw (.ref x) => if x = a then .ok (.bl b) false env else .no
  | _ => .no
@[simp] theorem x_eIsx : eIsx i a b env = isK a b (getS env i) env := rfl
@[simp] theorem isK_raw : isK a b (.raw (.ref a)) env = .ok (.bl b) false env := if_pos rfl
def selK2 (i : Nat) (xs ys : List D) (o : Option (List Bool)) (e : Env) : RS := match o with
  | some bs => if xs.length = ys.length then putS e i (.lst (selV xs bs)) true else .no
  | none => .no
def selK (i : Nat) (r : REs) : RS := match r with
  | .ok [.lst xs, .lst ys] e1 => selK2 i xs ys (blsOf ys) e1
  | _ => .no
@[simp] theorem x_sSelH : sSelH i ms env = selK i (ms env) := rfl
@[simp] theorem selK_ok : selK i (.ok [.lst xs, .lst ys] e) = selK2 i xs ys (blsOf ys) e := rfl
@[simp] theorem selK2_some {bs : List Bool} : selK2 i xs ys (some bs) e = if xs.length = ys.length then putS e i (.lst (selV xs bs)) true else .no := rfl
variable [LamDefs]
def tryK2 (o : Option (List Nat)) (e : Env) : RE := match o with
  | some z => .ok (.str z) false e
  | none => .no
def tryK (r : RE) : RE := match r with
  | .ok d _ e1 => .ok (.tup [.str [116, 111, 108, 100], d]) false e1
  | .ex c e1 => tryK2 (nmS c.cls) e1
  | .no => .no
@[simp] theorem x_eTry : eTry m env = tryK (m env) := rfl
@[simp] theorem tryK_ok : tryK (.ok d fr e) = .ok (.tup [.str [116, 111, 108, 100], d]) false e := rfl
@[simp] theorem tryK_ex {as : List D} : tryK (.ex ⟨x, as⟩ e) = tryK2 (nmS x) e := rfl
@[simp] theorem tryK2_some {z : List Nat} : tryK2 (some z) e = .ok (.str z) false e := rfl
def dooK2 (o : Option Sem) (ds : List D) (e : Env) : RE := match o with
  | some f => callR false (f ds) e
  | none => .no
def dooK (tb : List (Str × Sem)) (s : Slot) (r : REs) : RE := match s with
  | .val (.fn x) => (match tb.lookup x with
    | some f => r.bind fun ds e1 => callR false (f ds) e1
    | none => .no)
  | _ => .no
@[simp] theorem x_eDoor {tb : List (Str × Sem)} : eDoor tb i ms env = dooK tb (getS env i) (ms env) := rfl
@[simp] theorem dooK_ok {tb : List (Str × Sem)} : dooK tb (.val (.fn x)) (.ok ds e) = dooK2 (tb.lookup x) ds e := by
  show (match tb.lookup x with
    | some f => callR false (f ds) e
    | none => .no) = _
  unfold dooK2
  cases tb.lookup x <;> rfl
@[simp] theorem dooK2_some : dooK2 (some f) ds e = callR false (f ds) e := rfl
@[simp] theorem x_sRais : sRais x env = .ex ⟨x, []⟩ env := rfl
@[simp] theorem x_sNo : sNo env = .no := rfl
end
theorem selV_map {α β : Type} (g : α → β) : ∀ (xs : List α) (bs : List Bool), selV (xs.map g) bs = (selV xs bs).map g
  | x :: xs, b :: bs => by
    have := selV_map g xs bs
    cases b <;> simp [selV, this]
  | [], bs => by simp [selV]
  | _ :: _, [] => by simp [selV]
theorem strs_map : ∀ ws : List (List Nat), strsOf (ws.map D.str) = some ws
  | [] => rfl
  | w :: ws => by
    show (strsOf (ws.map D.str)).map (w :: ·) = _
    rw [strs_map ws]; rfl
theorem selV_sum : ∀ (ws : List (List Nat)) (bs : List Bool), ((selV ws bs).map List.length).sum ≤ (ws.map List.length).sum
  | w :: ws, b :: bs => by
    have := selV_sum ws bs
    cases b <;> simp [selV] <;> omega
  | [], bs => by simp [selV]
  | _ :: _, [] => by simp [selV]
theorem joinL_nil : ∀ ws : List (List Nat), joinL [] ws = ws.flatten
  | [] => rfl
  | [w] => by simp [joinL]
  | w :: v :: ws => by
    have := joinL_nil (v :: ws)
    simp only [joinL, this, List.flatten_cons, List.append_nil, List.nil_append]
theorem join_sel (ws : List (List Nat)) (bs : List Bool) (h : (ws.map List.length).sum ≤ lim) : m1D .join (.str []) (.lst (selV (ws.map D.str) bs)) = some (.str (selV ws bs).flatten) := by
  rw [selV_map]
  show (strsOf ((selV ws bs).map D.str)).bind (fun ys => if (ys.map List.length).sum + ys.length * ([] : List Nat).length ≤ lim then some (D.str (joinL [] ys)) else none) = _
  rw [strs_map]
  have := selV_sum ws bs
  simp only [Option.bind_some, List.length_nil, Nat.mul_zero, Nat.add_zero]
  rw [if_pos (by omega), joinL_nil]
def nmW : List (List Nat) := [[82, 117, 108, 101], [82, 111, 119], [83, 105, 122, 101, 115], [78, 117, 109, 98, 101, 114], [80, 97, 114, 116], [84, 111, 116, 97, 108, 115], [83, 101, 101, 110], [69, 118, 101, 110, 116], [85, 110, 100, 111], [77, 97, 110, 121], [84, 101, 120, 116]]
@[simp] theorem join_nm (bs : List Bool) : m1D .join (.str []) (.lst (selV [.str [82, 117, 108, 101], .str [82, 111, 119], .str [83, 105, 122, 101, 115], .str [78, 117, 109, 98, 101, 114], .str [80, 97, 114, 116], .str [84, 111, 116, 97, 108, 115], .str [83, 101, 101, 110], .str [69, 118, 101, 110, 116], .str [85, 110, 100, 111], .str [77, 97, 110, 121], .str [84, 101, 120, 116]] bs)) = some (.str (selV nmW bs).flatten) :=
  join_sel nmW bs (by decide)
def nmB (x : Str) : List Bool := [(("InvalidRule" : Str) == x), (("InvalidRow" : Str) == x), (("InvalidSizes" : Str) == x), (("InvalidNumber" : Str) == x), (("InvalidPart" : Str) == x), (("InvalidTotals" : Str) == x), (("InvalidSeen" : Str) == x), (("InvalidEvent" : Str) == x), (("NothingToUndo" : Str) == x), (("TooMany" : Str) == x), (("InvalidText" : Str) == x)]
theorem nmB_ok [LamDefs] {x : Str} {z : List Nat} (hh : nmS x = some z) : (selV nmW (nmB x)).flatten ++ [43] = z := by
  obtain ⟨h, _⟩ := nmS_some hh
  have key : nmL.all (fun p => decide (nm0 p.1 = some ((selV nmW (nmB p.1)).flatten ++ [43]))) = true := by decide +kernel
  obtain ⟨y, hy⟩ := nm0_mem h
  have := of_decide_eq_true (List.all_eq_true.mp key _ hy)
  rw [h] at this
  exact (Option.some.inj this).symm
theorem nmB_len [LamDefs] {x : Str} {z : List Nat} (hh : nmS x = some z) : (selV nmW (nmB x)).flatten.length + 1 ≤ lim := by
  obtain ⟨h, _⟩ := nmS_some hh
  have key : nmL.all (fun p => decide ((selV nmW (nmB p.1)).flatten.length + 1 ≤ 1000)) = true := by decide +kernel
  obtain ⟨y, hy⟩ := nm0_mem h
  have h2 : (selV nmW (nmB x)).flatten.length + 1 ≤ 1000 := of_decide_eq_true (List.all_eq_true.mp key _ hy)
  unfold lim
  omega
end Cor
set_option Elab.async false
set_option linter.all false
set_option maxRecDepth 100000
set_option maxHeartbeats 2000000
/-! CorQ: list(d), sum(d.values()), max and min of two. -/
namespace Cor
open PySem PySem.Spec PyProof.Rows L2
section
variable {prog : Program} {w : World} {d r : Addr} {es : Array DictEntry} {ep : Nat}
theorem src_keys (lo : (d == sysModules) = false) : PySem.W.KdlSrc prog w "dict" d d es.size (fun i v => ∃ hi : i < es.size, v = es[i].key) (fun h => h.DictRaw d es ep) where
  type := fun _ ⟨o, ho, hx, _⟩ => ⟨o, ho, hx.1⟩
  there := fun _ ⟨o, ho, _⟩ => ⟨Heap.lt_size ho, Heap.lt_size ho⟩
  keep := fun _ _ hm hk => hm.at fun o e => hk d (.inl rfl) o e
  notList := by decide
  notTuple := by decide
  hint := fun _ _ _ _ ⟨o, ho, hx, _⟩ hq => PySem.W.kdl_hint_dict ⟨o, ho, hx.1⟩ hq
  iter := fun _ _ hh hm => ⟨_, _, (fun _ _ hq => wpAny_pyIter_dict_raw lo hm hq), Walks.rawKeys hh _ d (by obtain ⟨o, ho, _⟩ := hm; exact Nat.ne_of_lt (Heap.lt_size ho)) es ep, ⟨⟨_, Heap.get?_push_size _ rfl, rfl, rfl⟩, hm.at fun o e => Heap.get?_push_of_some _ e⟩⟩
theorem src_vals : PySem.W.KdlSrc prog w "dict_values" r d es.size (fun i v => ∃ hi : i < es.size, v = es[i].val) (fun h => h.IsValuesView r d ∧ h.DictRaw d es ep) where
  type := fun _ hm => hm.1.typeIs
  there := fun _ hm => ⟨let ⟨_, ho, _⟩ := hm.1; Heap.lt_size ho, let ⟨_, ho, _⟩ := hm.2; Heap.lt_size ho⟩
  keep := fun _ _ hm hk => ⟨let ⟨o, ho, x⟩ := hm.1; ⟨o, hk r (.inl rfl) o ho, x⟩, hm.2.at fun o e => hk d (.inr rfl) o e⟩
  notList := by decide
  notTuple := by decide
  hint := fun _ _ _ _ hm hq => PySem.W.kdl_hint_values hm.1.typeIs hq
  iter := fun _ _ hh hm => ⟨_, _, (fun _ _ hq => wpAny_pyIter_values_raw hm.1 hm.2 hq), Walks.rawValues hh _ d (by obtain ⟨_, o, ho, _⟩ := hm; exact Nat.ne_of_lt (Heap.lt_size ho)) es ep, ⟨⟨_, Heap.get?_push_size _ rfl, rfl, rfl⟩, hm.2.at fun o e => Heap.get?_push_of_some _ e⟩⟩
end
section
variable [LamDefs] {X : Cx}
def rLstD : List V → Hp → VK → Prop := fun xs H Q => ∃ (a : Addr) (o : Obj) (tk : Bool) (ks : List D) (kvv vvs : List V), xs = [.ref a] ∧ H a = some (DObj a o) ∧ (a == sysModules) = false ∧ kvv.length ≤ lim ∧ DSh tk o ks kvv vvs ∧ ∀ p, H p = none → Q (.ref p) (upd H p (.lst kvv))
theorem call_lstD (hc : X.calm = true) : CallR X (.type "list") rLstD := by
  rintro pins s σ H xs us Q I r ⟨a, o, tk, ks, kvv, vvs, rfl, hd, hs, hl, sh, q⟩
  match us, r with
  | [_], .cons rx .nil =>
    cases rx
    obtain ⟨es, ep, en⟩ := dsh_ent X.prog X.w sh
    have hsz : es.size ≤ sizeLine := by rw [en.sizeK]; exact lim_line hl
    refine PySem.W.kdl_call (src_keys (es := es) (ep := ep) hs) (I.ok.hd hc) ⟨o, dobj_at I hd, en.ex, en.dat⟩ hsz fun h' tk acc c hk hD hacc => ?_
    have e1 : acc.toList = es.toList.map (·.key) := by
      refine List.ext_getElem? fun j => ?_
      by_cases hj : j < es.size
      · have hj2 : j < acc.size := by rw [hacc.1]; exact hj
        obtain ⟨_, e⟩ := hacc.2 j acc[j] (by simp [hj2])
        simp [hj, hj2, e]
      · have hj2 : ¬ j < acc.size := by rw [hacc.1]; exact hj
        rw [List.getElem?_eq_none (by simpa using hj2), List.getElem?_eq_none (by simpa using hj)]
    refine ⟨.ref s.heap.objs.size, _, I.laid (t' := tk) hk (Nat.le_refl _) (o := .lst kvv) ⟨lim_line hl, acc.toList, c, by rw [e1]; exact en.ks, by simpa using hD⟩, rfl, q _ (I.hok.fresh (Nat.le_refl _))⟩
end
/-- list(d) -/
def eLstD (ma : Env → RE) : Env → RE := fun env => (ma env).bind fun x _ e1 => match x with
  | .dct _ ks _ => if ks.length ≤ lim then .ok (.lst ks) true e1 else .no
  | _ => .no
section
variable [LamDefs] {X : Cx} {W : WX} {k : Nat} {a : Expr} {p pos : Pos} {ma mb : Env → RE} {pa pb sa sb : Bool}
theorem pLstD (g : Gd k X W) (hm : X.mg "list" = none) (ha : PE X a (tI X.K X.mg W true pa ma)) (hg : X.env.kindOf "list" = some .globalImplicit := by kernel_rfl) (he : starEach [a] X.env = (false, eval a X.env) :: starEach [] X.env := by rfl) : PE X (.Call (.Name "list" p) [a] [] pos) (tI X.K X.mg W true pa (eLstD ma)) := by
  refine PE.imp (pe_callTy (call_lstD g.calm) hg hm (by decide +kernel) (pa_cons ha pa_nil he) (by decide) (by decide) he rfl) fun σ H Q ⟨Hf, env, R, gg⟩ => ?_
  refine ⟨Hf, env, R, GE.first (fun h => h) gg fun d1 f1 e1 v1 H1 Hf1 _ R1 t1 z1 g1 => ?_⟩
  obtain ⟨Hf1, R1, t1, z1⟩ := stab R R1 t1 z1
  cases d1 <;> try exact g1.elim
  rename_i tk ks ds _ _
  dsimp only at g1
  cases z1 with
  | dct h hs hl sh r1 r2 =>
  by_cases hz : ks.length ≤ lim
  · rw [if_pos hz] at g1
    exact ⟨_, _, tk, ks, _, _, rfl, R1.le _ _ h, hs, by rw [← r1.length]; exact hl, sh, fun q hq => GE.out g1 t1 (fun h => h) R1 (.lst hq r1)⟩
  · rw [if_neg hz] at g1; exact g1.elim
/-! ### sum(d.values()) -/
def viewV (a : Addr) : Obj := { cls := .type "dict_values", data := .fields #[.ref a] }
def tVals (te : TE) : TE := fun σ H Q => te σ H fun x H1 => ∃ (a : Addr) (o : Obj) (tk : Bool) (ks : List D) (kvv vvs : List V), x = .ref a ∧ H1 a = some (DObj a o) ∧ (a == sysModules) = false ∧ DSh tk o ks kvv vvs ∧ ∀ q, H1 q = none → q ≠ a → Q (.ref q) (upd H1 q (DObj q (viewV a)))
theorem pe_vals {e : Expr} {te : TE} {apos cpos : Pos} (he : PE X e te) (hbase : attributeBase e "values" X.env (eval e X.env) = eval e X.env) (hline : (apos.endLine == cpos.line) = true) : PE X (.Call (.Attribute e "values" apos) [] [] cpos) (tVals te) := by
  refine ⟨fun pins s σ H Q I h => ?_⟩
  refine wpAny_Call_method (T := "dict") (id := "dict.values") hbase rfl hline PySem.F.plainAttrs_dict PySem.F.slot_dict_values PySem.F.type_dict_values (thn (he.run pins s σ H _ I h) fun u s1 ⟨x, H1, I1, rx, d, o, tk, ks, kvv, vvs, ex, hd, hs, sh, q⟩ => ?_)
  subst ex
  obtain rfl : u = Value.ref d := rx
  obtain ⟨es, ep, en⟩ := dsh_ent X.prog X.w sh
  obtain ⟨r1, r2⟩ := dct_recv I1 hd en.ex
  refine ⟨r1, r2, ?_⟩
  have raw : s1.heap.DictRaw d es ep := ⟨o, dobj_at I1 hd, en.ex, en.dat⟩
  have new : (s1.heap.push (viewV d)).get? s1.heap.objs.size = some (viewV d) := Heap.get?_push_size _ rfl
  have I2 : Inv X pins σ (upd H1 s1.heap.objs.size (DObj s1.heap.objs.size (viewV d))) { s1 with heap := s1.heap.push (viewV d) } :=
    I1.laid (t' := s1.toks) (fun b ob z => Heap.get?_push_of_some _ z) (Nat.le_refl _) ⟨new, ⟨_, new⟩, fun h1 h2 q st => st _ q⟩
  show wpAny _ _ (callWith cpos (.builtin "dict.values") [.ref d] [] []) _ X.xe s1
  exact method_meetsIn PySem.F.slot_dict_values PySem.F.entry_dict_values rfl (PySem.evalArgs_none ⟨rfl, r1, PySem.F.args_dict_values_1 _, _, meets_dict_values_raw d hs, ⟨es, ep, raw⟩,
    ⟨.ref s1.heap.objs.size, _, I2, rfl, q _ (I1.hok.fresh (Nat.le_refl _)) (Nat.ne_of_gt (Heap.lt_size (dobj_at I1 hd)))⟩⟩)
theorem preSum_list (f : Nat → Int) : ∀ (is : List Int), (∀ i (h : i < is.length), f i = is[i]) → preSum f is.length = is.sum := fun is h => by
  have key : ∀ n, n ≤ is.length → preSum f n = (is.take n).sum := fun n => by
    induction n with
    | zero => intro _; simp [preSum]
    | succ n ih =>
      intro hn
      show preSum f n + f n = _
      rw [ih (by omega), h n (by omega), List.take_succ_eq_append_getElem (by omega), List.sum_append]
      simp
  have := key is.length (Nat.le_refl _)
  rw [List.take_length] at this
  exact this
def rSumV : List V → Hp → VK → Prop := fun xs H Q => ∃ (q a : Addr) (o : Obj) (tk : Bool) (ks : List D) (kvv : List V) (is : List Int), xs = [.ref q] ∧ H q = some (DObj q (viewV a)) ∧ H a = some (DObj a o) ∧ DSh tk o ks kvv (is.map V.int) ∧ Q (.int is.sum) H
theorem call_sumV (hc : X.calm = true) : CallR X (.builtin "sum") rSumV := by
  rintro pins s σ H xs us Q I r ⟨q, a, o, tk, ks, kvv, is, rfl, hq, hd, sh, hQ⟩
  match us, r with
  | [_], .cons rx .nil =>
    cases rx
    obtain ⟨es, ep, en⟩ := dsh_ent X.prog X.w sh
    have hsz : es.size = is.length := by rw [en.sizeV]; simp
    have at_ : ∀ i (hi : i < es.size), ∃ t, es[i].val = .int (is.getD i 0) t := fun i hi => by
      obtain ⟨v, e1, e2⟩ := ent_val en hi
      have hi2 : i < is.length := by omega
      rw [List.getElem?_map, List.getElem?_eq_getElem hi2] at e1
      cases e1
      obtain ⟨t, e3⟩ := e2
      exact ⟨t, by rw [e3, List.getD_eq_getElem?_getD, List.getElem?_eq_getElem hi2]; rfl⟩
    have lq : q < s.heap.objs.size := Heap.lt_size (dobj_at I hq)
    have la : a < s.heap.objs.size := Heap.lt_size (dobj_at I hd)
    refine call_sum_walkAnyS ?_
    obtain ⟨oI, St, hit, W, st⟩ := (src_vals (prog := X.prog) (w := X.w) (r := q) (d := a) (es := es) (ep := ep)).iter X.A.in1 s (I.ok.hd hc) ⟨⟨_, dobj_at I hq, rfl, rfl⟩, o, dobj_at I hd, en.ex, en.dat⟩
    refine hit _ _ ⟨s.heap.objs.size, _, _, _, es.size, _, _, fun i => is.getD i 0, rfl, W.toS, st, fun b hb => ?_, fun i v ⟨hi, e⟩ => by rw [e]; exact at_ i hi, fun s2 t2 hm => ?_⟩
    · show b < (s.heap.push oI).objs.size
      rw [Heap.size_push]
      rcases List.mem_cons.mp hb with e | hb
      · rw [e]; exact Nat.lt_succ_self _
      · rw [List.mem_singleton.mp hb]; exact Nat.lt_succ_of_lt la
    · have hk : ∀ b o, s.heap.get? b = some o → s2.heap.get? b = some o := fun b o e =>
        hm.heap b o (fun hI => absurd (Heap.lt_size e) (by rw [List.mem_singleton.mp hI]; exact Nat.lt_irrefl _)) (Heap.get?_push_of_some _ e)
      rw [Moved.eq_with hm]
      have hs : preSum (fun i => is.getD i 0) es.size = is.sum := by
        rw [hsz]
        exact preSum_list _ is fun i hi => by rw [List.getD_eq_getElem?_getD, List.getElem?_eq_getElem hi]; rfl
      rw [hs]
      exact ⟨.int is.sum, H, I.kept (t' := s2.toks) hk, ⟨_, rfl⟩, hQ⟩
end
def eSumV (ma : Env → RE) : Env → RE := fun env => (ma env).bind fun x _ e1 => match x with
  | .dct _ _ ds => (match intsOf ds with
    | some is => .ok (.int is.sum) false e1
    | none => .no)
  | _ => .no
/-- max, min of two -/
def eMx2 (ms : Env → REs) : Env → RE := fun env => match ms env with
  | .ok [.int i, .int j] e1 => .ok (.int (if j > i then j else i)) false e1
  | _ => .no
def eMn2 (ms : Env → REs) : Env → RE := fun env => match ms env with
  | .ok [.int i, .int j] e1 => .ok (.int (if j < i then j else i)) false e1
  | _ => .no
section
variable [LamDefs] {X : Cx} {W : WX} {k : Nat} {a b : Expr} {p pos : Pos} {ma mb : Env → RE} {ms : Env → REs} {pa pb sa sb st ps : Bool}
theorem pSumV {apos cpos : Pos} (g : Gd k X W) (hm : X.mg "sum" = none) (ha : PE X a (tI X.K X.mg W true pa ma)) (hbase : attributeBase a "values" X.env (eval a X.env) = eval a X.env := by rfl) (hline : (apos.endLine == cpos.line) = true := by rfl)
    (hg : X.env.kindOf "sum" = some .globalImplicit := by kernel_rfl) (he : starEach [.Call (.Attribute a "values" apos) [] [] cpos] X.env = (false, eval (.Call (.Attribute a "values" apos) [] [] cpos) X.env) :: starEach [] X.env := by rfl) :
    PE X (.Call (.Name "sum" p) [.Call (.Attribute a "values" apos) [] [] cpos] [] pos) (tI X.K X.mg W true pa (eSumV ma)) := by
  refine PE.imp (pe_callB (call_sumV g.calm) hg hm (by decide +kernel) (pa_cons (pe_vals ha hbase hline) pa_nil he) (by decide) (by decide) he rfl) fun σ H Q ⟨Hf, env, R, gg⟩ => ?_
  refine ⟨Hf, env, R, GE.first (fun h => h) gg fun d1 f1 e1 v1 H1 Hf1 _ R1 t1 z1 g1 => ?_⟩
  obtain ⟨Hf1, R1, t1, z1⟩ := stab R R1 t1 z1
  cases d1 <;> try exact g1.elim
  rename_i tk ks ds _ _
  dsimp only at g1
  cases z1 with
  | dct h hs hl sh r1 r2 =>
  cases qi : intsOf ds with
  | none => simp only [qi] at g1; exact g1.elim
  | some is =>
    simp only [qi] at g1
    have e := r2.ints qi
    subst e
    refine ⟨_, _, tk, ks, _, _, rfl, R1.le _ _ h, hs, sh, fun q hq hne => ?_⟩
    obtain ⟨R2, t2⟩ := R1.grow (pu := true) (o := DObj q (viewV _)) hq
    exact ⟨q, _, _, tk, ks, _, is, rfl, upd_same, by rw [upd_ne hne.symm]; exact R1.le _ _ h, sh, GE.fin g1 (t1.trans t2) (fun h => by rw [h]; rfl) R2 (VR.old (.int _))⟩
theorem pMx2 (g : Gd k X W) (hm : X.mg "max" = none) (ha : QA X W [a, b] 2 st ps ms) (hg : X.env.kindOf "max" = some .globalImplicit := by kernel_rfl) (he : starEach [a, b] X.env = (false, eval a X.env) :: starEach [b] X.env := by rfl) (hpl : (backTo pos (starEach [b] X.env)).any (·.1) = false := by rfl) :
    PE X (.Call (.Name "max" p) [a, b] [] pos) (tI X.K X.mg W true ps (eMx2 ms)) := by
  refine PE.imp (pe_callB (call_max2 g.calm) hg hm (by decide +kernel) ha.pa (by decide) (by decide) he hpl) fun σ H Q ⟨Hf, env, R, gg⟩ => ⟨Hf, env, R, ?_⟩
  unfold eMx2 at gg
  cases q : ms env with
  | no => rw [q] at gg; exact gg.elim
  | ex c e1 => rw [q] at gg; exact gg.elim
  | ok ds e1 =>
    have hl := ha.len env ds e1 q
    rw [q] at gg
    intro vs H1 Hf1 R1 t1 rs
    match ds, hl, rs, gg with
    | [u, v], _, rs, gg =>
      cases u <;> try exact gg.elim
      cases v <;> try exact gg.elim
      match rs with
      | .cons (.int i) (.cons (.int j) .nil) => exact ⟨i, j, rfl, GE.fin gg t1 (fun h => h) R1 (VR.old (.int _))⟩
theorem pMn2 (g : Gd k X W) (hm : X.mg "min" = none) (ha : QA X W [a, b] 2 st ps ms) (hg : X.env.kindOf "min" = some .globalImplicit := by kernel_rfl) (he : starEach [a, b] X.env = (false, eval a X.env) :: starEach [b] X.env := by rfl) (hpl : (backTo pos (starEach [b] X.env)).any (·.1) = false := by rfl) :
    PE X (.Call (.Name "min" p) [a, b] [] pos) (tI X.K X.mg W true ps (eMn2 ms)) := by
  refine PE.imp (pe_callB (call_min2 g.calm) hg hm (by decide +kernel) ha.pa (by decide) (by decide) he hpl) fun σ H Q ⟨Hf, env, R, gg⟩ => ⟨Hf, env, R, ?_⟩
  unfold eMn2 at gg
  cases q : ms env with
  | no => rw [q] at gg; exact gg.elim
  | ex c e1 => rw [q] at gg; exact gg.elim
  | ok ds e1 =>
    have hl := ha.len env ds e1 q
    rw [q] at gg
    intro vs H1 Hf1 R1 t1 rs
    match ds, hl, rs, gg with
    | [u, v], _, rs, gg =>
      cases u <;> try exact gg.elim
      cases v <;> try exact gg.elim
      match rs with
      | .cons (.int i) (.cons (.int j) .nil) => exact ⟨i, j, rfl, GE.fin gg t1 (fun h => h) R1 (VR.old (.int _))⟩
end
end Cor
set_option Elab.async false
set_option linter.all false
set_option maxRecDepth 100000
set_option maxHeartbeats 2000000
/-! CorR: tuple(d). -/
namespace Cor
open PySem PySem.Spec PyProof.Rows L2
section
variable {prog : Program} {w : World} {A : Around} {E : Value → Shared → Prop} {s : Shared} {d : Addr} {n : Nat} {P : Nat → Value → Prop} {OK : Heap → Prop}
theorem code_tupD {Q₁ : Value → Shared → Prop} (K : PySem.W.KdlSrc prog w "dict" d d n P OK) (hh : A.handled = none) (hok : OK s.heap) (hn : n ≤ sizeLine)
    (h : ∀ (g : Heap) (tk : Nat) (acc : Array Value), (∀ b o, s.heap.get? b = some o → g.get? b = some o) → ItemsOf P acc n → Q₁ (.ref g.objs.size) { s with heap := g.push { cls := .type "tuple", data := .seq acc }, toks := tk }) :
    codeAny (model prog w) A (.call (.builtin "tuple.__new__") ⟨[.type "tuple", .ref d], []⟩) (wants Q₁ E) s := by
  refine codeAny_of_tree ?_
  show wpAny _ A.in1 (do checkBuiltinCall "tuple.__new__" ⟨[.type "tuple", .ref d], []⟩; again (.builtin "tuple.__new__" ⟨[.type "tuple", .ref d], []⟩)) _ _ s
  refine wpAny_bind (wpAny_of_eq (PySem.F.newCall_tuple_1 _) (wpAny_pure ⟨plainId_quiet PySem.F.plain_tuple_new _, codeAny_builtin PySem.F.entry_tuple_new ?_⟩))
  rw [Around.under_plainId PySem.F.plain_tuple_new _]
  have e1 := sub_tuple_self
  have e2 := init_tuple_lookup
  have e3 := madeHere_tuple
  have tI := K.type s hok
  have hh1 : A.in1.handled = none := hh
  wp_walk using wpAny_typeOf tI, PySem.W.kdu_collect (A := A.in1) K hh1 hok hn
  intro g tk acc hk hacc
  show wpAny _ _ (Builtin.Tuple.tupleExact acc.toList.toArray >>= fun v => ret v) _ _ _
  unfold Builtin.Tuple.tupleExact
  have e4 : acc.toList.toArray = acc := by simp
  rw [e4]
  exact wpAny_bind (wpAny_newObj_type (wpAny_pure (h g tk acc hk hacc)) (by show acc.size ≤ sizeLine; rw [hacc.1]; exact hn))
theorem call_tupD0 {Q : Value → Shared → Prop} (K : PySem.W.KdlSrc prog w "dict" d d n P OK) (hh : A.handled = none) (hok : OK s.heap) (hn : n ≤ sizeLine)
    (hQ : ∀ (g : Heap) (tk : Nat) (acc : Array Value), (∀ b o, s.heap.get? b = some o → g.get? b = some o) → ItemsOf P acc n → Q (.ref g.objs.size) { s with heap := g.push { cls := .type "tuple", data := .seq acc }, toks := tk }) :
    wpAny (model prog w) A (call (.type "tuple") [.ref d]) Q E s := by
  refine callType_codes (Q₁ := fun ob t => t.TypeIs ob "tuple" ∧ Q ob t) PySem.F.called_tuple (PySem.F.typeCall_tuple_1 _) PySem.F.entry_object_init
    (code_tupD (A := A.in1) K hh hok hn fun g tk acc hk hacc => ⟨⟨_, Heap.get?_push_size _ rfl, rfl⟩, hQ g tk acc hk hacc⟩) fun ob t ht => ?_
  exact ⟨ht.1, PySem.F.args_object_init_2 ob _, object_init_meets PySem.F.called_tuple.init.lookup PySem.F.called_tuple.made (by decide) prog w A.in1 _ t ⟨ht.1, rfl, ht.2⟩⟩
end
section
variable [LamDefs] {X : Cx}
def rTupD : List V → Hp → VK → Prop := fun xs H Q => ∃ (a : Addr) (o : Obj) (tk : Bool) (ks : List D) (kvv vvs : List V), xs = [.ref a] ∧ H a = some (DObj a o) ∧ (a == sysModules) = false ∧ kvv.length ≤ lim ∧ DSh tk o ks kvv vvs ∧ ∀ p, H p = none → Q (.ref p) (upd H p (.tup kvv))
theorem call_tupD (hc : X.calm = true) : CallR X (.type "tuple") rTupD := by
  rintro pins s σ H xs us Q I r ⟨a, o, tk, ks, kvv, vvs, rfl, hd, hs, hl, sh, q⟩
  match us, r with
  | [_], .cons rx .nil =>
    cases rx
    obtain ⟨es, ep, en⟩ := dsh_ent X.prog X.w sh
    have hsz : es.size ≤ sizeLine := by rw [en.sizeK]; exact lim_line hl
    refine call_tupD0 (src_keys (es := es) (ep := ep) hs) (I.ok.hd hc) ⟨o, dobj_at I hd, en.ex, en.dat⟩ hsz fun g tk acc hk hacc => ?_
    have e1 : acc.toList = es.toList.map (·.key) := by
      refine List.ext_getElem? fun j => ?_
      by_cases hj : j < es.size
      · have hj2 : j < acc.size := by rw [hacc.1]; exact hj
        obtain ⟨_, e⟩ := hacc.2 j acc[j] (by simp [hj2])
        simp [hj, hj2, e]
      · have hj2 : ¬ j < acc.size := by rw [hacc.1]; exact hj
        rw [List.getElem?_eq_none (by simpa using hj2), List.getElem?_eq_none (by simpa using hj)]
    have I1 : Inv X pins σ H { s with heap := g } := I.kept (t' := s.toks) hk
    have I2 : Inv X pins σ (upd H g.objs.size (.tup kvv)) { s with heap := g.push { cls := .type "tuple", data := .seq acc }, toks := tk } :=
      I1.laid (t' := tk) (fun b o e => Heap.get?_push_of_some _ e) (Nat.le_refl _) (show ObjOk X.prog X.w _ _ _ (.tup kvv) from ⟨lim_line hl, acc.toList, by rw [e1]; exact en.ks, by
        have := IsTup.new g acc
        simpa using this⟩)
    exact ⟨.ref g.objs.size, _, I2, rfl, q _ (I1.hok.fresh (Nat.le_refl _))⟩
end
/-- tuple(d) -/
def eTupD (ma : Env → RE) : Env → RE := fun env => (ma env).bind fun x _ e1 => match x with
  | .dct _ ks _ => if ks.length ≤ lim then .ok (.tup ks) false e1 else .no
  | _ => .no
section
variable [LamDefs] {X : Cx} {W : WX} {k : Nat} {a : Expr} {p pos : Pos} {ma mb : Env → RE} {pa pb sa sb : Bool}
theorem pTupD (g : Gd k X W) (hm : X.mg "tuple" = none) (ha : PE X a (tI X.K X.mg W true pa ma)) (hg : X.env.kindOf "tuple" = some .globalImplicit := by kernel_rfl) (he : starEach [a] X.env = (false, eval a X.env) :: starEach [] X.env := by rfl) : PE X (.Call (.Name "tuple" p) [a] [] pos) (tI X.K X.mg W true pa (eTupD ma)) := by
  refine PE.imp (pe_callTy (call_tupD g.calm) hg hm (by decide +kernel) (pa_cons ha pa_nil he) (by decide) (by decide) he rfl) fun σ H Q ⟨Hf, env, R, gg⟩ => ?_
  refine ⟨Hf, env, R, GE.first (fun h => h) gg fun d1 f1 e1 v1 H1 Hf1 _ R1 t1 z1 g1 => ?_⟩
  obtain ⟨Hf1, R1, t1, z1⟩ := stab R R1 t1 z1
  cases d1 <;> try exact g1.elim
  rename_i tk ks ds _ _
  dsimp only at g1
  cases z1 with
  | dct h hs hl sh r1 r2 =>
  by_cases hz : ks.length ≤ lim
  · rw [if_pos hz] at g1
    exact ⟨_, _, tk, ks, _, _, rfl, R1.le _ _ h, hs, by rw [← r1.length]; exact hl, sh, fun q hq => GE.out g1 t1 (fun h => h) R1 (.tup hq r1)⟩
  · rw [if_neg hz] at g1; exact g1.elim
end
end Cor
set_option Elab.async false
set_option linter.all false
set_option maxRecDepth 100000
set_option maxHeartbeats 2000000
/-! CorT: l.index(x), l a list. -/
namespace Cor
open PySem PySem.Spec PyProof.Rows L2
theorem pys_get : ∀ (xs : List D) (j : Nat), (pys xs)[j]? = (xs[j]?).map D.py
  | [], j => by simp [pys]
  | x :: xs, 0 => by simp [pys]
  | x :: xs, j + 1 => by
    have := pys_get xs j
    simpa [pys] using this
theorem indexD_spec {a : D} : ∀ {xs : List D} {i k : Nat}, indexD a xs i = some k → ∃ j b, k = i + j ∧ xs[j]? = some b ∧ D.eqv b a = true ∧ ∀ m z, m < j → xs[m]? = some z → D.eqv z a = false
  | [], i, k, h => by simp [indexD] at h
  | b :: bs, i, k, h => by
    unfold indexD at h
    by_cases q : D.eqv b a = true
    · rw [if_pos q] at h
      cases h
      exact ⟨0, b, rfl, rfl, q, fun m z hm => absurd hm (Nat.not_lt_zero _)⟩
    · rw [if_neg q] at h
      obtain ⟨j, c, e, hc, hq, hn⟩ := indexD_spec h
      refine ⟨j + 1, c, by omega, hc, hq, fun m z hm hz => ?_⟩
      cases m with
      | zero => cases hz; simpa using q
      | succ m => exact hn m z (by omega) hz
/-- l.index(x) -/
def eIxL (ma mb : Env → RE) : Env → RE := fun env => (ma env).bind fun x _ e1 => match x with
  | .lst xs => (mb e1).bind fun y _ e2 => outD (m1D .indexL (.lst xs) y) e2
  | _ => .no
section
variable [LamDefs] {X : Cx} {W : WX} {k : Nat} {a o : Expr} {p pos apos : Pos} {ma mb : Env → RE} {pa pb sa sb : Bool}
theorem pIxL (g : Gd k X W) (ho : PE X o (tI X.K X.mg W true pa ma)) (ha : PE X a (tI X.K X.mg W true pb mb)) (hs : starEach [a] X.env = (false, eval a X.env) :: starEach [] X.env := by rfl) (hbase : attributeBase o "index" X.env (eval o X.env) = eval o X.env := by rfl)
    (hfew : ((backTo pos (starEach [a] X.env)).all (fun x => !x.1) && (backToKw pos (keywordEach [] X.env)).all (fun x => x.1.isSome)
      && decide (([a] : List Expr).length + ([] : List Keyword).length + (if ([] : List Keyword).isEmpty then 0 else 1) < 30)) = true := by rfl)
    (hline : (apos.endLine == pos.line) = true := by rfl) (hplain : (backTo pos (starEach [] X.env)).any (·.1) = false := by rfl) :
    PE X (.Call (.Attribute o "index" apos) [a] [] pos) (tI X.K X.mg W true (pa && pb) (eIxL ma mb)) := by
  refine PE.imp (pe_bm PySem.F.plainAttrs_list PySem.F.slot_list_index PySem.F.type_list_index (mt_indexD g.hu) ho (pa_cons ha pa_nil hs) hbase hfew hline hs hplain) fun σ H Q ⟨Hf, env, R, gg⟩ => ?_
  refine ⟨Hf, env, R, gg.first (fun h => (Bool.and_eq_true_iff.mp h).1) fun x fx e1 v H1 Hf1 _ R1 t1 z1 g1 => ?_⟩
  obtain ⟨Hf1, R1, t1, z1⟩ := stab R R1 t1 z1
  cases x <;> try exact g1.elim
  rename_i xs _ _
  have z1' := z1
  have zn := z1.up R1.le
  cases zn with
  | lst h hs' =>
  refine ⟨.inl ⟨rfl, _, h⟩, Hf1, e1, R1, g1.next t1 (fun h => h) fun y fy e2 u H2 Hf2 _ R2 t2 z2 g2 => ?_⟩
  obtain ⟨Hf2, R2, t2, z2⟩ := stab R1 R2 t2 z2
  simp only [m1D] at g2
  split at g2
  · rename_i q
    rw [Bool.and_eq_true] at q
    cases q2 : indexD y xs 0 with
    | none => rw [q2] at g2; exact g2.elim
    | some j0 =>
      rw [q2] at g2
      obtain ⟨j, b, e, hb, hq, hn⟩ := indexD_spec q2
      rw [Nat.zero_add] at e
      subst e
      have rl : Rep X.K X.mg H2 (.lst xs) _ := (z1'.up t2.up).up R2.le
      have ry : Rep X.K X.mg H2 y u := z2.up R2.le
      have o8 := List.all_eq_true.mp q.2
      refine ⟨_, _, y.py, pys xs, j0, b.py, rfl, rfl, rl.dp 9 (ok_up8 q.2).2, ry.dp 8 q.1, py_shaped (a := .lst xs) (ok_up8 q.2).2, py_shaped q.1, by rw [pys_get, hb]; rfl, ?_, ?_, ?_⟩
      · rw [py_eqv 8 b y (o8 b (List.mem_of_getElem? hb)) q.1]; exact hq
      · intro m z' hm hz
        rw [pys_get] at hz
        obtain ⟨z, hz2, rfl⟩ := Option.map_eq_some_iff.mp hz
        rw [py_eqv 8 z y (o8 z (List.mem_of_getElem? hz2)) q.1]; exact hn m z hm hz2
      · exact GE.fin g2 (t1.trans t2) (fun h => h) R2 (VR.old (.int _))
  · exact g2.elim
end
/-! words, computed -/
section
variable {env e : Env} {ma mb : Env → RE} {f : Bool} {xs : List D} {y : D}
def ixLK (r : RE) (mb : Env → RE) : RE := r.bind fun x _ e1 => match x with
  | .lst xs => (mb e1).bind fun y _ e2 => outD (m1D .indexL (.lst xs) y) e2
  | _ => .no
@[simp] theorem x_eIxL : eIxL ma mb env = ixLK (ma env) mb := rfl
@[simp] theorem ixLK_ok : ixLK (.ok (.lst xs) f e) mb = K1 (mb e) fun y e2 => outD (m1D .indexL (.lst xs) y) e2 := rfl
@[simp] theorem m1_ixL : m1D .indexL (.lst xs) y = if (y.okN 8 && xs.all (D.okN 8)) = true then (indexD y xs 0).map fun (k : Nat) => D.int (k : Int) else none := rfl
end
end Cor
set_option Elab.async false
set_option linter.all false
set_option maxRecDepth 100000
set_option maxHeartbeats 2000000
/-! CorO: the display {0: x, 4: y, 6: z}. -/
namespace Cor
open PySem PySem.Spec L2
def eD046 (m1 m2 m3 : Env → RE) : Env → RE := fun env => (m1 env).bind fun x _ e1 => (m2 e1).bind fun y _ e2 => (m3 e2).bind fun z _ e3 => .ok (.dct false [.int 0, .int 4, .int 6] [x, y, z]) true e3
section
variable [LamDefs] {X : Cx} {W : WX} {pos p0 p4 p6 : Pos} {j0 j4 j6 : Nat} {a b c : Expr} {ma mb mc : Env → RE} {pa pb pc : Bool}
def tD046 (tx ty tz : TE) : TE := fun σ H Q => ∀ p o, H p = none → (p == sysModules) = false → (∀ tk, DSh tk o [] [] []) →
  tx σ (upd H p (DObj p o)) fun x H1 => ty σ H1 fun y H2 => tz σ H2 fun z H3 => (V.int 0 = .int 0 ∧ V.int 4 = .int 4 ∧ V.int 6 = .int 6) ∧ H3 p = some (DObj p o) ∧ ∀ o', DSh false o' [.int 0, .int 4, .int 6] [.int 0, .int 4, .int 6] [x, y, z] → Q (.ref p) (upd H3 p (DObj p o'))
theorem pe_d046 {tx ty tz : TE} (hx : PE X a tx) (hy : PE X b ty) (hz : PE X c tz) : PE X (.Dict [some (.Constant (.int 0) j0 p0), some (.Constant (.int 4) j4 p4), some (.Constant (.int 6) j6 p6)] [a, b, c] pos) (tD046 tx ty tz) := by
  refine ⟨fun pins s σ H Q I q => ?_⟩
  have big := I.big
  generalize ho : ({ cls := .type "dict", data := .dict #[] } : Obj) = o
  have at0 : (s.heap.push o).get? s.heap.objs.size = some o := by rw [← ho]; exact Heap.get?_push_size _ rfl
  have J : Inv X pins σ (upd H s.heap.objs.size (DObj s.heap.objs.size o)) { s with heap := s.heap.push o } := I.laid (a := s.heap.objs.size) (t' := s.toks) (fun _ _ q => Heap.get?_push_of_some _ q) (Nat.le_refl _) (ext_ok at0)
  have nsm : (s.heap.objs.size == sysModules) = false := beq_eq_false_iff_ne.mpr (Nat.ne_of_gt big)
  have q1 := q s.heap.objs.size o (I.hok.fresh (Nat.le_refl _)) nsm (by rw [← ho]; exact dsh_nil)
  have ev := (pps_cons (pos := pos) (pe_int (i := 0) (j := j0) (pos := p0)) hx (pps_cons (pe_int (i := 4) (j := j4) (pos := p4)) hy (pps_cons (pe_int (i := 6) (j := j6) (pos := p6)) hz pps_nil))).run pins _ σ _ (fun ps H2 => match ps with
    | [(u, x), (v, y), (w, z)] => (u = .int 0 ∧ v = .int 4 ∧ w = .int 6) ∧ H2 s.heap.objs.size = some (DObj s.heap.objs.size o) ∧ ∀ o', DSh false o' [.int 0, .int 4, .int 6] [.int 0, .int 4, .int 6] [x, y, z] → Q (.ref s.heap.objs.size) (upd H2 s.heap.objs.size (DObj s.heap.objs.size o'))
    | _ => False) J q1
  refine wpAny_Dict_walk (knd := mixKind X.prog X.w) rfl rfl (by simp) (by simp) ?_
  rw [ho]
  refine thn ev fun vs s2 ⟨ps, H2, I2, rel, q2⟩ => ?_
  rcases ps with _ | ⟨⟨u, x⟩, _ | ⟨⟨v, y⟩, _ | ⟨⟨w, z⟩, _ | ⟨q4, ps⟩⟩⟩⟩
  · exact q2.elim
  · exact q2.elim
  · exact q2.elim
  rotate_left
  · exact q2.elim
  obtain ⟨⟨eu, e_v, ew⟩, e2, q3⟩ := q2
  rcases rel with _ | @⟨_, b1, _, _, r1, rel⟩
  rcases rel with _ | @⟨_, b2, _, _, r2, rel⟩
  rcases rel with _ | @⟨_, b3, _, _, r3, rel⟩
  rcases rel with _ | _
  obtain ⟨u', x'⟩ := b1
  obtain ⟨v', y'⟩ := b2
  obtain ⟨w', z'⟩ := b3
  obtain ⟨ru, rx⟩ := r1
  obtain ⟨rv, ry⟩ := r2
  obtain ⟨rw', rz⟩ := r3
  subst eu e_v ew
  obtain ⟨t1, rfl⟩ := ru
  obtain ⟨t2, rfl⟩ := rv
  obtain ⟨t3, rfl⟩ := rw'
  refine ⟨[(.inl 0, x'), (.inl 4, y'), (.inl 6, z')], ⟨mixKind_int _ _ _ _, rfl, mixKind_int _ _ _ _, rfl, mixKind_int _ _ _ _, rfl, trivial⟩, ?_, fun h' dd hs' => ?_⟩
  · refine ⟨o, #[], 0, dobj_at I2 e2, ?_, ?_, (fun e he => by simp at he), .nil, List.nodup_nil⟩
    · rw [← ho]; exact ⟨rfl, rfl, rfl⟩
    · rw [← ho]
  · have hm : merged [] [((Sum.inl 0 : Key), x'), (Sum.inl 4, y'), (Sum.inl 6, z')] = [(Sum.inl 0, x'), (Sum.inl 4, y'), (Sum.inl 6, z')] := rfl
    rw [hm] at dd
    obtain ⟨o', es, ep, g1, g2, g3, g4, g5, g6⟩ := dd
    refine ⟨.ref s.heap.objs.size, _, I2.write (x := s.heap.objs.size) (e := s.heap.objs.size) (by rw [e2]; exact True.intro) (.inl rfl) (fun b q hb z => (hs'.2 b hb).trans z) ⟨o', g1⟩ (ext_ok g1), rfl, q3 o' ?_⟩
    unfold DSh
    rw [if_neg Bool.false_ne_true]
    have hin : ∀ x ∈ [((Sum.inl 0 : Key), x'), (Sum.inl 4, y'), (Sum.inl 6, z')], ∃ j, x.1 = Sum.inl j := fun x hx => by
      simp only [List.mem_cons, List.not_mem_nil, or_false] at hx
      rcases hx with rfl | rfl | rfl <;> exact ⟨_, rfl⟩
    refine ⟨es, ep, _, g2, g3, fun P w' => ⟨keysOf_any g4 g5 hin, pairs_any g5⟩, g6, rfl, fun k hk' => ?_, .cons rx (.cons ry (.cons rz .nil))⟩
    simp only [List.mem_cons, List.not_mem_nil, or_false] at hk'
    rcases hk' with rfl | rfl | rfl <;> rfl
theorem pD046 {k : Nat} (g : Gd k X W) (ha : PE X a (tI X.K X.mg W true pa ma)) (hb : PE X b (tI X.K X.mg W true pb mb)) (hc : PE X c (tI X.K X.mg W true pc mc)) :
    PE X (.Dict [some (.Constant (.int 0) j0 p0), some (.Constant (.int 4) j4 p4), some (.Constant (.int 6) j6 p6)] [a, b, c] pos) (tI X.K X.mg W true (pa && pb && pc) (eD046 ma mb mc)) := by
  refine PE.imp (pe_d046 ha hb hc) fun σ H Q ⟨Hf, env, R, g⟩ => fun p o hp hs sh => ?_
  obtain ⟨R0, t0⟩ := R.grow (pu := true) (o := DObj p o) hp
  unfold eD046 at g
  have hfp := R.freshF hp
  obtain ⟨es, ep, hd⟩ := (sh true).dict
  have stay : ∀ {pu : Bool} {Hx Hfx : Hp} {ex : Env}, Tr pu Hf (upd H p (DObj p o)) env Hfx Hx ex σ → Hx p = some (DObj p o) ∧ Hfx p = none := fun {pu Hx Hfx ex} t => by
    have no : ¬ OwnAt env σ p := R.fresh (noT_none hp)
    refine ⟨t.fr p _ upd_same (fun ps e => nomatch e) no, ?_⟩
    cases q : Hfx p with
    | none => rfl
    | some u =>
      rcases t.new p (by rw [q]; simp) with z | z | z
      · exact absurd hfp z
      · rw [noC_some (o := DObj p o) upd_same (fun ps e => nomatch e) (fun q => dobj_code hd rfl)] at z; cases z
      · exact absurd z no
  refine ⟨Hf, env, R0, GE.next (p1 := true) t0 (fun h => by rw [(Bool.and_eq_true_iff.mp (Bool.and_eq_true_iff.mp h).1).1]; rfl) g fun d1 f1 e1 v1 H1 Hf1 _ R1 t1 z1 g1 => ?_⟩
  obtain ⟨Hf1, R1, t1, z1⟩ := stab R0 R1 t1 z1
  refine ⟨Hf1, e1, R1, GE.next (t0.trans t1) (fun h => by simp at h ⊢; exact ⟨h.1.1, h.1.2⟩) g1 fun d2 f2 e2 v2 H2 Hf2 _ R2 t2 z2 g2 => ?_⟩
  obtain ⟨Hf2, R2, t2, z2⟩ := stab R1 R2 t2 z2
  refine ⟨Hf2, e2, R2, GE.next ((t0.trans t1).trans t2) (fun h => by simpa using h) g2 fun d3 f3 e3 v3 H3 Hf3 _ R3 t3 z3 g3 => ?_⟩
  obtain ⟨Hf3, R3, t3, z3⟩ := stab R2 R3 t3 z3
  obtain ⟨s1, s2⟩ := stay ((t1.trans t2).trans t3)
  refine ⟨⟨rfl, rfl, rfl⟩, s1, fun o' sh' => ?_⟩
  have no2 : ¬ OwnAt e3 σ p := fun z => R.fresh (noT_none hp) (((z.back t3.mt).back t2.mt).back t1.mt)
  have c0 : Cont X.K X.mg Hf3 H3 (.dct false [] []) p := .dct s1 hs (Nat.zero_le _) (sh false) .nil .nil
  have R4 := R3.updN (o := DObj p o') s2 no2 fun u e => c0.not e
  have t4 := ((t0.trans t1).trans t2).trans t3
  have T : Tr (pa && pb && pc) Hf H env Hf3 (upd H3 p (DObj p o')) e3 σ := by
    refine ⟨t4.up, t4.len, t4.mt, t4.io, fun a o h x n => ?_, t4.new, fun h a o q x => ?_, fun a h => ?_⟩
    · rw [upd_ne (ne_of_none h hp)]; exact t4.fr a o h x n
    · rw [upd_ne (ne_of_none q hp)]; exact t4.pure (by simpa using h) a o q x
    · by_cases ea : a = p
      · rw [ea, noT_some (o := DObj p o') upd_same (fun ps e => nomatch e)]; simp
      · have q := t4.there a h
        unfold noT at q ⊢
        rw [upd_ne ea]; exact q
  exact g3 _ _ Hf3 R4 T (VR.new hp s2 (.dct upd_same hs (by simp [lim]) sh' (.cons (.int 0) (.cons (.int 4) (.cons (.int 6) .nil))) (.cons ((z1.up t2.up).up t3.up) (.cons (z2.up t3.up) (.cons z3 .nil)))))
def d046K (r : RE) (mb mc : Env → RE) : RE := r.bind fun x _ e1 => (mb e1).bind fun y _ e2 => (mc e2).bind fun z _ e3 => .ok (.dct false [.int 0, .int 4, .int 6] [x, y, z]) true e3
def d046K2 (x : D) (r : RE) (mc : Env → RE) : RE := r.bind fun y _ e2 => (mc e2).bind fun z _ e3 => .ok (.dct false [.int 0, .int 4, .int 6] [x, y, z]) true e3
def d046K3 (x y : D) (r : RE) : RE := r.bind fun z _ e3 => .ok (.dct false [.int 0, .int 4, .int 6] [x, y, z]) true e3
variable {env e : Env} {x y z : D} {f : Bool}
@[simp] theorem x_eD046 : eD046 ma mb mc env = d046K (ma env) mb mc := rfl
@[simp] theorem d046K_ok : d046K (.ok x f e) mb mc = d046K2 x (mb e) mc := rfl
@[simp] theorem d046K2_ok : d046K2 x (.ok y f e) mc = d046K3 x y (mc e) := rfl
@[simp] theorem d046K3_ok : d046K3 x y (.ok z f e) = .ok (.dct false [.int 0, .int 4, .int 6] [x, y, z]) true e := rfl
end
end Cor
set_option Elab.async false
set_option linter.all false
set_option maxRecDepth 100000
set_option maxHeartbeats 2000000
/-! CorY: t.index(x), t a tuple of texts. -/
namespace Cor
open PySem PySem.Spec PyProof.Rows L2
def rIxT (K : PySem.W.Frag) : V → List V → Hp → VK → Prop := fun x xs H Q => ∃ (a : Addr) (ys : List Str) (k : Str), x = .ref a ∧ SqT K H a (ys.map V.str) ∧ xs = [.str k] ∧ k ∈ ys ∧ Q (.int (ys.idxOf k : Nat)) H
theorem strs_are : ∀ {ys : List Str} {us : List Value}, Vals (ys.map V.str) us → StrsAre us ys
  | [], _, .nil => .nil
  | y :: ys, _, .cons r t => by
    obtain ⟨k, rfl⟩ := r
    exact .cons y k (strs_are t)
theorem mt_ixT {X : Cx} : MtR X "tuple.index" (rIxT X.K) := by
  intro pins s σ H x xs v us Q I rx rxs h
  obtain ⟨a, ys, k, rfl, hs, rfl, hk, q⟩ := h
  cases rx
  cases rxs with
  | cons rk rt =>
    cases rt
    obtain ⟨t, rfl⟩ := rk
    obtain ⟨its, rv, p, _⟩ := I.tuple hs
    exact SeqAt.tuple_index_strs p (strs_are rv) hk ⟨.int (ys.idxOf k : Nat), H, I.tok _, ⟨_, rfl⟩, q⟩
def ixT (xs : List D) (y : D) : Option D := match strsOf xs, y with
  | some ys, .str k => if k ∈ ys then some (.int (ys.idxOf k : Nat)) else none
  | _, _ => none
def eIxT (ma mb : Env → RE) : Env → RE := fun env => (ma env).bind fun x _ e1 => match x with
  | .tup xs => (mb e1).bind fun y _ e2 => outD (ixT xs y) e2
  | _ => .no
theorem idx_str [LamDefs] (k : List Nat) : ∀ ys : List (List Nat), (ys.map fun x => (⟨x.toArray⟩ : Str)).idxOf ⟨k.toArray⟩ = ys.idxOf k
  | [] => rfl
  | y :: ys => by
    rw [List.map_cons, List.idxOf_cons, List.idxOf_cons, idx_str k ys, str_eq]
    by_cases h : y = k
    · subst h; simp
    · rw [decide_eq_false h, show (y == k) = false by simpa using h]
section
variable [LamDefs] {X : Cx} {W : WX} {k : Nat} {a : Expr} {p pos apos : Pos} {mb : Env → RE} {pb : Bool}
/-- x.index(a), x a global tuple of texts -/
theorem pIxG {x : Str} (ds : List D) {vs : List V} (hm : ∃ a, X.mg x = some (.ref a) ∧ ∀ H, SqT X.K H a vs) (hq : ∃ a o, X.mg x = some (.ref a) ∧ X.K.lookup a = some o ∧ o.cls = .type "tuple" ∧ o.dict = none) (hr : ∀ H, Reps X.K X.mg H ds vs) (ha : PE X a (tI X.K X.mg W true pb mb)) (hg : X.env.kindOf x = some .globalImplicit := by kernel_rfl) (hd : (x == ("__debug__" : Str)) = false := by kernel_rfl)
    (hs : starEach [a] X.env = (false, eval a X.env) :: starEach [] X.env := by rfl) (hbase : attributeBase (.Name x p) "index" X.env (eval (.Name x p) X.env) = eval (.Name x p) X.env := by rfl)
    (hfew : ((backTo pos (starEach [a] X.env)).all (fun x => !x.1) && (backToKw pos (keywordEach [] X.env)).all (fun x => x.1.isSome)
      && decide (([a] : List Expr).length + ([] : List Keyword).length + (if ([] : List Keyword).isEmpty then 0 else 1) < 30)) = true := by rfl)
    (hline : (apos.endLine == pos.line) = true := by rfl) (hplain : (backTo pos (starEach [] X.env)).any (·.1) = false := by rfl) :
    PE X (.Call (.Attribute (.Name x p) "index" apos) [a] [] pos) (tI X.K X.mg W true pb (eIxT (eLit (.tup ds)) mb)) := by
  obtain ⟨b, h1, h2⟩ := hm
  obtain ⟨b', o, h3, h4, h5, h6⟩ := hq
  rw [h1] at h3
  cases h3
  refine PE.imp (pe_bm PySem.F.plainAttrs_tuple PySem.F.slot_tuple_index PySem.F.type_tuple_index mt_ixT (pe_glob (v := .ref b) hg h1 rfl hd) (pa_cons ha pa_nil hs) hbase hfew hline hs hplain) fun σ H Q ⟨Hf, env, R, g1⟩ => ?_
  refine ⟨.inr (.inl ⟨rfl, o, h4, h5, h6⟩), Hf, env, R, ?_⟩
  have g1 : GE X.K X.mg W true pb Hf H env σ Q ((mb env).bind fun y _ e2 => outD (ixT ds y) e2) := g1
  refine g1.first (fun h => h) fun y fy e2 u H2 Hf2 _ R2 t2 z2 g2 => ?_
  obtain ⟨Hf2, R2, t2, z2⟩ := stab R R2 t2 z2
  unfold ixT at g2
  cases e : strsOf ds with
  | none => rw [e] at g2; exact g2.elim
  | some ys =>
    rw [e] at g2
    cases y <;> try exact g2.elim
    rename_i k0 _ _
    dsimp only at g2
    split at g2
    · rename_i hk
      have ev := (hr Hf2).strs e
      subst ev
      obtain rfl := z2.strInv
      refine ⟨_, ys.map fun x => (⟨x.toArray⟩ : Str), ⟨k0.toArray⟩, rfl, by rw [List.map_map]; exact h2 H2, rfl, List.mem_map.mpr ⟨k0, hk, rfl⟩, ?_⟩
      rw [idx_str]
      exact GE.fin g2 t2 (fun h => h) R2 (VR.old (.int _))
    · exact g2.elim
end
/-- what the head checks -/
def tupQ (K : PySem.W.Frag) (x : Str) : Bool := match K.lookup (He.ga K x) with
  | some o => decide (o.cls = .type "tuple") && decide (o.dict = none)
  | none => false
theorem tupQ_ok {K : PySem.W.Frag} {mg : Str → Option Value} {x : Str} (h : tupQ K x = true) (hg : mg x = some (.ref (He.ga K x))) : ∃ a o, mg x = some (.ref a) ∧ K.lookup a = some o ∧ o.cls = .type "tuple" ∧ o.dict = none := by
  unfold tupQ at h
  cases q : K.lookup (He.ga K x) with
  | none => rw [q] at h; cases h
  | some o =>
    rw [q] at h
    rw [Bool.and_eq_true] at h
    exact ⟨_, o, hg, q, of_decide_eq_true h.1, of_decide_eq_true h.2⟩
/-! computed -/
section
variable {env e : Env} {ma mb : Env → RE} {f : Bool} {xs : List D} {y : D}
def ixTK (r : RE) (mb : Env → RE) : RE := r.bind fun x _ e1 => match x with
  | .tup xs => (mb e1).bind fun y _ e2 => outD (ixT xs y) e2
  | _ => .no
@[simp] theorem x_eIxT : eIxT ma mb env = ixTK (ma env) mb := rfl
@[simp] theorem ixTK_ok : ixTK (.ok (.tup xs) f e) mb = K1 (mb e) fun y e2 => outD (ixT xs y) e2 := rfl
end
end Cor
set_option Elab.async false
set_option linter.all false
set_option maxRecDepth 100000
set_option maxHeartbeats 2000000
/-! CorRv: l[::-1], l a list. -/
namespace Cor
open PySem PySem.Spec L2
def eRev (ma : Env → RE) : Env → RE := fun env => (ma env).bind fun x _ e1 => match x with
  | .lst xs => .ok (.lst xs.reverse) true e1
  | _ => .no
section
variable [LamDefs] {X : Cx} {W : WX} {a : Expr} {ma : Env → RE} {pa : Bool} {k : Nat} {p1 p2' p3 pos : Pos}
theorem Reps.rev {K : PySem.W.Frag} {mg : Str → Option Value} {H : Hp} : ∀ {ds : List D} {vs : List V}, Reps K mg H ds vs → Reps K mg H ds.reverse vs.reverse
  | _, _, .nil => .nil
  | _, _, .cons h hs => by
    rw [List.reverse_cons, List.reverse_cons]
    exact Reps.app (Reps.rev hs) (.one h)
theorem pRev (ha : PE X a (tI X.K X.mg W true pa ma)) : PE X (.Subscript a (.Slice none none (some (.UnaryOp .USub (.Constant (.int 1) k p1) p2')) p3) pos) (tI X.K X.mg W true pa (eRev ma)) := by
  refine PE.imp (pe_revL ha) fun σ H Q ⟨Hf, env, R, g⟩ => ⟨Hf, env, R, g.first (fun h => h) fun x fx e1 v H1 Hf1 _ R1 t1 z1 g1 => ?_⟩
  obtain ⟨Hf1, R1, t1, z1⟩ := stab R R1 t1 z1
  cases x <;> try exact g1.elim
  rename_i xs _ _
  obtain ⟨b, vs, rfl, h1, h2⟩ := z1.lstInv
  refine ⟨b, vs, rfl, R1.le.seq h1, fun p hp => ?_⟩
  obtain ⟨R2, t2⟩ := R1.grow (pu := pa) (o := .lst vs.reverse) hp
  exact g1 _ _ _ R2 ((t1.trans t2).weak fun h => by simpa using h) (VR.back (VR.new hp (R1.freshF hp) (.lst upd_same h2.rev)) t1.there)
variable {env e : Env} {f : Bool} {xs : List D}
def revF (x : D) (e1 : Env) : RE := match x with
  | .lst xs => .ok (.lst xs.reverse) true e1
  | _ => .no
@[simp] theorem x_eRev : eRev ma env = K1 (ma env) revF := rfl
@[simp] theorem revF_ok : revF (.lst xs) e = .ok (.lst xs.reverse) true e := rfl
end
end Cor
set_option Elab.async false
set_option linter.all false
set_option maxRecDepth 100000
set_option maxHeartbeats 2000000
/-! CorZ: zip of two values, each a list, a tuple or a text. -/
namespace Cor
open PySem PySem.Spec L2
variable [LamDefs]
/-- a list or a tuple that can be seen is no iterator's own object -/
theorem not_fpL {X : Cx} {pins : List (Addr × Obj)} {σ : St} {H : Hp} {s : Shared} {a : Addr} {xs : List V} (I : Inv X pins σ H s) (h : SqL X.K H a xs) : ¬ FpOk X pins H a := by
  intro f
  rcases h with h | ⟨o, its, n, hk, _⟩
  · rcases h with h | ⟨_, h⟩ <;> (rw [f.1] at h; cases h)
  · have e := I.ok.mod.kin a o hk
    rcases f.2.2.2.1 with z | z
    · exact I.ok.noex a o e z
    · exact absurd (Nat.lt_of_lt_of_le (Heap.lt_size e) (Nat.le_trans I.ok.bsz z)) (Nat.lt_irrefl _)
theorem not_fpT {X : Cx} {pins : List (Addr × Obj)} {σ : St} {H : Hp} {s : Shared} {a : Addr} {xs : List V} (I : Inv X pins σ H s) (h : SqT X.K H a xs) : ¬ FpOk X pins H a := by
  intro f
  rcases h with h | ⟨o, its, n, hk, _⟩
  · rcases h with h | ⟨_, h⟩ <;> (rw [f.1] at h; cases h)
  · have e := I.ok.mod.kin a o hk
    rcases f.2.2.2.1 with z | z
    · exact I.ok.noex a o e z
    · exact absurd (Nat.lt_of_lt_of_le (Heap.lt_size e) (Nat.le_trans I.ok.bsz z)) (Nat.lt_irrefl _)
/-- what draws the values of one of the two -/
structure Src (P : Program) (w : World) (K : PySem.W.Frag) (G : Hp → Prop) (n : Nat) (Y : Nat → V → Prop) (it : Addr) (tn : Nat → Heap → Prop) : Prop where
  obj : ∀ i h, tn i h → ∃ o, h.get? it = some o ∧ ∀ v, o.data ≠ .cell v
  keep : ∀ i h h', tn i h → (∀ o, h.get? it = some o → h'.get? it = some o) → tn i h'
  draw : ∀ (X : Cx), X.prog = P → X.w = w → X.K = K → X.calm = true → ∀ (pins : List (Addr × Obj)) (σ : St) (H : Hp) (s : Shared), Inv X pins σ H s → G H → FpOk X pins H it →
    ∃ (Pn : Nat → Value → Prop) (St : Nat → Heap → Prop) (fp : List Addr), Draws P w X.A.in1 it fp n Pn St ∧ it ∈ fp ∧ (∀ b ∈ fp, b = it ∨ ¬ FpOk X pins H b) ∧ (∀ i, tn i s.heap → St i s.heap) ∧ (∀ i h, St i h → tn i h) ∧ ∀ i u, Pn i u → ∃ x, Y i x ∧ RelV x u
theorem src_list {P : Program} {w : World} {K : PySem.W.Frag} (a it : Addr) (xs : List V) : Src P w K (fun H => SqL K H a xs) xs.length (fun i x => xs[i]? = some x) it (fun i h => h.IsListIter it a i) where
  obj := fun i h ⟨o, ho, hc, hd⟩ => ⟨o, ho, fun v q => by rw [hd] at q; cases q⟩
  keep := fun i h h' ht k => ht.at fun o q => k o q
  draw := by
    intro X hP hw hK hc pins σ H s I hq hn
    subst hP hw hK
    obtain ⟨its, rv, p, hz⟩ := I.list hq
    have hl := rv.length
    have nf := not_fpL I hq
    have hne : a ≠ it := fun z => nf (z ▸ hn)
    have dr := Draws.list (prog := X.prog) (w := X.w) (A := X.A.in1) (I.ok.hd hc) it a hne its.toArray
    rw [show its.toArray.size = xs.length by simp [hl]] at dr
    refine ⟨_, _, _, dr, by simp, fun b hb => ?_, fun i ht => ⟨ht, p.isList⟩, fun i h st => st.1, fun i u hu => ?_⟩
    · have hb : b = it ∨ b = a := by simpa using hb
      rcases hb with rfl | rfl
      · exact .inl rfl
      · exact .inr nf
    · have hu : its[i]? = some u := by simpa using hu
      have hlt : i < xs.length := by
        have := (List.getElem?_eq_some_iff.mp hu).1
        omega
      have hx : xs[i]? = some xs[i] := List.getElem?_eq_getElem hlt
      obtain ⟨u', hu', ru⟩ := rv.get hx
      rw [hu] at hu'; cases hu'
      exact ⟨_, hx, ru⟩
theorem src_tup {P : Program} {w : World} {K : PySem.W.Frag} (a it : Addr) (xs : List V) : Src P w K (fun H => SqT K H a xs) xs.length (fun i x => xs[i]? = some x) it (fun i h => h.IsTupleIter it a i) where
  obj := fun i h ⟨o, ho, hc, hd⟩ => ⟨o, ho, fun v q => by rw [hd] at q; cases q⟩
  keep := fun i h h' ht k => ht.at fun o q => k o q
  draw := by
    intro X hP hw hK hc pins σ H s I hq hn
    subst hP hw hK
    obtain ⟨its, rv, p, hz⟩ := I.tuple hq
    have hl := rv.length
    have nf := not_fpT I hq
    have hne : a ≠ it := fun z => nf (z ▸ hn)
    have dr := Draws.tuple (prog := X.prog) (w := X.w) (A := X.A.in1) (I.ok.hd hc) it a hne its.toArray
    rw [show its.toArray.size = xs.length by simp [hl]] at dr
    refine ⟨_, _, _, dr, by simp, fun b hb => ?_, fun i ht => ⟨ht, p⟩, fun i h st => st.1, fun i u hu => ?_⟩
    · have hb : b = it ∨ b = a := by simpa using hb
      rcases hb with rfl | rfl
      · exact .inl rfl
      · exact .inr nf
    · have hu : its[i]? = some u := by simpa using hu
      have hlt : i < xs.length := by
        have := (List.getElem?_eq_some_iff.mp hu).1
        omega
      have hx : xs[i]? = some xs[i] := List.getElem?_eq_getElem hlt
      obtain ⟨u', hu', ru⟩ := rv.get hx
      rw [hu] at hu'; cases hu'
      exact ⟨_, hx, ru⟩
theorem src_str {P : Program} {w : World} {K : PySem.W.Frag} (z : Str) (t : Tok) (it : Addr) : Src P w K (fun _ => True) z.cps.size (fun i x => ∃ c, z.cps[i]? = some c ∧ x = .str ⟨#[c]⟩) it (fun i h => h.IsStrIter it (strIterType z) z t i) where
  obj := fun i h ⟨o, ho, hc, hd⟩ => ⟨o, ho, fun v q => by rw [hd] at q; cases q⟩
  keep := fun i h h' ⟨o, h1, h2, h3⟩ k => ⟨o, k o h1, h2, h3⟩
  draw := by
    intro X hP hw hK hc pins σ H s I hq hn
    subst hP hw hK
    refine ⟨_, _, _, Draws.text (A := X.A.in1) (I.ok.hd hc) it z t, by simp, fun b hb => .inl (by simpa using hb), fun i ht => ht, fun i h st => st, fun i u ⟨c, ut, hc1, e⟩ => ?_⟩
    subst e
    exact ⟨_, ⟨c, hc1, rfl⟩, ⟨_, rfl⟩⟩
/-- the pairs of what two sources draw -/
def ItZp (G1 : Hp → Prop) (n1 : Nat) (Y1 : Nat → V → Prop) (G2 : Hp → Prop) (n2 : Nat) (Y2 : Nat → V → Prop) : It :=
  ⟨fun i H => i < n1 ∧ i < n2 ∧ G1 H ∧ G2 H, fun i H v H' => ∃ T x y, v = .ref T ∧ H T = none ∧ H' = upd H T (.tup [x, y]) ∧ Y1 i x ∧ Y2 i y, fun i H => i = min n1 n2 ∧ G1 H ∧ G2 H⟩
theorem turn_zipG {P : Program} {w : World} {K : PySem.W.Frag} {elts : List Expr} {kk : Nat} {tpos : Pos} {G1 : Hp → Prop} {n1 : Nat} {Y1 : Nat → V → Prop} {G2 : Hp → Prop} {n2 : Nat} {Y2 : Nat → V → Prop} {z TI TO i1 i2 : Addr} {tn1 tn2 : Nat → Heap → Prop}
    (S1 : Src P w K G1 n1 Y1 i1 tn1) (S2 : Src P w K G2 n2 Y2 i2 tn2) (a1 : TI ≠ z) (a2 : TO ≠ z) (a3 : TI ≠ TO) (a4 : TI ≠ i1) (a5 : TI ≠ i2) (a6 : i1 ≠ z) (a7 : i2 ≠ z) (a8 : TO ≠ i1) (a9 : TO ≠ i2) (a10 : i1 ≠ i2) :
    Turn P w K (.Tuple elts kk tpos) (ItZp G1 n1 Y1 G2 n2 Y2) [z, TI, TO, i1, i2] z (fun i h => IsZip h z TI TO .none ∧ IsTupOf2 h TI (.ref i1) (.ref i2) ∧ (∃ b1 b2, IsTupOf2 h TO b1 b2) ∧ tn1 i h ∧ tn2 i h) where
  mem := by simp
  obj := fun i h ⟨hz, hTI, ⟨b1, b2, hTO⟩, s1, s2⟩ b hb => by
    have hb : b = z ∨ b = TI ∨ b = TO ∨ b = i1 ∨ b = i2 := by simpa using hb
    rcases hb with rfl | rfl | rfl | rfl | rfl
    · exact ⟨_, hz, fun v q => nomatch q⟩
    · exact ⟨_, hTI, fun v q => nomatch q⟩
    · exact ⟨_, hTO, fun v q => nomatch q⟩
    · exact S1.obj i h s1
    · exact S2.obj i h s2
  keep := fun i h h' ⟨hz, hTI, ⟨b1, b2, hTO⟩, s1, s2⟩ k => ⟨k z (by simp) _ hz, k TI (by simp) _ hTI, ⟨b1, b2, k TO (by simp) _ hTO⟩, S1.keep i h h' s1 fun o q => k i1 (by simp) o q, S2.keep i h h' s2 fun o q => k i2 (by simp) o q⟩
  item := by
    intro X hP hw hK hc i pins s σ H E I hf ⟨hz, hTI, ⟨b1, b2, hTO⟩, s1, s2⟩ ⟨l1, l2, g1, g2⟩
    have ff := fun b hb => hf b hb
    obtain ⟨P1, St1, fp1, D1, m1, d1, c1, t1, y1⟩ := S1.draw X hP hw hK hc pins σ H s I g1 (hf i1 (by simp))
    obtain ⟨P2, St2, fp2, D2, m2, d2, c2, t2, y2⟩ := S2.draw X hP hw hK hc pins σ H s I g2 (hf i2 (by simp))
    subst hP hw hK
    have out1 : ∀ b ∈ [z, TI, TO, i1, i2], b ≠ i1 → b ∉ fp1 := fun b hb hn hm => by
      rcases d1 b hm with e | e
      · exact hn e
      · exact e (hf b hb)
    have out2 : ∀ b ∈ [z, TI, TO, i1, i2], b ≠ i2 → b ∉ fp2 := fun b hb hn hm => by
      rcases d2 b hm with e | e
      · exact hn e
      · exact e (hf b hb)
    have S : ZipSep2 z TI TO i1 i2 fp1 fp2 := ⟨a1, a2, a3, a4, m1, out1 z (by simp) (Ne.symm a6), out1 TO (by simp) a8, a5, m2, out2 z (by simp) (Ne.symm a7), out2 TO (by simp) a9, out2 i1 (by simp) a10, out1 i2 (by simp) (Ne.symm a10)⟩
    refine wpAny_pyNext_zipD2_item S D1 D2 hz hTI hTO (c1 i s1) (c2 i s2) l1 l2 fun u1 u2 h' tk p1 p2 hz' hO' q1 q2 hT hsz hk => ?_
    obtain ⟨x1, yy1, r1⟩ := y1 i u1 p1
    obtain ⟨x2, yy2, r2⟩ := y2 i u2 p2
    have lt : ∀ {b o}, s.heap.get? b = some o → b < s.heap.objs.size := fun e => Heap.lt_size e
    have zl := lt hz
    refine ⟨_, rfl, wpAny_letOwnedTupleGo_zip (s := { s with heap := h', toks := tk }) hz' fun h'' he' sb => ?_⟩
    have hT2 : h''.get? s.heap.objs.size = some { cls := .type "tuple", data := .seq #[u1, u2] } := sb.extBut _ _ (Nat.ne_of_gt zl) hT
    have nw : ObjOk X.prog X.w (upd H s.heap.objs.size (.tup [x1, x2])) h'' s.heap.objs.size (.tup [x1, x2]) :=
      ⟨by show 2 ≤ sizeLine; decide, [u1, u2], .cons r1 (.cons r2 .nil), ⟨_, hT2, rfl, _, rfl⟩⟩
    have I1 : Inv X pins σ (upd H s.heap.objs.size (.tup [x1, x2])) { s with heap := h'', toks := tk } :=
      I.turnedNew (ch := [z, TI, TO, i1, i2]) (fun b ob hb q => sb.extBut b ob (fun e => hb (by simp [e])) (hk b ob (fun e => hb (by simp [e])) (fun e => hb (by simp [e])) (fun e => hb (by simp [e])) (fun e => hb (by simp [e])) q)) hf (Nat.le_refl _) nw
    refine ⟨.ref s.heap.objs.size, _, I1, rfl, ⟨_, x1, x2, rfl, I.hok.fresh (Nat.le_refl _), rfl, yy1, yy2⟩, ⟨he', sb.extBut _ _ a1 (hk TI _ a1 a3 a4 a5 hTI), ⟨_, _, sb.extBut _ _ a2 hO'⟩, S1.keep _ _ _ (t1 _ _ q1) fun o q => sb.extBut _ _ a6 q, S2.keep _ _ _ (t2 _ _ q2) fun o q => sb.extBut _ _ a7 q⟩, fun b hb => ?_⟩
    have hb' : b < s.heap.objs.size := by
      have hb : b = z ∨ b = TI ∨ b = TO ∨ b = i1 ∨ b = i2 := by simpa using hb
      rcases hb with rfl | rfl | rfl | rfl | rfl
      · exact zl
      · exact lt hTI
      · exact lt hTO
      · obtain ⟨o, ho, _⟩ := S1.obj i _ s1; exact lt ho
      · obtain ⟨o, ho, _⟩ := S2.obj i _ s2; exact lt ho
    rw [upd_ne (Nat.ne_of_lt hb')]
    exact (hf b hb).1
  done := by
    intro X hP hw hK hc i pins s σ H E I hf ⟨hz, hTI, ⟨b1, b2, hTO⟩, s1, s2⟩ ⟨le, g1, g2⟩
    obtain ⟨P1, St1, fp1, D1, m1, d1, c1, t1, y1⟩ := S1.draw X hP hw hK hc pins σ H s I g1 (hf i1 (by simp))
    obtain ⟨P2, St2, fp2, D2, m2, d2, c2, t2, y2⟩ := S2.draw X hP hw hK hc pins σ H s I g2 (hf i2 (by simp))
    subst hP hw hK
    have out1 : ∀ b ∈ [z, TI, TO, i1, i2], b ≠ i1 → b ∉ fp1 := fun b hb hn hm => by
      rcases d1 b hm with e | e
      · exact hn e
      · exact e (hf b hb)
    have out2 : ∀ b ∈ [z, TI, TO, i1, i2], b ≠ i2 → b ∉ fp2 := fun b hb hn hm => by
      rcases d2 b hm with e | e
      · exact hn e
      · exact e (hf b hb)
    have S : ZipSep2 z TI TO i1 i2 fp1 fp2 := ⟨a1, a2, a3, a4, m1, out1 z (by simp) (Ne.symm a6), out1 TO (by simp) a8, a5, m2, out2 z (by simp) (Ne.symm a7), out2 TO (by simp) a9, out2 i1 (by simp) a10, out1 i2 (by simp) (Ne.symm a10)⟩
    exact wpAny_pyNext_zipD2_end S D1 D2 hz hTI hTO (c1 i s1) (c2 i s2) (by omega) (by omega) (by omega) fun h' tk hk => ⟨rfl, I.turnedL (t' := tk) (ch := [z, TI, TO, i1, i2]) (fun b ob hb q => hk b ob (fun e => hb (by simp [e])) (fun e => hb (by simp [e])) (fun e => hb (by simp [e])) (fun e => hb (by simp [e])) q) hf⟩
  self := fun A i s Q E ⟨hz, _⟩ h => wpAny_pyIter_zip hz h
/-- such a value -/
structure SeqV (K : PySem.W.Frag) (v : V) (G : Hp → Prop) (n : Nat) (Y : Nat → V → Prop) : Prop where
  start : ∀ (X : Cx), X.K = K → ∀ (pins : List (Addr × Obj)) (σ : St) (H : Hp) (s : Shared) (u : Value), Inv X pins σ H s → RelV v u → G H → ∃ (o : Obj) (Hc : Heap → Prop), Begins u o Hc ∧ Hc s.heap ∧
    ∀ it, ∃ tn, Src X.prog X.w K G n Y it tn ∧ ∀ h, h.get? it = some o → tn 0 h
theorem seqv_list {K : PySem.W.Frag} (a : Addr) (xs : List V) : SeqV K (.ref a) (fun H => SqL K H a xs) xs.length (fun i x => xs[i]? = some x) where
  start := by
    intro X hK pins σ H s u I r hq
    subst hK
    obtain rfl : u = Value.ref a := r
    obtain ⟨its, rv, p, hz⟩ := I.list hq
    exact ⟨_, _, begins_list a its.toArray, p.isList, fun it => ⟨_, src_list a it xs, fun h e => ⟨_, e, rfl, rfl⟩⟩⟩
theorem seqv_tup {K : PySem.W.Frag} (a : Addr) (xs : List V) : SeqV K (.ref a) (fun H => SqT K H a xs) xs.length (fun i x => xs[i]? = some x) where
  start := by
    intro X hK pins σ H s u I r hq
    subst hK
    obtain rfl : u = Value.ref a := r
    obtain ⟨its, rv, p, hz⟩ := I.tuple hq
    exact ⟨_, _, begins_tuple a its.toArray, p, fun it => ⟨_, src_tup a it xs, fun h e => ⟨_, e, rfl, rfl⟩⟩⟩
theorem seqv_str {K : PySem.W.Frag} (z : Str) : SeqV K (.str z) (fun _ => True) z.cps.size (fun i x => ∃ c, z.cps[i]? = some c ∧ x = .str ⟨#[c]⟩) where
  start := by
    intro X hK pins σ H s u I r hq
    subst hK
    obtain ⟨t, rfl⟩ := r
    exact ⟨_, _, begins_text z t, trivial, fun it => ⟨_, src_str z t it, fun h e => ⟨_, e, rfl, rfl⟩⟩⟩
theorem ad {n : Nat} (i j : Nat) (h : i ≠ j) : (n + i : Nat) ≠ n + j := by omega
section
variable {X : Cx} {W : WX} {a b : Expr} {p pos tpos : Pos} {elts : List Expr} {kk : Nat} {ta : TA}
theorem pi_zipG (hg : Gl X "zip") (hm : X.mg "zip" = none) (ha : PA X [a, b] ta) (hs : starEach [a, b] X.env = (false, eval a X.env) :: starEach [b] X.env) (hs2 : starEach [b] X.env = [(false, eval b X.env)]) :
    PI X (.Tuple elts kk tpos) (.Call (.Name "zip" p) [a, b] [] pos) (fun σ H R => ta σ H fun vs H1 => ∃ v1 v2 G1 n1 Y1 G2 n2 Y2, vs = [v1, v2] ∧ SeqV X.K v1 G1 n1 Y1 ∧ SeqV X.K v2 G2 n2 Y2 ∧ G1 H1 ∧ G2 H1 ∧ R (ItZp G1 n1 Y1 G2 n2 Y2) H1) := by
  refine ⟨fun pins s σ H R I h => ?_⟩
  refine PyProof.Rows.Call_ (ld_blt I hg hm PyProof.Rows.boot_zip (PyProof.Rows.callWith_type1 (thn (ha.run pos pins s σ H _ I h) fun us s1 ⟨vs, H1, I1, r1, v1, v2, G1, n1, Y1, G2, n2, Y2, ex, sv1, sv2, g1, g2, q⟩ => ?_) hs (by rw [hs2]; rfl)))
  subst ex
  cases r1 with
  | cons r rr =>
    cases rr with
    | cons r' rr =>
    cases rr
    obtain ⟨o1, Hc1, B1, hb1, k1⟩ := sv1.start X rfl pins σ H1 s1 _ I1 r g1
    obtain ⟨o2, Hc2, B2, hb2, k2⟩ := sv2.start X rfl pins σ H1 s1 _ I1 r' g2
    refine zip_begins2 B1 B2 hb1 hb2 fun h' hz hTI hTO e1 e2 hsz hk => wpAny_pyIter_zip hz ?_
    have I2 : Inv X pins σ H1 { s1 with heap := h' } := I1.kept (t' := s1.toks) hk
    obtain ⟨tn1, S1, t1⟩ := k1 s1.heap.objs.size
    obtain ⟨tn2, S2, t2⟩ := k2 (s1.heap.objs.size + 1)
    refine ⟨s1.heap.objs.size + 4, _, _, _, H1, rfl, I2, turn_zipG (z := s1.heap.objs.size + 4) (TI := s1.heap.objs.size + 2) (TO := s1.heap.objs.size + 3) S1 S2 (ad 2 4 (by decide)) (ad 3 4 (by decide)) (ad 2 3 (by decide)) (ad 2 0 (by decide)) (ad 2 1 (by decide)) (ad 0 4 (by decide)) (ad 1 4 (by decide)) (ad 3 0 (by decide)) (ad 3 1 (by decide)) (ad 0 1 (by decide)), ⟨hz, hTI, ⟨_, _, hTO⟩, t1 _ e1, t2 _ e2⟩, fun b hb => ?_, q⟩
    have hb : b = s1.heap.objs.size + 4 ∨ b = s1.heap.objs.size + 2 ∨ b = s1.heap.objs.size + 3 ∨ b = s1.heap.objs.size ∨ b = s1.heap.objs.size + 1 := by simpa using hb
    have hle : s1.heap.objs.size ≤ b := by
      rcases hb with e | e | e | e | e <;> rw [e]
      · exact Nat.le_add_right _ _
      · exact Nat.le_add_right _ _
      · exact Nat.le_add_right _ _
      · exact Nat.le_refl _
      · exact Nat.le_add_right _ _
    exact I1.fpOk hle (I1.hok.fresh hle)
end
/-- the values of a list, a tuple or a text -/
def seqD : D → Option (List D)
  | .lst xs => some xs
  | .tup xs => some xs
  | .str xs => if xs.length ≤ lim then some (xs.map fun c => .str [c]) else none
  | _ => none
/-- zip(a, b) -/
def iZp (ms : Env → REs) : Env → REs := fun env => match ms env with
  | .ok [x, y] e1 => (match seqD x, seqD y with
    | some xs, some ys => .ok (List.zipWith (fun a b => D.tup [a, b]) xs ys) e1
    | _, _ => .no)
  | .ok _ _ => .no
  | .ex c e1 => .ex c e1
  | .no => .no
section
variable {K : PySem.W.Frag} {mg : Str → Option Value} {Hf : Hp}
theorem seq_src {d : D} {xs : List D} {v : V} (h : seqD d = some xs) (r : Rep K mg Hf d v) : ∃ G n Y, SeqV K v G n Y ∧ (∀ H, Same Hf H → G H) ∧ xs.length = n ∧ ∀ i x, Y i x → ∃ d, xs[i]? = some d ∧ Rep K mg Hf d x := by
  unfold seqD at h
  split at h
  · cases h
    obtain ⟨a, vs, rfl, h1, h2⟩ := r.lstInv
    exact ⟨_, _, _, seqv_list a vs, fun H e => e.seq h1, h2.length, fun i x hx => h2.getV hx⟩
  · cases h
    obtain ⟨a, vs, rfl, h1, h2⟩ := r.tupInv
    exact ⟨_, _, _, seqv_tup a vs, fun H e => same_t e h1, h2.length, fun i x hx => h2.getV hx⟩
  · rename_i zs
    split at h
    · cases h
      obtain rfl := r.strInv
      refine ⟨_, _, _, seqv_str _, fun H e => trivial, by simp, fun i x ⟨c, hc, hx⟩ => ?_⟩
      subst hx
      refine ⟨.str [c], ?_, .str [c]⟩
      rw [List.getElem?_map]
      have : zs[i]? = some c := by simpa using hc
      rw [this]; rfl
    · cases h
  · cases h
theorem walkZ {xs ys : List D} {G1 G2 : Hp → Prop} {n1 n2 : Nat} {Y1 Y2 : Nat → V → Prop} (hn1 : xs.length = n1) (hn2 : ys.length = n2) (hG1 : ∀ H, Same Hf H → G1 H) (hG2 : ∀ H, Same Hf H → G2 H)
    (hY1 : ∀ i x, Y1 i x → ∃ d, xs[i]? = some d ∧ Rep K mg Hf d x) (hY2 : ∀ i x, Y2 i x → ∃ d, ys[i]? = some d ∧ Rep K mg Hf d x) : WalkD K mg Hf (List.zipWith (fun a b => D.tup [a, b]) xs ys) (ItZp G1 n1 Y1 G2 n2 Y2) := by
  unfold WalkD
  rw [List.length_zipWith, hn1, hn2]
  refine ⟨fun i H hi h => ⟨by omega, by omega, hG1 H h, hG2 H h⟩, fun H h => ⟨rfl, hG1 H h, hG2 H h⟩, fun i H v H' hi h ⟨T, x, y, e1, e2, e3, y1, y2⟩ => ?_⟩
  obtain ⟨d1, hd1, r1⟩ := hY1 i x y1
  obtain ⟨d2, hd2, r2⟩ := hY2 i y y2
  subst e1 e3
  exact ⟨.tup [d1, d2], by rw [List.getElem?_zipWith, hd1, hd2], .tup e2 (.cons r1 (.cons r2 .nil))⟩
end
theorem jZp {X : Cx} {W : WX} {a b : Expr} {ps : Bool} {ms : Env → REs} {p pos tpos : Pos} {elts : List Expr} {kk : Nat} (hm : X.mg "zip" = none) (ha : QA X W [a, b] 2 true ps ms) (hg : X.env.kindOf "zip" = some .globalImplicit := by kernel_rfl) (hs : starEach [a, b] X.env = (false, eval a X.env) :: starEach [b] X.env := by rfl) (hs2 : starEach [b] X.env = [(false, eval b X.env)] := by rfl) :
    PI X (.Tuple elts kk tpos) (.Call (.Name "zip" p) [a, b] [] pos) (tJ X.K X.mg W ps (iZp ms)) := by
  refine ⟨fun pins s σ H R I ⟨Hf, env, R0, g⟩ => ?_⟩
  refine (pi_zipG hg hm ha.pa hs hs2).run pins s σ H R I ⟨Hf, env, R0, ?_⟩
  unfold iZp at g
  cases q : ms env with
  | no => rw [q] at g; exact g.elim
  | ex x e1 => rw [q] at g; exact g
  | ok ds e1 =>
    rw [q] at g
    refine fun vs H1 Hf1 R1 t1 rs => ?_
    rw [if_pos rfl] at rs
    cases rs with
    | nil => exact g.elim
    | cons ra rs =>
      cases rs with
      | nil => exact g.elim
      | cons rb rs =>
        cases rs with
        | cons _ _ => exact g.elim
        | nil =>
          rename_i x v1 y v2
          dsimp only at g
          cases hx : seqD x with
          | none => rw [hx] at g; exact g.elim
          | some xs =>
            cases hy : seqD y with
            | none => rw [hx, hy] at g; exact g.elim
            | some ys =>
              rw [hx, hy] at g
              obtain ⟨G1, n1, Y1, sv1, c1, l1, w1⟩ := seq_src hx ra
              obtain ⟨G2, n2, Y2, sv2, c2, l2, w2⟩ := seq_src hy rb
              exact ⟨_, _, _, _, _, _, _, _, rfl, sv1, sv2, c1 _ R1.le, c2 _ R1.le, g _ H1 Hf1 R1 t1 (walkZ l1 l2 c1 c2 w1 w2)⟩
/-- a zip seen by its arguments -/
theorem iZp_ok {ms : Env → REs} {env e1 : Env} {x y : D} {xs ys : List D} (h : ms env = .ok [x, y] e1) (hx : seqD x = some xs) (hy : seqD y = some ys) : iZp ms env = .ok (List.zipWith (fun a b => D.tup [a, b]) xs ys) e1 := by
  unfold iZp
  rw [h]
  simp only [hx, hy]
end Cor
set_option Elab.async false
set_option linter.all false
set_option maxRecDepth 100000
set_option maxHeartbeats 2000000
/-! CorPp: x.pop() of a list that a name owns. -/
namespace Cor
open PySem PySem.Spec L2
variable [LamDefs]
theorem erase_last (p : List Value) (y : Value) (n : Nat) : Obj.mapSeq (fun xs => xs.eraseIdxIfInBounds ((p ++ [y]).toArray.size - 1)) { cls := .type "list", data := .seq (p ++ [y]).toArray n } = { cls := .type "list", data := .seq p.toArray (n + 1) } := by
  have key : ∀ (f : Array Value → Array Value) (a b : Array Value), f a = b → b.size ≠ a.size → Obj.mapSeq f { cls := .type "list", data := .seq a n } = { cls := .type "list", data := .seq b (n + 1) } := fun f a b h hs => by
    subst h
    simp [Obj.mapSeq, hs]
  have hk : (p ++ [y]).toArray.size - 1 = p.length := by rw [List.size_toArray, List.length_append]; rfl
  have e := PySem.W.kl_erase p [] y
  rw [List.append_nil] at e
  exact key _ _ _ (by rw [hk]; exact e) (by simp)
/-- the last of a list that a name owns -/
def ePop (i : Nat) : Env → RE := fun env => match ioGet env i with
  | some (.lst xs) => (match xs.getLast? with
    | some d => .ok d false (env.set i (putBack (getS env i) (.lst xs.dropLast)))
    | none => .no)
  | _ => .no
theorem Reps.last {K : PySem.W.Frag} {mg : Str → Option Value} {H : Hp} {d : D} : ∀ {ds : List D} {vs : List V}, Reps K mg H ds vs → ds.getLast? = some d → ∃ v, vs = vs.dropLast ++ [v] ∧ Rep K mg H d v ∧ Reps K mg H ds.dropLast vs.dropLast
  | [], _, _, h => by cases h
  | [x], _, .cons r .nil, h => by
    simp only [List.getLast?_singleton, Option.some.injEq] at h
    subst h
    exact ⟨_, rfl, r, .nil⟩
  | x :: y :: ds, _, .cons r (.cons r2 rs), h => by
    rw [List.getLast?_cons_cons] at h
    obtain ⟨v, e, q1, q2⟩ := Reps.last (.cons r2 rs) h
    refine ⟨v, ?_, q1, ?_⟩
    · rw [List.dropLast_cons_cons, List.cons_append]
      exact congrArg _ e
    · rw [List.dropLast_cons_cons, List.dropLast_cons_cons]
      exact .cons r q2
theorem pPop {X : Cx} {W : WX} {i : Nat} {o : Expr} {apos cpos : Pos} (ho : PE X o (tVar i)) (hbase : attributeBase o "pop" X.env (eval o X.env) = eval o X.env := by rfl) (hline : (apos.endLine == cpos.line) = true := by rfl) :
    PE X (.Call (.Attribute o "pop" apos) [] [] cpos) (tI X.K X.mg W true false (ePop i)) := by
  refine ⟨fun pins s σ H Q I ⟨Hf, env, R, gg⟩ => ?_⟩
  unfold ePop at gg
  cases q0 : ioGet env i with
  | none => rw [q0] at gg; exact gg.elim
  | some d0 =>
    rw [q0] at gg
    cases d0 <;> try exact gg.elim
    rename_i xs
    dsimp only at gg
    cases q1 : xs.getLast? with
    | none => rw [q1] at gg; exact gg.elim
    | some d =>
      rw [q1] at gg
      obtain ⟨pp, ep, n0, c0⟩ := R.mu i _ (ioGet_at q0)
      obtain ⟨ws, hH, rs⟩ := c0.lstInv
      obtain ⟨v, ew, rv, rd⟩ := rs.last q1
      refine wpAny_Call_method (T := "list") (id := "list.pop") hbase rfl hline F.plainAttrs_list F.slot_list_pop F.type_list_pop (thn (ho.run pins s σ H (fun v H1 => v = .ref pp ∧ H1 = H) I ⟨_, ep, rfl, rfl⟩) fun u s1 ⟨v1, H1, I1, rx, e1, e2⟩ => ?_)
      subst e1 e2
      obtain rfl : u = Value.ref pp := rx
      obtain ⟨its, n, r, e, hz⟩ := I1.lst hH
      obtain ⟨y, ei, ry⟩ : ∃ y, its = its.dropLast ++ [y] ∧ RelV v y := by
        rw [ew] at r
        have hl := r.length
        have hn : its ≠ [] := fun z => by rw [z] at hl; simp at hl
        refine ⟨its.getLast hn, (List.dropLast_concat_getLast hn).symm, ?_⟩
        obtain ⟨u', hu, ru⟩ := r.get (i := ws.dropLast.length) (x := v) (by simp)
        rw [List.length_append, List.length_singleton] at hl
        have : its[its.length - 1]? = some u' := by rw [← hl]; simpa using hu
        rw [List.getLast_eq_getElem]
        rw [List.getElem?_eq_getElem (by omega)] at this
        cases this; exact ru
      have rdl := r.dropLast
      rw [ei] at e
      generalize its.dropLast = p at *
      refine ⟨⟨_, e, rfl⟩, fun a q => by cases q; exact ⟨_, e, rfl⟩, ?_⟩
      refine Calls.callWith_builtin rfl (PySem.evalArgs_none ?_)
      have hl := r.length
      have hsz : (p ++ [y]).toArray.size ≤ sizeLine := by rw [List.size_toArray, ← ei, ← hl]; exact hz
      refine call_meets F.slot_list_pop ⟨_, e, rfl⟩ F.entry_list_pop (F.args_list_pop_1 _) (PySem.MeetsSeq.list_pop_last pp _ n y (by
        have hk : (p ++ [y]).toArray.size - 1 = p.length := by rw [List.size_toArray, List.length_append]; rfl
        rw [hk]; simp) hsz) ⟨e, ?_⟩
      have I2 := I1.lstUpd hH e (erase_last p y n) rdl (by rw [List.length_dropLast]; omega) s1.toks
      obtain ⟨R2, t2⟩ := R.wr (ioGet_at q0) ep rd
      exact ⟨v, _, I2, ry, gg v _ Hf R2 t2 (by
        unfold VR
        rw [if_neg Bool.false_ne_true]
        simpa using rv)⟩
@[simp] theorem x_ePop {i : Nat} {env : Env} : ePop i env = match ioGet env i with
  | some (.lst xs) => (match xs.getLast? with
    | some d => .ok d false (env.set i (putBack (getS env i) (.lst xs.dropLast)))
    | none => .no)
  | _ => .no := rfl
end Cor
set_option Elab.async false
set_option linter.all false
set_option maxRecDepth 100000
set_option maxHeartbeats 2000000
/-! CorU: sorted(..) of a list, a tuple, a dict's keys; a pair stored to names that are captured. -/
namespace Cor
open PySem PySem.Spec PyProof.Rows L2
/-! ### what sorted gives -/
def okTp : PyData → Bool
  | .tuple (_ :: _) => true
  | _ => false
def okNt : PyData → Bool
  | .none => false
  | .tuple _ => false
  | _ => true
def srtOk (ds : List D) : Bool := ds.all (D.okN 8) && ((pys ds).all fun a => (pys ds).all fun b => PySem.W.alike a b) && ((pys ds).all okTp || (pys ds).all okNt) && decide (ds.length ≤ lim)
def leD : D → D → Bool := PySem.W.dataLe false D.py
def srtD (ds : List D) : List D := ds.mergeSort leD
theorem pys_eq : ∀ ds : List D, pys ds = ds.map D.py
  | [] => rfl
  | d :: ds => by rw [pys, pys_eq ds]; rfl
structure SrtOk (ds : List D) : Prop where
  ok : ∀ d ∈ ds, d.okN 8 = true
  al : PySem.W.AllAlike (ds.map D.py)
  so : PySem.W.Sortable (ds.map D.py)
  ln : ds.length ≤ lim
theorem srtOk_iff {ds : List D} (h : srtOk ds = true) : SrtOk ds := by
  unfold srtOk at h
  simp only [Bool.and_eq_true, Bool.or_eq_true, decide_eq_true_eq, pys_eq] at h
  obtain ⟨⟨⟨h1, h2⟩, h3⟩, h4⟩ := h
  refine ⟨List.all_eq_true.mp h1, fun a ha b hb => List.all_eq_true.mp (List.all_eq_true.mp h2 a ha) b hb, ?_, h4⟩
  rcases h3 with h3 | h3
  · refine .inl fun d hd => ?_
    have q := List.all_eq_true.mp h3 d hd
    cases d <;> try (cases q; done)
    rename_i xs
    cases xs with
    | nil => cases q
    | cons x r => exact ⟨x, r, rfl⟩
  · refine .inr fun d hd => ?_
    have q := List.all_eq_true.mp h3 d hd
    refine ⟨fun e => ?_, fun xs e => ?_⟩
    · subst e; cases q
    · subst e; cases q
section
variable {prog : Program} {w : World} {A : Around} {E : Value → Shared → Prop} {s : Shared}
/-- a tuple's items, gathered -/
theorem col_tup {l : Addr} {us : List Value} {G : List Value → Shared → Prop} {ob : Obj} {ep : Nat} (hl : s.heap.get? l = some ob) (cl : ob.cls = .type "tuple") (dt : ob.data = .seq us.toArray ep) (few : us.length ≤ sizeLine)
    (fin : ∀ h' tk, (∀ b u, s.heap.get? b = some u → h'.get? b = some u) → G us { s with heap := h', toks := tk }) : wpAny (model prog w) A (collect (.ref l)) G E s := by
  have kept : (s.heap.push (seqObj "list" #[] 0)).get? l = some ob := Heap.get?_push_of_some _ hl
  have fresh : (s.heap.push (seqObj "list" #[] 0)).get? s.heap.objs.size = some (seqObj "list" #[] 0) := Heap.get?_push_size _ rfl
  unfold collect
  refine wpAny_bind (wpAny_runValue (codeAny_builtin entry_proto_collect' ?_))
  show wpAny _ A.in1 (newList [] >>= fun z => again (.builtin "list.__iadd__" ⟨[z, .ref l], []⟩)) _ _ s
  refine wpAny_bind (wpAny_newList (wpAny_pure ⟨plainId_quiet PySem.F.plain_list_iadd _, codeAny_builtin entry_list_iadd' ?_⟩))
  show wpAny _ _ (Builtin.List.listExtendWith (.ref s.heap.objs.size) (.ref l) (.ref s.heap.objs.size)) _ _ ({ s with heap := s.heap.push (seqObj "list" #[] 0) } : Shared)
  unfold Builtin.List.listExtendWith
  refine wpAny_bind (wpAny_typeOf (T := "tuple") ⟨ob, kept, cl⟩ ?_)
  have yes : (Value.type "tuple" == Value.type "tuple") = true := by rfl
  rw [if_pos (by rw [yes]; simp)]
  refine wpAny_bind (listItems_at kept dt ?_)
  refine wpAny_bind (listItems_at (xs := #[]) (n := 0) fresh rfl ?_)
  rw [if_neg (by simp)]
  refine wpAny_bind (listUpdate_at (xs := #[]) (n := 0) fresh rfl ?_ (Nat.zero_le _) (by show (#[] ++ us.toArray).size ≤ sizeLine + 1; simp only [Array.size_append, List.size_toArray, List.length_nil]; omega))
  refine wpAny_pure ?_
  show wpAny (model prog w) A (load s.heap.objs.size >>= fun o => match o.data with
      | .seq xs _ => pure xs.toList
      | _ => unsupported "internal:collect") G E ({ s with heap := (s.heap.push (seqObj "list" #[] 0)).update s.heap.objs.size (Obj.mapSeq (· ++ us.toArray)) } : Shared)
  refine wpAny_bind (wpAny_load (get?_update_seq fresh _) ?_)
  show wpAny _ _ (pure ((#[] : Array Value) ++ us.toArray).toList) G E _
  have e0 : ((#[] : Array Value) ++ us.toArray).toList = us := by simp
  rw [e0]
  refine wpAny_pure (fin _ s.toks fun b u e => ?_)
  have lt : b < s.heap.objs.size := Heap.lt_size e
  rw [Heap.get?_update_ne _ _ _ _ (Nat.ne_of_lt lt)]
  exact Heap.get?_push_of_some _ e
/-- a list's items, gathered -/
theorem col_lst {l : Addr} {us : List Value} {G : List Value → Shared → Prop} (hl : s.heap.IsList l us.toArray) (few : us.length ≤ sizeLine)
    (fin : ∀ h' tk, (∀ b u, s.heap.get? b = some u → h'.get? b = some u) → G us { s with heap := h', toks := tk }) : wpAny (model prog w) A (collect (.ref l)) G E s := by
  refine collect_list hl ?_ few
  refine fin _ s.toks fun b u e => ?_
  have lt : b < s.heap.objs.size := Heap.lt_size e
  rw [Heap.get?_update_ne _ _ _ _ (Nat.ne_of_lt lt)]
  exact Heap.get?_push_of_some _ e
/-- sorted of whatever is gathered so -/
theorem srt_col {l : Addr} {ds : List D} {us : List Value} {R : Value → D → Prop} {G : Value → Shared → Prop}
    (col : ∀ F : List Value → Shared → Prop, (∀ h' tk, (∀ b u, s.heap.get? b = some u → h'.get? b = some u) → F us { s with heap := h', toks := tk }) → wpAny (model prog w) A.in1 (collect (.ref l)) F E s)
    (e : PySem.W.EachIs R us ds) (rd : PySem.W.EachIs (fun u d => ∃ as, Reads s.heap u (D.py d) as) us ds) (hal : PySem.W.AllAlike (ds.map D.py)) (hk : PySem.W.Sortable (ds.map D.py)) (hL : ds.length ≤ sizeLine) (hu : ∀ d ∈ ds, A.units + 2 + (D.py d).depth < cLine)
    (fin : ∀ (h1 h' : Heap) (tk : Nat) (out : List Value) (ep : Nat), (∀ b u, s.heap.get? b = some u → h1.get? b = some u) → (∀ b u, h1.get? b = some u → h'.get? b = some u) → h'.get? h1.objs.size = some (seqObj "list" out.toArray ep) → PySem.W.EachIs R out (srtD ds) → G (.ref h1.objs.size) { s with heap := h', toks := tk }) :
    wpAny (model prog w) A (call (.builtin "sorted") [.ref l]) G E s := by
  refine Calls.call_function_entry kind_sorted plain_sorted entry_sorted (args_sorted1 _) ?_
  unfold Builtin.«sorted»
  refine wpAny_bind (m := checkCount "sorted" 1 1 _) (wpAny_pure ?_)
  refine wpAny_bind (col _ fun h1 tk k1 => ?_)
  have hl : us.length ≤ sizeLine := by rw [e.length]; exact hL
  refine wpAny_bind (wpAny_newList ?_ hl)
  have new : (h1.push (seqObj "list" us.toArray 0)).get? h1.objs.size = some (seqObj "list" us.toArray 0) := Heap.get?_push_size _ rfl
  have k2 : ∀ b u, s.heap.get? b = some u → (PySem.W.sortingHeap (h1.push (seqObj "list" us.toArray 0)) h1.objs.size us).get? b = some u := fun b u q => by
    have q1 := k1 b u q
    exact PySem.W.sortingHeap_old (Nat.ne_of_lt (Heap.lt_size q1)) (Heap.get?_push_of_some _ q1)
  have rd2 : PySem.W.EachIs (fun u d => ∃ as, Reads (PySem.W.sortingHeap (h1.push (seqObj "list" us.toArray 0)) h1.objs.size us) u (D.py d) as) us ds := rd.mono fun _ _ ⟨as, r⟩ => ⟨as, PyProof.Rows.Reads.keeps k2 r⟩
  show wpAny (model prog w) A.in1 _ _ _ ({ s with heap := h1.push (seqObj "list" us.toArray 0), toks := tk } : Shared)
  refine wpAny_bind (wpAny_holding (wpAny_call_entry slot_list_sort ⟨_, new, rfl⟩ entry_list_sort
    (PySem.W.list_sort_vals (κ := PySem.W.dataKind (PySem.W.sortingHeap (h1.push (seqObj "list" us.toArray 0)) h1.objs.size us) (ds.map D.py)) new
      (PySem.W.SortsAt.data (s := { s with heap := PySem.W.sortingHeap (h1.push (seqObj "list" us.toArray 0)) h1.objs.size us, toks := tk }) (PySem.W.each_map (R := fun v d => ∃ as, Reads (PySem.W.sortingHeap (h1.push (seqObj "list" us.toArray 0)) h1.objs.size us) v d as) D.py rd2) hal hk (PySem.W.bound_map hu)) hl ⟨.none, rfl, ?_⟩) (args_list_sort _)))
  obtain ⟨ep, he⟩ := sortedHeap_at (vs := us) (out := (PySem.W.sortVals (PySem.W.dataKind (PySem.W.sortingHeap (h1.push (seqObj "list" us.toArray 0)) h1.objs.size us) (ds.map D.py)) false us us).toArray) new
  refine wpAny_pure ⟨_, rfl, fin h1 _ tk _ ep k1 (fun b u q => ?_) he (PySem.W.sortVals_data false e rd2 hal)⟩
  have q1 := Heap.get?_push_of_some (seqObj "list" us.toArray 0) q
  rw [sortedHeap_old (Nat.ne_of_lt (Heap.lt_size q)) (Heap.lt_size q1)]
  exact q1
end
section
variable [LamDefs] {X : Cx} {K : PySem.W.Frag} {mg : Str → Option Value} {Hf H : Hp}
/-- where the items come from -/
def SrcS (K : PySem.W.Frag) (H : Hp) (a : Addr) (ds : List D) (vs : List V) : Prop := SqL K H a vs ∨ SqT K H a vs ∨ ∃ (o : Obj) (tk : Bool) (vvs : List V), H a = some (DObj a o) ∧ (a == sysModules) = false ∧ DSh tk o ds vs vvs
def rSrtD (K : PySem.W.Frag) (mg : Str → Option Value) : List V → Hp → VK → Prop := fun xs H Q => ∃ (a : Addr) (ds : List D) (vs : List V) (Hf : Hp), xs = [.ref a] ∧ SrcS K H a ds vs ∧ Same Hf H ∧ Reps K mg Hf ds vs ∧ SrtOk ds ∧ ∀ p vs', H p = none → Reps K mg Hf (srtD ds) vs' → Q (.ref p) (upd H p (.lst vs'))
theorem each_reps : ∀ {ds : List D} {us : List Value}, PySem.W.EachIs (fun u d => ∃ v, RelV v u ∧ Rep K mg Hf d v) us ds → ∃ vs, Vals vs us ∧ Reps K mg Hf ds vs
  | _, _, .nil => ⟨[], .nil, .nil⟩
  | _, _, .cons ⟨v, h1, h2⟩ t => by
    obtain ⟨vs, q1, q2⟩ := each_reps t
    exact ⟨v :: vs, .cons h1 q1, .cons h2 q2⟩
theorem reps_each : ∀ {ds : List D} {vs : List V} {us : List Value}, Reps K mg Hf ds vs → Vals vs us → PySem.W.EachIs (fun u d => ∃ v, RelV v u ∧ Rep K mg Hf d v) us ds
  | _, _, _, .nil, .nil => .nil
  | _, _, _, .cons h1 h2, .cons q1 q2 => .cons ⟨_, q1, h1⟩ (reps_each h2 q2)
theorem each_with {R R' : Value → D → Prop} : ∀ {us : List Value} {ds : List D}, PySem.W.EachIs R us ds → (∀ u d, d ∈ ds → R u d → R' u d) → PySem.W.EachIs R' us ds
  | _, _, .nil, _ => .nil
  | _, _, .cons h1 t, f => .cons (f _ _ (List.mem_cons_self ..) h1) (each_with t fun u d hd => f u d (List.mem_cons_of_mem _ hd))
theorem call_srt (hc : X.calm = true) (hu0 : X.A.units + 65 < cLine) : CallR X (.builtin "sorted") (rSrtD X.K X.mg) := by
  intro pins s σ H vs us Q I r h
  obtain ⟨a, ds, vs0, Hf, rfl, src, le, rs, ok, q⟩ := h
  match us, r with
  | [_], .cons rx .nil =>
  cases rx
  have fin : ∀ us0, Vals vs0 us0 → (∀ F : List Value → Shared → Prop, (∀ h' tk, (∀ b u, s.heap.get? b = some u → h'.get? b = some u) → F us0 { s with heap := h', toks := tk }) → wpAny (model X.prog X.w) X.A.in1 (collect (.ref a)) F X.xe s) → wpAny (model X.prog X.w) X.A (call (.builtin "sorted") [.ref a]) (EP X pins σ Q) X.xe s := by
    intro us0 rv col
    have e := reps_each rs rv
    have rd : PySem.W.EachIs (fun u d => ∃ as, Reads s.heap u (D.py d) as) us0 ds := each_with e fun u d hd ⟨v, h1, h2⟩ => Dp.reads I _ v u ((h2.up le).dp 8 (ok.ok d hd)) h1
    refine srt_col col e rd ok.al ok.so (lim_line ok.ln) (fun d hd => ?_) fun h1 h' tk out ep k1 k2 he eo => ?_
    · have := (py_lay 8 d (ok.ok d hd)).2
      omega
    · obtain ⟨vs', rv', rs'⟩ := each_reps eo
      have I1 : Inv X pins σ H { s with heap := h1 } := I.kept (t' := s.toks) k1
      have ln : vs'.length ≤ sizeLine := by
        rw [← rs'.length]
        unfold srtD
        rw [List.length_mergeSort]
        exact lim_line ok.ln
      have I2 : Inv X pins σ (upd H h1.objs.size (.lst vs')) { s with heap := h', toks := tk } := I1.laid (t' := tk) k2 (Nat.le_refl _) (o := .lst vs') ⟨ln, out, ep, rv', he⟩
      exact ⟨.ref h1.objs.size, _, I2, rfl, q _ _ (I1.hok.fresh (Nat.le_refl _)) rs'⟩
  rcases src with sl | st | ⟨o, tk, vvs, hd, hs, sh⟩
  · obtain ⟨its, rv, hl, hz⟩ := I.list sl
    exact fin its rv fun F hF => col_lst hl.isList (by rw [← rv.length]; exact hz) hF
  · obtain ⟨its, rv, ⟨ob, ho, hcl, n, hdt⟩, hz⟩ := I.tuple st
    exact fin its rv fun F hF => col_tup ho hcl hdt (by rw [← rv.length]; exact hz) hF
  · obtain ⟨es, ep, en⟩ := dsh_ent X.prog X.w sh
    have hsz : es.size ≤ sizeLine := by rw [en.sizeK, ← rs.length]; exact lim_line ok.ln
    refine fin (es.toList.map (·.key)) en.ks fun F hF => ?_
    refine PySem.W.kdu_collect (src_keys (es := es) (ep := ep) hs) (I.ok.hd hc) ⟨o, dobj_at I hd, en.ex, en.dat⟩ hsz fun h' tk acc hk hacc => ?_
    have e1 : acc.toList = es.toList.map (·.key) := by
      refine List.ext_getElem? fun j => ?_
      by_cases hj : j < es.size
      · have hj2 : j < acc.size := by rw [hacc.1]; exact hj
        obtain ⟨_, e⟩ := hacc.2 j acc[j] (by simp [hj2])
        simp [hj, hj2, e]
      · have hj2 : ¬ j < acc.size := by rw [hacc.1]; exact hj
        rw [List.getElem?_eq_none (by simpa using hj2), List.getElem?_eq_none (by simpa using hj)]
    rw [e1]
    exact hF h' tk hk
end
/-- sorted(e) -/
def eSrt (ma : Env → RE) : Env → RE := fun env => (ma env).bind fun x _ e1 => match x with
  | .lst ds => if srtOk ds = true then .ok (.lst (srtD ds)) true e1 else .no
  | .tup ds => if srtOk ds = true then .ok (.lst (srtD ds)) true e1 else .no
  | .dct _ ds _ => if srtOk ds = true then .ok (.lst (srtD ds)) true e1 else .no
  | _ => .no
section
variable [LamDefs] {X : Cx} {W : WX} {k : Nat} {a : Expr} {p pos : Pos} {ma mb : Env → RE} {pa pb sa sb : Bool}
theorem pSrt (g : Gd k X W) (hm : X.mg "sorted" = none) (ha : PE X a (tI X.K X.mg W true pa ma)) (hg : X.env.kindOf "sorted" = some .globalImplicit := by kernel_rfl) (he : starEach [a] X.env = (false, eval a X.env) :: starEach [] X.env := by rfl) : PE X (.Call (.Name "sorted" p) [a] [] pos) (tI X.K X.mg W true pa (eSrt ma)) := by
  refine PE.imp (pe_callB (call_srt g.calm g.hu) hg hm (by decide +kernel) (pa_cons ha pa_nil he) (by decide) (by decide) he rfl) fun σ H Q ⟨Hf, env, R, gg⟩ => ?_
  refine ⟨Hf, env, R, GE.first (fun h => h) gg fun d1 f1 e1 v1 H1 Hf1 _ R1 t1 z1 g1 => ?_⟩
  obtain ⟨Hf1, R1, t1, z1⟩ := stab R R1 t1 z1
  cases d1 <;> try exact g1.elim
  · rename_i ds _ _
    dsimp only at g1
    cases z1 with
    | tup h rs =>
    by_cases hz : srtOk ds = true
    · rw [if_pos hz] at g1
      exact ⟨_, ds, _, Hf1, rfl, .inr (.inl (same_t R1.le h)), R1.le, rs, srtOk_iff hz, fun q vs' hq rs' => GE.out g1 t1 (fun h => h) R1 (.lst hq rs')⟩
    · rw [if_neg hz] at g1; exact g1.elim
  · rename_i ds _ _
    dsimp only at g1
    cases z1 with
    | lst h rs =>
    by_cases hz : srtOk ds = true
    · rw [if_pos hz] at g1
      exact ⟨_, ds, _, Hf1, rfl, .inl (kep_l (fun b o q _ => R1.le b o q) h), R1.le, rs, srtOk_iff hz, fun q vs' hq rs' => GE.out g1 t1 (fun h => h) R1 (.lst hq rs')⟩
    · rw [if_neg hz] at g1; exact g1.elim
  · rename_i tk ds vs _ _
    dsimp only at g1
    cases z1 with
    | dct h hs hl sh r1 r2 =>
    by_cases hz : srtOk ds = true
    · rw [if_pos hz] at g1
      exact ⟨_, ds, _, Hf1, rfl, .inr (.inr ⟨_, tk, _, R1.le _ _ h, hs, sh⟩), R1.le, r1, srtOk_iff hz, fun q vs' hq rs' => GE.out g1 t1 (fun h => h) R1 (.lst hq rs')⟩
    · rw [if_neg hz] at g1; exact g1.elim
end
/-! ### a pair stored to names of which one at least is captured -/
section
variable [LamDefs] {X : Cx} {W : WX} {k : Nat} {a b c : Expr} {pos : Pos} {ma mb mc : Env → RE} {pa pb pc : Bool} {i j l : Nat}
theorem kParC {x y : Str} {px py pt : Pos} {kt k2 pt2} (g : Gd k X W) (i j : Nat) (ha : PE X a (tI X.K X.mg W true pa ma)) (hb : PE X b (tI X.K X.mg W true pb mb)) (hi : X.N[i]? = some x := by kernel_rfl) (hj : X.N[j]? = some y := by kernel_rfl)
    (hx : locB X.env.scope x = true := by kernel_rfl) (hy : locB X.env.scope y = true := by kernel_rfl) (hfx : X.fn x = true := by rfl) (hfy : X.fn y = true := by rfl) (hse : starEach [a, b] X.env = (false, eval a X.env) :: starEach [b] X.env := by rfl) (hse2 : starEach [b] X.env = (false, eval b X.env) :: starEach [] X.env := by rfl)
    (hw : swappedStores [.Tuple [.Name x px, .Name y py] kt pt] (.Tuple [a, b] k2 pt2) X.env = pure none := by rfl) (hs : swapsWithSole [.Tuple [.Name x px, .Name y py] kt pt] (.Tuple [a, b] k2 pt2) pos.line X.env = pure false := by rfl)
    (h1 : (assignEach [.Tuple [.Name x px, .Name y py] kt pt] X.env).map (·.2) = [assign (.Tuple [.Name x px, .Name y py] kt pt) X.env] := by rfl) (hn : (assignEach [.Name x px, .Name y py] X.env).length = 2 := by rfl) (hst : (assignEach [.Name x px, .Name y py] X.env).findIdx? (·.1) = none := by rfl)
    (a1 : (assignEach [.Name x px, .Name y py] X.env).map (·.2) = assign (.Name x px) X.env :: (assignEach [.Name y py] X.env).map (·.2) := by rfl) (a2 : (assignEach [.Name y py] X.env).map (·.2) = assign (.Name y py) X.env :: (assignEach [] X.env).map (·.2) := by rfl) :
    PS X (.Assign [.Tuple [.Name x px, .Name y py] kt pt] (.Tuple [a, b] k2 pt2) pos) (tS X.K X.mg W (sPar i j ma mb)) := by
  refine PS.imp (ps_asg (pe_tup (pa_cons ha (pa_cons hb pa_nil hse2) hse)) (pg_tup g.calm (pgs_cons (pg_name g.nd hi (loc_of hx) (.inl hfx)) (pgs_cons (pg_name g.nd hj (loc_of hy) (.inl hfy)) pgs_nil a2) a1) hn hst) hs hw h1) fun D σ H ⟨Hf, env, R, g⟩ => ⟨Hf, env, R, g.first fun d1 f1 e1 v1 H1 Hf1 _ R1 t1 z1 g1 => ?_⟩
  refine ⟨Hf1, e1, R1, g1.nextK t1.s fun d2 f2 e2 v2 H2 Hf2 _ R2 t2 z2 g2 => ⟨by show 2 ≤ sizeLine; rw [sizeLine_eq]; decide, fun p hp => ⟨p, [v1, v2], rfl, SqT.of upd_same, rfl, v1, [v2], rfl, v2, [], rfl, rfl, ?_⟩⟩⟩
  obtain ⟨R2', t2'⟩ := R2.grow (pu := true) (o := .tup [v1, v2]) hp
  have h1 := Hld.of R t1 z1
  have h2 := (Hld.of R1 t2 z2).keep t2'
  have ap := h1.apart z2
  cases q : putS e2 i d1 f1 with
  | nx e3 =>
    simp only [q] at g2
    obtain ⟨R3, t3, o3⟩ := put1 q ((t1.trans t2).trans t2').s R2' (h1.keep (t2.trans t2'))
    have h2' := (h2.after o3 ap).back t1.there
    exact g2.put t3 R3 (fun p _ hf hv => (h2'.2 p hf hv).1) h2'.1
  | _ => simp only [q] at g2; exact g2.elim
end
end Cor
set_option Elab.async false
set_option linter.all false
set_option maxRecDepth 100000
set_option maxHeartbeats 2000000
/-! CorP: dicts' words, computed; dicts as lists of pairs; loops by what stays true. -/
namespace Cor
open PySem PySem.Spec L2
section
variable {env e e1 e2 : Env} {m ma mb mk mv mx : Env → RE} {ms : Env → REs} {d x y z k v : D} {f fr b tk : Bool} {ds ks vs : List D} {i j : Nat} {c : XC} {n l : Int}
def d1F (tk : Bool) (k v : D) (e : Env) : RE := if keyB tk k = true then .ok (.dct tk [k] [v]) true e else .no
@[simp] theorem x_eD1 : eD1 tk mk mv env = K2 (mk env) mv (d1F tk) := rfl
@[simp] theorem d1F_ok (h : keyB tk k = true) : d1F tk k v e = .ok (.dct tk [k] [v]) true e := if_pos h
@[simp] theorem x_eDnew : eDnew tk env = .ok (.dct tk [] []) true env := rfl
def sdK (i : Nat) (mb : Env → RE) (r : RE) : RS := r.bindS fun d _ e1 => match ioGet e1 i with
  | some (.dct _ _ _) => (mb e1).bindS fun z _ e2 => match ioGet e2 i with
    | some (.dct tk ks ds) => if keyB tk z = true ∧ ks.length < lim then .nx (e2.set i (putBack (getS e2 i) (.dct tk (putKs ks z ks z) (putVs ks z ds d)))) else .no
    | _ => .no
  | _ => .no
def sdK2 (i : Nat) (d : D) (o : Option D) (r : RE) : RS := match o with
  | some (.dct _ _ _) => r.bindS fun z _ e2 => match ioGet e2 i with
    | some (.dct tk ks ds) => if keyB tk z = true ∧ ks.length < lim then .nx (e2.set i (putBack (getS e2 i) (.dct tk (putKs ks z ks z) (putVs ks z ds d)))) else .no
    | _ => .no
  | _ => .no
def sdK3 (i : Nat) (d : D) (o : Option D) (z : D) (e2 : Env) : RS := match o with
    | some (.dct tk ks ds) => if keyB tk z = true ∧ ks.length < lim then .nx (e2.set i (putBack (getS e2 i) (.dct tk (putKs ks z ks z) (putVs ks z ds d)))) else .no
    | _ => .no
@[simp] theorem x_sStD : sStD i mb ma env = sdK i mb (ma env) := rfl
@[simp] theorem sdK_ok : sdK i mb (.ok d fr e) = sdK2 i d (ioGet e i) (mb e) := rfl
@[simp] theorem sdK2_ok : sdK2 i d (some (.dct tk ks ds)) (.ok z fr e) = sdK3 i d (ioGet e i) z e := rfl
@[simp] theorem sdK3_ok : sdK3 i d (some (.dct tk ks ds)) z e = if keyB tk z = true ∧ ks.length < 1000000 then .nx (e.set i (putBack (getS e i) (.dct tk (putKs ks z ks z) (putVs ks z ds d)))) else .no := rfl
def gtK (i : Nat) (o : Option D) (r : RE) (mx : Env → RE) : RE := match o with
  | some (.dct _ _ _) => r.bind fun k _ e1 => (mx e1).bind fun y _ e2 => match (getS e2 i).get with
    | some (.dct tk ks ds) => if keyB tk k = true ∧ ks.length = ds.length then .ok ((lookD ks ds k).getD y) false e2 else .no
    | _ => .no
  | _ => .no
def gtK2 (i : Nat) (k : D) (r : RE) : RE := r.bind fun y _ e2 => match (getS e2 i).get with
    | some (.dct tk ks ds) => if keyB tk k = true ∧ ks.length = ds.length then .ok ((lookD ks ds k).getD y) false e2 else .no
    | _ => .no
def gtK3 (o : Option D) (k y : D) (e2 : Env) : RE := match o with
    | some (.dct tk ks ds) => if keyB tk k = true ∧ ks.length = ds.length then .ok ((lookD ks ds k).getD y) false e2 else .no
    | _ => .no
@[simp] theorem x_eGetR : eGetR i mk mx env = gtK i (getS env i).get (mk env) mx := rfl
@[simp] theorem gtK_ok : gtK i (some (.dct tk ks ds)) (.ok k f e) mx = gtK2 i k (mx e) := rfl
@[simp] theorem gtK2_ok : gtK2 i k (.ok y f e) = gtK3 (getS e i).get k y e := rfl
@[simp] theorem gtK3_ok : gtK3 (some (.dct tk ks ds)) k y e = if keyB tk k = true ∧ ks.length = ds.length then .ok ((lookD ks ds k).getD y) false e else .no := rfl
def itF (x : D) (e1 : Env) : REs := match x with
  | .dct _ ks ds => if ks.length = ds.length then .ok (List.zipWith (fun x y => D.tup [x, y]) ks ds) e1 else .no
  | _ => .no
def vlF (x : D) (e1 : Env) : REs := match x with
  | .dct _ _ ds => .ok ds e1
  | _ => .no
@[simp] theorem x_iItms : iItms ma env = iK (ma env) itF := rfl
@[simp] theorem itF_ok : itF (.dct tk ks ds) e = if ks.length = ds.length then .ok (List.zipWith (fun x y => D.tup [x, y]) ks ds) e else .no := rfl
@[simp] theorem x_iVals : iVals ma env = iK (ma env) vlF := rfl
@[simp] theorem vlF_ok : vlF (.dct tk ks ds) e = .ok ds e := rfl
def srF (x : D) (e1 : Env) : RE := match x with
  | .lst ds => if srtOk ds = true then .ok (.lst (srtD ds)) true e1 else .no
  | .tup ds => if srtOk ds = true then .ok (.lst (srtD ds)) true e1 else .no
  | .dct _ ds _ => if srtOk ds = true then .ok (.lst (srtD ds)) true e1 else .no
  | _ => .no
@[simp] theorem x_eSrt : eSrt ma env = K1 (ma env) srF := rfl
@[simp] theorem srF_lst : srF (.lst ds) e = if srtOk ds = true then .ok (.lst (srtD ds)) true e else .no := rfl
@[simp] theorem srF_tup : srF (.tup ds) e = if srtOk ds = true then .ok (.lst (srtD ds)) true e else .no := rfl
@[simp] theorem srF_dct : srF (.dct tk ds vs) e = if srtOk ds = true then .ok (.lst (srtD ds)) true e else .no := rfl
def mx2K (r : REs) : RE := match r with
  | .ok [.int i, .int j] e1 => .ok (.int (if j > i then j else i)) false e1
  | _ => .no
def mn2K (r : REs) : RE := match r with
  | .ok [.int i, .int j] e1 => .ok (.int (if j < i then j else i)) false e1
  | _ => .no
@[simp] theorem x_eMx2 : eMx2 ms env = mx2K (ms env) := rfl
@[simp] theorem x_eMn2 : eMn2 ms env = mn2K (ms env) := rfl
@[simp] theorem mx2K_ok : mx2K (.ok [.int n, .int l] e) = .ok (.int (if l > n then l else n)) false e := rfl
@[simp] theorem mn2K_ok : mn2K (.ok [.int n, .int l] e) = .ok (.int (if l < n then l else n)) false e := rfl
def smF2 (o : Option (List Int)) (e1 : Env) : RE := match o with
    | some is => .ok (.int is.sum) false e1
    | none => .no
def smF (x : D) (e1 : Env) : RE := match x with
  | .dct _ _ ds => smF2 (intsOf ds) e1
  | _ => .no
@[simp] theorem x_eSumV : eSumV ma env = K1 (ma env) smF := by
  unfold eSumV K1
  congr 1
@[simp] theorem smF_ok : smF (.dct tk ks ds) e = smF2 (intsOf ds) e := rfl
@[simp] theorem smF2_ok {is : List Int} : smF2 (some is) e = .ok (.int is.sum) false e := rfl
def ldF (x : D) (e1 : Env) : RE := match x with
  | .dct _ ks _ => if ks.length ≤ lim then .ok (.lst ks) true e1 else .no
  | _ => .no
def tdF (x : D) (e1 : Env) : RE := match x with
  | .dct _ ks _ => if ks.length ≤ lim then .ok (.tup ks) false e1 else .no
  | _ => .no
@[simp] theorem x_eLstD : eLstD ma env = K1 (ma env) ldF := rfl
@[simp] theorem x_eTupD : eTupD ma env = K1 (ma env) tdF := rfl
@[simp] theorem ldF_ok : ldF (.dct tk ks ds) e = if ks.length ≤ 1000000 then .ok (.lst ks) true e else .no := rfl
@[simp] theorem tdF_ok : tdF (.dct tk ks ds) e = if ks.length ≤ 1000000 then .ok (.tup ks) false e else .no := rfl
@[simp] theorem cmp_inD : cmpD .In k (.dct tk ks ds) = if keyB tk k = true then some (findK ks k).isSome else none := by cases k <;> rfl
@[simp] theorem cmp_ninD : cmpD .NotIn k (.dct tk ks ds) = if keyB tk k = true then some (!(findK ks k).isSome) else none := by cases k <;> rfl
@[simp] theorem sub_dct : subD (.dct tk ks ds) k = if keyB tk k = true then lookD ks ds k else none := by cases k <;> rfl
@[simp] theorem len_dct : b1D .len (.dct tk ks ds) = some (.int ks.length, false) := rfl
@[simp] theorem okK_int {n : Nat} {i : Int} : okK n (.int i) = true := by cases n <;> rfl
@[simp] theorem okK_tup {n : Nat} : okK (n + 1) (.tup ds) = ds.all (okK n) := rfl
@[simp] theorem keyB_tup : keyB true (.tup ds) = ds.all (okK 7) := rfl
@[simp] theorem keyB_int {i : Int} : keyB false (.int i) = true := rfl
end
/-! ### dicts as lists of pairs -/
section
variable {α β : Type} [DecidableEq α]
def ak (P : List (α × β)) : List α := P.map (·.1)
def av (P : List (α × β)) : List β := P.map (·.2)
@[simp] theorem ak_len {P : List (α × β)} : (ak P).length = P.length := List.length_map ..
@[simp] theorem av_len {P : List (α × β)} : (av P).length = P.length := List.length_map ..
def alook (P : List (α × β)) (a : α) : Option β := (P.find? fun p => decide (p.1 = a)).map (·.2)
def aput : List (α × β) → α → β → List (α × β)
  | [], a, b => [(a, b)]
  | p :: P, a, b => if p.1 = a then (p.1, b) :: P else p :: aput P a b
def sput (K : List α) (a : α) : List α := if a ∈ K then K else K ++ [a]
theorem alook_nil {a : α} : alook ([] : List (α × β)) a = none := rfl
theorem alook_cons {p : α × β} {P : List (α × β)} {a : α} : alook (p :: P) a = if p.1 = a then some p.2 else alook P a := by
  unfold alook
  rw [List.find?_cons]
  by_cases h : p.1 = a
  · simp [h]
  · simp [h]
theorem alook_aput {P : List (α × β)} {a c : α} {b : β} : alook (aput P a b) c = if a = c then some b else alook P c := by
  induction P with
  | nil => simp [aput, alook_cons, alook_nil]
  | cons p P ih =>
    unfold aput
    by_cases h : p.1 = a
    · rw [if_pos h, alook_cons]
      by_cases q : a = c
      · simp [h, q]
      · have : ¬ p.1 = c := fun e => q (h.symm.trans e)
        simp [q, this, alook_cons]
    · rw [if_neg h, alook_cons, ih]
      by_cases q : p.1 = c
      · have : ¬ a = c := fun e => h (q.trans e.symm)
        simp [q, this, alook_cons]
      · simp [q, alook_cons]
theorem alook_none {P : List (α × β)} {a : α} : alook P a = none ↔ a ∉ ak P := by
  induction P with
  | nil => simp [alook_nil, ak]
  | cons p P ih =>
    rw [alook_cons]
    by_cases h : p.1 = a
    · simp [h, ak]
    · rw [if_neg h, ih]
      simp [ak, Ne.symm h]
theorem alook_isSome {P : List (α × β)} {a : α} : (alook P a).isSome = decide (a ∈ ak P) := by
  cases h : alook P a with
  | none => simp [alook_none.mp h]
  | some b =>
    have : a ∈ ak P := Classical.byContradiction fun q => by rw [alook_none.mpr q] at h; cases h
    simp [this]
theorem ak_aput {P : List (α × β)} {a : α} {b : β} : ak (aput P a b) = sput (ak P) a := by
  induction P with
  | nil => rfl
  | cons p P ih =>
    unfold aput sput
    by_cases h : p.1 = a
    · simp [h, ak]
    · rw [if_neg h]
      have e : ak (p :: aput P a b) = p.1 :: ak (aput P a b) := rfl
      rw [e, ih]
      unfold sput
      by_cases q : a ∈ ak P
      · rw [if_pos q, if_pos (by simpa [ak, Ne.symm h] using q)]; rfl
      · rw [if_neg q, if_neg (by simpa [ak, Ne.symm h] using q)]; rfl
theorem aput_len {P : List (α × β)} {a : α} {b : β} : (aput P a b).length ≤ P.length + 1 := by
  induction P with
  | nil => simp [aput]
  | cons p P ih =>
    unfold aput
    split
    · simp
    · simp only [List.length_cons]; omega
theorem sput_mem {K : List α} {a x : α} : x ∈ sput K a ↔ x ∈ K ∨ x = a := by
  unfold sput
  split
  · rename_i h
    exact ⟨.inl, fun q => q.elim id fun e => e ▸ h⟩
  · simp
theorem sput_nodup {K : List α} {a : α} (h : K.Nodup) : (sput K a).Nodup := by
  unfold sput
  split
  · exact h
  · rename_i q
    rw [List.nodup_append]
    exact ⟨h, by simp, fun x hx y hy e => by simp only [List.mem_singleton] at hy; subst hy; subst e; exact q hx⟩
/-- keys that stand for α -/
class KeyE (en : α → D) : Prop where
  eq : ∀ a b, D.eqv (en a) (en b) = decide (a = b)
class Key (en : α → D) : Prop extends KeyE en where
  ky : ∀ a, keyB true (en a) = true
section
variable {en : α → D} {ev : β → D} [KeyE en]
theorem findK_nil {k : D} : findK [] k = none := rfl
theorem findK_cons {k x : D} {ks : List D} : findK (x :: ks) k = if D.eqv x k = true then some 0 else (findK ks k).map (· + 1) := by
  unfold findK
  rw [List.findIdx?_cons]
@[simp] theorem findK_some {K : List α} {a : α} : (findK (K.map en) (en a)).isSome = decide (a ∈ K) := by
  induction K with
  | nil => simp [findK_nil]
  | cons x K ih =>
    rw [List.map_cons, findK_cons, KeyE.eq]
    by_cases h : x = a
    · simp [h]
    · simp only [decide_eq_true_eq, h, if_false, Option.isSome_map, ih, List.mem_cons, Ne.symm h, false_or]
theorem findK_none {K : List α} {a : α} (h : a ∉ K) : findK (K.map en) (en a) = none := by
  have := findK_some (en := en) (K := K) (a := a)
  rw [decide_eq_false h] at this
  cases q : findK (K.map en) (en a) with
  | none => rfl
  | some i => rw [q] at this; cases this
@[simp] theorem lookD_P {P : List (α × β)} {a : α} : lookD ((ak P).map en) ((av P).map ev) (en a) = (alook P a).map ev := by
  induction P with
  | nil => rfl
  | cons p P ih =>
    have e1 : ak (p :: P) = p.1 :: ak P := rfl
    have e2 : av (p :: P) = p.2 :: av P := rfl
    rw [e1, e2, List.map_cons, List.map_cons, alook_cons]
    unfold lookD at ih ⊢
    rw [findK_cons, KeyE.eq]
    by_cases h : p.1 = a
    · simp [h]
    · simp only [decide_eq_true_eq, h, if_false]
      rw [← ih]
      cases findK ((ak P).map en) (en a) <;> simp
theorem putK_P {P : List (α × β)} {a : α} {b : β} : putKs ((ak P).map en) (en a) ((ak P).map en) (en a) = (ak (aput P a b)).map en := by
  rw [ak_aput]
  unfold putKs sput
  have := findK_some (en := en) (K := ak P) (a := a)
  by_cases h : a ∈ ak P
  · rw [decide_eq_true h] at this
    obtain ⟨i, hi⟩ := Option.isSome_iff_exists.mp this
    rw [hi, if_pos h]
  · rw [findK_none h, if_neg h]
    simp
theorem putV_P {P : List (α × β)} {a : α} {b : β} : putVs ((ak P).map en) (en a) ((av P).map ev) (ev b) = (av (aput P a b)).map ev := by
  induction P with
  | nil => rfl
  | cons p P ih =>
    have e1 : ak (p :: P) = p.1 :: ak P := rfl
    have e2 : av (p :: P) = p.2 :: av P := rfl
    rw [e1, e2, List.map_cons, List.map_cons]
    unfold putVs at ih ⊢
    rw [findK_cons, KeyE.eq]
    unfold aput
    by_cases h : p.1 = a
    · simp [h, av]
    · simp only [decide_eq_true_eq, h, if_false]
      have e3 : av (p :: aput P a b) = p.2 :: av (aput P a b) := rfl
      rw [e3, List.map_cons, ← ih]
      cases findK ((ak P).map en) (en a) <;> simp
theorem putK_S {K : List α} {a : α} : putKs (K.map en) (en a) (K.map en) (en a) = (sput K a).map en := by
  have := putK_P (en := en) (P := K.map fun x => (x, ())) (a := a) (b := ())
  have e : ak (K.map fun x => (x, ())) = K := by unfold ak; rw [List.map_map]; exact List.map_id K
  rw [ak_aput, e] at this
  exact this
theorem putV_S {K : List α} {a : α} {v : D} : putVs (K.map en) (en a) (List.replicate K.length v) v = List.replicate (sput K a).length v := by
  unfold putVs sput
  have := findK_some (en := en) (K := K) (a := a)
  by_cases h : a ∈ K
  · rw [decide_eq_true h] at this
    obtain ⟨i, hi⟩ := Option.isSome_iff_exists.mp this
    rw [hi, if_pos h]
    exact List.set_replicate_self
  · rw [findK_none h, if_neg h]
    simp [List.replicate_succ']
end
variable {en : α → D} {ev : β → D} [Key en]
/-- a dict of pairs -/
abbrev dP (en : α → D) (ev : β → D) (P : List (α × β)) : D := .dct true ((ak P).map en) ((av P).map ev)
/-- a dict whose values are all true -/
abbrev dS (en : α → D) (K : List α) : D := .dct true (K.map en) (List.replicate K.length (.bl true))
variable {i : Nat} {e : Env} {P : List (α × β)} {K : List α} {a : α} {b : β}
@[simp high] theorem st_P (h : P.length < 1000000) : sdK3 i (ev b) (some (dP en ev P)) (en a) e = .nx (e.set i (putBack (getS e i) (dP en ev (aput P a b)))) := by
  rw [sdK3_ok, if_pos ⟨Key.ky a, by simpa using h⟩, putK_P (b := b), putV_P]
@[simp high] theorem st_S (h : K.length < 1000000) : sdK3 i (.bl true) (some (dS en K)) (en a) e = .nx (e.set i (putBack (getS e i) (dS en (sput K a)))) := by
  rw [sdK3_ok, if_pos ⟨Key.ky a, by simpa using h⟩, putK_S, putV_S]
@[simp high] theorem get_P {y : D} : gtK3 (some (dP en ev P)) (en a) y e = .ok (((alook P a).map ev).getD y) false e := by
  rw [gtK3_ok, if_pos ⟨Key.ky a, by simp⟩, lookD_P]
@[simp high] theorem in_S : cmpD .In (en a) (dS en K) = some (decide (a ∈ K)) := by rw [cmp_inD, if_pos (Key.ky a), findK_some]
@[simp high] theorem nin_S : cmpD .NotIn (en a) (dS en K) = some (!decide (a ∈ K)) := by rw [cmp_ninD, if_pos (Key.ky a), findK_some]
@[simp high] theorem in_P : cmpD .In (en a) (dP en ev P) = some (decide (a ∈ ak P)) := by rw [cmp_inD, if_pos (Key.ky a), findK_some]
@[simp high] theorem nin_P : cmpD .NotIn (en a) (dP en ev P) = some (!decide (a ∈ ak P)) := by rw [cmp_ninD, if_pos (Key.ky a), findK_some]
@[simp high] theorem sub_P : subD (dP en ev P) (en a) = (alook P a).map ev := by rw [sub_dct, if_pos (Key.ky a), lookD_P]
@[simp high] theorem itm_P : itF (dP en ev P) e = .ok (P.map fun p => .tup [en p.1, ev p.2]) e := by
  rw [itF_ok, if_pos (by simp)]
  congr 1
  induction P with
  | nil => rfl
  | cons p P ih =>
    have e1 : ak (p :: P) = p.1 :: ak P := rfl
    have e2 : av (p :: P) = p.2 :: av P := rfl
    rw [e1, e2, List.map_cons, List.map_cons, List.zipWith_cons_cons, ih, List.map_cons]
end
/-! ### dicts whose keys are ints -/
section
variable {β : Type} {ev : β → D} {P : List (Int × β)} {K : List Int} {i : Nat} {e : Env} {a : Int} {b : β}
instance : KeyE D.int := ⟨fun a b => by rw [eqv_int]; rfl⟩
abbrev dI (ev : β → D) (P : List (Int × β)) : D := .dct false ((ak P).map D.int) ((av P).map ev)
@[simp high] theorem st_I (h : P.length < 1000000) : sdK3 i (ev b) (some (dI ev P)) (.int a) e = .nx (e.set i (putBack (getS e i) (dI ev (aput P a b)))) := by
  rw [sdK3_ok, if_pos ⟨rfl, by simpa using h⟩, putK_P (b := b), putV_P]
@[simp high] theorem get_I {y : D} : gtK3 (some (dI ev P)) (.int a) y e = .ok (((alook P a).map ev).getD y) false e := by
  rw [gtK3_ok, if_pos ⟨rfl, by simp⟩, lookD_P]
@[simp high] theorem in_I : cmpD .In (.int a) (dI ev P) = some (decide (a ∈ ak P)) := by rw [cmp_inD, if_pos (show keyB false (D.int a) = true from rfl), findK_some]
@[simp high] theorem nin_I : cmpD .NotIn (.int a) (dI ev P) = some (!decide (a ∈ ak P)) := by rw [cmp_ninD, if_pos (show keyB false (D.int a) = true from rfl), findK_some]
@[simp high] theorem sub_I : subD (dI ev P) (.int a) = (alook P a).map ev := by rw [sub_dct, if_pos (show keyB false (D.int a) = true from rfl), lookD_P]
end
/-! ### loops -/
section
variable {α σ ρ : Type} {t : TG} {ss ms : Env → RS} {mc : Env → RE}
theorem for_fold (en : α → D) (st : σ → α → σ) (E : σ → Env → Prop) : ∀ (xs : List α) (s : σ) (e : Env), (∀ s a e, a ∈ xs → E s e → ∃ e2, asg t (en a) e = some e2 ∧ ∃ e', (ss e2 = .nx e' ∨ ss e2 = .ct e') ∧ E (st s a) e') → E s e →
    ∃ e', forL (stepF t ss) (xs.map en) e = .nx e' ∧ E (xs.foldl st s) e'
  | [], s, e, _, h => ⟨e, rfl, h⟩
  | a :: xs, s, e, hs, h => by
    obtain ⟨e2, h1, e', h2, h3⟩ := hs s a e (List.mem_cons_self ..) h
    obtain ⟨e3, h4, h5⟩ := for_fold en st E xs (st s a) e' (fun s b e hb => hs s b e (List.mem_cons_of_mem _ hb)) h3
    refine ⟨e3, ?_, h5⟩
    rw [List.map_cons, forL_step, h1, seK_ok]
    rcases h2 with h2 | h2 <;> rw [h2]
    · rw [feK_nx]; exact h4
    · rw [feK_ct]; exact h4
/-- fold until something is found -/
def foldX (st : σ → α → σ ⊕ ρ) : List α → σ → σ ⊕ ρ
  | [], s => .inl s
  | a :: as, s => match st s a with
    | .inl s' => foldX st as s'
    | .inr r => .inr r
theorem for_findR (en : α → D) (st : σ → α → σ ⊕ ρ) (E : σ → Env → Prop) (dr : ρ → D) : ∀ (xs : List α) (s : σ) (e : Env), (∀ s a e, a ∈ xs → E s e → ∃ e2, asg t (en a) e = some e2 ∧ match st s a with
      | .inl s' => ∃ e', (ss e2 = .nx e' ∨ ss e2 = .ct e') ∧ E s' e'
      | .inr r => ∃ f e', ss e2 = .rt (dr r) f e') → E s e →
    match foldX st xs s with
      | .inl s' => ∃ e', forL (stepF t ss) (xs.map en) e = .nx e' ∧ E s' e'
      | .inr r => ∃ f e', forL (stepF t ss) (xs.map en) e = .rt (dr r) f e'
  | [], s, e, _, h => ⟨e, rfl, h⟩
  | a :: xs, s, e, hs, h => by
    obtain ⟨e2, h1, h2⟩ := hs s a e (List.mem_cons_self ..) h
    unfold foldX
    cases q : st s a with
    | inl s' =>
      simp only [q] at h2
      obtain ⟨e', h3, h4⟩ := h2
      have ih := for_findR en st E dr xs s' e' (fun s b e hb => hs s b e (List.mem_cons_of_mem _ hb)) h4
      have key : forL (stepF t ss) ((a :: xs).map en) e = forL (stepF t ss) (xs.map en) e' := by
        rw [List.map_cons, forL_step, h1, seK_ok]
        rcases h3 with h3 | h3 <;> rw [h3]
        · rw [feK_nx]
        · rw [feK_ct]
      rw [key]
      exact ih
    | inr r =>
      simp only [q] at h2
      obtain ⟨f, e', h3⟩ := h2
      exact ⟨f, e', by rw [List.map_cons, forL_step, h1, seK_ok, h3, feK_rt]⟩
def runW (c : σ → Bool) (st : σ → σ) : Nat → σ → σ
  | 0, s => s
  | n + 1, s => if c s = true then runW c st n (st s) else s
theorem whl_run (c : σ → Bool) (st : σ → σ) (E : σ → Env → Prop) (h1 : ∀ s e, E s e → ∃ f e1, mc e = .ok (.bl (c s)) f e1 ∧ (c s = true → ∃ e', (ms e1 = .nx e' ∨ ms e1 = .ct e') ∧ E (st s) e') ∧ (c s = false → E s e1)) :
    ∀ (n : Nat) (s : σ) (e : Env), E s e → c (runW c st n s) = false → ∃ e', sWhl mc ms e = .nx e' ∧ E (runW c st n s) e'
  | 0, s, e, h, q => by
    obtain ⟨f, e1, h2, _, h4⟩ := h1 s e h
    have q : c s = false := q
    refine ⟨e1, ?_, h4 q⟩
    rw [sWhl_step, h2, whK_bl, q]
    rfl
  | n + 1, s, e, h, q => by
    obtain ⟨f, e1, h2, h3, h4⟩ := h1 s e h
    unfold runW at q ⊢
    by_cases hc : c s = true
    · rw [if_pos hc] at q ⊢
      obtain ⟨e', h5, h6⟩ := h3 hc
      obtain ⟨e2, h7, h8⟩ := whl_run c st E h1 n (st s) e' h6 q
      refine ⟨e2, ?_, h8⟩
      rw [sWhl_step, h2, whK_bl, if_pos hc]
      rcases h5 with h5 | h5 <;> rw [h5]
      · rw [whK2_nx]; exact h7
      · rw [whK2_ct]; exact h7
    · have hc' : c s = false := by simpa using hc
      rw [if_neg hc] at q ⊢
      refine ⟨e1, ?_, h4 hc'⟩
      rw [sWhl_step, h2, whK_bl, if_neg hc]
def runX (c : σ → Bool) (st : σ → σ ⊕ ρ) : Nat → σ → σ ⊕ ρ
  | 0, s => .inl s
  | n + 1, s => if c s = true then (match st s with
    | .inl s' => runX c st n s'
    | .inr r => .inr r) else .inl s
theorem whl_runX (c : σ → Bool) (st : σ → σ ⊕ ρ) (E : σ → Env → Prop) (dr : ρ → D) (h1 : ∀ s e, E s e → ∃ f e1, mc e = .ok (.bl (c s)) f e1 ∧ (c s = true → match st s with
      | .inl s' => ∃ e', (ms e1 = .nx e' ∨ ms e1 = .ct e') ∧ E s' e'
      | .inr r => ∃ f e', ms e1 = .rt (dr r) f e') ∧ (c s = false → E s e1)) :
    ∀ (n : Nat) (s : σ) (e : Env), E s e → (∀ s', runX c st n s = .inl s' → c s' = false) → match runX c st n s with
      | .inl s' => ∃ e', sWhl mc ms e = .nx e' ∧ E s' e'
      | .inr r => ∃ f e', sWhl mc ms e = .rt (dr r) f e'
  | 0, s, e, h, q => by
    obtain ⟨f, e1, h2, _, h4⟩ := h1 s e h
    have q : c s = false := q s rfl
    refine ⟨e1, ?_, h4 q⟩
    rw [sWhl_step, h2, whK_bl, q]
    rfl
  | n + 1, s, e, h, q => by
    obtain ⟨f, e1, h2, h3, h4⟩ := h1 s e h
    unfold runX at q ⊢
    by_cases hc : c s = true
    · rw [if_pos hc] at q ⊢
      have h3 := h3 hc
      cases hs : st s with
      | inl s' =>
        simp only [hs] at h3 q ⊢
        obtain ⟨e', h5, h6⟩ := h3
        have ih := whl_runX c st E dr h1 n s' e' h6 q
        have key : sWhl mc ms e = sWhl mc ms e' := by
          rw [sWhl_step, h2, whK_bl, if_pos hc]
          rcases h5 with h5 | h5 <;> rw [h5]
          · rw [whK2_nx]
          · rw [whK2_ct]
        rw [key]
        exact ih
      | inr r =>
        simp only [hs] at h3 ⊢
        obtain ⟨f, e', h5⟩ := h3
        exact ⟨f, e', by rw [sWhl_step, h2, whK_bl, if_pos hc, h5, whK2_rt]⟩
    · have hc' : c s = false := by simpa using hc
      rw [if_neg hc] at q ⊢
      refine ⟨e1, ?_, h4 hc'⟩
      rw [sWhl_step, h2, whK_bl, if_neg hc]
/-- a comprehension: what is taken, what it gives -/
theorem compL_fm {vs : List Nat} {base : Env} {me : Env → RE} (en : α → D) (p : α → Bool) (j : α → D) (E : Env → Prop) : ∀ (ys : List α) (acc : List D) (e : Env), (∀ y e, y ∈ ys → E e → ∃ e1 fc e2, asg t (en y) e = some e1 ∧ mc e1 = .ok (.bl (p y)) fc e2 ∧ (p y = false → ∃ e4, wipeE e2 vs = some e4 ∧ E e4) ∧ (p y = true → ∃ fd e3 e4, me e2 = .ok (j y) fd e3 ∧ wipeE e3 vs = some e4 ∧ E e4)) →
    E e → acc.length + ys.length ≤ 1000000 → ∃ e', compL vs base t mc me (ys.map en) e acc = .ok (acc ++ (ys.filter p).map j) e' ∧ E e'
  | [], acc, e, _, h, _ => ⟨e, by simp, h⟩
  | y :: ys, acc, e, hs, h, hl => by
    obtain ⟨e1, fc, e2, h1, h2, h3, h4⟩ := hs y e (List.mem_cons_self ..) h
    simp only [List.length_cons] at hl
    cases hp : p y with
    | false =>
      obtain ⟨e4, h5, h6⟩ := h3 hp
      obtain ⟨e', h7, h8⟩ := compL_fm (base := base) en p j E ys acc e4 (fun y e hy => hs y e (List.mem_cons_of_mem _ hy)) h6 (by omega)
      refine ⟨e', ?_, h8⟩
      simp [h1, h2, hp, h5, h7]
    | true =>
      obtain ⟨fd, e3, e4, h5, h6, h9⟩ := h4 hp
      obtain ⟨e', h7, h8⟩ := compL_fm (base := base) en p j E ys (acc ++ [j y]) e4 (fun y e hy => hs y e (List.mem_cons_of_mem _ hy)) h9 (by simp only [List.length_append, List.length_cons, List.length_nil]; omega)
      refine ⟨e', ?_, h8⟩
      have ha : acc.length < 1000000 := by omega
      simp [h1, h2, hp, h5, h6, ha, h7]
end
end Cor
set_option Elab.async false
set_option linter.all false
set_option maxRecDepth 100000
set_option maxHeartbeats 2000000
/-! CorB: searches, level by level and by a queue, in plain words. -/
namespace Cor
section
variable {α : Type} [DecidableEq α]
theorem foldX_nil {σ ρ β : Type} {st : σ → β → σ ⊕ ρ} {s : σ} : foldX st [] s = .inl s := rfl
theorem foldX_app {σ ρ β : Type} {st : σ → β → σ ⊕ ρ} : ∀ (xs ys : List β) (s : σ), foldX st (xs ++ ys) s = match foldX st xs s with
    | .inl s' => foldX st ys s'
    | .inr r => .inr r
  | [], ys, s => rfl
  | x :: xs, ys, s => by
    rw [List.cons_append, foldX, foldX]
    cases st s x with
    | inl s' => exact foldX_app xs ys s'
    | inr r => rfl
theorem foldX_flat {σ ρ β γ : Type} {st : σ → β → σ ⊕ ρ} {g : γ → List β} : ∀ (xs : List γ) (s : σ), foldX st (xs.flatMap g) s = foldX (fun s x => foldX st (g x) s) xs s
  | [], s => rfl
  | x :: xs, s => by
    rw [List.flatMap_cons, foldX_app, foldX]
    cases foldX st (g x) s with
    | inl s' => exact foldX_flat xs s'
    | inr r => rfl
/-- new ones -/
def nw : List α → List (List Nat × α) → List (List Nat × α)
  | _, [] => []
  | K, x :: es => if x.2 ∈ K then nw K es else x :: nw (K ++ [x.2]) es
def addR (s : List α × List (List Nat × α)) (x : List Nat × α) : List α × List (List Nat × α) := if x.2 ∈ s.1 then s else (s.1 ++ [x.2], s.2 ++ [x])
theorem fold_addR : ∀ (es : List (List Nat × α)) (K : List α) (L : List (List Nat × α)), es.foldl addR (K, L) = (K ++ (nw K es).map (·.2), L ++ nw K es)
  | [], K, L => by simp [nw]
  | x :: es, K, L => by
    rw [List.foldl_cons]
    unfold addR nw
    by_cases h : x.2 ∈ K
    · rw [if_pos h, if_pos h]
      exact fold_addR es K L
    · rw [if_neg h, if_neg h]
      have := fold_addR es (K ++ [x.2]) (L ++ [x])
      unfold addR at this
      rw [this]
      simp [List.append_assoc]
theorem nw_mem : ∀ {es : List (List Nat × α)} {K : List α} {x : List Nat × α}, x ∈ nw K es → x ∈ es ∧ x.2 ∉ K
  | [], K, x, h => by simp [nw] at h
  | y :: es, K, x, h => by
    unfold nw at h
    split at h
    · obtain ⟨a, b⟩ := nw_mem h
      exact ⟨List.mem_cons_of_mem _ a, b⟩
    · rename_i q
      rcases List.mem_cons.mp h with e | h
      · rw [e]; exact ⟨List.mem_cons_self .., q⟩
      · obtain ⟨a, b⟩ := nw_mem h
        exact ⟨List.mem_cons_of_mem _ a, fun z => b (List.mem_append_left _ z)⟩
theorem nw_all : ∀ {es : List (List Nat × α)} {K : List α} {x : List Nat × α}, x ∈ es → x.2 ∈ K ∨ ∃ y ∈ nw K es, y.2 = x.2
  | y :: es, K, x, h => by
    unfold nw
    split
    · rename_i q
      rcases List.mem_cons.mp h with e | h
      · rw [e]; exact .inl q
      · exact nw_all h
    · rcases List.mem_cons.mp h with e | h
      · exact .inr ⟨y, List.mem_cons_self .., by rw [e]⟩
      · rcases nw_all (K := K ++ [y.2]) h with z | ⟨u, hu, e⟩
        · rcases List.mem_append.mp z with z | z
          · exact .inl z
          · simp only [List.mem_singleton] at z
            exact .inr ⟨y, List.mem_cons_self .., z.symm⟩
        · exact .inr ⟨u, List.mem_cons_of_mem _ hu, e⟩
theorem nw_nodup : ∀ {es : List (List Nat × α)} {K : List α}, K.Nodup → (K ++ (nw K es).map (·.2)).Nodup
  | [], K, h => by simpa [nw] using h
  | y :: es, K, h => by
    unfold nw
    split
    · exact nw_nodup h
    · rename_i q
      have h2 : (K ++ [y.2]).Nodup := by
        rw [List.nodup_append]
        exact ⟨h, by simp, fun a ha b hb e => by simp only [List.mem_singleton] at hb; subst hb; subst e; exact q ha⟩
      have := nw_nodup (es := es) h2
      simpa [List.append_assoc] using this
/-! level by level -/
variable (sc : α → List (Nat × α))
def edg (F : List (List Nat × α)) : List (List Nat × α) := F.flatMap fun x => (sc x.2).map fun y => (x.1 ++ [y.1], y.2)
abbrev BS (α : Type) := List α × List (List Nat × α)
def lvl (s : BS α) : BS α := (s.1 ++ (nw s.1 (edg sc s.2)).map (·.2), nw s.1 (edg sc s.2))
def lvC (s : BS α) : Bool := !decide (s.2 = [])
def bfs (n : Nat) (s : BS α) : BS α := runW lvC (lvl sc) n s
inductive Rc (a0 : α) : List Nat → α → Prop
  | nil : Rc a0 [] a0
  | snoc {row : List Nat} {a b : α} {c : Nat} : Rc a0 row a → (c, b) ∈ sc a → Rc a0 (row ++ [c]) b
structure Inv (a0 : α) (s : BS α) : Prop where
  nd : s.1.Nodup
  st : a0 ∈ s.1
  fk : ∀ x ∈ s.2, x.2 ∈ s.1
  kr : ∀ a ∈ s.1, ∃ row, Rc sc a0 row a
  fr : ∀ x ∈ s.2, Rc sc a0 x.1 x.2
  cl : ∀ a ∈ s.1, (∀ x ∈ s.2, x.2 ≠ a) → ∀ y ∈ sc a, y.2 ∈ s.1
variable {sc}
theorem Inv.start {a0 : α} : Inv sc a0 ([a0], [([], a0)]) where
  nd := by simp
  st := by simp
  fk := by simp
  kr := fun a ha => by simp only [List.mem_singleton] at ha; subst ha; exact ⟨[], .nil⟩
  fr := fun x hx => by simp only [List.mem_singleton] at hx; subst hx; exact .nil
  cl := fun a ha h => by simp only [List.mem_singleton] at ha; subst ha; exact absurd rfl (h _ (List.mem_singleton.mpr rfl))
theorem edg_mem {F : List (List Nat × α)} {z : List Nat × α} : z ∈ edg sc F ↔ ∃ x ∈ F, ∃ y ∈ sc x.2, z = (x.1 ++ [y.1], y.2) := by
  unfold edg
  simp only [List.mem_flatMap, List.mem_map]
  exact ⟨fun ⟨x, hx, y, hy, e⟩ => ⟨x, hx, y, hy, e.symm⟩, fun ⟨x, hx, y, hy, e⟩ => ⟨x, hx, y, hy, e.symm⟩⟩
theorem Inv.lvl {a0 : α} {s : BS α} (h : Inv sc a0 s) : Inv sc a0 (lvl sc s) where
  nd := nw_nodup h.nd
  st := List.mem_append_left _ h.st
  fk := fun x hx => List.mem_append_right _ (List.mem_map.mpr ⟨x, hx, rfl⟩)
  kr := fun a ha => by
    rcases List.mem_append.mp ha with ha | ha
    · exact h.kr a ha
    · obtain ⟨x, hx, rfl⟩ := List.mem_map.mp ha
      obtain ⟨u, hu, ⟨y1, y2⟩, hy, e⟩ := edg_mem.mp (nw_mem hx).1
      subst e
      exact ⟨_, .snoc (h.fr u hu) hy⟩
  fr := fun x hx => by
    obtain ⟨u, hu, ⟨y1, y2⟩, hy, e⟩ := edg_mem.mp (nw_mem hx).1
    subst e
    exact .snoc (h.fr u hu) hy
  cl := fun a ha hn y hy => by
    have hk : a ∈ s.1 := by
      rcases List.mem_append.mp ha with ha | ha
      · exact ha
      · obtain ⟨x, hx, e⟩ := List.mem_map.mp ha
        exact absurd e (hn x hx)
    by_cases hf : ∀ x ∈ s.2, x.2 ≠ a
    · exact List.mem_append_left _ (h.cl a hk hf y hy)
    · have : ∃ x ∈ s.2, x.2 = a := Classical.byContradiction fun q => hf fun x hx e => q ⟨x, hx, e⟩
      obtain ⟨x, hx, e⟩ := this
      have hm : (x.1 ++ [y.1], y.2) ∈ edg sc s.2 := edg_mem.mpr ⟨x, hx, y, by rw [e]; exact hy, rfl⟩
      rcases nw_all (K := s.1) hm with z | ⟨u, hu, e2⟩
      · exact List.mem_append_left _ z
      · exact List.mem_append_right _ (List.mem_map.mpr ⟨u, hu, e2⟩)
theorem Inv.bfs {a0 : α} : ∀ (n : Nat) {s : BS α}, Inv sc a0 s → Inv sc a0 (bfs sc n s)
  | 0, s, h => h
  | n + 1, s, h => by
    unfold Cor.bfs runW
    split
    · exact Inv.bfs n h.lvl
    · exact h
/-- a search ends -/
theorem bfs_end {a0 : α} {B : Nat} (hB : ∀ K : List α, K.Nodup → (∀ a ∈ K, ∃ row, Rc sc a0 row a) → K.length ≤ B) : ∀ (n : Nat) {s : BS α}, Inv sc a0 s → B + 2 ≤ n + s.1.length → (bfs sc n s).2 = []
  | 0, s, h, hn => by
    have := hB s.1 h.nd h.kr
    omega
  | n + 1, s, h, hn => by
    unfold bfs runW
    by_cases hc : s.2 = []
    · rw [if_neg (by simp [lvC, hc])]; exact hc
    · rw [if_pos (by simp [lvC, hc])]
      by_cases h2 : (lvl sc s).2 = []
      · have : runW lvC (lvl sc) n (lvl sc s) = lvl sc s := by
          cases n with
          | zero => rfl
          | succ n => unfold runW; rw [if_neg (by simp [lvC, h2])]
        rw [this]; exact h2
      · refine bfs_end hB n h.lvl ?_
        have e : (lvl sc s).1.length = s.1.length + (lvl sc s).2.length := by
          unfold lvl
          rw [List.length_append, List.length_map]
        have := List.length_pos_iff.mpr h2
        omega
/-- what is known behind a search: all that can be reached -/
theorem Inv.all {a0 : α} {s : BS α} (h : Inv sc a0 s) (he : s.2 = []) {a : α} : a ∈ s.1 ↔ ∃ row, Rc sc a0 row a := by
  have key : ∀ row a, Rc sc a0 row a → a ∈ s.1 := fun row a hr => by
    induction hr with
    | nil => exact h.st
    | snoc _ hm ih => exact h.cl _ ih (by rw [he]; simp) _ hm
  exact ⟨h.kr a, fun ⟨row, hr⟩ => key row a hr⟩
/-- a search with an end of its own: the edges, one by one -/
def trc (sc : α → List (Nat × α)) : Nat → BS α → List (List Nat × α)
  | 0, _ => []
  | n + 1, s => if lvC s = true then edg sc s.2 ++ trc sc n (lvl sc s) else []
def exX {ρ : Type} (p : List Nat × α → Option ρ) (s : BS α) (x : List Nat × α) : BS α ⊕ ρ := match p x with
  | some r => .inr r
  | none => .inl (addR s x)
theorem foldX_ex {ρ : Type} (p : List Nat × α → Option ρ) : ∀ (es : List (List Nat × α)) (s : BS α), foldX (exX p) es s = match es.findSome? p with
    | some r => .inr r
    | none => .inl (es.foldl addR s)
  | [], s => rfl
  | x :: es, s => by
    rw [foldX, List.findSome?_cons, List.foldl_cons]
    unfold exX
    cases q : p x with
    | some r => rfl
    | none => exact foldX_ex p es (addR s x)
theorem runX_trc {ρ : Type} (p : List Nat × α → Option ρ) : ∀ (n : Nat) (s : BS α), runX lvC (fun s => foldX (exX p) (edg sc s.2) (s.1, [])) n s = match (trc sc n s).findSome? p with
    | some r => .inr r
    | none => .inl (bfs sc n s)
  | 0, s => rfl
  | n + 1, s => by
    unfold runX trc bfs runW
    by_cases hc : lvC s = true
    · rw [if_pos hc, if_pos hc, if_pos hc, List.findSome?_append, foldX_ex]
      cases q : (edg sc s.2).findSome? p with
      | some r => rfl
      | none =>
        simp only [Option.none_or]
        have e : (edg sc s.2).foldl addR (s.1, []) = lvl sc s := by rw [fold_addR]; simp [lvl]
        rw [e]
        exact runX_trc p n (lvl sc s)
    · rw [if_neg hc, if_neg hc, if_neg hc]; rfl
end
/-! by a queue -/
section
variable {α : Type} [DecidableEq α] (sc : α → List (Nat × α))
def qst (s : List α × Nat) : List α × Nat := match s.1[s.2]? with
  | some h => (((sc h).map (·.2)).foldl sput s.1, s.2 + 1)
  | none => s
def qC (s : List α × Nat) : Bool := decide (s.2 < s.1.length)
structure QInv (a0 : α) (s : List α × Nat) : Prop where
  nd : s.1.Nodup
  st : a0 ∈ s.1
  le : s.2 ≤ s.1.length
  kr : ∀ a ∈ s.1, ∃ row, Rc sc a0 row a
  cl : ∀ i a, i < s.2 → s.1[i]? = some a → ∀ y ∈ sc a, y.2 ∈ s.1
variable {sc}
theorem QInv.start {a0 : α} : QInv sc a0 ([a0], 0) where
  nd := by simp
  st := by simp
  le := by simp
  kr := fun a ha => by simp only [List.mem_singleton] at ha; subst ha; exact ⟨[], .nil⟩
  cl := fun i a h => absurd h (Nat.not_lt_zero _)
theorem fold_sput : ∀ (xs K : List α), ∃ N, xs.foldl sput K = K ++ N ∧ (∀ x ∈ N, x ∈ xs) ∧ (∀ x ∈ xs, x ∈ K ++ N) ∧ (K.Nodup → (K ++ N).Nodup)
  | [], K => ⟨[], by simp, by simp, by simp, by simp⟩
  | x :: xs, K => by
    rw [List.foldl_cons]
    obtain ⟨N, h1, h2, h3, h4⟩ := fold_sput xs (sput K x)
    by_cases q : x ∈ K
    · have e : sput K x = K := if_pos q
      rw [e] at h1 h3 h4
      refine ⟨N, by rw [e]; exact h1, fun y hy => List.mem_cons_of_mem _ (h2 y hy), fun y hy => ?_, h4⟩
      rcases List.mem_cons.mp hy with rfl | hy
      · exact List.mem_append_left _ q
      · exact h3 y hy
    · have e : sput K x = K ++ [x] := if_neg q
      have nd := sput_nodup (K := K) (a := x)
      rw [e] at h1 h3 h4 nd
      refine ⟨x :: N, by rw [e, h1]; simp, fun y hy => ?_, fun y hy => ?_, fun h => by simpa using h4 (nd h)⟩
      · rcases List.mem_cons.mp hy with rfl | hy
        · exact List.mem_cons_self ..
        · exact List.mem_cons_of_mem _ (h2 y hy)
      · rcases List.mem_cons.mp hy with rfl | hy
        · simp
        · have := h3 y hy
          simpa [List.append_assoc] using this
theorem QInv.step {a0 : α} {s : List α × Nat} (h : QInv sc a0 s) (hc : qC s = true) : QInv sc a0 (qst sc s) ∧ (qst sc s).2 = s.2 + 1 := by
  have hl : s.2 < s.1.length := of_decide_eq_true hc
  unfold qst
  rw [List.getElem?_eq_getElem hl]
  obtain ⟨N, h1, h2, h3, h4⟩ := fold_sput ((sc s.1[s.2]).map (·.2)) s.1
  dsimp only
  rw [h1]
  refine ⟨⟨h4 h.nd, List.mem_append_left _ h.st, by simp only [List.length_append]; omega, fun a ha => ?_, fun i a hi ha y hy => ?_⟩, rfl⟩
  · rcases List.mem_append.mp ha with ha | ha
    · exact h.kr a ha
    · obtain ⟨⟨c, b⟩, hy, e⟩ := List.mem_map.mp (h2 a ha)
      obtain ⟨row, hr⟩ := h.kr _ (List.getElem_mem hl)
      subst e
      exact ⟨_, .snoc hr hy⟩
  · have hi2 : i < s.1.length := by dsimp only at hi; omega
    rw [List.getElem?_append_left hi2] at ha
    by_cases e : i = s.2
    · subst e
      rw [List.getElem?_eq_getElem hi2] at ha
      cases ha
      exact h3 _ (List.mem_map.mpr ⟨y, hy, rfl⟩)
    · exact List.mem_append_left _ (h.cl i a (by dsimp only at hi; omega) ha y hy)
theorem q_end {a0 : α} {B : Nat} (hB : ∀ K : List α, K.Nodup → (∀ a ∈ K, ∃ row, Rc sc a0 row a) → K.length ≤ B) : ∀ (n : Nat) {s : List α × Nat}, QInv sc a0 s → B ≤ n + s.2 → qC (runW qC (qst sc) n s) = false ∧ QInv sc a0 (runW qC (qst sc) n s)
  | 0, s, h, hn => by
    have := hB s.1 h.nd h.kr
    have := h.le
    exact ⟨decide_eq_false (by show ¬ s.2 < s.1.length; omega), h⟩
  | n + 1, s, h, hn => by
    unfold runW
    by_cases hc : qC s = true
    · rw [if_pos hc]
      obtain ⟨h2, e⟩ := h.step hc
      exact q_end hB n h2 (by rw [e]; omega)
    · rw [if_neg hc]
      exact ⟨by simpa using hc, h⟩
theorem QInv.all {a0 : α} {s : List α × Nat} (h : QInv sc a0 s) (he : qC s = false) {a : α} : a ∈ s.1 ↔ ∃ row, Rc sc a0 row a := by
  have hl : s.1.length ≤ s.2 := by
    have := of_decide_eq_false he
    omega
  have key : ∀ row a, Rc sc a0 row a → a ∈ s.1 := fun row a hr => by
    induction hr with
    | nil => exact h.st
    | @snoc row a b c _ hm ih =>
      obtain ⟨i, hi, e⟩ := List.getElem_of_mem ih
      exact h.cl i a (by omega) (by rw [List.getElem?_eq_getElem hi, e]) _ hm
  exact ⟨h.kr a, fun ⟨row, hr⟩ => key row a hr⟩
theorem perm_of {l m : List α} (h1 : l.Nodup) (h2 : m.Nodup) (h : ∀ a, a ∈ l ↔ a ∈ m) : l.Perm m := (List.perm_ext_iff_of_nodup h1 h2).mpr h
end
end Cor
namespace Cor
theorem foldX_map {σ ρ β γ : Type} {st : σ → β → σ ⊕ ρ} {g : γ → β} : ∀ (xs : List γ) (s : σ), foldX st (xs.map g) s = foldX (fun s x => st s (g x)) xs s
  | [], s => rfl
  | x :: xs, s => by
    rw [List.map_cons, foldX, foldX]
    cases st s (g x) with
    | inl s' => exact foldX_map xs s'
    | inr r => rfl
section
variable {α : Type} [DecidableEq α] {sc : α → List (Nat × α)}
/-- an edge that is met leads to what is known in the end -/
theorem bfs_le : ∀ (n : Nat) (s : BS α), ∀ a ∈ s.1, a ∈ (bfs sc n s).1
  | 0, s, a, h => h
  | n + 1, s, a, h => by
    unfold bfs runW
    split
    · exact bfs_le n _ a (List.mem_append_left _ h)
    · exact h
theorem trc_known : ∀ (n : Nat) (s : BS α), ∀ x ∈ trc sc n s, x.2 ∈ (bfs sc n s).1
  | 0, s, x, h => by cases h
  | n + 1, s, x, h => by
    unfold trc at h
    unfold bfs runW
    split at h
    · rename_i hc
      rw [if_pos hc]
      rcases List.mem_append.mp h with h | h
      · refine bfs_le n _ _ ?_
        rcases nw_all (K := s.1) h with z | ⟨u, hu, e⟩
        · exact List.mem_append_left _ z
        · exact List.mem_append_right _ (List.mem_map.mpr ⟨u, hu, e⟩)
      · exact trc_known n _ x h
    · cases h
theorem known_trc : ∀ (n : Nat) (s : BS α), ∀ a ∈ (bfs sc n s).1, a ∈ s.1 ∨ ∃ x ∈ trc sc n s, x.2 = a
  | 0, s, a, h => .inl h
  | n + 1, s, a, h => by
    unfold bfs runW at h
    unfold trc
    split at h
    · rename_i hc
      rw [if_pos hc]
      rcases known_trc n _ a h with h | ⟨x, hx, e⟩
      · rcases List.mem_append.mp h with h | h
        · exact .inl h
        · obtain ⟨x, hx, e⟩ := List.mem_map.mp h
          exact .inr ⟨x, List.mem_append_left _ (nw_mem hx).1, e⟩
      · exact .inr ⟨x, List.mem_append_right _ hx, e⟩
    · exact .inl h
end
end Cor
set_option Elab.async false
set_option linter.all false
set_option maxRecDepth 100000
set_option maxHeartbeats 2000000
/-! CorC: dicts that count, in plain words; rows one by one. -/
namespace Cor
section
variable {α : Type} [DecidableEq α]
/-- the sum of g over what is counted -/
def dsum (g : α → Int) : List (α × Int) → Int
  | [] => 0
  | p :: P => p.2 * g p.1 + dsum g P
theorem dsum_put (g : α → Int) (a : α) (m : Int) : ∀ Q : List (α × Int), dsum g (aput Q a ((alook Q a).getD 0 + m)) = dsum g Q + m * g a
  | [] => by simp [aput, dsum, alook_nil]
  | q :: Q => by
    rw [alook_cons]
    unfold aput
    by_cases h : q.1 = a
    · simp only [h, if_true, Option.getD_some, dsum]
      rw [Int.add_mul]; omega
    · simp only [h, if_false, dsum]
      rw [dsum_put g a m Q]; omega
def cadd (m : Int) (Q : List (α × Int)) (b : α) : List (α × Int) := aput Q b ((alook Q b).getD 0 + m)
def cst (sc : α → List α) (P : List (α × Int)) : List (α × Int) := P.foldl (fun Q p => (sc p.1).foldl (cadd p.2) Q) []
theorem dsum_fold (g : α → Int) (m : Int) : ∀ (bs : List α) (Q : List (α × Int)), dsum g (bs.foldl (cadd m) Q) = dsum g Q + m * (bs.map g).sum
  | [], Q => by simp
  | b :: bs, Q => by
    rw [List.foldl_cons, dsum_fold g m bs, cadd, dsum_put, List.map_cons, List.sum_cons, Int.mul_add]
    omega
theorem dsum_folds (g : α → Int) (sc : α → List α) : ∀ (P Q : List (α × Int)), dsum g (P.foldl (fun Q p => (sc p.1).foldl (cadd p.2) Q) Q) = dsum g Q + dsum (fun a => ((sc a).map g).sum) P
  | [], Q => by simp [dsum]
  | p :: P, Q => by
    rw [List.foldl_cons, dsum_folds g sc P, dsum_fold, dsum]
    omega
theorem dsum_cst (g : α → Int) (sc : α → List α) (P : List (α × Int)) : dsum g (cst sc P) = dsum (fun a => ((sc a).map g).sum) P := by
  unfold cst
  rw [dsum_folds]
  simp [dsum]
/-- n turns -/
def cstN (sc : α → List α) : Nat → List (α × Int) → List (α × Int)
  | 0, P => P
  | n + 1, P => cst sc (cstN sc n P)
def pth (sc : α → List α) : Nat → α → List α
  | 0, a => [a]
  | n + 1, a => (pth sc n a).flatMap sc
theorem sum_flat (g : α → Int) (sc : α → List α) : ∀ l : List α, ((l.flatMap sc).map g).sum = (l.map fun a => ((sc a).map g).sum).sum
  | [] => rfl
  | a :: l => by
    rw [List.flatMap_cons, List.map_append, List.sum_append, sum_flat g sc l, List.map_cons, List.sum_cons]
theorem dsum_N (sc : α → List α) (a0 : α) : ∀ (n : Nat) (g : α → Int), dsum g (cstN sc n [(a0, 1)]) = ((pth sc n a0).map g).sum
  | 0, g => by simp [cstN, pth, dsum]
  | n + 1, g => by
    rw [cstN, dsum_cst, dsum_N sc a0 n, pth, sum_flat]
/-! the keys are different -/
theorem cadd_nd {m : Int} {Q : List (α × Int)} {b : α} (h : (ak Q).Nodup) : (ak (cadd m Q b)).Nodup := by
  unfold cadd
  rw [ak_aput]
  exact sput_nodup h
theorem fold_nd {m : Int} : ∀ (bs : List α) {Q : List (α × Int)}, (ak Q).Nodup → (ak (bs.foldl (cadd m) Q)).Nodup
  | [], Q, h => h
  | b :: bs, Q, h => fold_nd bs (cadd_nd h)
theorem folds_nd {sc : α → List α} : ∀ (P : List (α × Int)) {Q : List (α × Int)}, (ak Q).Nodup → (ak (P.foldl (fun Q p => (sc p.1).foldl (cadd p.2) Q) Q)).Nodup
  | [], Q, h => h
  | p :: P, Q, h => folds_nd P (fold_nd _ h)
theorem cst_nd {sc : α → List α} {P : List (α × Int)} : (ak (cst sc P)).Nodup := folds_nd P (Q := []) (by simp [ak])
theorem cstN_nd {sc : α → List α} {a0 : α} : ∀ n, (ak (cstN sc n [(a0, 1)])).Nodup
  | 0 => by simp [cstN, ak]
  | n + 1 => cst_nd
theorem fold_mem {m : Int} {R : α → Prop} : ∀ (bs : List α) {Q : List (α × Int)}, (∀ b ∈ bs, R b) → (∀ a ∈ ak Q, R a) → ∀ a ∈ ak (bs.foldl (cadd m) Q), R a
  | [], Q, _, h => h
  | b :: bs, Q, hb, h => fold_mem bs (fun c hc => hb c (List.mem_cons_of_mem _ hc)) fun a ha => by
    unfold cadd at ha
    rw [ak_aput, sput_mem] at ha
    rcases ha with ha | rfl
    · exact h a ha
    · exact hb _ (List.mem_cons_self ..)
theorem folds_mem {sc : α → List α} {R : α → Prop} (hs : ∀ a, R a → ∀ b ∈ sc a, R b) : ∀ (P : List (α × Int)) {Q : List (α × Int)}, (∀ a ∈ ak P, R a) → (∀ a ∈ ak Q, R a) → ∀ a ∈ ak (P.foldl (fun Q p => (sc p.1).foldl (cadd p.2) Q) Q), R a
  | [], Q, _, h => h
  | p :: P, Q, hp, h => folds_mem hs P (fun a ha => hp a (by rw [ak] at ha ⊢; exact List.mem_cons_of_mem _ ha)) (fold_mem _ (hs _ (hp p.1 (by simp [ak]))) h)
theorem cstN_mem {sc : α → List α} {R : α → Prop} (hs : ∀ a, R a → ∀ b ∈ sc a, R b) {a0 : α} (h0 : R a0) : ∀ n, ∀ a ∈ ak (cstN sc n [(a0, 1)]), R a
  | 0 => fun a ha => by simp [cstN, ak] at ha; rw [ha]; exact h0
  | n + 1 => folds_mem hs _ (cstN_mem hs h0 n) (by simp [ak])
/-- what is counted of one -/
theorem look_dsum {b : α} : ∀ {P : List (α × Int)}, (ak P).Nodup → (alook P b).getD 0 = dsum (fun a => if a = b then 1 else 0) P
  | [], _ => rfl
  | p :: P, h => by
    have h' : p.1 ∉ ak P ∧ (ak P).Nodup := List.nodup_cons.mp h
    rw [alook_cons, dsum]
    by_cases q : p.1 = b
    · simp only [q, if_true, Option.getD_some]
      rw [← look_dsum h'.2, alook_none.mpr (q ▸ h'.1)]
      simp
    · simp only [q, if_false]
      rw [look_dsum h'.2]; omega
theorem look_at {p : α × Int} : ∀ {P : List (α × Int)}, (ak P).Nodup → p ∈ P → alook P p.1 = some p.2
  | q :: P, h, hp => by
    have h' : q.1 ∉ ak P ∧ (ak P).Nodup := List.nodup_cons.mp h
    rw [alook_cons]
    rcases List.mem_cons.mp hp with rfl | hp
    · simp
    · by_cases e : q.1 = p.1
      · exact absurd (List.mem_map.mpr ⟨p, hp, e.symm⟩) h'.1
      · rw [if_neg e]; exact look_at h'.2 hp
theorem dsum_one : ∀ P : List (α × Int), dsum (fun _ => 1) P = (av P).sum
  | [] => rfl
  | p :: P => by
    have : av (p :: P) = p.2 :: av P := rfl
    rw [this, List.sum_cons, dsum, dsum_one P]; omega
theorem map_look {P : List (α × Int)} (h : (ak P).Nodup) : (ak P).map (fun a => (alook P a).getD 0) = av P := by
  unfold ak av
  rw [List.map_map]
  refine List.map_congr_left fun p hp => ?_
  show (alook P p.1).getD 0 = p.2
  rw [look_at h hp]; rfl
theorem fold_look {σ : Type} {P : List (α × Int)} (h : (ak P).Nodup) (f : σ → α × Int → σ) (s : σ) : P.foldl f s = (ak P).foldl (fun s a => f s (a, (alook P a).getD 0)) s := by
  unfold ak
  rw [List.foldl_map]
  have key : ∀ (L : List (α × Int)) (s : σ), (∀ p ∈ L, alook P p.1 = some p.2) → L.foldl f s = L.foldl (fun s p => f s (p.1, (alook P p.1).getD 0)) s := fun L => by
    induction L with
    | nil => intro s _; rfl
    | cons p L ih =>
      intro s hl
      rw [List.foldl_cons, List.foldl_cons, hl p (List.mem_cons_self ..), ih _ fun q hq => hl q (List.mem_cons_of_mem _ hq)]
      rfl
  exact key P s fun p hp => look_at h hp
end
/-! rows -/
def evs : List Nat := [45, 97, 98]
def songs : Nat → List (List Nat)
  | 0 => [[]]
  | n + 1 => (songs n).flatMap fun s => evs.map fun c => s ++ [c]
theorem songs_len : ∀ n, ∀ s ∈ songs n, s.length = n
  | 0, s, h => by simp [songs] at h; simp [h]
  | n + 1, s, h => by
    obtain ⟨u, hu, h2⟩ := List.mem_flatMap.mp h
    obtain ⟨c, _, rfl⟩ := List.mem_map.mp h2
    simp [songs_len n u hu]
theorem songs_ev : ∀ n, ∀ s ∈ songs n, ∀ c ∈ s, c ∈ evs
  | 0, s, h, c, hc => by simp [songs] at h; simp [h] at hc
  | n + 1, s, h, c, hc => by
    obtain ⟨u, hu, h2⟩ := List.mem_flatMap.mp h
    obtain ⟨d, hd, rfl⟩ := List.mem_map.mp h2
    rcases List.mem_append.mp hc with hc | hc
    · exact songs_ev n u hu c hc
    · simp only [List.mem_singleton] at hc; rw [hc]; exact hd
theorem songs_all : ∀ (n : Nat) (s : List Nat), s.length = n → (∀ c ∈ s, c ∈ evs) → s ∈ songs n
  | 0, s, hl, _ => by
    have : s = [] := List.length_eq_zero_iff.mp hl
    subst this
    simp [songs]
  | n + 1, s, hl, h => by
    have hn : s ≠ [] := fun e => by subst e; simp at hl
    have e := List.dropLast_concat_getLast hn
    rw [← e]
    exact List.mem_flatMap.mpr ⟨s.dropLast, songs_all n _ (by rw [List.length_dropLast]; omega) fun d hd => h d (List.dropLast_sublist s |>.subset hd), List.mem_map.mpr ⟨_, h _ (List.getLast_mem hn), rfl⟩⟩
theorem flat3 {α β : Type} {f : α → List β} {n : Nat} : ∀ l : List α, (∀ a ∈ l, (f a).length = n) → (l.flatMap f).length = l.length * n
  | [], _ => by simp
  | a :: l, h => by
    rw [List.flatMap_cons, List.length_append, h a (List.mem_cons_self ..), flat3 l fun b hb => h b (List.mem_cons_of_mem _ hb), List.length_cons, Nat.add_mul]; omega
theorem songs_many : ∀ n, (songs n).length = 3 ^ n
  | 0 => rfl
  | n + 1 => by rw [songs, flat3 _ (n := 3) (by simp [evs]), songs_many n, Nat.pow_succ]
/-- the ends of all rows -/
theorem pth_songs {α : Type} (st : α → Nat → α) (a0 : α) : ∀ n, pth (fun a => evs.map (st a)) n a0 = (songs n).map fun s => s.foldl st a0
  | 0 => rfl
  | n + 1 => by
    rw [pth, pth_songs st a0 n, songs, List.flatMap_map, List.map_flatMap]
    congr 1
    funext s
    rw [List.map_map]
    refine List.map_congr_left fun c _ => ?_
    simp
/-- a loop over range(n) -/
theorem for_at {t : TG} {ss : Env → RS} (E : Nat → Env → Prop) : ∀ (n k : Nat) (e : Env), (∀ j e, k ≤ j → j < k + n → E j e → ∃ e2, asg t (.int (j : Nat)) e = some e2 ∧ ∃ e', (ss e2 = .nx e' ∨ ss e2 = .ct e') ∧ E (j + 1) e') → E k e →
    ∃ e', forL (stepF t ss) ((List.range' k n).map fun j => D.int (j : Nat)) e = .nx e' ∧ E (k + n) e'
  | 0, k, e, _, h => ⟨e, rfl, h⟩
  | n + 1, k, e, hs, h => by
    obtain ⟨e2, h1, e', h2, h3⟩ := hs k e (Nat.le_refl _) (by omega) h
    obtain ⟨e3, h4, h5⟩ := for_at E n (k + 1) e' (fun j e h1 h2 => hs j e (by omega) (by omega)) h3
    refine ⟨e3, ?_, by rw [show k + (n + 1) = k + 1 + n by omega]; exact h5⟩
    rw [List.range'_succ, List.map_cons, forL_step, h1, seK_ok]
    rcases h2 with h2 | h2 <;> rw [h2]
    · rw [feK_nx]; exact h4
    · rw [feK_ct]; exact h4
theorem for_rng {t : TG} {ss : Env → RS} (E : Nat → Env → Prop) (n : Nat) (e : Env) (hs : ∀ j e, j < n → E j e → ∃ e2, asg t (.int (j : Nat)) e = some e2 ∧ ∃ e', (ss e2 = .nx e' ∨ ss e2 = .ct e') ∧ E (j + 1) e') (h : E 0 e) :
    ∃ e', forL (stepF t ss) ((List.range n).map fun j => D.int (j : Nat)) e = .nx e' ∧ E n e' := by
  have := for_at (t := t) (ss := ss) E n 0 e (fun j e _ h2 => hs j e (by omega)) h
  rw [List.range_eq_range']
  simpa using this
theorem b_step {ss st : Env → RS} {env e1 : Env} (h : ss env = .nx e1) : bCons ss st env = st e1 := by rw [x_bCons, h, bK_nx]
theorem sFor_rng {t : TG} {ss : Env → RS} {m : Env → RE} {env e : Env} {n : Nat} {f : Bool} (hm : m env = .ok (.int (n : Int)) f e) (hn : n ≤ 1000000) : sFor (iRng1 m) t ss env = forL (stepF t ss) ((List.range n).map fun j => D.int (j : Nat)) e := by
  rw [x_sFor, x_iRng1, hm, iK_ok, rg1_int, rngD_nat hn, outI_some, foK_ok]
/-- nothing that is owned -/
def Slot.fz : Slot → Bool
  | .no => true
  | .val _ => true
  | _ => false
@[simp] theorem fz_no : Slot.fz .no = true := rfl
@[simp] theorem fz_val {d : D} : Slot.fz (.val d) = true := rfl
theorem fz_nio {s : Slot} (h : s.fz = true) : s.nio = true := by cases s <;> first | rfl | cases h
@[simp] theorem wK_fz {s : Slot} {v : Nat} {e : Env} (h : s.fz = true) : wK s v (some e) = some (e.set v .no) := by cases s <;> first | rfl | cases h
theorem maxI_is : ∀ (l : List Int), l ≠ [] → ∃ m, maxI l = some m ∧ m ∈ l ∧ ∀ x ∈ l, x ≤ m
  | [a], _ => ⟨a, rfl, by simp, by simp⟩
  | a :: b :: l, _ => by
    obtain ⟨m, h1, h2, h3⟩ := maxI_is (b :: l) (by simp)
    have e : maxI (a :: b :: l) = some (if a < m then m else a) := by
      rw [maxI]
      · rw [h1]; rfl
      · simp
    refine ⟨_, e, ?_, fun x hx => ?_⟩
    · split
      · exact List.mem_cons_of_mem _ h2
      · exact List.mem_cons_self ..
    · rcases List.mem_cons.mp hx with rfl | hx
      · split <;> omega
      · have := h3 x hx
        split <;> omega
theorem maxI_eq {l m : List Int} (hl : l ≠ []) (h : ∀ x, x ∈ l ↔ x ∈ m) : maxI l = maxI m := by
  have hm : m ≠ [] := fun e => by
    obtain ⟨x, t, rfl⟩ := List.exists_cons_of_ne_nil hl
    have := (h x).mp (List.mem_cons_self ..)
    rw [e] at this; cases this
  obtain ⟨a, h1, h2, h3⟩ := maxI_is l hl
  obtain ⟨b, h4, h5, h6⟩ := maxI_is m hm
  rw [h1, h4]
  have := h6 a ((h a).mp h2)
  have := h3 b ((h b).mpr h5)
  congr 1; omega
theorem flat_filter {α β : Type} (p : α → Bool) (f : α → List β) : ∀ l : List α, (l.filter p).flatMap f = l.flatMap fun a => if p a = true then f a else []
  | [] => rfl
  | a :: l => by
    rw [List.flatMap_cons, List.filter_cons]
    by_cases h : p a = true
    · rw [if_pos h, if_pos h, List.flatMap_cons, flat_filter p f l]
    · rw [if_neg h, if_neg h, flat_filter p f l, List.nil_append]
theorem flat_congr {α β : Type} {f g : α → List β} : ∀ {l : List α}, (∀ a ∈ l, f a = g a) → l.flatMap f = l.flatMap g
  | [], _ => rfl
  | a :: l, h => by rw [List.flatMap_cons, List.flatMap_cons, h a (List.mem_cons_self ..), flat_congr (l := l) fun b hb => h b (List.mem_cons_of_mem _ hb)]
/-! calls, told by what the def gives (so that the kernel never opens the def) -/
section
variable {g : Sem} {ma mb mc : Env → RE} {env e1 e2 e3 : Env} {x y z d : D} {f1 f2 f3 fr : Bool} {c : XC}
theorem call1 (h1 : ma env = .ok x f1 e1) (es : g [x] = .ret d fr none) : eCall g (aCons ma aNil) env = .ok d fr e1 := by
  rw [x_eCall, x_aCons, h1, aK_ok, x_aNil, aK2_ok, calK_ok, es, callR_ret]
theorem call2 (h1 : ma env = .ok x f1 e1) (h2 : mb e1 = .ok y f2 e2) (es : g [x, y] = .ret d fr none) : eCall g (aCons ma (aCons mb aNil)) env = .ok d fr e2 := by
  rw [x_eCall, x_aCons, h1, aK_ok, x_aCons, h2, aK_ok, x_aNil, aK2_ok, aK2_ok, calK_ok, es, callR_ret]
theorem call3 (h1 : ma env = .ok x f1 e1) (h2 : mb e1 = .ok y f2 e2) (h3 : mc e2 = .ok z f3 e3) (es : g [x, y, z] = .ret d fr none) : eCall g (aCons ma (aCons mb (aCons mc aNil))) env = .ok d fr e3 := by
  rw [x_eCall, x_aCons, h1, aK_ok, x_aCons, h2, aK_ok, x_aCons, h3, aK_ok, x_aNil, aK2_ok, aK2_ok, aK2_ok, calK_ok, es, callR_ret]
theorem call2x (h1 : ma env = .ok x f1 e1) (h2 : mb e1 = .ok y f2 e2) (es : g [x, y] = .exc c none) : eCall g (aCons ma (aCons mb aNil)) env = .ex c e2 := by
  rw [x_eCall, x_aCons, h1, aK_ok, x_aCons, h2, aK_ok, x_aNil, aK2_ok, aK2_ok, calK_ok, es, callR_exc]
theorem call3x (h1 : ma env = .ok x f1 e1) (h2 : mb e1 = .ok y f2 e2) (h3 : mc e2 = .ok z f3 e3) (es : g [x, y, z] = .exc c none) : eCall g (aCons ma (aCons mb (aCons mc aNil))) env = .ex c e3 := by
  rw [x_eCall, x_aCons, h1, aK_ok, x_aCons, h2, aK_ok, x_aCons, h3, aK_ok, x_aNil, aK2_ok, aK2_ok, aK2_ok, calK_ok, es, callR_exc]
theorem call1x (h1 : ma env = .ok x f1 e1) (es : g [x] = .exc c none) : eCall g (aCons ma aNil) env = .ex c e1 := by
  rw [x_eCall, x_aCons, h1, aK_ok, x_aNil, aK2_ok, calK_ok, es, callR_exc]
theorem cmp2 {op : PySem.CmpOp} {b : Bool} (h1 : ma env = .ok x f1 e1) (h2 : mb e1 = .ok y f2 e2) (hc : cmpD op x y = some b) : eCmp op ma mb env = .ok (.bl b) false e2 := by
  rw [x_eCmp, h1, K2_ok, h2, K1_ok, hc, outB_some]
theorem for_any {t : TG} {ss : Env → RS} {ds : List D} (h1 : ma env = .ok (.lst ds) f1 e1) : sFor (iAny ma) t ss env = forL (stepF t ss) ds e1 := by
  rw [x_sFor, x_iAny, h1, iK_ok, anyI_lst, foK_ok]
theorem or_ff (h1 : ma env = .ok (.bl false) f1 e1) (h2 : mb e1 = .ok (.bl false) f2 e2) : eOr ma mb env = .ok (.bl false) f2 e2 := by
  rw [x_eOr, h1, orK_bl, if_neg (by decide), h2]
theorem or_t (h1 : ma env = .ok (.bl true) f1 e1) : eOr ma mb env = .ok (.bl true) false e1 := by
  rw [x_eOr, h1, orK_bl, if_pos rfl]
theorem and_f (h1 : ma env = .ok (.bl false) f1 e1) : eAnd ma mb env = .ok (.bl false) false e1 := by
  rw [x_eAnd, h1, andK_bl, if_neg (by decide)]
theorem and_t (h1 : ma env = .ok (.bl true) f1 e1) : eAnd ma mb env = mb e1 := by
  rw [x_eAnd, h1, andK_bl, if_pos rfl]
theorem if_f {ss st : Env → RS} (h1 : ma env = .ok (.bl false) f1 e1) : sIf ma ss st env = st e1 := by
  rw [x_sIf, h1, ifK_bl, if_neg (by decide)]
theorem if_t {ss st : Env → RS} (h1 : ma env = .ok (.bl true) f1 e1) : sIf ma ss st env = ss e1 := by
  rw [x_sIf, h1, ifK_bl, if_pos rfl]
theorem set_ {i : Nat} (h1 : ma env = .ok d fr e1) (hi : (getS e1 i).nio = true) : sSet i ma env = .nx (e1.set i (if fr = true then .own d else .val d)) := by
  rw [x_sSet, h1, sK_ok, x_putS, putK_nio hi]
theorem not_ {b : Bool} (h1 : ma env = .ok (.bl b) f1 e1) : eNot ma env = .ok (.bl (!b)) false e1 := by
  rw [x_eNot, h1, K1_ok, notF_bl]
theorem ret_ (h1 : ma env = .ok d fr e1) : sRet ma env = .rt d fr e1 := by rw [x_sRet, h1, sK_ok]
end
theorem b_if {mc : Env → RE} {ss st : Env → RS} {env e1 : Env} {f : Bool} (h : mc env = .ok (.bl false) f e1) : bCons (sIf mc ss bNil) st env = st e1 := by
  rw [x_bCons, if_f h, x_bNil, bK_nx]
theorem try_err [LamDefs] {cls : PySem.Str} {z : List Nat} {m : Env → RE} {env e1 : Env} (hn : nmS cls = some z) (he : m env = .ex ⟨cls, []⟩ e1) (hz : (z.all fun c => decide (c < 1114112)) = true := by decide) : eCmp .NotEq (eTry m) (eLit (.str z)) env = .ok (.bl false) false e1 := by
  refine cmp2 (x := .str z) (f1 := false) (e1 := e1) ?_ rfl ?_
  · rw [x_eTry, he, tryK_ex, hn, tryK2_some]
  · rw [cmpD_ne, okN_str, hz, eqv_str]; simp
/-- a loop whose turns change nothing but the name that runs -/
theorem for_same {t : TG} {ss : Env → RS} (E : D → Env) : ∀ (ds : List D) (d0 : D), (∀ d, d ∈ ds → ∀ d', asg t d (E d') = some (E d)) → (∀ d, d ∈ ds → ss (E d) = .nx (E d)) → ∃ d1, forL (stepF t ss) ds (E d0) = .nx (E d1)
  | [], d0, _, _ => ⟨d0, rfl⟩
  | d :: ds, d0, h1, h2 => by
    obtain ⟨d1, h⟩ := for_same E ds d (fun x hx => h1 x (List.mem_cons_of_mem _ hx)) (fun x hx => h2 x (List.mem_cons_of_mem _ hx))
    refine ⟨d1, ?_⟩
    rw [forL_step, h1 d (List.mem_cons_self ..), seK_ok, h2 d (List.mem_cons_self ..), feK_nx]
    exact h
end Cor
set_option Elab.async false
set_option linter.all false
set_option maxRecDepth 100000
set_option maxHeartbeats 2000000
/-! CorV: products and quotients of long integers. -/
namespace Cor
open PySem PySem.Spec L2
def binW : Operator → D → D → Option D
  | .Mult, .int i, .int j => if i.natAbs.log2 + j.natAbs.log2 < 1000000 then some (.int (i * j)) else none
  | .FloorDiv, .int i, .int j => if 0 < j ∧ j.natAbs.log2 < 9000 then some (.int (i / j)) else none
  | _, _, _ => none
def eBinW (op : Operator) (ma mb : Env → RE) : Env → RE := fun env => (ma env).bind fun x _ e1 => (mb e1).bind fun y _ e2 => outD (binW op x y) e2
section
variable [LamDefs] {X : Cx} {W : WX} {a b : Expr} {pos : Pos} {ma mb : Env → RE} {pa pb : Bool}
theorem pMulW (ha : PE X a (tI X.K X.mg W true pa ma)) (hb : PE X b (tI X.K X.mg W true pb mb)) : PE X (.BinOp a .Mult b pos) (tI X.K X.mg W true (pa && pb) (eBinW .Mult ma mb)) := by
  refine PE.imp (pe_op op_mulW ha hb) fun σ H Q ⟨Hf, env, R, g⟩ => ?_
  refine ⟨Hf, env, R, g.first (fun h => (Bool.and_eq_true_iff.mp h).1) fun x fx e1 v H1 Hf1 _ R1 t1 z1 g1 => ?_⟩
  obtain ⟨Hf1, R1, t1, z1⟩ := stab R R1 t1 z1
  refine ⟨Hf1, e1, R1, g1.next t1 (fun h => h) fun y fy e2 u H2 Hf2 _ R2 t2 z2 g2 => ?_⟩
  obtain ⟨Hf2, R2, t2, z2⟩ := stab R1 R2 t2 z2
  cases x <;> cases y <;> try exact g2.elim
  rename_i i j _ _ _ _
  simp only [binW] at g2
  split at g2
  · rename_i hz
    obtain rfl := z1.intInv
    obtain rfl := z2.intInv
    exact ⟨_, _, rfl, rfl, hz, GE.fin g2 (t1.trans t2) (fun h => h) R2 (VR.old (.int _))⟩
  · exact g2.elim
theorem pDivW (ha : PE X a (tI X.K X.mg W true pa ma)) (hb : PE X b (tI X.K X.mg W true pb mb)) : PE X (.BinOp a .FloorDiv b pos) (tI X.K X.mg W true (pa && pb) (eBinW .FloorDiv ma mb)) := by
  refine PE.imp (pe_op op_fdivW ha hb) fun σ H Q ⟨Hf, env, R, g⟩ => ?_
  refine ⟨Hf, env, R, g.first (fun h => (Bool.and_eq_true_iff.mp h).1) fun x fx e1 v H1 Hf1 _ R1 t1 z1 g1 => ?_⟩
  obtain ⟨Hf1, R1, t1, z1⟩ := stab R R1 t1 z1
  refine ⟨Hf1, e1, R1, g1.next t1 (fun h => h) fun y fy e2 u H2 Hf2 _ R2 t2 z2 g2 => ?_⟩
  obtain ⟨Hf2, R2, t2, z2⟩ := stab R1 R2 t2 z2
  cases x <;> cases y <;> try exact g2.elim
  rename_i i j _ _ _ _
  simp only [binW] at g2
  split at g2
  · rename_i hz
    obtain rfl := z1.intInv
    obtain rfl := z2.intInv
    exact ⟨_, _, rfl, rfl, hz, GE.fin g2 (t1.trans t2) (fun h => h) R2 (VR.old (.int _))⟩
  · exact g2.elim
end
section
variable {env : Env} {ma mb : Env → RE} {i j : Int}
@[simp] theorem x_eBinW {op : Operator} : eBinW op ma mb env = K2 (ma env) mb fun x y e => outD (binW op x y) e := rfl
/-- short enough -/
def Sh (i : Int) : Prop := i.natAbs.log2 < 1000
theorem sh_of {a : Nat} (h : i.natAbs < 2 ^ a) (h0 : 0 < a) (h1 : a ≤ 1000) : Sh i := Nat.lt_of_lt_of_le (PySem.Flt.log2_lt_of h0 h) h1
theorem binW_mul (h1 : Sh i) (h2 : Sh j) : binW .Mult (.int i) (.int j) = some (.int (i * j)) := if_pos (by unfold Sh at h1 h2; omega)
theorem binW_div (h0 : 0 < j) (h2 : Sh j) : binW .FloorDiv (.int i) (.int j) = some (.int (i / j)) := if_pos ⟨h0, by unfold Sh at h2; omega⟩
end
section
variable {g : Sem} {ma mb me mc : Env → RE} {env e1 e2 e3 : Env} {x y d d0 z v : D} {f1 f2 fr : Bool} {c : XC} {i : Nat} {vs : List Nat} {t : TG} {ss : Env → RS}
theorem comp_any {ds rs : List D} (h1 : ma env = .ok (.lst ds) f1 e1) (hw : wipeE e1 vs = some e2) (k : compL vs e1 t mc me ds e2 [] = .ok rs e3) : eComp vs (iAny ma) t mc me env = .ok (.lst rs) true (backE e1 e3 vs) := by
  rw [x_eComp, x_iAny, h1, iK_ok, anyI_lst, cK_ok, hw, cK2_ok, k, cK3_ok]
theorem callIo0 (h0 : getS env i = .own d) (es : g [d] = .ret v fr (some z)) : eCallIo g i aNil env = .ok v fr (env.set i (.own z)) := by
  rw [x_eCallIo, x_ioGet, h0, ioS2_own, x_aNil, ioK_ok, x_ioGet, h0, ioS2_own, ioK2_ok, es, callRio_ret, h0, putBack_own]
theorem callIo1 (h1 : ma env = .ok x f1 e1) (h0 : getS env i = .own d0) (hi : getS e1 i = .own d) (es : g [d, x] = .ret v fr (some z)) : eCallIo g i (aCons ma aNil) env = .ok v fr (e1.set i (.own z)) := by
  rw [x_eCallIo, x_ioGet, h0, ioS2_own, x_aCons, h1, aK_ok, x_aNil, aK2_ok, ioK_ok, x_ioGet, hi, ioS2_own, ioK2_ok, es, callRio_ret, hi, putBack_own]
theorem for_each (E : Slot → Env) : ∀ (ds : List D) (s0 : Slot), s0.nio = true → (∀ d, d ∈ ds → ∀ s, s.nio = true → asg t d (E s) = some (E (.val d))) → (∀ d, d ∈ ds → ss (E (.val d)) = .nx (E (.val d))) → ∃ s1, s1.nio = true ∧ forL (stepF t ss) ds (E s0) = .nx (E s1)
  | [], s0, h0, _, _ => ⟨s0, h0, rfl⟩
  | d :: ds, s0, h0, h1, h2 => by
    obtain ⟨s1, n1, h⟩ := for_each E ds (.val d) rfl (fun x hx => h1 x (List.mem_cons_of_mem _ hx)) (fun x hx => h2 x (List.mem_cons_of_mem _ hx))
    refine ⟨s1, n1, ?_⟩
    rw [forL_step, h1 d (List.mem_cons_self ..) s0 h0, seK_ok, h2 d (List.mem_cons_self ..), feK_nx]
    exact h
theorem lst3 {m1 m2 m3 : Env → RE} {d1 d2 d3 : D} {f3 : Bool} (h1 : m1 env = .ok d1 f1 e1) (h2 : m2 e1 = .ok d2 f2 e2) (h3 : m3 e2 = .ok d3 f3 e3) : eLst (aCons m1 (aCons m2 (aCons m3 aNil))) env = .ok (.lst [d1, d2, d3]) true e3 := by
  rw [x_eLst, x_aCons, h1, aK_ok, x_aCons, h2, aK_ok, x_aCons, h3, aK_ok, x_aNil, aK2_ok, aK2_ok, aK2_ok, lstK_ok, if_pos (by simp)]
theorem lst2 {m1 m2 : Env → RE} {d1 d2 : D} (h1 : m1 env = .ok d1 f1 e1) (h2 : m2 e1 = .ok d2 f2 e2) : eLst (aCons m1 (aCons m2 aNil)) env = .ok (.lst [d1, d2]) true e2 := by
  rw [x_eLst, x_aCons, h1, aK_ok, x_aCons, h2, aK_ok, x_aNil, aK2_ok, aK2_ok, lstK_ok, if_pos (by simp)]
theorem par_ {j : Nat} (h1 : ma env = .ok x f1 e1) (h2 : mb e1 = .ok y f2 e2) (hi : (getS e2 i).nio = true) (hj : (getS (e2.set i (if f1 = true then .own x else .val x)) j).nio = true) : sPar i j ma mb env = .nx ((e2.set i (if f1 = true then .own x else .val x)).set j (if f2 = true then .own y else .val y)) := by
  rw [x_sPar, h1, parK_ok, h2, parK2_ok, x_putS, putK_nio hi, parK3_ok, x_putS, putK_nio hj]
end
end Cor
namespace Cor
theorem sFor_rng2 {t : TG} {ss : Env → RS} {ma mb : Env → RE} {env e1 e2 : Env} {lo hi : Int} {f1 f2 : Bool} {ds : List D} (h1 : ma env = .ok (.int lo) f1 e1) (h2 : mb e1 = .ok (.int hi) f2 e2) (hr : rngD lo hi = some ds) : sFor (iRng2 ma mb) t ss env = forL (stepF t ss) ds e2 := by
  rw [x_sFor, x_iRng2, h1, iK_ok, rg2_int, h2, iK_ok, rg3_int, hr, outI_some, foK_ok]
theorem for_tup {t : TG} {ss : Env → RS} {ma : Env → RE} {env e1 : Env} {f1 : Bool} {ds : List D} (h1 : ma env = .ok (.tup ds) f1 e1) : sFor (iAny ma) t ss env = forL (stepF t ss) ds e1 := by
  rw [x_sFor, x_iAny, h1, iK_ok, anyI_tup, foK_ok]
theorem rngD_one {w : Int} (h0 : 0 ≤ w) (h1 : w ≤ 1000000) : rngD 1 (w + 1) = some (((List.range w.toNat).map fun k => (1 : Int) + (k : Nat)).map D.int) := by
  unfold rngD
  rw [if_pos (by omega), List.map_map]
  have : (w + 1 - 1).toNat = w.toNat := by omega
  rw [this]; rfl
end Cor
set_option Elab.async false
set_option linter.all false
set_option maxRecDepth 100000
set_option maxHeartbeats 2000000
/-! CorW: list(range(n)). -/
namespace Cor
open PySem PySem.Spec L2
variable [LamDefs]
open PyProof.Rows (envOfC)
def eLRg1 (ma : Env → RE) : Env → RE := fun env => (ma env).bind fun x _ e1 => lrF (.int 0) x e1
section
variable {X : Cx} {W : WX} {k : Nat} {a b e : Expr} {pos p p2 pos2 : Pos} {ma mb : Env → RE} {sa sb pa pb : Bool}
theorem pLRg1 (g : Gd k X W) (hm : X.mg "list" = none) (hmr : X.mg "range" = none) (ha : PE X a (tI X.K X.mg W sa pa ma)) (hg : X.env.kindOf "list" = some .globalImplicit := by kernel_rfl) (hgr : X.env.kindOf "range" = some .globalImplicit := by kernel_rfl)
    (na : starEach [a] X.env = (false, eval a X.env) :: starEach [] X.env := by rfl)
    (nc : starEach [.Call (.Name "range" p2) [a] [] pos2] X.env = (false, eval (.Call (.Name "range" p2) [a] [] pos2) X.env) :: starEach [] X.env := by rfl) :
    PE X (.Call (.Name "list" p) [.Call (.Name "range" p2) [a] [] pos2] [] pos) (tI X.K X.mg W true pa (eLRg1 ma)) := by
  refine PE.imp (pe_listRg g.calm hg hm (prg_1 hgr hmr ha na) nc) fun σ H Q ⟨Hf, env, R, g⟩ => ⟨Hf, env, R, GE.first (fun h => h) g fun x fx e1 v H1 Hf1 _ R1 t1 z1 g1 => ?_⟩
  cases x <;> try exact g1.elim
  rename_i n _
  obtain rfl := (z1.now R1.le).intInv
  unfold lrF at g1
  dsimp only at g1
  cases q : rgD 0 n with
  | none => rw [q] at g1; exact g1.elim
  | some ds =>
    rw [q] at g1
    exact ⟨n, rfl, (rgD_some (K := X.K) (mg := X.mg) (H := Hf1) q).1, fun r hr => GE.out g1 t1 (fun h => h) R1 (.lst hr (rgD_some q).2)⟩
end
@[simp] theorem x_eLRg1 {ma : Env → RE} {env : Env} : eLRg1 ma env = K1 (ma env) (lrF (.int 0)) := rfl
@[simp] theorem x_eLRg {ma mb : Env → RE} {env : Env} : eLRg ma mb env = K1 (ma env) (fun x e1 => K1 (mb e1) (fun y e2 => lrF x y e2)) := rfl
theorem rgD_nat {n m : Nat} (h0 : n ≤ 1000000) (h : m ≤ 1000000) : rgD (n : Int) (m : Int) = some (((List.range (m - n)).map fun i => ((n + i : Nat) : Int)).map D.int) := by
  unfold rgD
  rw [if_pos (by omega), List.map_map]
  have : ((m : Int) - n).toNat = m - n := by omega
  rw [this]
  congr 1
end Cor
set_option Elab.async false
set_option linter.all false
set_option maxRecDepth 100000
set_option maxHeartbeats 4000000
namespace HD
open PySem PySem.Spec L2 Cor
open PyProof.Rows (envOfC)
def top (i : Nat) : Stmt := PySem.Challenge.pw_turnedlogs_k12_whole_lines_that_are_alwa.main.body.getD i (.Pass ⟨0, 0, 0, 0⟩)

instance : LamDefs := ⟨["law"], ["InvalidNumber", "InvalidRow", "InvalidRule"], []⟩
@[simp] theorem nm_InvalidNumber : nmS "InvalidNumber" = some [78, 117, 109, 98, 101, 114, 43] := by decide +kernel
@[simp] theorem nm_InvalidRow : nmS "InvalidRow" = some [82, 111, 119, 43] := by decide +kernel
@[simp] theorem nm_InvalidRule : nmS "InvalidRule" = some [82, 117, 108, 101, 43] := by decide +kernel
structure Fct (K : PySem.W.Frag) (mg : Str → Option Value) : Prop where
  m_ValueError : mg "ValueError" = none
  m_all : mg "all" = none
  m_bool : mg "bool" = none
  m_int : mg "int" = none
  m_isinstance : mg "isinstance" = none
  m_len : mg "len" = none
  m_list : mg "list" = none
  m_max : mg "max" = none
  m_min : mg "min" = none
  m_range : mg "range" = none
  m_str : mg "str" = none
  m_sum : mg "sum" = none
  m_tuple : mg "tuple" = none
  m_zip : mg "zip" = none
  g_MOST_SIZE : ∃ t, mg "MOST_SIZE" = some (.int 3 t)
  g_MOST_KEEP : ∃ t, mg "MOST_KEEP" = some (.int 3 t)
  g_MOST_PAGES : ∃ t, mg "MOST_PAGES" = some (.int 12 t)
  g_MOST_FACTOR : ∃ t, mg "MOST_FACTOR" = some (.int 3 t)
  g_MOST_EVENTS : ∃ t, mg "MOST_EVENTS" = some (.int 60 t)
  g_EVENTS : ∃ t, mg "EVENTS" = some (.str "-ab" t)
  x_InvalidNumber : XcOk K mg "InvalidNumber"
  x_InvalidRow : XcOk K mg "InvalidRow"
  x_InvalidRule : XcOk K mg "InvalidRule"
  xn : ∀ x z, nmS x = some z → ∃ C, XcN K mg x C
  xl : ∃ C, mg "LogError" = some (.ref C)
  t_FIRST : ∃ a, mg "FIRST" = some (.ref a) ∧ ∀ H, SqT K H a [.int 0]
abbrev s46 : Stmt := top 46
/-! _law_deck : 0 _law_cell, 1 _law_turn -/
def N__law_deck : List Str := ["_law_cell", "_law_turn"]
def m__law_deck : Cor.Env → RS := (bCons (sIf (eCmp .GtE (eVar 0) (eBin .Pow (eLit (.int 10)) (eLit (.int 18)))) (bCons (sRet (eLst (aCons (eBin .Sub (eVar 0) (eBin .Pow (eLit (.int 10)) (eLit (.int 18)))) (aCons (eBin .Mod (eB1 .int (eVar 0)) (eLit (.int 2147483579))) (aCons (eVar 1) aNil)))))
  bNil) bNil)
  (bCons (sRet (eLst (aCons (eLit (.int 0)) (aCons (eBin .Mod (eB1 .int (eVar 0)) (eLit (.int 2147483579))) (aCons (eVar 1) aNil)))))
  bNil))
def f__law_deck : Sem := semS 2 false m__law_deck
abbrev s47 : Stmt := top 47
/-! _law_pick : 0 _law_deck_here, 1 _law_limit, 2 _law_number, 3 _law_found -/
def N__law_pick : List Str := ["_law_deck_here", "_law_limit", "_law_number", "_law_found"]
def m__law_pick : Cor.Env → RS := (bCons (sIf (eCmp .Gt (eSubR 0 (eLit (.int 0))) (eLit (.int 1))) (bCons (sSet 3 (eBin .Mod (eB1 .int (eSubR 0 (eLit (.int 0)))) (eVar 1)))
  (bCons (sStI 0 (eLit (.int 0)) (eBin .FloorDiv (eSubR 0 (eLit (.int 0))) (eVar 1)))
  (bCons (sRetV 3)
  bNil))) bNil)
  (bCons (sStI 0 (eLit (.int 2)) (eBin .Add (eSubR 0 (eLit (.int 2))) (eLit (.int 1))))
  (bCons (sSet 2 (eBin .Mod (eB1 .int (eBin .Pow (eB1 .int (eBin .Add (eSubR 0 (eLit (.int 1))) (eBin .Mult (eLit (.int 15485867)) (eSubR 0 (eLit (.int 2)))))) (eLit (.int 5)))) (eLit (.int 2147483647))))
  (bCons (sSet 3 (eBin .FloorDiv (eBin .Mod (eB1 .int (eBin .Pow (eB1 .int (eBin .Add (eVar 2) (eBin .Mult (eLit (.int 7919)) (eSubR 0 (eLit (.int 2)))))) (eLit (.int 3)))) (eLit (.int 2147483629))) (eLit (.int 32))))
  (bCons (sRet (eBin .Mod (eB1 .int (eVar 3)) (eVar 1)))
  bNil)))))
def f__law_pick : Sem := semS 4 true m__law_pick
abbrev s53 : Stmt := top 53
/-! _law_rule : 0 _law_deck_here, 1 _law_limit, 2 _law_yes, 3 _law_turn -/
def N__law_rule : List Str := ["_law_deck_here", "_law_limit", "_law_yes", "_law_turn"]
def m__law_rule : Cor.Env → RS := (bCons (sSet 1 (eIfe (eCmp .Gt (eCallIo f__law_pick 0 (aCons (eLit (.int 3)) aNil)) (eLit (.int 0))) (eLit .non) (eBin .Add (eLit (.int 1)) (eCallIo f__law_pick 0 (aCons (eLit (.int 12)) aNil)))))
  (bCons (sSet 2 (eComp [3] (iRng1 (eLit (.int 3))) (.nm 3) eYes (eCmp .Eq (eCallIo f__law_pick 0 (aCons (eLit (.int 2)) aNil)) (eLit (.int 1)))))
  (bCons (sRet (eTup (aCons (eBin .Add (eLit (.int 1)) (eCallIo f__law_pick 0 (aCons (eLit (.int 3)) aNil))) (aCons (eSub (eVar 2) (eLit (.int 0))) (aCons (eSub (eVar 2) (eLit (.int 1))) (aCons (eSub (eVar 2) (eLit (.int 2))) (aCons (eCallIo f__law_pick 0 (aCons (eLit (.int 4)) aNil)) (aCons (eVar 1) (aCons (eBin .Add (eLit (.int 1)) (eCallIo f__law_pick 0 (aCons (eLit (.int 3)) aNil))) aNil)))))))))
  bNil)))
def f__law_rule : Sem := semS 4 true m__law_rule
abbrev s50 : Stmt := top 50
/-! _law_weight : 0 _law_r, 1 _law_line, 2 _law_one -/
def N__law_weight : List Str := ["_law_r", "_law_line", "_law_one"]
def m__law_weight : Cor.Env → RS := (bCons (sRet (eBin .Add (eB1 .sum (eSlc (eVar 1) oNone (oSome (eLit (.int 2))))) (eB1 .sum (eComp [2] (iAny (eSlc (eVar 1) (oSome (eLit (.int 2))) oNone)) (.nm 2) eYes (eBin .FloorDiv (eB1 .int (eBin .Sub (eBin .Add (eVar 2) (eSub (eVar 0) (eLit (.int 6)))) (eLit (.int 1)))) (eSub (eVar 0) (eLit (.int 6))))))))
  bNil)
def f__law_weight : Sem := semS 3 false m__law_weight
abbrev s51 : Stmt := top 51
/-! _law_step : 0 _law_r, 1 _law_here, 2 _law_event, 3 _law_line, 4 _law_more -/
def N__law_step : List Str := ["_law_r", "_law_here", "_law_event", "_law_line", "_law_more"]
def m__law_step : Cor.Env → RS := (bCons (sPar 4 3 (eM1 .find (eLit (.str [45, 97, 98])) (eVar 2)) (eB1 .list (eVar 1)))
  (bCons (sIf (eAnd (eCmp .Eq (eVar 4) (eLit (.int 0))) (eAnd (eSub (eVar 0) (eLit (.int 2))) (eOr (eSub (eVar 0) (eLit (.int 3))) (eCmp .Gt (eSubR 3 (eLit (.int 0))) (eLit (.int 0)))))) (bCons (sSet 3 (eBin .Add (eLst (aCons (eLit (.int 0)) aNil)) (eVar 3)))
  bNil) bNil)
  (bCons (sIf (eAnd (eCmp .Gt (eVar 4) (eLit (.int 0))) (eAnd (eSub (eVar 0) (eLit (.int 1))) (eAnd (eCmp .Gt (eSubR 3 (eLit (.int 0))) (eLit (.int 0))) (eCmp .Gt (eBin .Add (eSubR 3 (eLit (.int 0))) (eVar 4)) (eSub (eVar 0) (eLit (.int 0))))))) (bCons (sSet 3 (eBin .Add (eLst (aCons (eLit (.int 0)) aNil)) (eVar 3)))
  bNil) bNil)
  (bCons (sStI 3 (eLit (.int 0)) (eBin .Add (eSubR 3 (eLit (.int 0))) (eVar 4)))
  (bCons (sIf (eAnd (eCmp .Gt (eVar 4) (eLit (.int 0))) (eAnd (eNot (eSub (eVar 0) (eLit (.int 1)))) (eCmp .GtE (eSubR 3 (eLit (.int 0))) (eSub (eVar 0) (eLit (.int 0)))))) (bCons (sSet 3 (eBin .Add (eLst (aCons (eLit (.int 0)) aNil)) (eVar 3)))
  bNil) bNil)
  (bCons (sSet 3 (eSlc (eVar 3) oNone (oSome (eBin .Add (eSub (eVar 0) (eLit (.int 4))) (eLit (.int 1))))))
  (bCons (sWhl (eAnd (eCmp .IsNot (eSub (eVar 0) (eLit (.int 5))) (eLit .non)) (eAnd (eCmp .Gt (eB1 .len (eRd 3)) (eLit (.int 1))) (eCmp .Gt (eCall f__law_weight (aCons (eVar 0) (aCons (eVar 3) aNil))) (eSub (eVar 0) (eLit (.int 5)))))) (bCons (sSet 3 (eSlc (eVar 3) oNone (oSome (eNeg (eLit (.int 1))))))
  bNil))
  (bCons (sRet (eB1 .tuple (eVar 3)))
  bNil))))))))
def f__law_step : Sem := semS 5 false m__law_step
abbrev s55 : Stmt := top 55
/-! _law_sure : 0 _law_r, 1 _law_found, 2 _law_line, 3 _law_known, 4 _law_event, 5 _law_here, 6 _law_total, 7 _law_there, 8 _law_more -/
def N__law_sure : List Str := ["_law_r", "_law_found", "_law_line", "_law_known", "_law_event", "_law_here", "_law_total", "_law_there", "_law_more"]
def w__law_sure_1 : Cor.Env → RS := (bCons (sSet 7 (eCall f__law_step (aCons (eVar 0) (aCons (eVar 5) (aCons (eVar 4) aNil)))))
  (bCons (sSet 8 (eMn2 (aCons (eLit (.int 40)) (aCons (eBin .Add (eVar 6) (eM1 .index (eLit (.str [45, 97, 98])) (eVar 4))) aNil))))
  (bCons (sIf (eCmp .Gt (eVar 8) (eB1 .sum (eVar 7))) (bCons (sApp 1 (eB1 .sum (eVar 7)))
  (bCons (sSet 8 (eLit (.int 40)))
  bNil)) bNil)
  (bCons (sIf (eCmp .NotIn (eTup (aCons (eVar 7) (aCons (eVar 8) aNil))) (eRd 3)) (bCons (sStD 3 (eTup (aCons (eVar 7) (aCons (eVar 8) aNil))) (eLit (.bl true)))
  (bCons (sApp 2 (eTup (aCons (eVar 7) (aCons (eVar 8) aNil))))
  bNil)) bNil)
  bNil))))
def w__law_sure_0 : Cor.Env → RS := (bCons (sUnp (.tup [(.nm 5), (.nm 6)]) (ePop 2))
  (bCons (sFor (iAny (eLit (.str [45, 97, 98]))) (.nm 4) w__law_sure_1)
  bNil))
def v__law_sure_0 : Cor.Env → RE := (eCmp .NotEq (eRd 2) (eLst aNil))
def m__law_sure : Cor.Env → RS := (bCons (sPar3 1 2 3 (eLst aNil) (eLst (aCons (eTup (aCons (eTup (aCons (eLit (.int 0)) aNil)) (aCons (eLit (.int 0)) aNil))) aNil)) (eD1 true (eTup (aCons (eTup (aCons (eLit (.int 0)) aNil)) (aCons (eLit (.int 0)) aNil))) (eLit (.bl true))))
  (bCons (sWhl v__law_sure_0 w__law_sure_0)
  (bCons (sRet (eB1 .min (eRd 1)))
  bNil)))
def f__law_sure : Sem := semS 9 false m__law_sure
abbrev s54 : Stmt := top 54
/-! _law_song : 0 _law_deck_here, 1 _law_most, 2 _law_signs, 3 _law_turn -/
def N__law_song : List Str := ["_law_deck_here", "_law_most", "_law_signs", "_law_turn"]
def m__law_song : Cor.Env → RS := (bCons (sSet 2 (eSub (eLst (aCons (eLit (.str [45, 97, 98])) (aCons (eLit (.str [45, 97, 97, 98, 98])) (aCons (eLit (.str [97, 97, 98])) (aCons (eLit (.str [45, 97])) aNil))))) (eCallIo f__law_pick 0 (aCons (eLit (.int 4)) aNil))))
  (bCons (sRet (eM1 .join (eLit (.str [])) (eComp [3] (iRng1 (eCallIo f__law_pick 0 (aCons (eBin .Add (eVar 1) (eLit (.int 1))) aNil))) (.nm 3) eYes (eSub (eVar 2) (eCallIo f__law_pick 0 (aCons (eB1 .len (eVar 2)) aNil))))))
  bNil))
def f__law_song : Sem := semS 4 true m__law_song
abbrev s20 : Stmt := top 20
/-! is_from : 0 value, 1 low, 2 high -/
def N_is_from : List Str := ["value", "low", "high"]
def m_is_from : Cor.Env → RS := (bCons (sRet (eAnd (eB1 .isInt (eVar 0)) (eAnd (eNot (eB1 .isBool (eVar 0))) (eChain .LtE .LtE (eVar 1) (eVar 0) (eVar 2)))))
  bNil)
def f_is_from : Sem := semS 3 false m_is_from
abbrev s21 : Stmt := top 21
/-! is_rule_of : 0 value, 1 one -/
def N_is_rule_of : List Str := ["value", "one"]
def m_is_rule_of : Cor.Env → RS := (bCons (sIf (eOr (eNot (eB1 .isTup (eVar 0))) (eOr (eCmp .NotEq (eB1 .len (eVar 0)) (eLit (.int 7))) (eNot (eB1 .all (eComp [1] (iAny (eSlc (eVar 0) (oSome (eLit (.int 1))) (oSome (eLit (.int 4))))) (.nm 1) eYes (eB1 .isBool (eVar 1))))))) (bCons (sRet (eLit (.bl false)))
  bNil) bNil)
  (bCons (sIf (eOr (eNot (eCall f_is_from (aCons (eSub (eVar 0) (eLit (.int 0))) (aCons (eLit (.int 1)) (aCons (eLit (.int 3)) aNil))))) (eNot (eCall f_is_from (aCons (eSub (eVar 0) (eLit (.int 4))) (aCons (eLit (.int 0)) (aCons (eLit (.int 3)) aNil)))))) (bCons (sRet (eLit (.bl false)))
  bNil) bNil)
  (bCons (sRet (eAnd (eOr (eCmp .Is (eSub (eVar 0) (eLit (.int 5))) (eLit .non)) (eCall f_is_from (aCons (eSub (eVar 0) (eLit (.int 5))) (aCons (eLit (.int 1)) (aCons (eLit (.int 12)) aNil))))) (eCall f_is_from (aCons (eSub (eVar 0) (eLit (.int 6))) (aCons (eLit (.int 1)) (aCons (eLit (.int 3)) aNil))))))
  bNil)))
def f_is_rule_of : Sem := semS 2 false m_is_rule_of
abbrev s23 : Stmt := top 23
/-! need_rule : 0 value -/
def N_need_rule : List Str := ["value"]
def m_need_rule : Cor.Env → RS := (bCons (sIf (eNot (eCall f_is_rule_of (aCons (eVar 0) aNil))) (bCons (sRais "InvalidRule")
  bNil) bNil)
  bNil)
def f_need_rule : Sem := semS 1 false m_need_rule
abbrev s28 : Stmt := top 28
/-! pages_of : 0 rule, 1 sizes, 2 packed, 3 size -/
def N_pages_of : List Str := ["rule", "sizes", "packed", "size"]
def m_pages_of : Cor.Env → RS := (bCons (sSet 2 (eComp [3] (iAny (eSlc (eVar 1) (oSome (eLit (.int 2))) oNone)) (.nm 3) eYes (eBin .FloorDiv (eBin .Sub (eBin .Add (eVar 3) (eSub (eVar 0) (eLit (.int 6)))) (eLit (.int 1))) (eSub (eVar 0) (eLit (.int 6))))))
  (bCons (sRet (eBin .Add (eB1 .sum (eSlc (eVar 1) oNone (oSome (eLit (.int 2))))) (eB1 .sum (eVar 2))))
  bNil))
def f_pages_of : Sem := semS 4 false m_pages_of
abbrev s30 : Stmt := top 30
/-! within : 0 rule, 1 sizes -/
def N_within : List Str := ["rule", "sizes"]
def m_within : Cor.Env → RS := (bCons (sWhl (eAnd (eCmp .IsNot (eSub (eVar 0) (eLit (.int 5))) (eLit .non)) (eAnd (eCmp .Gt (eB1 .len (eVar 1)) (eLit (.int 1))) (eCmp .Gt (eCall f_pages_of (aCons (eVar 0) (aCons (eVar 1) aNil))) (eSub (eVar 0) (eLit (.int 5)))))) (bCons (sSet 1 (eSlc (eVar 1) oNone (oSome (eNeg (eLit (.int 1))))))
  bNil))
  (bCons (sRetV 1)
  bNil))
def f_within : Sem := semS 2 false m_within
abbrev s29 : Stmt := top 29
/-! turned : 0 rule, 1 sizes -/
def N_turned : List Str := ["rule", "sizes"]
def m_turned : Cor.Env → RS := (bCons (sRet (eSlc (eBin .Add (eTup (aCons (eLit (.int 0)) aNil)) (eVar 1)) oNone (oSome (eBin .Add (eSub (eVar 0) (eLit (.int 4))) (eLit (.int 1))))))
  bNil)
def f_turned : Sem := semS 2 false m_turned
abbrev s31 : Stmt := top 31
/-! moved : 0 rule, 1 sizes, 2 event, 3 lines, 4 size, 5 early, 6 daily, 7 empty -/
def N_moved : List Str := ["rule", "sizes", "event", "lines", "size", "early", "daily", "empty"]
def m_moved : Cor.Env → RS := (bCons (sUnp (.tup [(.nm 4), (.nm 5), (.nm 6), (.nm 7)]) (eSlc (eVar 0) oNone (oSome (eLit (.int 4)))))
  (bCons (sIf (eCmp .Eq (eVar 2) (eLit (.str [45]))) (bCons (sIf (eAnd (eVar 6) (eOr (eVar 7) (eCmp .Gt (eSub (eVar 1) (eLit (.int 0))) (eLit (.int 0))))) (bCons (sSet 1 (eCall f_turned (aCons (eVar 0) (aCons (eVar 1) aNil))))
  bNil) bNil)
  (bCons (sRet (eCall f_within (aCons (eVar 0) (aCons (eVar 1) aNil))))
  bNil)) bNil)
  (bCons (sSet 3 (eIfe (eCmp .Eq (eVar 2) (eLit (.str [97]))) (eLit (.int 1)) (eLit (.int 2))))
  (bCons (sIf (eAnd (eVar 5) (eAnd (eCmp .Gt (eSub (eVar 1) (eLit (.int 0))) (eLit (.int 0))) (eCmp .Gt (eBin .Add (eSub (eVar 1) (eLit (.int 0))) (eVar 3)) (eVar 4)))) (bCons (sSet 1 (eCall f_turned (aCons (eVar 0) (aCons (eVar 1) aNil))))
  bNil) bNil)
  (bCons (sSet 1 (eBin .Add (eTup (aCons (eBin .Add (eSub (eVar 1) (eLit (.int 0))) (eVar 3)) aNil)) (eSlc (eVar 1) (oSome (eLit (.int 1))) oNone)))
  (bCons (sIf (eAnd (eNot (eVar 5)) (eCmp .GtE (eSub (eVar 1) (eLit (.int 0))) (eVar 4))) (bCons (sSet 1 (eCall f_turned (aCons (eVar 0) (aCons (eVar 1) aNil))))
  bNil) bNil)
  (bCons (sRet (eCall f_within (aCons (eVar 0) (aCons (eVar 1) aNil))))
  bNil)))))))
def f_moved : Sem := semS 8 false m_moved
abbrev s36 : Stmt := top 36
/-! states_of : 0 rule, 1 known, 2 front, 3 later, 4 here, 5 event, 6 there -/
def N_states_of : List Str := ["rule", "known", "front", "later", "here", "event", "there"]
def w_states_of_2 : Cor.Env → RS := (bCons (sSet 6 (eCall f_moved (aCons (eVar 0) (aCons (eVar 4) (aCons (eVar 5) aNil)))))
  (bCons (sIf (eCmp .NotIn (eVar 6) (eRd 1)) (bCons (sStD 1 (eVar 6) (eLit (.bl true)))
  (bCons (sApp 3 (eVar 6))
  bNil)) bNil)
  bNil))
def w_states_of_1 : Cor.Env → RS := (bCons (sFor (iAny (eLit (.str [45, 97, 98]))) (.nm 5) w_states_of_2)
  bNil)
def w_states_of_0 : Cor.Env → RS := (bCons (sSet 3 (eLst aNil))
  (bCons (sFor (iAny (eVar 2)) (.nm 4) w_states_of_1)
  (bCons (sSet 2 (eVar 3))
  bNil)))
def v_states_of_0 : Cor.Env → RE := (eCmp .NotEq (eVar 2) (eLst aNil))
def m_states_of : Cor.Env → RS := (bCons (sPar 1 2 (eD1 true (eLit (.tup [.int 0])) (eLit (.bl true))) (eLst (aCons (eLit (.tup [.int 0])) aNil)))
  (bCons (sWhl v_states_of_0 w_states_of_0)
  (bCons (sRet (eTupD (eVar 1)))
  bNil)))
def f_states_of : Sem := semS 7 false m_states_of
abbrev s38 : Stmt := top 38
/-! lines_of : 0 event -/
def N_lines_of : List Str := ["event"]
def m_lines_of : Cor.Env → RS := (bCons (sRet (eM1 .index (eLit (.str [45, 97, 98])) (eVar 0)))
  bNil)
def f_lines_of : Sem := semS 1 false m_lines_of
abbrev s40 : Stmt := top 40
/-! sure_of : 0 rule, 1 most, 2 known, 3 line, 4 best, 5 event, 6 here, 7 lines, 8 there, 9 total -/
def N_sure_of : List Str := ["rule", "most", "known", "line", "best", "event", "here", "lines", "there", "total"]
def w_sure_of_1 : Cor.Env → RS := (bCons (sSet 8 (eCall f_moved (aCons (eVar 0) (aCons (eVar 6) (aCons (eVar 5) aNil)))))
  (bCons (sSet 9 (eMn2 (aCons (eVar 1) (aCons (eBin .Add (eVar 7) (eCall f_lines_of (aCons (eVar 5) aNil))) aNil))))
  (bCons (sIf (eCmp .Gt (eVar 9) (eB1 .sum (eVar 8))) (bCons (sSet 4 (eMn2 (aCons (eVar 4) (aCons (eB1 .sum (eVar 8)) aNil))))
  (bCons (sSet 9 (eVar 1))
  bNil)) bNil)
  (bCons (sIf (eCmp .NotIn (eTup (aCons (eVar 8) (aCons (eVar 9) aNil))) (eRd 2)) (bCons (sStD 2 (eTup (aCons (eVar 8) (aCons (eVar 9) aNil))) (eLit (.bl true)))
  (bCons (sApp 3 (eTup (aCons (eVar 8) (aCons (eVar 9) aNil))))
  bNil)) bNil)
  bNil))))
def w_sure_of_0 : Cor.Env → RS := (bCons (sUnp (.tup [(.nm 6), (.nm 7)]) (ePop 3))
  (bCons (sFor (iAny (eLit (.str [45, 97, 98]))) (.nm 5) w_sure_of_1)
  bNil))
def v_sure_of_0 : Cor.Env → RE := (eCmp .NotEq (eRd 3) (eLst aNil))
def m_sure_of : Cor.Env → RS := (bCons (sSet 1 (eBin .Add (eB1 .max (eComp [6] (iAny (eCall f_states_of (aCons (eVar 0) aNil))) (.nm 6) eYes (eB1 .sum (eVar 6)))) (eLit (.int 1))))
  (bCons (sPar3 2 3 4 (eD1 true (eTup (aCons (eLit (.tup [.int 0])) (aCons (eLit (.int 0)) aNil))) (eLit (.bl true))) (eLst (aCons (eTup (aCons (eLit (.tup [.int 0])) (aCons (eLit (.int 0)) aNil))) aNil)) (eVar 1))
  (bCons (sWhl v_sure_of_0 w_sure_of_0)
  (bCons (sRetV 4)
  bNil))))
def f_sure_of : Sem := semS 10 false m_sure_of
abbrev s39 : Stmt := top 39
/-! sure_lines : 0 rule -/
def N_sure_lines : List Str := ["rule"]
def m_sure_lines : Cor.Env → RS := (bCons (sExpr (eCall f_need_rule (aCons (eVar 0) aNil)))
  (bCons (sRet (eCall f_sure_of (aCons (eVar 0) aNil)))
  bNil))
def f_sure_lines : Sem := semS 1 false m_sure_lines
abbrev s25 : Stmt := top 25
/-! need_number : 0 value, 1 low, 2 high -/
def N_need_number : List Str := ["value", "low", "high"]
def m_need_number : Cor.Env → RS := (bCons (sIf (eNot (eCall f_is_from (aCons (eVar 0) (aCons (eVar 1) (aCons (eVar 2) aNil))))) (bCons (sRais "InvalidNumber")
  bNil) bNil)
  bNil)
def f_need_number : Sem := semS 3 false m_need_number
abbrev s42 : Stmt := top 42
/-! with_part : 0 rule, 1 index, 2 value -/
def N_with_part : List Str := ["rule", "index", "value"]
def m_with_part : Cor.Env → RS := (bCons (sRet (eBin .Add (eBin .Add (eSlc (eVar 0) oNone (oSome (eVar 1))) (eTup (aCons (eVar 2) aNil))) (eSlc (eVar 0) (oSome (eBin .Add (eVar 1) (eLit (.int 1)))) oNone)))
  bNil)
def f_with_part : Sem := semS 3 false m_with_part
abbrev s44 : Stmt := top 44
/-! least_pages : 0 rule, 1 lines, 2 limit -/
def N_least_pages : List Str := ["rule", "lines", "limit"]
def w_least_pages_0 : Cor.Env → RS := (bCons (sIf (eCmp .GtE (eCall f_sure_of (aCons (eCall f_with_part (aCons (eVar 0) (aCons (eLit (.int 5)) (aCons (eVar 2) aNil)))) aNil)) (eVar 1)) (bCons (sRetV 2)
  bNil) bNil)
  bNil)
def m_least_pages : Cor.Env → RS := (bCons (sExpr (eCall f_need_rule (aCons (eVar 0) aNil)))
  (bCons (sExpr (eCall f_need_number (aCons (eVar 1) (aCons (eLit (.int 0)) (aCons (eLit (.int 20)) aNil)))))
  (bCons (sFor (iRng2 (eLit (.int 1)) (eBin .Add (eLit (.int 12)) (eLit (.int 1)))) (.nm 2) w_least_pages_0)
  (bCons (sRet (eLit .non))
  bNil))))
def f_least_pages : Sem := semS 3 false m_least_pages
abbrev s22 : Stmt := top 22
/-! is_row_of : 0 value, 1 event -/
def N_is_row_of : List Str := ["value", "event"]
def m_is_row_of : Cor.Env → RS := (bCons (sRet (eAnd (eB1 .isStr (eVar 0)) (eAnd (eCmp .LtE (eB1 .len (eVar 0)) (eLit (.int 60))) (eB1 .all (eComp [1] (iAny (eVar 0)) (.nm 1) eYes (eCmp .In (eVar 1) (eLit (.str [45, 97, 98]))))))))
  bNil)
def f_is_row_of : Sem := semS 2 false m_is_row_of
abbrev s24 : Stmt := top 24
/-! need_row : 0 value -/
def N_need_row : List Str := ["value"]
def m_need_row : Cor.Env → RS := (bCons (sIf (eNot (eCall f_is_row_of (aCons (eVar 0) aNil))) (bCons (sRais "InvalidRow")
  bNil) bNil)
  bNil)
def f_need_row : Sem := semS 1 false m_need_row
abbrev s32 : Stmt := top 32
/-! walked : 0 rule, 1 sizes, 2 row, 3 found, 4 event -/
def N_walked : List Str := ["rule", "sizes", "row", "found", "event"]
def m_walked : Cor.Env → RS := (bCons (sSet 3 (eLst aNil))
  (bCons (sFor (iAny (eVar 2)) (.nm 4) (bCons (sSet 1 (eCall f_moved (aCons (eVar 0) (aCons (eVar 1) (aCons (eVar 4) aNil)))))
  (bCons (sApp 3 (eVar 1))
  bNil)))
  (bCons (sRetV 3)
  bNil)))
def f_walked : Sem := semS 5 false m_walked
abbrev s33 : Stmt := top 33
/-! behind : 0 rule, 1 row -/
def N_behind : List Str := ["rule", "row"]
def m_behind : Cor.Env → RS := (bCons (sRet (eSub (eBin .Add (eLst (aCons (eLit (.tup [.int 0])) aNil)) (eCall f_walked (aCons (eVar 0) (aCons (eLit (.tup [.int 0])) (aCons (eVar 1) aNil))))) (eNeg (eLit (.int 1)))))
  bNil)
def f_behind : Sem := semS 2 false m_behind
abbrev s34 : Stmt := top 34
/-! sizes : 0 rule, 1 row -/
def N_sizes : List Str := ["rule", "row"]
def m_sizes : Cor.Env → RS := (bCons (sExpr (eCall f_need_rule (aCons (eVar 0) aNil)))
  (bCons (sExpr (eCall f_need_row (aCons (eVar 1) aNil)))
  (bCons (sRet (eCall f_behind (aCons (eVar 0) (aCons (eVar 1) aNil))))
  bNil)))
def f_sizes : Sem := semS 2 false m_sizes
abbrev s43 : Stmt := top 43
/-! least_keep : 0 rule, 1 lines, 2 keep -/
def N_least_keep : List Str := ["rule", "lines", "keep"]
def w_least_keep_0 : Cor.Env → RS := (bCons (sIf (eCmp .GtE (eCall f_sure_of (aCons (eCall f_with_part (aCons (eVar 0) (aCons (eLit (.int 4)) (aCons (eVar 2) aNil)))) aNil)) (eVar 1)) (bCons (sRetV 2)
  bNil) bNil)
  bNil)
def m_least_keep : Cor.Env → RS := (bCons (sExpr (eCall f_need_rule (aCons (eVar 0) aNil)))
  (bCons (sExpr (eCall f_need_number (aCons (eVar 1) (aCons (eLit (.int 0)) (aCons (eLit (.int 20)) aNil)))))
  (bCons (sFor (iRng1 (eBin .Add (eLit (.int 3)) (eLit (.int 1)))) (.nm 2) w_least_keep_0)
  (bCons (sRet (eLit .non))
  bNil))))
def f_least_keep : Sem := semS 3 false m_least_keep
abbrev s56 : Stmt := top 56
/-! law : 0 _law_script, 1 _law_k, 2 _law_early, 3 _law_deck_here, 4 _law_r, 5 _law_due, 6 _law_song_here, 7 _law_written, 8 _law_lines, 9 _law_some, 10 _law_odd, 11 _law_one -/
def N_law : List Str := ["_law_script", "_law_k", "_law_early", "_law_deck_here", "_law_r", "_law_due", "_law_song_here", "_law_written", "_law_lines", "_law_some", "_law_odd", "_law_one"]
def w_law_2 : Cor.Env → RS := (bCons (sIf (eCmp .NotEq (eTry (eCall f_least_keep (aCons (eVar 4) (aCons (eVar 10) aNil)))) (eLit (.str [78, 117, 109, 98, 101, 114, 43]))) (bCons (sRet (eLit (.bl false)))
  bNil) bNil)
  (bCons (sIf (eCmp .NotEq (eTry (eCall f_least_pages (aCons (eVar 4) (aCons (eVar 10) aNil)))) (eLit (.str [78, 117, 109, 98, 101, 114, 43]))) (bCons (sRet (eLit (.bl false)))
  bNil) bNil)
  bNil))
def w_law_1 : Cor.Env → RS := (bCons (sSet 9 (eComp [11] (iRng1 (eLit (.int 4))) (.nm 11) (eCmp .GtE (eCall f__law_sure (aCons (eBin .Add (eBin .Add (eSlc (eVar 4) oNone (oSome (eLit (.int 4)))) (eTup (aCons (eVar 11) aNil))) (eSlc (eVar 4) (oSome (eLit (.int 5))) oNone)) aNil)) (eVar 8)) (eVar 11)))
  (bCons (sIf (eCmp .NotEq (eCall f_least_keep (aCons (eVar 4) (aCons (eVar 8) aNil))) (eIfe (eCmp .NotEq (eVar 9) (eLst aNil)) (eSub (eVar 9) (eLit (.int 0))) (eLit .non))) (bCons (sRet (eLit (.bl false)))
  bNil) bNil)
  bNil))
def w_law_0 : Cor.Env → RS := (bCons (sSet 3 (eCall f__law_deck (aCons (eSub (eBin .Add (eVar 0) (eBin .Mult (eLst (aCons (eLit (.int 0)) aNil)) (eLit (.int 3)))) (eVar 1)) (aCons (eVar 1) aNil))))
  (bCons (sSet 4 (eCallIo f__law_rule 3 aNil))
  (bCons (sSet 5 (eCall f__law_sure (aCons (eVar 4) aNil)))
  (bCons (sIf (eCmp .NotEq (eCall f_sure_lines (aCons (eVar 4) aNil)) (eVar 5)) (bCons (sRet (eLit (.bl false)))
  bNil) bNil)
  (bCons (sSet 6 (eCallIo f__law_song 3 (aCons (eLit (.int 60)) aNil)))
  (bCons (sSet 7 (eBin .Add (eM1 .count (eVar 6) (eLit (.str [97]))) (eBin .Mult (eLit (.int 2)) (eM1 .count (eVar 6) (eLit (.str [98]))))))
  (bCons (sIf (eCmp .Lt (eB1 .sum (eCall f_sizes (aCons (eVar 4) (aCons (eVar 6) aNil)))) (eMn2 (aCons (eVar 5) (aCons (eVar 7) aNil)))) (bCons (sRet (eLit (.bl false)))
  bNil) bNil)
  (bCons (sFor (iAny (eTup (aCons (eCallIo f__law_pick 3 (aCons (eLit (.int 9)) aNil)) (aCons (eBin .Add (eVar 5) (eLit (.int 1))) aNil)))) (.nm 8) w_law_1)
  (bCons (sSet 8 (eCallIo f__law_pick 3 (aCons (eLit (.int 6)) aNil)))
  (bCons (sSet 9 (eComp [11] (iRng2 (eLit (.int 1)) (eLit (.int 13))) (.nm 11) (eCmp .GtE (eCall f__law_sure (aCons (eBin .Add (eBin .Add (eSlc (eVar 4) oNone (oSome (eLit (.int 5)))) (eTup (aCons (eVar 11) aNil))) (eSlc (eVar 4) (oSome (eLit (.int 6))) oNone)) aNil)) (eVar 8)) (eVar 11)))
  (bCons (sIf (eCmp .NotEq (eCall f_least_pages (aCons (eVar 4) (aCons (eVar 8) aNil))) (eIfe (eCmp .NotEq (eVar 9) (eLst aNil)) (eSub (eVar 9) (eLit (.int 0))) (eLit .non))) (bCons (sRet (eLit (.bl false)))
  bNil) bNil)
  (bCons (sFor (iAny (eTup (aCons (eNeg (eLit (.int 1))) (aCons (eLit (.int 21)) (aCons (eLit .non) (aCons (eLit (.bl true)) aNil)))))) (.nm 10) w_law_2)
  bNil))))))))))))
def m_law : Cor.Env → RS := (bCons (sFor (iRng1 (eLit (.int 3))) (.nm 1) w_law_0)
  (bCons (sSet 2 (eTup (aCons (eLit (.int 2)) (aCons (eLit (.bl true)) (aCons (eLit (.bl false)) (aCons (eLit (.bl false)) (aCons (eLit (.int 1)) (aCons (eLit .non) (aCons (eLit (.int 1)) aNil)))))))))
  (bCons (sIf (eOr (eCmp .NotEq (eCall f_sure_lines (aCons (eVar 2) aNil)) (eLit (.int 3))) (eCmp .NotEq (eComp [11] (iAny (eTup (aCons (eLit (.int 3)) (aCons (eLit (.int 5)) (aCons (eLit (.int 7)) aNil))))) (.nm 11) eYes (eCall f_least_keep (aCons (eVar 2) (aCons (eVar 11) aNil)))) (eLst (aCons (eLit (.int 1)) (aCons (eLit (.int 3)) (aCons (eLit .non) aNil)))))) (bCons (sRet (eLit (.bl false)))
  bNil) bNil)
  (bCons (sIf (eCmp .NotEq (eComp [11] (iAny (eTup (aCons (eLit (.int 2)) (aCons (eLit (.int 3)) (aCons (eLit (.int 4)) aNil))))) (.nm 11) eYes (eCall f_least_pages (aCons (eVar 2) (aCons (eVar 11) aNil)))) (eLst (aCons (eLit (.int 3)) (aCons (eLit (.int 4)) (aCons (eLit .non) aNil))))) (bCons (sRet (eLit (.bl false)))
  bNil) bNil)
  (bCons (sRet (eCmp .Eq (eCall f_sure_lines (aCons (eTup (aCons (eLit (.int 1)) (aCons (eLit (.bl false)) (aCons (eLit (.bl true)) (aCons (eLit (.bl true)) (aCons (eLit (.int 3)) (aCons (eLit .non) (aCons (eLit (.int 1)) aNil)))))))) aNil)) (eLit (.int 0))))
  bNil)))))
def f_law : Sem := semS 12 false m_law
abbrev s48 : Stmt := top 48
abbrev s49 : Stmt := top 49
def N__law_name_of : List Str := ["_law_e", "_law_matching", "_law_words", "_law_found"]
def m__law_name_of (a : Addr) (x : Str) : Cor.Env → RS := (bCons (sSet 1 (eLst (aCons (eIsx 0 a ("InvalidRule" == x)) (aCons (eIsx 0 a ("InvalidRow" == x)) (aCons (eIsx 0 a ("InvalidSizes" == x)) aNil)))))
  (bCons (sSet 1 (eBin .Add (eVar 1) (eLst (aCons (eIsx 0 a ("InvalidNumber" == x)) (aCons (eIsx 0 a ("InvalidPart" == x)) (aCons (eIsx 0 a ("InvalidTotals" == x)) aNil))))))
  (bCons (sSet 1 (eBin .Add (eVar 1) (eLst (aCons (eIsx 0 a ("InvalidSeen" == x)) (aCons (eIsx 0 a ("InvalidEvent" == x)) (aCons (eIsx 0 a ("NothingToUndo" == x)) aNil))))))
  (bCons (sSet 1 (eBin .Add (eVar 1) (eLst (aCons (eIsx 0 a ("TooMany" == x)) (aCons (eIsx 0 a ("InvalidText" == x)) aNil)))))
  (bCons (sSet 2 (eLst (aCons (eLit (.str [82, 117, 108, 101])) (aCons (eLit (.str [82, 111, 119])) (aCons (eLit (.str [83, 105, 122, 101, 115])) (aCons (eLit (.str [78, 117, 109, 98, 101, 114])) (aCons (eLit (.str [80, 97, 114, 116])) (aCons (eLit (.str [84, 111, 116, 97, 108, 115])) (aCons (eLit (.str [83, 101, 101, 110])) (aCons (eLit (.str [69, 118, 101, 110, 116])) (aCons (eLit (.str [85, 110, 100, 111])) (aCons (eLit (.str [77, 97, 110, 121])) (aCons (eLit (.str [84, 101, 120, 116])) aNil)))))))))))))
  (bCons (sSelH 3 (aCons (eVar 2) (aCons (eVar 1) aNil)))
  (bCons (sRet (eBin .Add (eM1 .join (eLit (.str [])) (eVar 3)) (eIfe (eIsx 0 a true) (eLit (.str [43])) (eLit (.str [])))))
  bNil)))))))
theorem S__law_name_of : FnScope N__law_name_of ["_law_e"] (defScope s48) := ⟨rfl, rfl, rfl, by decide +kernel, rfl, by decide +kernel, by decide +kernel⟩
theorem S__law_try : FnScope ["_law_door", "_law_found", "_law_e"] ["_law_door"] (defScope s49) := ⟨rfl, rfl, rfl, by decide +kernel, rfl, by decide +kernel, by decide +kernel⟩
theorem b__law_name_of {P : Program} {w : World} {K : PySem.W.Frag} {mg : Str → Option Value} {base : Heap} {f : Addr} (F : Fct K mg) : BodyNm P w K mg base N__law_name_of "_law_name_of" (defScope s48) f (defBody s48) m__law_name_of := fun cdv A outer s H p x C hz xn hot hc nd => (kCons (kSetN nd (pLst (qCons (pIsn hc F.m_isinstance (pv0 0) (xn.kit "InvalidRule" (by decide +kernel))) (qCons (pIsn hc F.m_isinstance (pv0 0) (xn.kit "InvalidRow" (by decide +kernel))) (qCons (pIsn hc F.m_isinstance (pv0 0) (xn.kit "InvalidSizes" (by decide +kernel))) qNil)))))
  (kCons (kSetN nd (pBin (pVar (pv0 1)) (pLst (qCons (pIsn hc F.m_isinstance (pv0 0) (xn.kit "InvalidNumber" (by decide +kernel))) (qCons (pIsn hc F.m_isinstance (pv0 0) (xn.kit "InvalidPart" (by decide +kernel))) (qCons (pIsn hc F.m_isinstance (pv0 0) (xn.kit "InvalidTotals" (by decide +kernel))) qNil))))))
  (kCons (kSetN nd (pBin (pVar (pv0 1)) (pLst (qCons (pIsn hc F.m_isinstance (pv0 0) (xn.kit "InvalidSeen" (by decide +kernel))) (qCons (pIsn hc F.m_isinstance (pv0 0) (xn.kit "InvalidEvent" (by decide +kernel))) (qCons (pIsn hc F.m_isinstance (pv0 0) (xn.kit "NothingToUndo" (by decide +kernel))) qNil))))))
  (kCons (kSetN nd (pBin (pVar (pv0 1)) (pLst (qCons (pIsn hc F.m_isinstance (pv0 0) (xn.kit "TooMany" (by decide +kernel))) (qCons (pIsn hc F.m_isinstance (pv0 0) (xn.kit "InvalidText" (by decide +kernel))) qNil)))))
  (kCons (kSetN nd (pLst (qCons (pS [82, 117, 108, 101]) (qCons (pS [82, 111, 119]) (qCons (pS [83, 105, 122, 101, 115]) (qCons (pS [78, 117, 109, 98, 101, 114]) (qCons (pS [80, 97, 114, 116]) (qCons (pS [84, 111, 116, 97, 108, 115]) (qCons (pS [83, 101, 101, 110]) (qCons (pS [69, 118, 101, 110, 116]) (qCons (pS [85, 110, 100, 111]) (qCons (pS [77, 97, 110, 121]) (qCons (pS [84, 101, 120, 116]) qNil)))))))))))))
  (kCons (kSelH hot nd F.m_zip (qCons (pVar (pv0 2)) (qCons (pVar (pv0 1)) qNil)))
  (kCons (kRet (pBin (pJoin (pS []) (pVar (pv0 3))) (pIfe (tVal (pIsv hc F.m_isinstance (pv0 0) F.m_ValueError xn.kv)) (pS [43]) (pS []))))
  kNil)))))))
theorem b__law_try {P : Program} {w : World} {K : PySem.W.Frag} {mg : Str → Option Value} {base : Heap} {g : Addr} (F : NmOk P w K mg base 1) (CL : Addr) (hCL : mg "LogError" = some (.ref CL)) : BodyTry P w K mg base ["_law_door", "_law_found", "_law_e"] "_law_try" (defScope s49) g (defBody s49) "_law_door" 1 :=
  body_try F CL hCL S__law_try (by kernel_rfl) (by kernel_rfl) (by kernel_rfl) (by kernel_rfl) (by kernel_rfl) (by kernel_rfl) (by kernel_rfl) (by kernel_rfl)
theorem nm_z (a : Addr) (x : Str) (z : List Nat) (h : nmS x = some z) : ∃ env', m__law_name_of a x (.raw (.ref a) :: List.replicate (N__law_name_of.length - 1) .no) = .rt (.str z) false env' := by
  have e0 : List.replicate (N__law_name_of.length - 1) Slot.no = [.no, .no, .no] := rfl
  have e := nmB_ok h
  have hl : ((selV nmW (nmB x)).map List.length).sum ≤ 999999 := Nat.le_trans (selV_sum nmW _) (by decide)
  unfold nmB at hl e
  rw [e0]
  unfold m__law_name_of
  simp [blsOf, binD, lim]
  rw [if_pos hl]
  simp
  exact e

section
variable {P : Program} {w : World} {K : PySem.W.Frag} {mg : Str → Option Value} {base : Heap} {f : Addr} {fd : FuncData}
theorem b__law_deck (F : Fct K mg)   : BodyOk P w K mg base 0 N__law_deck "_law_deck" (defScope s46) f (defBody s46) m__law_deck := fun cdv A outer s H E gd hp => (kCons (kIf (tCmp gd (pVar (pv0 0)) (pBin pI pI)) (kCons (kRet (pLst (qCons (pBin (pVar (pv0 0)) (pBin pI pI)) (qCons (pBin (pB1 (bInt F.m_int) (pVar (pv0 0))) pI) (qCons (pVar (pv0 1)) qNil)))))
  kNil) kNil)
  (kCons (kRet (pLst (qCons pI (qCons (pBin (pB1 (bInt F.m_int) (pVar (pv0 0))) pI) (qCons (pVar (pv0 1)) qNil)))))
  kNil))
theorem S__law_deck : FnScope N__law_deck ["_law_cell", "_law_turn"] (defScope s46) := ⟨rfl, rfl, rfl, by decide +kernel, rfl, by decide +kernel, by decide +kernel⟩
theorem b__law_pick (F : Fct K mg)   : BodyOk P w K mg base 0 N__law_pick "_law_pick" (defScope s47) f (defBody s47) m__law_pick := fun cdv A outer s H E gd hp => (kCons (kIf (tCmp gd (pSubR gd (pv0 0) pI) pI) (kCons (kSet gd 3 (pBin (pB1 (bInt F.m_int) (pSubR gd (pv0 0) pI)) (pVar (pv0 1))))
  (kCons (kStI (pv0 0) pI (pBin (pSubR gd (pv0 0) pI) (pVar (pv0 1))))
  (kCons (kRetV (pv0 3))
  kNil))) kNil)
  (kCons (kStI (pv0 0) pI (pBin (pSubR gd (pv0 0) pI) pI))
  (kCons (kSet gd 2 (pBin (pB1 (bInt F.m_int) (pBin (pB1 (bInt F.m_int) (pBin (pSubR gd (pv0 0) pI) (pBin pI (pSubR gd (pv0 0) pI)))) pI)) pI))
  (kCons (kSet gd 3 (pBin (pBin (pB1 (bInt F.m_int) (pBin (pB1 (bInt F.m_int) (pBin (pVar (pv0 2)) (pBin pI (pSubR gd (pv0 0) pI)))) pI)) pI) pI))
  (kCons (kRet (pBin (pB1 (bInt F.m_int) (pVar (pv0 3))) (pVar (pv0 1))))
  kNil)))))
theorem S__law_pick : FnScope N__law_pick ["_law_deck_here", "_law_limit"] (defScope s47) := ⟨rfl, rfl, rfl, by decide +kernel, rfl, by decide +kernel, by decide +kernel⟩
theorem b__law_rule (F : Fct K mg)  (c__law_pick : FnS P w K mg base 1 "_law_pick" 2 true f__law_pick) : BodyOk P w K mg base 1 N__law_rule "_law_rule" (defScope s53) f (defBody s53) m__law_rule := fun cdv A outer s H E gd hp => (kCons (kSet gd 1 (pIfe (tCmp gd (pCallIo gd c__law_pick (pv0 0) (qCons pI qNil)) pI) pN (pBin pI (pCallIo gd c__law_pick (pv0 0) (qCons pI qNil)))))
  (kCons (kSetLc gd 2 [("_law_turn", 3)] (jRng1 F.m_range pI) (fun s1 H1 C1 l1 b1 => (gNm (gd.blk s1 H1 _ (compEnvC _ l1 C1 _) b1) 3)) (fun s1 H1 C1 l1 b1 => cNil) (fun s1 H1 C1 l1 b1 => (pCmp (gd.blk s1 H1 _ (compEnvC _ l1 C1 _) b1) (pCallIo (gd.blk s1 H1 _ (compEnvC _ l1 C1 _) b1) c__law_pick (pv0 0) (qCons pI qNil)) pI)))
  (kCons (kRet (pTup (qCons (pBin pI (pCallIo gd c__law_pick (pv0 0) (qCons pI qNil))) (qCons (pSub gd (pVar (pv0 2)) pI) (qCons (pSub gd (pVar (pv0 2)) pI) (qCons (pSub gd (pVar (pv0 2)) pI) (qCons (pCallIo gd c__law_pick (pv0 0) (qCons pI qNil)) (qCons (pVar (pv0 1)) (qCons (pBin pI (pCallIo gd c__law_pick (pv0 0) (qCons pI qNil))) qNil)))))))))
  kNil)))
theorem S__law_rule : FnScope N__law_rule ["_law_deck_here"] (defScope s53) := ⟨rfl, rfl, rfl, by decide +kernel, rfl, by decide +kernel, by decide +kernel⟩
theorem b__law_weight (F : Fct K mg)   : BodyOk P w K mg base 0 N__law_weight "_law_weight" (defScope s50) f (defBody s50) m__law_weight := fun cdv A outer s H E gd hp => (kCons (kRet (pBin (pB1 (bSum gd F.m_sum) (pSlc (pVar (pv0 1)) qN (qS pI))) (pB1 (bSum gd F.m_sum) (pComp [("_law_one", 2)] gd (jAny (pSlc (pVar (pv0 1)) (qS pI) qN)) (fun s1 H1 C1 l1 b1 => (gNm (gd.blk s1 H1 _ (compEnvC _ l1 C1 _) b1) 2)) (fun s1 H1 C1 l1 b1 => cNil) (fun s1 H1 C1 l1 b1 => (pBin (pB1 (bInt F.m_int) (pBin (pBin (pVar (pv0 2)) (pSub (gd.blk s1 H1 _ (compEnvC _ l1 C1 _) b1) (pVar (pv0 0)) pI)) pI)) (pSub (gd.blk s1 H1 _ (compEnvC _ l1 C1 _) b1) (pVar (pv0 0)) pI)))))))
  kNil)
theorem S__law_weight : FnScope N__law_weight ["_law_r", "_law_line"] (defScope s50) := ⟨rfl, rfl, rfl, by decide +kernel, rfl, by decide +kernel, by decide +kernel⟩
theorem b__law_step (F : Fct K mg)  (c__law_weight : FnS P w K mg base 1 "_law_weight" 2 false f__law_weight) : BodyOk P w K mg base 1 N__law_step "_law_step" (defScope s51) f (defBody s51) m__law_step := fun cdv A outer s H E gd hp => (kCons (kPar gd 4 3 (pFind (pS [45, 97, 98]) (pVar (pv0 2))) (pB1 (bList F.m_list) (pVar (pv0 1))))
  (kCons (kIf (tBool (wAnd (tCmp gd (pVar (pv0 4)) pI) (wAnd (tVal (pSub gd (pVar (pv0 0)) pI)) (wAnd1 (tBool (wOr (tVal (pSub gd (pVar (pv0 0)) pI)) (wOr1 (tCmp gd (pSubR gd (pv0 3) pI) pI)))))))) (kCons (kSet gd 3 (pBin (pLst (qCons pI qNil)) (pVar (pv0 3))))
  kNil) kNil)
  (kCons (kIf (tBool (wAnd (tCmp gd (pVar (pv0 4)) pI) (wAnd (tVal (pSub gd (pVar (pv0 0)) pI)) (wAnd (tCmp gd (pSubR gd (pv0 3) pI) pI) (wAnd1 (tCmp gd (pBin (pSubR gd (pv0 3) pI) (pVar (pv0 4))) (pSub gd (pVar (pv0 0)) pI))))))) (kCons (kSet gd 3 (pBin (pLst (qCons pI qNil)) (pVar (pv0 3))))
  kNil) kNil)
  (kCons (kStI (pv0 3) pI (pBin (pSubR gd (pv0 3) pI) (pVar (pv0 4))))
  (kCons (kIf (tBool (wAnd (tCmp gd (pVar (pv0 4)) pI) (wAnd (tNt (tVal (pSub gd (pVar (pv0 0)) pI))) (wAnd1 (tCmp gd (pSubR gd (pv0 3) pI) (pSub gd (pVar (pv0 0)) pI)))))) (kCons (kSet gd 3 (pBin (pLst (qCons pI qNil)) (pVar (pv0 3))))
  kNil) kNil)
  (kCons (kSet gd 3 (pSlc (pVar (pv0 3)) qN (qS (pBin (pSub gd (pVar (pv0 0)) pI) pI))))
  (kCons (kWhl hp (tBool (wAnd (tCmp gd (pSub gd (pVar (pv0 0)) pI) pN) (wAnd (tCmp gd (pB1 (bLen F.m_len) (pRd (pv0 3))) pI) (wAnd1 (tCmp gd (pCall gd c__law_weight (qCons (pVar (pv0 0)) (qCons (pVar (pv0 3)) qNil))) (pSub gd (pVar (pv0 0)) pI)))))) (kCons (kSet gd 3 (pSlc (pVar (pv0 3)) qN (qS (pNeg pI))))
  kNil))
  (kCons (kRet (pB1 (bTuple F.m_tuple) (pVar (pv0 3))))
  kNil))))))))
theorem S__law_step : FnScope N__law_step ["_law_r", "_law_here", "_law_event"] (defScope s51) := ⟨rfl, rfl, rfl, by decide +kernel, rfl, by decide +kernel, by decide +kernel⟩
theorem b__law_sure (F : Fct K mg)  (c__law_step : FnS P w K mg base 2 "_law_step" 3 false f__law_step) : BodyOk P w K mg base 2 N__law_sure "_law_sure" (defScope s55) f (defBody s55) m__law_sure := fun cdv A outer s H E gd hp => (kCons (kPar3 gd 1 2 3 (pLst qNil) (pLst (qCons (pTup (qCons (pTup (qCons pI qNil)) (qCons pI qNil))) qNil)) (pD1 true gd (pTup (qCons (pTup (qCons pI qNil)) (qCons pI qNil))) pB))
  (kCons (kWhl hp (tCmp gd (pRd (pv0 2)) (pLst qNil)) (kCons (kUnp (pPop (pv0 2)) (gTp gd (gsCons (gNm gd 5) (gsCons (gNm gd 6) gsNil))))
  (kCons (kFor gd hp (jAny (pS [45, 97, 98])) (gNm gd 4) (kCons (kSet gd 7 (pCall gd c__law_step (qCons (pVar (pv0 0)) (qCons (pVar (pv0 5)) (qCons (pVar (pv0 4)) qNil)))))
  (kCons (kSet gd 8 (pMn2 (st := true) gd F.m_min (qCons pI (qCons (pBin (pVar (pv0 6)) (pIndex (pS [45, 97, 98]) (pVar (pv0 4)))) qNil))))
  (kCons (kIf (tCmp gd (pVar (pv0 8)) (pB1 (bSum gd F.m_sum) (pVar (pv0 7)))) (kCons (kApp (pv0 1) (pB1 (bSum gd F.m_sum) (pVar (pv0 7))))
  (kCons (kSet gd 8 pI)
  kNil)) kNil)
  (kCons (kIf (tCmp gd (pTup (qCons (pVar (pv0 7)) (qCons (pVar (pv0 8)) qNil))) (pRd (pv0 3))) (kCons (kStD gd (pv0 3) (pTup (qCons (pVar (pv0 7)) (qCons (pVar (pv0 8)) qNil))) pB)
  (kCons (kApp (pv0 2) (pTup (qCons (pVar (pv0 7)) (qCons (pVar (pv0 8)) qNil))))
  kNil)) kNil)
  kNil)))))
  kNil)))
  (kCons (kRet (pB1 (bMin gd F.m_min) (pRd (pv0 1))))
  kNil)))
theorem S__law_sure : FnScope N__law_sure ["_law_r"] (defScope s55) := ⟨rfl, rfl, rfl, by decide +kernel, rfl, by decide +kernel, by decide +kernel⟩
theorem b__law_song (F : Fct K mg)  (c__law_pick : FnS P w K mg base 1 "_law_pick" 2 true f__law_pick) : BodyOk P w K mg base 1 N__law_song "_law_song" (defScope s54) f (defBody s54) m__law_song := fun cdv A outer s H E gd hp => (kCons (kSet gd 2 (pSub gd (pLst (qCons (pS [45, 97, 98]) (qCons (pS [45, 97, 97, 98, 98]) (qCons (pS [97, 97, 98]) (qCons (pS [45, 97]) qNil))))) (pCallIo gd c__law_pick (pv0 0) (qCons pI qNil))))
  (kCons (kRet (pJoin (pS []) (pComp [("_law_turn", 3)] gd (jRng1 F.m_range (pCallIo gd c__law_pick (pv0 0) (qCons (pBin (pVar (pv0 1)) pI) qNil))) (fun s1 H1 C1 l1 b1 => (gNm (gd.blk s1 H1 _ (compEnvC _ l1 C1 _) b1) 3)) (fun s1 H1 C1 l1 b1 => cNil) (fun s1 H1 C1 l1 b1 => (pSub (gd.blk s1 H1 _ (compEnvC _ l1 C1 _) b1) (pVar (pv0 2)) (pCallIo (gd.blk s1 H1 _ (compEnvC _ l1 C1 _) b1) c__law_pick (pv0 0) (qCons (pB1 (bLen F.m_len) (pVar (pv0 2))) qNil)))))))
  kNil))
theorem S__law_song : FnScope N__law_song ["_law_deck_here", "_law_most"] (defScope s54) := ⟨rfl, rfl, rfl, by decide +kernel, rfl, by decide +kernel, by decide +kernel⟩
theorem b_is_from (F : Fct K mg)   : BodyOk P w K mg base 0 N_is_from "is_from" (defScope s20) f (defBody s20) m_is_from := fun cdv A outer s H E gd hp => (kCons (kRet (pAnd (pIsInt F.m_isinstance (yInt F.m_int) (pVar (pv0 0))) (pAnd (pNot (pIsBool F.m_isinstance (yBool F.m_bool) (pVar (pv0 0)))) (pOne (pChain gd (pVar (pv0 1)) (pVar (pv0 0)) (pVar (pv0 2)))))))
  kNil)
theorem S_is_from : FnScope N_is_from ["value", "low", "high"] (defScope s20) := ⟨rfl, rfl, rfl, by decide +kernel, rfl, by decide +kernel, by decide +kernel⟩
theorem b_is_rule_of (F : Fct K mg)  (c_is_from : FnS P w K mg base 1 "is_from" 3 false f_is_from) : BodyOk P w K mg base 1 N_is_rule_of "is_rule_of" (defScope s21) f (defBody s21) m_is_rule_of := fun cdv A outer s H E gd hp => (kCons (kIf (tBool (wOr (tNt (tVal (pIsTup F.m_isinstance (yTuple F.m_tuple) (pVar (pv0 0))))) (wOr (tCmp gd (pB1 (bLen F.m_len) (pVar (pv0 0))) pI) (wOr1 (tNt (tVal (pB1 (bAll gd F.m_all) (pComp [("one", 1)] gd (jAny (pSlc (pVar (pv0 0)) (qS pI) (qS pI))) (fun s1 H1 C1 l1 b1 => (gNm (gd.blk s1 H1 _ (compEnvC _ l1 C1 _) b1) 1)) (fun s1 H1 C1 l1 b1 => cNil) (fun s1 H1 C1 l1 b1 => (pIsBool F.m_isinstance (yBool F.m_bool) (pVar (pv0 1)))))))))))) (kCons (kRet pB)
  kNil) kNil)
  (kCons (kIf (tBool (wOr (tNt (tVal (pCall gd c_is_from (qCons (pSub gd (pVar (pv0 0)) pI) (qCons pI (qCons (pGI F.g_MOST_SIZE) qNil)))))) (wOr1 (tNt (tVal (pCall gd c_is_from (qCons (pSub gd (pVar (pv0 0)) pI) (qCons pI (qCons (pGI F.g_MOST_KEEP) qNil))))))))) (kCons (kRet pB)
  kNil) kNil)
  (kCons (kRet (pAnd (pOr (pCmp gd (pSub gd (pVar (pv0 0)) pI) pN) (pOne (pCall gd c_is_from (qCons (pSub gd (pVar (pv0 0)) pI) (qCons pI (qCons (pGI F.g_MOST_PAGES) qNil)))))) (pOne (pCall gd c_is_from (qCons (pSub gd (pVar (pv0 0)) pI) (qCons pI (qCons (pGI F.g_MOST_FACTOR) qNil)))))))
  kNil)))
theorem S_is_rule_of : FnScope N_is_rule_of ["value"] (defScope s21) := ⟨rfl, rfl, rfl, by decide +kernel, rfl, by decide +kernel, by decide +kernel⟩
theorem b_need_rule (F : Fct K mg)  (c_is_rule_of : FnS P w K mg base 2 "is_rule_of" 1 false f_is_rule_of) : BodyOk P w K mg base 2 N_need_rule "need_rule" (defScope s23) f (defBody s23) m_need_rule := fun cdv A outer s H E gd hp => (kCons (kIf (tNt (tVal (pCall gd c_is_rule_of (qCons (pVar (pv0 0)) qNil)))) (kCons (kRais gd F.x_InvalidRule)
  kNil) kNil)
  kNil)
theorem S_need_rule : FnScope N_need_rule ["value"] (defScope s23) := ⟨rfl, rfl, rfl, by decide +kernel, rfl, by decide +kernel, by decide +kernel⟩
theorem b_pages_of (F : Fct K mg)   : BodyOk P w K mg base 0 N_pages_of "pages_of" (defScope s28) f (defBody s28) m_pages_of := fun cdv A outer s H E gd hp => (kCons (kSetLc gd 2 [("size", 3)] (jAny (pSlc (pVar (pv0 1)) (qS pI) qN)) (fun s1 H1 C1 l1 b1 => (gNm (gd.blk s1 H1 _ (compEnvC _ l1 C1 _) b1) 3)) (fun s1 H1 C1 l1 b1 => cNil) (fun s1 H1 C1 l1 b1 => (pBin (pBin (pBin (pVar (pv0 3)) (pSub (gd.blk s1 H1 _ (compEnvC _ l1 C1 _) b1) (pVar (pv0 0)) pI)) pI) (pSub (gd.blk s1 H1 _ (compEnvC _ l1 C1 _) b1) (pVar (pv0 0)) pI))))
  (kCons (kRet (pBin (pB1 (bSum gd F.m_sum) (pSlc (pVar (pv0 1)) qN (qS pI))) (pB1 (bSum gd F.m_sum) (pVar (pv0 2)))))
  kNil))
theorem S_pages_of : FnScope N_pages_of ["rule", "sizes"] (defScope s28) := ⟨rfl, rfl, rfl, by decide +kernel, rfl, by decide +kernel, by decide +kernel⟩
theorem b_within (F : Fct K mg)  (c_pages_of : FnS P w K mg base 1 "pages_of" 2 false f_pages_of) : BodyOk P w K mg base 1 N_within "within" (defScope s30) f (defBody s30) m_within := fun cdv A outer s H E gd hp => (kCons (kWhl hp (tBool (wAnd (tCmp gd (pSub gd (pVar (pv0 0)) pI) pN) (wAnd (tCmp gd (pB1 (bLen F.m_len) (pVar (pv0 1))) pI) (wAnd1 (tCmp gd (pCall gd c_pages_of (qCons (pVar (pv0 0)) (qCons (pVar (pv0 1)) qNil))) (pSub gd (pVar (pv0 0)) pI)))))) (kCons (kSet gd 1 (pSlc (pVar (pv0 1)) qN (qS (pNeg pI))))
  kNil))
  (kCons (kRetV (pv0 1))
  kNil))
theorem S_within : FnScope N_within ["rule", "sizes"] (defScope s30) := ⟨rfl, rfl, rfl, by decide +kernel, rfl, by decide +kernel, by decide +kernel⟩
theorem b_turned (F : Fct K mg)   : BodyOk P w K mg base 0 N_turned "turned" (defScope s29) f (defBody s29) m_turned := fun cdv A outer s H E gd hp => (kCons (kRet (pSlc (pBin (pTup (qCons pI qNil)) (pVar (pv0 1))) qN (qS (pBin (pSub gd (pVar (pv0 0)) pI) pI))))
  kNil)
theorem S_turned : FnScope N_turned ["rule", "sizes"] (defScope s29) := ⟨rfl, rfl, rfl, by decide +kernel, rfl, by decide +kernel, by decide +kernel⟩
theorem b_moved (F : Fct K mg)  (c_turned : FnS P w K mg base 1 "turned" 2 false f_turned) (c_within : FnS P w K mg base 2 "within" 2 false f_within) : BodyOk P w K mg base 2 N_moved "moved" (defScope s31) f (defBody s31) m_moved := fun cdv A outer s H E gd hp => (kCons (kUnp (pSlc (pVar (pv0 0)) qN (qS pI)) (gTp gd (gsCons (gNm gd 4) (gsCons (gNm gd 5) (gsCons (gNm gd 6) (gsCons (gNm gd 7) gsNil))))))
  (kCons (kIf (tCmp gd (pVar (pv0 2)) (pS [45])) (kCons (kIf (tBool (wAnd (tVal (pVar (pv0 6))) (wAnd1 (tBool (wOr (tVal (pVar (pv0 7))) (wOr1 (tCmp gd (pSub gd (pVar (pv0 1)) pI) pI))))))) (kCons (kSet gd 1 (pCall gd c_turned (qCons (pVar (pv0 0)) (qCons (pVar (pv0 1)) qNil))))
  kNil) kNil)
  (kCons (kRet (pCall gd c_within (qCons (pVar (pv0 0)) (qCons (pVar (pv0 1)) qNil))))
  kNil)) kNil)
  (kCons (kSet gd 3 (pIfe (tCmp gd (pVar (pv0 2)) (pS [97])) pI pI))
  (kCons (kIf (tBool (wAnd (tVal (pVar (pv0 5))) (wAnd (tCmp gd (pSub gd (pVar (pv0 1)) pI) pI) (wAnd1 (tCmp gd (pBin (pSub gd (pVar (pv0 1)) pI) (pVar (pv0 3))) (pVar (pv0 4))))))) (kCons (kSet gd 1 (pCall gd c_turned (qCons (pVar (pv0 0)) (qCons (pVar (pv0 1)) qNil))))
  kNil) kNil)
  (kCons (kSet gd 1 (pBin (pTup (qCons (pBin (pSub gd (pVar (pv0 1)) pI) (pVar (pv0 3))) qNil)) (pSlc (pVar (pv0 1)) (qS pI) qN)))
  (kCons (kIf (tBool (wAnd (tNt (tVal (pVar (pv0 5)))) (wAnd1 (tCmp gd (pSub gd (pVar (pv0 1)) pI) (pVar (pv0 4)))))) (kCons (kSet gd 1 (pCall gd c_turned (qCons (pVar (pv0 0)) (qCons (pVar (pv0 1)) qNil))))
  kNil) kNil)
  (kCons (kRet (pCall gd c_within (qCons (pVar (pv0 0)) (qCons (pVar (pv0 1)) qNil))))
  kNil)))))))
theorem S_moved : FnScope N_moved ["rule", "sizes", "event"] (defScope s31) := ⟨rfl, rfl, rfl, by decide +kernel, rfl, by decide +kernel, by decide +kernel⟩
theorem b_states_of (F : Fct K mg)  (c_moved : FnS P w K mg base 3 "moved" 3 false f_moved) : BodyOk P w K mg base 3 N_states_of "states_of" (defScope s36) f (defBody s36) m_states_of := fun cdv A outer s H E gd hp => (kCons (kPar gd 1 2 (pD1 true gd (pGT [.int 0] F.t_FIRST (fun _ => .cons (.int _) (.nil))) pB) (pLst (qCons (pGT [.int 0] F.t_FIRST (fun _ => .cons (.int _) (.nil))) qNil)))
  (kCons (kWhl hp (tCmp gd (pVar (pv0 2)) (pLst qNil)) (kCons (kSet gd 3 (pLst qNil))
  (kCons (kFor gd hp (jAny (pVar (pv0 2))) (gNm gd 4) (kCons (kFor gd hp (jAny (pGS [45, 97, 98] F.g_EVENTS)) (gNm gd 5) (kCons (kSet gd 6 (pCall gd c_moved (qCons (pVar (pv0 0)) (qCons (pVar (pv0 4)) (qCons (pVar (pv0 5)) qNil)))))
  (kCons (kIf (tCmp gd (pVar (pv0 6)) (pRd (pv0 1))) (kCons (kStD gd (pv0 1) (pVar (pv0 6)) pB)
  (kCons (kApp (pv0 3) (pVar (pv0 6)))
  kNil)) kNil)
  kNil)))
  kNil))
  (kCons (kSet gd 2 (pVar (pv0 3)))
  kNil))))
  (kCons (kRet (pTupD gd F.m_tuple (pVar (pv0 1))))
  kNil)))
theorem S_states_of : FnScope N_states_of ["rule"] (defScope s36) := ⟨rfl, rfl, rfl, by decide +kernel, rfl, by decide +kernel, by decide +kernel⟩
theorem b_lines_of (F : Fct K mg)   : BodyOk P w K mg base 0 N_lines_of "lines_of" (defScope s38) f (defBody s38) m_lines_of := fun cdv A outer s H E gd hp => (kCons (kRet (pIndex (pGS [45, 97, 98] F.g_EVENTS) (pVar (pv0 0))))
  kNil)
theorem S_lines_of : FnScope N_lines_of ["event"] (defScope s38) := ⟨rfl, rfl, rfl, by decide +kernel, rfl, by decide +kernel, by decide +kernel⟩
theorem b_sure_of (F : Fct K mg)  (c_states_of : FnS P w K mg base 4 "states_of" 1 false f_states_of) (c_moved : FnS P w K mg base 3 "moved" 3 false f_moved) (c_lines_of : FnS P w K mg base 1 "lines_of" 1 false f_lines_of) : BodyOk P w K mg base 4 N_sure_of "sure_of" (defScope s40) f (defBody s40) m_sure_of := fun cdv A outer s H E gd hp => (kCons (kSet gd 1 (pBin (pB1 (bMax gd F.m_max) (pComp [("here", 6)] gd (jAny (pCall gd c_states_of (qCons (pVar (pv0 0)) qNil))) (fun s1 H1 C1 l1 b1 => (gNm (gd.blk s1 H1 _ (compEnvC _ l1 C1 _) b1) 6)) (fun s1 H1 C1 l1 b1 => cNil) (fun s1 H1 C1 l1 b1 => (pB1 (bSum (gd.blk s1 H1 _ (compEnvC _ l1 C1 _) b1) F.m_sum) (pVar (pv0 6)))))) pI))
  (kCons (kPar3 gd 2 3 4 (pD1 true gd (pTup (qCons (pGT [.int 0] F.t_FIRST (fun _ => .cons (.int _) (.nil))) (qCons pI qNil))) pB) (pLst (qCons (pTup (qCons (pGT [.int 0] F.t_FIRST (fun _ => .cons (.int _) (.nil))) (qCons pI qNil))) qNil)) (pVar (pv0 1)))
  (kCons (kWhl hp (tCmp gd (pRd (pv0 3)) (pLst qNil)) (kCons (kUnp (pPop (pv0 3)) (gTp gd (gsCons (gNm gd 6) (gsCons (gNm gd 7) gsNil))))
  (kCons (kFor gd hp (jAny (pGS [45, 97, 98] F.g_EVENTS)) (gNm gd 5) (kCons (kSet gd 8 (pCall gd c_moved (qCons (pVar (pv0 0)) (qCons (pVar (pv0 6)) (qCons (pVar (pv0 5)) qNil)))))
  (kCons (kSet gd 9 (pMn2 (st := true) gd F.m_min (qCons (pVar (pv0 1)) (qCons (pBin (pVar (pv0 7)) (pCall gd c_lines_of (qCons (pVar (pv0 5)) qNil))) qNil))))
  (kCons (kIf (tCmp gd (pVar (pv0 9)) (pB1 (bSum gd F.m_sum) (pVar (pv0 8)))) (kCons (kSet gd 4 (pMn2 (st := true) gd F.m_min (qCons (pVar (pv0 4)) (qCons (pB1 (bSum gd F.m_sum) (pVar (pv0 8))) qNil))))
  (kCons (kSet gd 9 (pVar (pv0 1)))
  kNil)) kNil)
  (kCons (kIf (tCmp gd (pTup (qCons (pVar (pv0 8)) (qCons (pVar (pv0 9)) qNil))) (pRd (pv0 2))) (kCons (kStD gd (pv0 2) (pTup (qCons (pVar (pv0 8)) (qCons (pVar (pv0 9)) qNil))) pB)
  (kCons (kApp (pv0 3) (pTup (qCons (pVar (pv0 8)) (qCons (pVar (pv0 9)) qNil))))
  kNil)) kNil)
  kNil)))))
  kNil)))
  (kCons (kRetV (pv0 4))
  kNil))))
theorem S_sure_of : FnScope N_sure_of ["rule"] (defScope s40) := ⟨rfl, rfl, rfl, by decide +kernel, rfl, by decide +kernel, by decide +kernel⟩
theorem b_sure_lines (F : Fct K mg)  (c_need_rule : FnS P w K mg base 3 "need_rule" 1 false f_need_rule) (c_sure_of : FnS P w K mg base 5 "sure_of" 1 false f_sure_of) : BodyOk P w K mg base 5 N_sure_lines "sure_lines" (defScope s39) f (defBody s39) m_sure_lines := fun cdv A outer s H E gd hp => (kCons (kExpr (pCall gd c_need_rule (qCons (pVar (pv0 0)) qNil)))
  (kCons (kRet (pCall gd c_sure_of (qCons (pVar (pv0 0)) qNil)))
  kNil))
theorem S_sure_lines : FnScope N_sure_lines ["rule"] (defScope s39) := ⟨rfl, rfl, rfl, by decide +kernel, rfl, by decide +kernel, by decide +kernel⟩
theorem b_need_number (F : Fct K mg)  (c_is_from : FnS P w K mg base 1 "is_from" 3 false f_is_from) : BodyOk P w K mg base 1 N_need_number "need_number" (defScope s25) f (defBody s25) m_need_number := fun cdv A outer s H E gd hp => (kCons (kIf (tNt (tVal (pCall gd c_is_from (qCons (pVar (pv0 0)) (qCons (pVar (pv0 1)) (qCons (pVar (pv0 2)) qNil)))))) (kCons (kRais gd F.x_InvalidNumber)
  kNil) kNil)
  kNil)
theorem S_need_number : FnScope N_need_number ["value", "low", "high"] (defScope s25) := ⟨rfl, rfl, rfl, by decide +kernel, rfl, by decide +kernel, by decide +kernel⟩
theorem b_with_part (F : Fct K mg)   : BodyOk P w K mg base 0 N_with_part "with_part" (defScope s42) f (defBody s42) m_with_part := fun cdv A outer s H E gd hp => (kCons (kRet (pBin (pBin (pSlc (pVar (pv0 0)) qN (qS (pVar (pv0 1)))) (pTup (qCons (pVar (pv0 2)) qNil))) (pSlc (pVar (pv0 0)) (qS (pBin (pVar (pv0 1)) pI)) qN)))
  kNil)
theorem S_with_part : FnScope N_with_part ["rule", "index", "value"] (defScope s42) := ⟨rfl, rfl, rfl, by decide +kernel, rfl, by decide +kernel, by decide +kernel⟩
theorem b_least_pages (F : Fct K mg)  (c_need_rule : FnS P w K mg base 3 "need_rule" 1 false f_need_rule) (c_need_number : FnS P w K mg base 2 "need_number" 3 false f_need_number) (c_sure_of : FnS P w K mg base 5 "sure_of" 1 false f_sure_of) (c_with_part : FnS P w K mg base 1 "with_part" 3 false f_with_part) : BodyOk P w K mg base 5 N_least_pages "least_pages" (defScope s44) f (defBody s44) m_least_pages := fun cdv A outer s H E gd hp => (kCons (kExpr (pCall gd c_need_rule (qCons (pVar (pv0 0)) qNil)))
  (kCons (kExpr (pCall gd c_need_number (qCons (pVar (pv0 1)) (qCons pI (qCons pI qNil)))))
  (kCons (kFor gd hp (jRng2 F.m_range pI (pBin (pGI F.g_MOST_PAGES) pI)) (gNm gd 2) (kCons (kIf (tCmp gd (pCall gd c_sure_of (qCons (pCall gd c_with_part (qCons (pVar (pv0 0)) (qCons pI (qCons (pVar (pv0 2)) qNil)))) qNil)) (pVar (pv0 1))) (kCons (kRetV (pv0 2))
  kNil) kNil)
  kNil))
  (kCons (kRet pN)
  kNil))))
theorem S_least_pages : FnScope N_least_pages ["rule", "lines"] (defScope s44) := ⟨rfl, rfl, rfl, by decide +kernel, rfl, by decide +kernel, by decide +kernel⟩
theorem b_is_row_of (F : Fct K mg)   : BodyOk P w K mg base 0 N_is_row_of "is_row_of" (defScope s22) f (defBody s22) m_is_row_of := fun cdv A outer s H E gd hp => (kCons (kRet (pAnd (pIsStr F.m_isinstance (yStr F.m_str) (pVar (pv0 0))) (pAnd (pCmp gd (pB1 (bLen F.m_len) (pVar (pv0 0))) (pGI F.g_MOST_EVENTS)) (pOne (pB1 (bAll gd F.m_all) (pComp [("event", 1)] gd (jAny (pVar (pv0 0))) (fun s1 H1 C1 l1 b1 => (gNm (gd.blk s1 H1 _ (compEnvC _ l1 C1 _) b1) 1)) (fun s1 H1 C1 l1 b1 => cNil) (fun s1 H1 C1 l1 b1 => (pCmp (gd.blk s1 H1 _ (compEnvC _ l1 C1 _) b1) (pVar (pv0 1)) (pGS [45, 97, 98] F.g_EVENTS)))))))))
  kNil)
theorem S_is_row_of : FnScope N_is_row_of ["value"] (defScope s22) := ⟨rfl, rfl, rfl, by decide +kernel, rfl, by decide +kernel, by decide +kernel⟩
theorem b_need_row (F : Fct K mg)  (c_is_row_of : FnS P w K mg base 1 "is_row_of" 1 false f_is_row_of) : BodyOk P w K mg base 1 N_need_row "need_row" (defScope s24) f (defBody s24) m_need_row := fun cdv A outer s H E gd hp => (kCons (kIf (tNt (tVal (pCall gd c_is_row_of (qCons (pVar (pv0 0)) qNil)))) (kCons (kRais gd F.x_InvalidRow)
  kNil) kNil)
  kNil)
theorem S_need_row : FnScope N_need_row ["value"] (defScope s24) := ⟨rfl, rfl, rfl, by decide +kernel, rfl, by decide +kernel, by decide +kernel⟩
theorem b_walked (F : Fct K mg)  (c_moved : FnS P w K mg base 3 "moved" 3 false f_moved) : BodyOk P w K mg base 3 N_walked "walked" (defScope s32) f (defBody s32) m_walked := fun cdv A outer s H E gd hp => (kCons (kSet gd 3 (pLst qNil))
  (kCons (kFor gd hp (jAny (pVar (pv0 2))) (gNm gd 4) (kCons (kSet gd 1 (pCall gd c_moved (qCons (pVar (pv0 0)) (qCons (pVar (pv0 1)) (qCons (pVar (pv0 4)) qNil)))))
  (kCons (kApp (pv0 3) (pVar (pv0 1)))
  kNil)))
  (kCons (kRetV (pv0 3))
  kNil)))
theorem S_walked : FnScope N_walked ["rule", "sizes", "row"] (defScope s32) := ⟨rfl, rfl, rfl, by decide +kernel, rfl, by decide +kernel, by decide +kernel⟩
theorem b_behind (F : Fct K mg)  (c_walked : FnS P w K mg base 4 "walked" 3 false f_walked) : BodyOk P w K mg base 4 N_behind "behind" (defScope s33) f (defBody s33) m_behind := fun cdv A outer s H E gd hp => (kCons (kRet (pSub gd (pBin (pLst (qCons (pGT [.int 0] F.t_FIRST (fun _ => .cons (.int _) (.nil))) qNil)) (pCall gd c_walked (qCons (pVar (pv0 0)) (qCons (pGT [.int 0] F.t_FIRST (fun _ => .cons (.int _) (.nil))) (qCons (pVar (pv0 1)) qNil))))) (pNeg pI)))
  kNil)
theorem S_behind : FnScope N_behind ["rule", "row"] (defScope s33) := ⟨rfl, rfl, rfl, by decide +kernel, rfl, by decide +kernel, by decide +kernel⟩
theorem b_sizes (F : Fct K mg)  (c_need_rule : FnS P w K mg base 3 "need_rule" 1 false f_need_rule) (c_need_row : FnS P w K mg base 2 "need_row" 1 false f_need_row) (c_behind : FnS P w K mg base 5 "behind" 2 false f_behind) : BodyOk P w K mg base 5 N_sizes "sizes" (defScope s34) f (defBody s34) m_sizes := fun cdv A outer s H E gd hp => (kCons (kExpr (pCall gd c_need_rule (qCons (pVar (pv0 0)) qNil)))
  (kCons (kExpr (pCall gd c_need_row (qCons (pVar (pv0 1)) qNil)))
  (kCons (kRet (pCall gd c_behind (qCons (pVar (pv0 0)) (qCons (pVar (pv0 1)) qNil))))
  kNil)))
theorem S_sizes : FnScope N_sizes ["rule", "row"] (defScope s34) := ⟨rfl, rfl, rfl, by decide +kernel, rfl, by decide +kernel, by decide +kernel⟩
theorem b_least_keep (F : Fct K mg)  (c_need_rule : FnS P w K mg base 3 "need_rule" 1 false f_need_rule) (c_need_number : FnS P w K mg base 2 "need_number" 3 false f_need_number) (c_sure_of : FnS P w K mg base 5 "sure_of" 1 false f_sure_of) (c_with_part : FnS P w K mg base 1 "with_part" 3 false f_with_part) : BodyOk P w K mg base 5 N_least_keep "least_keep" (defScope s43) f (defBody s43) m_least_keep := fun cdv A outer s H E gd hp => (kCons (kExpr (pCall gd c_need_rule (qCons (pVar (pv0 0)) qNil)))
  (kCons (kExpr (pCall gd c_need_number (qCons (pVar (pv0 1)) (qCons pI (qCons pI qNil)))))
  (kCons (kFor gd hp (jRng1 F.m_range (pBin (pGI F.g_MOST_KEEP) pI)) (gNm gd 2) (kCons (kIf (tCmp gd (pCall gd c_sure_of (qCons (pCall gd c_with_part (qCons (pVar (pv0 0)) (qCons pI (qCons (pVar (pv0 2)) qNil)))) qNil)) (pVar (pv0 1))) (kCons (kRetV (pv0 2))
  kNil) kNil)
  kNil))
  (kCons (kRet pN)
  kNil))))
theorem S_least_keep : FnScope N_least_keep ["rule", "lines"] (defScope s43) := ⟨rfl, rfl, rfl, by decide +kernel, rfl, by decide +kernel, by decide +kernel⟩
theorem b_law (F : Fct K mg) (T : TryOk P w K mg base 1)  (c__law_deck : FnS P w K mg base 1 "_law_deck" 2 false f__law_deck) (c__law_rule : FnS P w K mg base 2 "_law_rule" 1 true f__law_rule) (c__law_sure : FnS P w K mg base 3 "_law_sure" 1 false f__law_sure) (c_sure_lines : FnS P w K mg base 6 "sure_lines" 1 false f_sure_lines) (c__law_song : FnS P w K mg base 2 "_law_song" 2 true f__law_song) (c_sizes : FnS P w K mg base 6 "sizes" 2 false f_sizes) (c__law_pick : FnS P w K mg base 1 "_law_pick" 2 true f__law_pick) (c_least_keep : FnS P w K mg base 6 "least_keep" 2 false f_least_keep) (c_least_pages : FnS P w K mg base 6 "least_pages" 2 false f_least_pages) : BodyOkC P w K mg base 8 N_law "law" (defScope s56) f (defBody s56) m_law := fun cdv A outer s H E C gd hp => (kCons (kFor gd hp (jRng1 F.m_range pI) (gNm gd 1) (kCons (kSet gd 3 (pCall gd c__law_deck (qCons (pSub gd (pBin (pVar (pv0 0)) (pBin (pLst (qCons pI qNil)) pI)) (pVar (pv0 1))) (qCons (pVar (pv0 1)) qNil))))
  (kCons (kSet gd 4 (pCallIo gd c__law_rule (pv0 3) qNil))
  (kCons (kSet gd 5 (pCall gd c__law_sure (qCons (pVar (pv0 4)) qNil)))
  (kCons (kIf (tCmp gd (pCall gd c_sure_lines (qCons (pVar (pv0 4)) qNil)) (pVar (pv0 5))) (kCons (kRet pB)
  kNil) kNil)
  (kCons (kSet gd 6 (pCallIo gd c__law_song (pv0 3) (qCons pI qNil)))
  (kCons (kSet gd 7 (pBin (pCount (pVar (pv0 6)) (pS [97])) (pBin pI (pCount (pVar (pv0 6)) (pS [98])))))
  (kCons (kIf (tCmp gd (pB1 (bSum gd F.m_sum) (pCall gd c_sizes (qCons (pVar (pv0 4)) (qCons (pVar (pv0 6)) qNil)))) (pMn2 (st := true) gd F.m_min (qCons (pVar (pv0 5)) (qCons (pVar (pv0 7)) qNil)))) (kCons (kRet pB)
  kNil) kNil)
  (kCons (kFor gd hp (jAny (pTup (qCons (pCallIo gd c__law_pick (pv0 3) (qCons pI qNil)) (qCons (pBin (pVar (pv0 5)) pI) qNil)))) (gNm gd 8) (kCons (kSetLc gd 9 [("_law_one", 11)] (jRng1 F.m_range pI) (fun s1 H1 C1 l1 b1 => (gNm (gd.blk s1 H1 _ (compEnvC _ l1 C1 _) b1) 11)) (fun s1 H1 C1 l1 b1 => (cOne (tCmp (gd.blk s1 H1 _ (compEnvC _ l1 C1 _) b1) (pCall (gd.blk s1 H1 _ (compEnvC _ l1 C1 _) b1) c__law_sure (qCons (pBin (pBin (pSlc (pVar (pv0 4)) qN (qS pI)) (pTup (qCons (pVar (pv0 11)) qNil))) (pSlc (pVar (pv0 4)) (qS pI) qN)) qNil)) (pVar (pv0 8))))) (fun s1 H1 C1 l1 b1 => (pVar (pv0 11))))
  (kCons (kIf (tCmp gd (pCall gd c_least_keep (qCons (pVar (pv0 4)) (qCons (pVar (pv0 8)) qNil))) (pIfe (tCmp gd (pVar (pv0 9)) (pLst qNil)) (pSub gd (pVar (pv0 9)) pI) pN)) (kCons (kRet pB)
  kNil) kNil)
  kNil)))
  (kCons (kSet gd 8 (pCallIo gd c__law_pick (pv0 3) (qCons pI qNil)))
  (kCons (kSetLc gd 9 [("_law_one", 11)] (jRng2 F.m_range pI pI) (fun s1 H1 C1 l1 b1 => (gNm (gd.blk s1 H1 _ (compEnvC _ l1 C1 _) b1) 11)) (fun s1 H1 C1 l1 b1 => (cOne (tCmp (gd.blk s1 H1 _ (compEnvC _ l1 C1 _) b1) (pCall (gd.blk s1 H1 _ (compEnvC _ l1 C1 _) b1) c__law_sure (qCons (pBin (pBin (pSlc (pVar (pv0 4)) qN (qS pI)) (pTup (qCons (pVar (pv0 11)) qNil))) (pSlc (pVar (pv0 4)) (qS pI) qN)) qNil)) (pVar (pv0 8))))) (fun s1 H1 C1 l1 b1 => (pVar (pv0 11))))
  (kCons (kIf (tCmp gd (pCall gd c_least_pages (qCons (pVar (pv0 4)) (qCons (pVar (pv0 8)) qNil))) (pIfe (tCmp gd (pVar (pv0 9)) (pLst qNil)) (pSub gd (pVar (pv0 9)) pI) pN)) (kCons (kRet pB)
  kNil) kNil)
  (kCons (kFor gd hp (jAny (pTup (qCons (pNeg pI) (qCons pI (qCons pN (qCons pB qNil)))))) (gNm gd 10) (kCons (kIf (tCmp gd (pTry gd T F.xn C (fun A1 o1 s1 H1 E1 f1 c1 gd1 => (pCall gd1 c_least_keep (qCons (pVar (pv0 4)) (qCons (pVar (pv0 10)) qNil))))) (pS [78, 117, 109, 98, 101, 114, 43])) (kCons (kRet pB)
  kNil) kNil)
  (kCons (kIf (tCmp gd (pTry gd T F.xn C (fun A1 o1 s1 H1 E1 f1 c1 gd1 => (pCall gd1 c_least_pages (qCons (pVar (pv0 4)) (qCons (pVar (pv0 10)) qNil))))) (pS [78, 117, 109, 98, 101, 114, 43])) (kCons (kRet pB)
  kNil) kNil)
  kNil)))
  kNil)))))))))))))
  (kCons (kSet gd 2 (pTup (qCons pI (qCons pB (qCons pB (qCons pB (qCons pI (qCons pN (qCons pI qNil)))))))))
  (kCons (kIf (tBool (wOr (tCmp gd (pCall gd c_sure_lines (qCons (pVar (pv0 2)) qNil)) pI) (wOr1 (tCmp gd (pComp [("_law_one", 11)] gd (jAny (pTup (qCons pI (qCons pI (qCons pI qNil))))) (fun s1 H1 C1 l1 b1 => (gNm (gd.blk s1 H1 _ (compEnvC _ l1 C1 _) b1) 11)) (fun s1 H1 C1 l1 b1 => cNil) (fun s1 H1 C1 l1 b1 => (pCall (gd.blk s1 H1 _ (compEnvC _ l1 C1 _) b1) c_least_keep (qCons (pVar (pv0 2)) (qCons (pVar (pv0 11)) qNil))))) (pLst (qCons pI (qCons pI (qCons pN qNil)))))))) (kCons (kRet pB)
  kNil) kNil)
  (kCons (kIf (tCmp gd (pComp [("_law_one", 11)] gd (jAny (pTup (qCons pI (qCons pI (qCons pI qNil))))) (fun s1 H1 C1 l1 b1 => (gNm (gd.blk s1 H1 _ (compEnvC _ l1 C1 _) b1) 11)) (fun s1 H1 C1 l1 b1 => cNil) (fun s1 H1 C1 l1 b1 => (pCall (gd.blk s1 H1 _ (compEnvC _ l1 C1 _) b1) c_least_pages (qCons (pVar (pv0 2)) (qCons (pVar (pv0 11)) qNil))))) (pLst (qCons pI (qCons pI (qCons pN qNil))))) (kCons (kRet pB)
  kNil) kNil)
  (kCons (kRet (pCmp gd (pCall gd c_sure_lines (qCons (pTup (qCons pI (qCons pB (qCons pB (qCons pB (qCons pI (qCons pN (qCons pI qNil)))))))) qNil)) pI))
  kNil)))))
theorem S_law : FnScope N_law ["_law_script"] (defScope s56) := ⟨rfl, rfl, rfl, by decide +kernel, rfl, by decide +kernel, by decide +kernel⟩
end
end HD
set_option Elab.async false
set_option linter.all false
set_option maxRecDepth 100000
set_option maxHeartbeats 0
namespace HD
open PySem PySem.Spec PyProof.Rows L2
def d20 : He.DefD := ⟨("is_from", none), "is_from", "is_from", defArgs s20, defBody s20, defScope s20, [], []⟩
def d21 : He.DefD := ⟨("is_rule_of", none), "is_rule_of", "is_rule_of", defArgs s21, defBody s21, defScope s21, [], []⟩
def d22 : He.DefD := ⟨("is_row_of", none), "is_row_of", "is_row_of", defArgs s22, defBody s22, defScope s22, [], []⟩
def d23 : He.DefD := ⟨("need_rule", none), "need_rule", "need_rule", defArgs s23, defBody s23, defScope s23, [], []⟩
def d24 : He.DefD := ⟨("need_row", none), "need_row", "need_row", defArgs s24, defBody s24, defScope s24, [], []⟩
def d25 : He.DefD := ⟨("need_number", none), "need_number", "need_number", defArgs s25, defBody s25, defScope s25, [], []⟩
def d28 : He.DefD := ⟨("pages_of", none), "pages_of", "pages_of", defArgs s28, defBody s28, defScope s28, [], []⟩
def d29 : He.DefD := ⟨("turned", none), "turned", "turned", defArgs s29, defBody s29, defScope s29, [], []⟩
def d30 : He.DefD := ⟨("within", none), "within", "within", defArgs s30, defBody s30, defScope s30, [], []⟩
def d31 : He.DefD := ⟨("moved", none), "moved", "moved", defArgs s31, defBody s31, defScope s31, [], []⟩
def d32 : He.DefD := ⟨("walked", none), "walked", "walked", defArgs s32, defBody s32, defScope s32, [], []⟩
def d33 : He.DefD := ⟨("behind", none), "behind", "behind", defArgs s33, defBody s33, defScope s33, [], []⟩
def d34 : He.DefD := ⟨("sizes", none), "sizes", "sizes", defArgs s34, defBody s34, defScope s34, [], []⟩
def d36 : He.DefD := ⟨("states_of", none), "states_of", "states_of", defArgs s36, defBody s36, defScope s36, [], []⟩
def d38 : He.DefD := ⟨("lines_of", none), "lines_of", "lines_of", defArgs s38, defBody s38, defScope s38, [], []⟩
def d39 : He.DefD := ⟨("sure_lines", none), "sure_lines", "sure_lines", defArgs s39, defBody s39, defScope s39, [], []⟩
def d40 : He.DefD := ⟨("sure_of", none), "sure_of", "sure_of", defArgs s40, defBody s40, defScope s40, [], []⟩
def d42 : He.DefD := ⟨("with_part", none), "with_part", "with_part", defArgs s42, defBody s42, defScope s42, [], []⟩
def d43 : He.DefD := ⟨("least_keep", none), "least_keep", "least_keep", defArgs s43, defBody s43, defScope s43, [], []⟩
def d44 : He.DefD := ⟨("least_pages", none), "least_pages", "least_pages", defArgs s44, defBody s44, defScope s44, [], []⟩
def d46 : He.DefD := ⟨("_law_deck", none), "_law_deck", "_law_deck", defArgs s46, defBody s46, defScope s46, [], []⟩
def d47 : He.DefD := ⟨("_law_pick", none), "_law_pick", "_law_pick", defArgs s47, defBody s47, defScope s47, [], []⟩
def d48 : He.DefD := ⟨("_law_name_of", none), "_law_name_of", "_law_name_of", defArgs s48, defBody s48, defScope s48, [], []⟩
def d49 : He.DefD := ⟨("_law_try", none), "_law_try", "_law_try", defArgs s49, defBody s49, defScope s49, [], []⟩
def d50 : He.DefD := ⟨("_law_weight", none), "_law_weight", "_law_weight", defArgs s50, defBody s50, defScope s50, [], []⟩
def d51 : He.DefD := ⟨("_law_step", none), "_law_step", "_law_step", defArgs s51, defBody s51, defScope s51, [], []⟩
def d53 : He.DefD := ⟨("_law_rule", none), "_law_rule", "_law_rule", defArgs s53, defBody s53, defScope s53, [], []⟩
def d54 : He.DefD := ⟨("_law_song", none), "_law_song", "_law_song", defArgs s54, defBody s54, defScope s54, [], []⟩
def d55 : He.DefD := ⟨("_law_sure", none), "_law_sure", "_law_sure", defArgs s55, defBody s55, defScope s55, [], []⟩
def d56 : He.DefD := ⟨("law", none), "law", "law", defArgs s56, defBody s56, defScope s56, [], []⟩
def fn : List He.DefD := [d20, d21, d22, d23, d24, d25, d28, d29, d30, d31, d32, d33, d34, d36, d38, d39, d40, d42, d43, d44, d46, d47, d48, d49, d50, d51, d53, d54, d55, d56]
def fa : List He.Fa := [.glo "is_from", .glo "is_rule_of", .glo "is_row_of", .glo "need_rule", .glo "need_row", .glo "need_number", .glo "pages_of", .glo "turned", .glo "within", .glo "moved", .glo "walked", .glo "behind", .glo "sizes", .glo "states_of", .glo "lines_of", .glo "sure_lines", .glo "sure_of", .glo "with_part", .glo "least_keep", .glo "least_pages", .glo "_law_deck", .glo "_law_pick", .glo "_law_name_of", .glo "_law_try", .glo "_law_weight", .glo "_law_step", .glo "_law_rule", .glo "_law_song", .glo "_law_sure", .glo "law", .free "ValueError", .free "all", .free "bool", .free "int", .free "isinstance", .free "len", .free "list", .free "max", .free "min", .free "range", .free "str", .free "sum", .free "tuple", .free "zip", .int "MOST_SIZE" 3, .int "MOST_KEEP" 3, .int "MOST_PAGES" 12, .int "MOST_FACTOR" 3, .int "MOST_EVENTS" 60, .str "EVENTS" "-ab", .glo "FIRST", .glo "LogError", .glo "InvalidNumber", .exc "InvalidNumber", .glo "InvalidRow", .exc "InvalidRow", .glo "InvalidRule", .exc "InvalidRule"] ++ (Cor.nmL.map (·.1)).map He.Fa.glo
def tf : List He.Defn := Cor.LamDefs.names.map fun n => (n, none)
def loose0 : List PySem.Str := ["LogError", "InvalidRule", "InvalidRow", "InvalidSizes", "InvalidNumber", "InvalidPart", "InvalidTotals", "InvalidSeen", "InvalidEvent", "NothingToUndo", "TooMany", "InvalidText", "MOST_SIZE", "MOST_KEEP", "MOST_PAGES", "MOST_FACTOR", "MOST_EVENTS", "EVENTS", "is_from", "is_rule_of", "is_row_of", "need_rule", "need_row", "need_number", "FIRST", "pages_of", "turned", "within", "moved", "walked"]
def loose1 : List PySem.Str := ["behind", "sizes", "states_of", "lines_of", "sure_lines", "sure_of", "with_part", "least_keep", "least_pages", "_law_deck", "_law_pick", "_law_name_of", "_law_try", "_law_weight", "_law_step", "_law_went", "_law_rule", "_law_song", "_law_sure"]
def loose : List PySem.Str := loose0 ++ loose1
abbrev R : PySem.W.OpenRow := PySem.W.OpenLaw.row PySem.Challenge.rw_turnedlogs_k12_whole_lines_that_are_alwa
def ex (K : PySem.W.Frag) : Bool := Cor.uqB K && Cor.xnB K && He.tupB K "FIRST" [.int 0]
abbrev hk : PySem.W.Hook := He.hookX 2 fa fn [] tf ex
def ob (s : PySem.W.SharedT) : He.AlX := He.obsX 2 fa fn [] tf ex (HandSHeadRun.getT s)
theorem ob_eq (s : PySem.W.SharedT) : ob s = hk.obs s.abs := He.obsX_eq (HandSHeadRun.getT_eq s)
theorem run (w : World) : HandSHeadRun.RunEq R (PySem.W.view R.prog [56]) hk ob 8000 loose w := by
  intro os
  kernel_rfl
end HD
set_option Elab.async false
set_option linter.all false
set_option maxRecDepth 100000
set_option maxHeartbeats 16000000
namespace HD
open PySem PySem.Spec L2 Cor
abbrev dk (a b c : Int) : Cor.D := .lst [.int a, .int b, .int c]
structure DkOk (a b c : Int) (n : Nat) : Prop where
  a0 : 0 ≤ a
  b0 : 0 ≤ b
  b1 : b < 2147483579
  c0 : 0 ≤ c
  c1 : c ≤ n
theorem pick_ok {a b c l : Int} {n : Nat} (h : DkOk a b c n) (l1 : 1 ≤ l) (l2 : l < 1073741824) (hn : n ≤ 100000) : ∃ r a' c', f__law_pick [dk a b c, .int l] = .ret (.int r) false (some (dk a' b c')) ∧ 0 ≤ r ∧ r < l ∧ DkOk a' b c' (n + 1) := by
  obtain ⟨h1, h2, h3, h4, h5⟩ := h
  have l0 : 0 < l := by omega
  unfold f__law_pick
  rw [x_sem1]
  unfold m__law_pick
  by_cases ha : 1 < a
  · refine ⟨a % l, a / l, c, ?_, Int.emod_nonneg _ (by omega), Int.emod_lt_of_pos _ l0, Int.ediv_nonneg h1 (by omega), h2, h3, h4, by omega⟩
    simp [startE, ha, l0, l2]
  · have p1 : (b + 15485867 * (c + 1)).natAbs < 18446744073709551616 := by omega
    have p2 : ∀ x : Int, (x % 2147483647 + 7919 * (c + 1)).natAbs < 18446744073709551616 := fun x => by omega
    refine ⟨(((((b + 15485867 * (c + 1)) ^ 5) % 2147483647 + 7919 * (c + 1)) ^ 3) % 2147483629 / 32) % l, a, c + 1, ?_, Int.emod_nonneg _ (by omega), Int.emod_lt_of_pos _ l0, h1, h2, h3, by omega, by omega⟩
    simp [startE, ha, l0, p1, p2]
theorem deck_ok (n t : Int) (ht : 0 ≤ t) (m : Nat) (hm : t ≤ m) : ∃ a b, f__law_deck [.int n, .int t] = .ret (dk a b t) true none ∧ DkOk a b t m := by
  unfold f__law_deck
  rw [x_sem0]
  unfold m__law_deck
  by_cases ha : 1000000000000000000 ≤ n
  · refine ⟨n - 1000000000000000000, n % 2147483579, ?_, by omega, by omega, by omega, ht, hm⟩
    simp [startE, ha]
  · refine ⟨0, n % 2147483579, ?_, by omega, by omega, by omega, ht, hm⟩
    simp [startE, ha]
end HD
namespace HD
open PySem PySem.Spec L2 Cor
def pg : Option Int → Cor.D
  | none => .non
  | some p => .int p
@[simp] theorem pg_none : pg none = .non := rfl
@[simp] theorem pg_some {p : Int} : pg (some p) = .int p := rfl
structure Rul where
  s : Int
  e : Bool
  d : Bool
  m : Bool
  k : Int
  p : Option Int
  f : Int
structure RulOk (r : Rul) : Prop where
  s1 : 1 ≤ r.s
  s3 : r.s ≤ 3
  k0 : 0 ≤ r.k
  k3 : r.k ≤ 3
  p1 : ∀ p, r.p = some p → 1 ≤ p ∧ p ≤ 12
  f1 : 1 ≤ r.f
  f3 : r.f ≤ 3
abbrev Rul.d' (r : Rul) : Cor.D := .tup [.int r.s, .bl r.e, .bl r.d, .bl r.m, .int r.k, pg r.p, .int r.f]
theorem rng3 : rngD 0 3 = some [.int 0, .int 1, .int 2] := (rngD_nat (n := 3) (by decide)).trans rfl
theorem rule_ok {a b c : Int} {n : Nat} (h : DkOk a b c n) (hn : n ≤ 90000) : ∃ r a' c', f__law_rule [dk a b c] = .ret (Rul.d' r) false (some (dk a' b c')) ∧ RulOk r ∧ DkOk a' b c' (n + 8) := by
  obtain ⟨r1, a1, c1, e1, g1, k1, h1⟩ := pick_ok h (l := 3) (by decide) (by decide) (by omega)
  by_cases hr : 0 < r1
  · obtain ⟨r2, a2, c2, e2, g2, k2, h2⟩ := pick_ok h1 (l := 2) (by decide) (by decide) (by omega)
    obtain ⟨r3, a3, c3, e3, g3, k3, h3⟩ := pick_ok h2 (l := 2) (by decide) (by decide) (by omega)
    obtain ⟨r4, a4, c4, e4, g4, k4, h4⟩ := pick_ok h3 (l := 2) (by decide) (by decide) (by omega)
    obtain ⟨r5, a5, c5, e5, g5, k5, h5⟩ := pick_ok h4 (l := 3) (by decide) (by decide) (by omega)
    obtain ⟨r6, a6, c6, e6, g6, k6, h6⟩ := pick_ok h5 (l := 4) (by decide) (by decide) (by omega)
    obtain ⟨r7, a7, c7, e7, g7, k7, h7⟩ := pick_ok h6 (l := 3) (by decide) (by decide) (by omega)
    refine ⟨⟨1 + r5, r2 == 1, r3 == 1, r4 == 1, r6, none, 1 + r7⟩, a7, c7, ?_, ⟨by dsimp only; omega, by dsimp only; omega, g6, by dsimp only; omega, (fun _ h => by cases h), by dsimp only; omega, by dsimp only; omega⟩, ⟨h7.a0, h7.b0, h7.b1, h7.c0, by have := h7.c1; omega⟩⟩
    unfold f__law_rule
    rw [x_sem1]
    unfold m__law_rule
    simp [startE, e1, e2, e3, e4, e5, e6, e7, hr, rng3]
  · obtain ⟨r0, a0, c0, e0, g0, k0, h0⟩ := pick_ok h1 (l := 12) (by decide) (by decide) (by omega)
    obtain ⟨r2, a2, c2, e2, g2, k2, h2⟩ := pick_ok h0 (l := 2) (by decide) (by decide) (by omega)
    obtain ⟨r3, a3, c3, e3, g3, k3, h3⟩ := pick_ok h2 (l := 2) (by decide) (by decide) (by omega)
    obtain ⟨r4, a4, c4, e4, g4, k4, h4⟩ := pick_ok h3 (l := 2) (by decide) (by decide) (by omega)
    obtain ⟨r5, a5, c5, e5, g5, k5, h5⟩ := pick_ok h4 (l := 3) (by decide) (by decide) (by omega)
    obtain ⟨r6, a6, c6, e6, g6, k6, h6⟩ := pick_ok h5 (l := 4) (by decide) (by decide) (by omega)
    obtain ⟨r7, a7, c7, e7, g7, k7, h7⟩ := pick_ok h6 (l := 3) (by decide) (by decide) (by omega)
    refine ⟨⟨1 + r5, r2 == 1, r3 == 1, r4 == 1, r6, some (1 + r0), 1 + r7⟩, a7, c7, ?_, ⟨by dsimp only; omega, by dsimp only; omega, g6, by dsimp only; omega, (fun p h => by cases h; omega), by dsimp only; omega, by dsimp only; omega⟩, ⟨h7.a0, h7.b0, h7.b1, h7.c0, by have := h7.c1; omega⟩⟩
    unfold f__law_rule
    rw [x_sem1]
    unfold m__law_rule
    simp [startE, e1, e2, e3, e4, e5, e6, e7, e0, hr, rng3]
end HD
namespace HD
open PySem PySem.Spec L2 Cor
def isFrom (v : Cor.D) (lo hi : Int) : Bool := match v with
  | .int i => decide (lo ≤ i) && decide (i ≤ hi)
  | _ => false
def isRule (v : Cor.D) : Bool := match v with
  | .tup [a, b, c, d, e, p, f] => b.isB && c.isB && d.isB && isFrom a 1 3 && isFrom e 0 3 && (isNon p || isFrom p 1 12) && isFrom f 1 3
  | _ => false
theorem isRule_len {xs : List Cor.D} (h : xs.length ≠ 7) : isRule (.tup xs) = false := by
  unfold isRule
  split
  · rename_i q
    cases q
    exact absurd rfl h
  · rfl
theorem is_from_ok {v : Cor.D} {lo hi : Int} (hv : v.plain = true) : f_is_from [v, .int lo, .int hi] = .ret (.bl (isFrom v lo hi)) false none := by
  unfold f_is_from
  rw [x_sem0]
  unfold m_is_from
  cases v with
  | int i =>
    by_cases h1 : lo ≤ i
    · simp [startE, isFrom, h1]
    · simp [startE, isFrom, h1]
  | dct _ _ _ => cases hv
  | fn _ => cases hv
  | _ => simp [startE, isFrom]
def PlT (v : Cor.D) : Prop := v.plain = true ∧ ∀ xs, v = .tup xs → ∀ x ∈ xs, x.plain = true
theorem is_rule_of_ok {v : Cor.D} (hv : PlT v) : f_is_rule_of [v] = .ret (.bl (isRule v)) false none := by
  obtain ⟨hp, hx⟩ := hv
  unfold f_is_rule_of
  rw [x_sem0]
  unfold m_is_rule_of
  cases v with
  | dct _ _ _ => cases hp
  | fn _ => cases hp
  | tup xs =>
    by_cases hl : xs.length = 7
    · obtain ⟨a, b, c, d, e, p, f, rfl⟩ : ∃ a b c d e p f, xs = [a, b, c, d, e, p, f] := by
        match xs, hl with
        | [a, b, c, d, e, p, f], _ => exact ⟨a, b, c, d, e, p, f, rfl⟩
      have hx := hx _ rfl
      simp only [List.mem_cons, List.not_mem_nil, or_false, forall_eq_or_imp, forall_eq] at hx
      obtain ⟨pa, pb, pc, pd, pe, pp, pf⟩ := hx
      have fa := is_from_ok (lo := 1) (hi := 3) pa
      have fe := is_from_ok (lo := 0) (hi := 3) pe
      have fp := is_from_ok (lo := 1) (hi := 12) pp
      have ff := is_from_ok (lo := 1) (hi := 3) pf
      have hc : cutD [a, b, c, d, e, p, f] (some 1) (some 4) = [b, c, d] := by rw [cut_pp (by decide) (by decide)]; rfl
      simp [startE, hc, b1_isB pb, b1_isB pc, b1_isB pd, fa, fe, fp, ff, isRule]
      cases h1 : b.isB <;> cases h2 : c.isB <;> cases h3 : d.isB <;> simp [fa, fe, fp, ff]
      cases h4 : isFrom a 1 3 <;> simp [fe, fp, ff]
      cases h5 : isFrom e 0 3 <;> simp [fp, ff]
      cases h6 : isNon p <;> simp [fp, ff]
      cases h7 : isFrom p 1 12 <;> simp [ff]
    · have h2 : ¬ ((xs.length : Int) = 7) := by omega
      rw [isRule_len hl]
      simp [startE, h2]
  | _ => simp [startE, isRule]
end HD
namespace Cor
/-- a comprehension that maps: the state stands still -/
theorem compL_map {α : Type} {vs : List Nat} {base : Env} {t : TG} {mc me : Env → RE} {e : Env} (i j : α → D) : ∀ {ys : List α} {acc : List D}, (∀ y ∈ ys, ∃ e1 fc e2 fd e3, asg t (i y) e = some e1 ∧ mc e1 = .ok (.bl true) fc e2 ∧ me e2 = .ok (j y) fd e3 ∧ wipeE e3 vs = some e) → acc.length + ys.length ≤ 1000000 →
    compL vs base t mc me (ys.map i) e acc = .ok (acc ++ ys.map j) e
  | [], acc, _, _ => by simp
  | y :: ys, acc, h, hl => by
    obtain ⟨e1, fc, e2, fd, e3, h1, h2, h3, h4⟩ := h y (List.mem_cons_self ..)
    have ih := compL_map (vs := vs) (base := base) (t := t) (mc := mc) (me := me) (e := e) i j (ys := ys) (acc := acc ++ [j y]) (fun z hz => h z (List.mem_cons_of_mem _ hz)) (by simp only [List.length_append, List.length_cons, List.length_nil] at *; omega)
    have hac : acc.length < 1000000 := by simp only [List.length_cons] at hl; omega
    simp [h1, h2, h3, h4, hac, ih]
end Cor
namespace HD
open PySem PySem.Spec L2 Cor
abbrev tI (xs : List Int) : Cor.D := .tup (xs.map Cor.D.int)
def wt (f : Int) (xs : List Int) : Int := (xs.take 2).sum + ((xs.drop 2).map fun x => (x + f - 1) / f).sum
theorem pages_of_ok {r : Rul} (h : RulOk r) {xs : List Int} (hL : xs.length ≤ 1000) : f_pages_of [r.d', tI xs] = .ret (.int (wt r.f xs)) false none := by
  unfold f_pages_of
  rw [x_sem0]
  unfold m_pages_of
  have f0 : 0 < r.f := by have := h.f1; omega
  have f1 : r.f < 1073741824 := by have := h.f3; omega
  have key := compL_map (vs := [3]) (base := [.val r.d', .val (tI xs), .no, .no]) (t := .nm 3) (mc := eYes) (me := eBin .FloorDiv (eBin .Sub (eBin .Add (eVar 3) (eSub (eVar 0) (eLit (.int 6)))) (eLit (.int 1))) (eSub (eVar 0) (eLit (.int 6))))
    (e := [.val r.d', .val (tI xs), .no, .no]) Cor.D.int (fun x => .int ((x + r.f - 1) / r.f)) (ys := xs.drop 2) (acc := []) (fun y _ => ⟨[.val r.d', .val (tI xs), .no, .val (.int y)], false, [.val r.d', .val (tI xs), .no, .val (.int y)], false, [.val r.d', .val (tI xs), .no, .val (.int y)], by simp, rfl, by simp [f0, f1], by simp⟩) (by simp; omega)
  have e1 : (xs.map Cor.D.int).drop 2 = (xs.drop 2).map Cor.D.int := (List.map_drop ..).symm
  have e2 : (xs.map Cor.D.int).take 2 = (xs.take 2).map Cor.D.int := (List.map_take ..).symm
  have e3 : (xs.drop 2).map (fun x => Cor.D.int ((x + r.f - 1) / r.f)) = ((xs.drop 2).map fun x => (x + r.f - 1) / r.f).map Cor.D.int := by rw [List.map_map]; rfl
  simp [startE, e1, e2, key, e3, intsOf_map, wt, -List.map_map, -List.map_drop, -List.map_take]
def trn (r : Rul) (xs : List Int) : List Int := 0 :: xs.take r.k.toNat
theorem turned_ok {r : Rul} (h : RulOk r) {xs : List Int} (hL : xs.length ≤ 1000) : f_turned [r.d', tI xs] = .ret (tI (trn r xs)) false none := by
  unfold f_turned
  rw [x_sem0]
  unfold m_turned
  have k0 := h.k0
  have hl : 1 + xs.length ≤ 1000000 := by omega
  have hl' : xs.length + 1 ≤ 1000000 := by omega
  have hk : 0 ≤ r.k + 1 := by omega
  have hk2 : (r.k + 1).toNat = r.k.toNat + 1 := by omega
  simp [startE, hl, hl', cut_np hk, hk2, trn]
def over (r : Rul) (xs : List Int) : Bool := match r.p with
  | some p => decide (1 < xs.length) && decide (p < wt r.f xs)
  | none => false
def wiN (r : Rul) : Nat → List Int → List Int
  | 0, xs => xs
  | n + 1, xs => if over r xs = true then wiN r n xs.dropLast else xs
def wi (r : Rul) (xs : List Int) : List Int := wiN r xs.length xs
theorem cut_last {α : Type} {xs : List α} (h : 1 < xs.length) : cutD xs none (some (-1)) = xs.dropLast := by
  unfold cutD
  have e1 : HT.sIx xs.length 0 none = 0 := rfl
  have e2 : HT.sIx xs.length xs.length (some (-1)) = xs.length - 1 := by
    unfold HT.sIx
    simp only
    rw [if_pos (by decide)]
    omega
  rw [e1, e2, List.drop_zero, Nat.sub_zero, List.dropLast_eq_take]
theorem within_whl {r : Rul} (h : RulOk r) : ∀ (n : Nat) (xs : List Int), xs.length ≤ n → xs.length ≤ 1000 → sWhl (eAnd (eCmp .IsNot (eSub (eVar 0) (eLit (.int 5))) (eLit .non)) (eAnd (eCmp .Gt (eB1 .len (eVar 1)) (eLit (.int 1))) (eCmp .Gt (eCall f_pages_of (aCons (eVar 0) (aCons (eVar 1) aNil))) (eSub (eVar 0) (eLit (.int 5)))))) (bCons (sSet 1 (eSlc (eVar 1) oNone (oSome (eNeg (eLit (.int 1)))))) bNil) [.val r.d', .val (tI xs)] = .nx [.val r.d', .val (tI (wiN r n xs))] := by
  intro n
  induction n with
  | zero =>
    intro xs h1 h2
    rw [sWhl_step]
    have : xs = [] := List.length_eq_zero_iff.mp (by omega)
    subst this
    cases hp : r.p with
    | none => simp [hp, wiN]
    | some p => simp [hp, wiN]
  | succ n ih =>
    intro xs h1 h2
    rw [sWhl_step]
    cases hp : r.p with
    | none => simp [hp, wiN, over]
    | some p =>
      have po := pages_of_ok h h2
      by_cases g1 : 1 < xs.length
      · by_cases g2 : p < wt r.f xs
        · have ih' := ih xs.dropLast (by rw [List.length_dropLast]; omega) (by rw [List.length_dropLast]; omega)
          have cl : cutD (xs.map Cor.D.int) none (some (-1)) = xs.dropLast.map Cor.D.int := by rw [cut_last (by simpa using g1), List.map_dropLast]
          have g1' : (1 : Int) < (xs.length : Int) := by omega
          simp [hp, wiN, over, g1, g2, g1', po, cl, -List.map_dropLast]
          exact ih'
        · have g1' : (1 : Int) < (xs.length : Int) := by omega
          simp [hp, wiN, over, g1, g2, g1', po]
      · have g1' : ¬ (1 : Int) < (xs.length : Int) := by omega
        simp [hp, wiN, over, g1, g1']
theorem within_ok {r : Rul} (h : RulOk r) {xs : List Int} (hL : xs.length ≤ 1000) : f_within [r.d', tI xs] = .ret (tI (wi r xs)) false none := by
  unfold f_within
  rw [x_sem0]
  unfold m_within
  have key := within_whl h xs.length xs (Nat.le_refl _) hL
  rw [x_bCons]
  show fin0 (bK (sWhl _ _ [.val r.d', .val (tI xs)]) _) = _
  rw [key]
  simp [wi]
end HD
namespace HD
open PySem PySem.Spec L2 Cor
theorem wiN_len {r : Rul} : ∀ (n : Nat) (xs : List Int), (wiN r n xs).length ≤ xs.length
  | 0, xs => Nat.le_refl _
  | n + 1, xs => by
    unfold wiN
    split
    · exact Nat.le_trans (wiN_len n _) (by rw [List.length_dropLast]; omega)
    · exact Nat.le_refl _
theorem wi_len {r : Rul} {xs : List Int} : (wi r xs).length ≤ xs.length := wiN_len _ _
theorem over_len {r : Rul} {xs : List Int} (h : over r xs = true) : 1 < xs.length := by
  unfold over at h
  split at h
  · simp at h; exact h.1
  · cases h
theorem wiN_ne {r : Rul} : ∀ (n : Nat) (xs : List Int), xs ≠ [] → wiN r n xs ≠ []
  | 0, xs, h => h
  | n + 1, xs, h => by
    unfold wiN
    split
    · rename_i q
      have := over_len q
      exact wiN_ne n _ (fun z => by
        have := congrArg List.length z
        rw [List.length_dropLast, List.length_nil] at this
        omega)
    · exact h
theorem wi_ne {r : Rul} {xs : List Int} (h : xs ≠ []) : wi r xs ≠ [] := wiN_ne _ _ h
/-- how many lines an event writes -/
def mor (c : Nat) : Int := if c = 97 then 1 else 2
def hd (xs : List Int) : Int := xs.headD 0
@[simp] theorem hd_cons {x : Int} {xs : List Int} : hd (x :: xs) = x := rfl
def mv0 (r : Rul) (xs : List Int) : List Int := if (r.d && (r.m || decide (0 < hd xs))) = true then trn r xs else xs
def mv1 (r : Rul) (l : Int) (xs : List Int) : List Int := if (r.e && (decide (0 < hd xs) && decide (r.s < hd xs + l))) = true then trn r xs else xs
def mv2 (l : Int) (xs : List Int) : List Int := (hd xs + l) :: xs.tail
def mv3 (r : Rul) (xs : List Int) : List Int := if (!r.e && decide (r.s ≤ hd xs)) = true then trn r xs else xs
def mv (r : Rul) (xs : List Int) (c : Nat) : List Int := wi r (if c = 45 then mv0 r xs else mv3 r (mv2 (mor c) (mv1 r (mor c) xs)))
theorem trn_len {r : Rul} {xs : List Int} : (trn r xs).length ≤ xs.length + 1 := by
  unfold trn
  simp only [List.length_cons, List.length_take]
  omega
theorem moved_ok {r : Rul} (h : RulOk r) {x : Int} {t : List Int} {c : Nat} (hL : (x :: t).length ≤ 100) (hc : c = 45 ∨ c = 97 ∨ c = 98) : f_moved [r.d', tI (x :: t), .str [c]] = .ret (tI (mv r (x :: t) c)) false none := by
  have W := fun (xs : List Int) (hx : xs.length ≤ 1000) => within_ok h hx
  have T := fun (xs : List Int) (hx : xs.length ≤ 1000) => turned_ok h hx
  simp only [List.length_cons] at hL
  have t0 := T (x :: t) (by simp only [List.length_cons]; omega)
  have w0 := W (x :: t) (by simp only [List.length_cons]; omega)
  have w1 := W (trn r (x :: t)) (Nat.le_trans trn_len (by simp only [List.length_cons]; omega))
  have cut4 : ∀ a b c d e f g : Cor.D, cutD [a, b, c, d, e, f, g] none (some 4) = [a, b, c, d] := fun a b c d e f g => by rw [cut_np (by decide)]; rfl
  unfold f_moved
  rw [x_sem0]
  unfold m_moved
  rcases hc with rfl | rfl | rfl
  · cases hd' : r.d <;> cases hm : r.m <;> by_cases hx : 0 < x <;> simp [startE, cut4, hd', hm, hx, w0, w1, t0, mv, mv0] <;> simp_all
  · have w2 : f_within [r.d', .tup (.int 1 :: ((x :: t).take r.k.toNat).map Cor.D.int)] = .ret (tI (wi r (1 :: (x :: t).take r.k.toNat))) false none := W (1 :: (x :: t).take r.k.toNat) (by simp only [List.length_cons, List.length_take]; omega)
    have w3 : f_within [r.d', .tup (.int (x + 1) :: t.map Cor.D.int)] = .ret (tI (wi r ((x + 1) :: t))) false none := W ((x + 1) :: t) (by simp only [List.length_cons]; omega)
    have w4 := W (trn r ((x + 1) :: t)) (Nat.le_trans trn_len (by simp only [List.length_cons]; omega))
    have t1 : f_turned [r.d', .tup (.int (x + 1) :: t.map Cor.D.int)] = .ret (tI (trn r ((x + 1) :: t))) false none := T ((x + 1) :: t) (by simp only [List.length_cons]; omega)
    have n1 : 1 + t.length ≤ 1000000 := by omega
    have n2 : 1 + min r.k.toNat (t.length + 1) ≤ 1000000 := by omega
    have n3 : 1 + (min r.k.toNat (t.length + 1)) ≤ 1000000 := by omega
    cases he : r.e
    · by_cases h2 : r.s ≤ x + 1
      · simp [startE, cut4, he, h2, n1, t1, w4, mv, mv1, mv2, mv3, mor]
      · simp [startE, cut4, he, h2, n1, w3, mv, mv1, mv2, mv3, mor]
    · by_cases h1 : 0 < x
      · by_cases h2 : r.s < x + 1
        · have t0' : f_turned [r.d', tI (x :: t)] = .ret (.tup (.int 0 :: ((x :: t).take r.k.toNat).map Cor.D.int)) false none := t0
          simp [startE, cut4, he, h1, h2, n1, n2, t0', w2, mv, mv1, mv2, mv3, mor, trn, -List.map_take]
        · simp [startE, cut4, he, h1, h2, n1, w3, mv, mv1, mv2, mv3, mor]
      · simp [startE, cut4, he, h1, n1, w3, mv, mv1, mv2, mv3, mor]
  · have w2 : f_within [r.d', .tup (.int 2 :: ((x :: t).take r.k.toNat).map Cor.D.int)] = .ret (tI (wi r (2 :: (x :: t).take r.k.toNat))) false none := W (2 :: (x :: t).take r.k.toNat) (by simp only [List.length_cons, List.length_take]; omega)
    have w3 : f_within [r.d', .tup (.int (x + 2) :: t.map Cor.D.int)] = .ret (tI (wi r ((x + 2) :: t))) false none := W ((x + 2) :: t) (by simp only [List.length_cons]; omega)
    have w4 := W (trn r ((x + 2) :: t)) (Nat.le_trans trn_len (by simp only [List.length_cons]; omega))
    have t1 : f_turned [r.d', .tup (.int (x + 2) :: t.map Cor.D.int)] = .ret (tI (trn r ((x + 2) :: t))) false none := T ((x + 2) :: t) (by simp only [List.length_cons]; omega)
    have n1 : 1 + t.length ≤ 1000000 := by omega
    have n2 : 1 + min r.k.toNat (t.length + 1) ≤ 1000000 := by omega
    have n3 : 1 + (min r.k.toNat (t.length + 1)) ≤ 1000000 := by omega
    cases he : r.e
    · by_cases h2 : r.s ≤ x + 2
      · simp [startE, cut4, he, h2, n1, t1, w4, mv, mv1, mv2, mv3, mor]
      · simp [startE, cut4, he, h2, n1, w3, mv, mv1, mv2, mv3, mor]
    · by_cases h1 : 0 < x
      · by_cases h2 : r.s < x + 2
        · have t0' : f_turned [r.d', tI (x :: t)] = .ret (.tup (.int 0 :: ((x :: t).take r.k.toNat).map Cor.D.int)) false none := t0
          simp [startE, cut4, he, h1, h2, n1, n2, t0', w2, mv, mv1, mv2, mv3, mor, trn, -List.map_take]
        · simp [startE, cut4, he, h1, h2, n1, w3, mv, mv1, mv2, mv3, mor]
      · simp [startE, cut4, he, h1, n1, w3, mv, mv1, mv2, mv3, mor]
theorem mv2_len {l : Int} {xs : List Int} (h : xs ≠ []) : (mv2 l xs).length = xs.length := by
  have := List.length_pos_iff.mpr h
  unfold mv2
  simp only [List.length_cons, List.length_tail]
  omega
theorem trn_k {r : Rul} {xs : List Int} : (trn r xs).length ≤ r.k.toNat + 1 := by
  unfold trn
  simp only [List.length_cons, List.length_take]
  omega
theorem mv_k {r : Rul} {xs : List Int} {c : Nat} (hx : xs ≠ []) (hl : xs.length ≤ r.k.toNat + 1) : (mv r xs c).length ≤ r.k.toNat + 1 := by
  unfold mv
  refine Nat.le_trans wi_len ?_
  split
  · unfold mv0
    split
    · exact trn_k
    · exact hl
  · have h1 : (mv1 r (mor c) xs).length ≤ r.k.toNat + 1 ∧ mv1 r (mor c) xs ≠ [] := by
      unfold mv1
      split
      · exact ⟨trn_k, by unfold trn; simp⟩
      · exact ⟨hl, hx⟩
    unfold mv3
    split
    · exact trn_k
    · rw [mv2_len h1.2]; exact h1.1
/-- the lines an event brings -/
def mo (c : Nat) : Int := if c = 45 then 0 else mor c
theorem mo_bd {c : Nat} : 0 ≤ mo c ∧ mo c ≤ 2 := by unfold mo mor; split <;> (try split) <;> omega
end HD
namespace Cor
@[simp] theorem cmpD_in1 {c : Nat} {b : List Nat} : cmpD .In (.str [c]) (.str b) = some (decide (c ∈ b)) := rfl
end Cor
namespace HD
open PySem PySem.Spec L2 Cor
def Ev (c : Nat) : Prop := c = 45 ∨ c = 97 ∨ c = 98
structure RowOk (row : List Nat) : Prop where
  ev : ∀ c ∈ row, Ev c
  len : row.length ≤ 60
theorem isRule_rul {r : Rul} (h : RulOk r) : isRule r.d' = true := by
  obtain ⟨h1, h2, h3, h4, h5, h6, h7⟩ := h
  obtain ⟨s, e, d, m, k, p, f⟩ := r
  dsimp only at *
  cases p with
  | none => simp [isRule, isFrom, h1, h2, h3, h4, h6, h7]
  | some p =>
    obtain ⟨p1, p2⟩ := h5 p rfl
    simp [isRule, isFrom, h1, h2, h3, h4, h6, h7, p1, p2]
theorem pg_plain (p : Option Int) : (pg p).plain = true := by cases p <;> rfl
theorem plT_rul {r : Rul} : PlT r.d' := ⟨rfl, fun _ e => by cases e; simp [pg_plain]⟩
theorem mv0_len {r : Rul} {xs : List Int} : (mv0 r xs).length ≤ xs.length + 1 := by
  unfold mv0
  split
  · exact trn_len
  · omega
theorem mv_len {r : Rul} {xs : List Int} {c : Nat} (h : xs ≠ []) : (mv r xs c).length ≤ xs.length + 1 := by
  unfold mv
  refine Nat.le_trans wi_len ?_
  split
  · exact mv0_len
  · have hx : 0 < xs.length := List.length_pos_iff.mpr h
    have hT : ∀ ys : List Int, ys ≠ [] → (mv2 (mor c) ys).length = ys.length := fun ys hy => by
      have := List.length_pos_iff.mpr hy
      unfold mv2
      simp only [List.length_cons, List.length_tail]
      omega
    by_cases he : r.e = true
    · have e3 : ∀ ys, mv3 r ys = ys := fun ys => by unfold mv3; simp [he]
      rw [e3]
      unfold mv1
      split
      · rw [hT _ (by unfold trn; simp)]; exact trn_len
      · rw [hT _ h]; omega
    · have he : r.e = false := by simpa using he
      have e1 : mv1 r (mor c) xs = xs := by unfold mv1; simp [he]
      rw [e1]
      unfold mv3
      split
      · refine Nat.le_trans trn_len ?_
        rw [hT _ h]; omega
      · rw [hT _ h]; omega
theorem mv_ne {r : Rul} {xs : List Int} {c : Nat} (h : xs ≠ []) : mv r xs c ≠ [] := by
  unfold mv
  refine wi_ne ?_
  split
  · unfold mv0 trn; split <;> simp_all
  · unfold mv3 mv2 trn; split <;> simp
def wk (r : Rul) : List Int → List Nat → List (List Int)
  | _, [] => []
  | xs, c :: cs => mv r xs c :: wk r (mv r xs c) cs
theorem wk_len {r : Rul} : ∀ {xs : List Int} {row : List Nat}, (wk r xs row).length = row.length
  | _, [] => rfl
  | xs, c :: cs => by simp [wk, wk_len]
def gone (r : Rul) (xs : List Int) (row : List Nat) : List Int := row.foldl (mv r) xs
theorem wk_last {r : Rul} : ∀ (xs : List Int) (row : List Nat), (tI xs :: (wk r xs row).map tI).getLast? = some (tI (gone r xs row))
  | xs, [] => rfl
  | xs, c :: cs => by
    have := wk_last (r := r) (mv r xs c) cs
    simp only [wk, List.map_cons, gone, List.foldl_cons] at *
    rw [List.getLast?_cons_cons]
    exact this
end HD
namespace HD
open PySem PySem.Spec L2 Cor
theorem need_rule_ok {r : Rul} (h : RulOk r) : f_need_rule [r.d'] = .ret .non false none := by
  have q := (is_rule_of_ok (plT_rul (r := r))).trans (by rw [isRule_rul h])
  unfold f_need_rule
  rw [x_sem0]
  unfold m_need_rule
  simp [startE, q]
end HD
namespace HD
open PySem PySem.Spec L2 Cor
theorem is_row_ok {row : List Nat} (h : RowOk row) : f_is_row_of [.str row] = .ret (.bl true) false none := by
  unfold f_is_row_of
  rw [x_sem0]
  unfold m_is_row_of
  have hl := h.len
  have key := compL_map (vs := [1]) (base := [.val (.str row), .no]) (t := .nm 1) (mc := eYes) (me := eCmp .In (eVar 1) (eLit (.str [45, 97, 98]))) (e := [.val (.str row), .no]) (fun c : Nat => Cor.D.str [c]) (fun _ => .bl true) (ys := row) (acc := [])
    (fun c hc => ⟨[.val (.str row), .val (.str [c])], false, [.val (.str row), .val (.str [c])], false, [.val (.str row), .val (.str [c])], by simp, rfl, by
      have : c = 45 ∨ c = 97 ∨ c = 98 := h.ev c hc
      simp [this], by simp⟩) (by simp only [List.length_nil]; omega)
  have e3 : row.map (fun _ => Cor.D.bl true) = (row.map fun _ => true).map Cor.D.bl := by rw [List.map_map]; rfl
  have h60 : (row.length : Int) ≤ 60 := by omega
  have hz : row.length ≤ 1000000 := by omega
  have ha : (row.map fun _ => true).all id = true := by simp
  simp [startE, h60, hz, key, e3, blsOf_map, -List.map_map, -List.map_const_fun]
theorem need_row_ok {row : List Nat} (h : RowOk row) : f_need_row [.str row] = .ret .non false none := by
  unfold f_need_row
  rw [x_sem0]
  unfold m_need_row
  simp [startE, is_row_ok h]
end HD
namespace HD
open PySem PySem.Spec L2 Cor
theorem walk_for {r : Rul} (h : RulOk r) {w0 : Cor.D} : ∀ (row : List Nat) (xs : List Int) (acc : List Cor.D) (s : Cor.Slot), (∀ c ∈ row, Ev c) → xs ≠ [] → xs.length + row.length ≤ 99 → acc.length + row.length ≤ 1000 → s.nio = true →
    ∃ s', forL (stepF (.nm 4) (bCons (sSet 1 (eCall f_moved (aCons (eVar 0) (aCons (eVar 1) (aCons (eVar 4) aNil))))) (bCons (sApp 3 (eVar 1)) bNil))) (row.map fun c => .str [c]) [.val r.d', .val (tI xs), .val w0, .own (.lst acc), s] =
      .nx [.val r.d', .val (tI (gone r xs row)), .val w0, .own (.lst (acc ++ (wk r xs row).map tI)), s']
  | [], xs, acc, s, _, _, _, _, _ => ⟨s, by simp [gone, wk]⟩
  | c :: cs, xs, acc, s, hv, hx, h1, h2, hs => by
    obtain ⟨x, t, rfl⟩ := List.exists_cons_of_ne_nil hx
    simp only [List.length_cons] at h1 h2
    have mo := moved_ok h (x := x) (t := t) (c := c) (by simp only [List.length_cons]; omega) (hv c (List.mem_cons_self ..))
    have ml := mv_len (r := r) (c := c) (xs := x :: t) hx
    simp only [List.length_cons] at ml
    obtain ⟨s', e⟩ := walk_for h (w0 := w0) cs (mv r (x :: t) c) (acc ++ [tI (mv r (x :: t) c)]) (.val (.str [c])) (fun z hz => hv z (List.mem_cons_of_mem _ hz)) (mv_ne hx) (by omega) (by simp only [List.length_append, List.length_cons, List.length_nil]; omega) rfl
    have ha : acc.length < 1000000 := by omega
    refine ⟨s', ?_⟩
    rw [List.map_cons, forL_step]
    simp only [asg_nm, getS_s, getS_0, asK_nio hs, List.set_cons_succ, List.set_cons_zero, seK_ok]
    simp [mo, ha]
    rw [e]
    simp [gone, wk]
theorem walked_ok {r : Rul} (h : RulOk r) {xs : List Int} {row : List Nat} (hv : ∀ c ∈ row, Ev c) (hx : xs ≠ []) (hl : xs.length + row.length ≤ 99) : f_walked [r.d', tI xs, .str row] = .ret (.lst ((wk r xs row).map tI)) true none := by
  unfold f_walked
  rw [x_sem0]
  unfold m_walked
  obtain ⟨s', e⟩ := walk_for h (w0 := .str row) row xs [] .no hv hx hl (by simp only [List.length_nil]; omega) rfl
  have hz : row.length ≤ 1000000 := by omega
  simp [startE, hz]
  rw [e]
  simp
end HD
namespace HD
open PySem PySem.Spec L2 Cor
theorem weight_ok {r : Rul} (h : RulOk r) {xs : List Int} (hL : xs.length ≤ 1000) : f__law_weight [r.d', .lst (xs.map Cor.D.int)] = .ret (.int (wt r.f xs)) false none := by
  unfold f__law_weight
  rw [x_sem0]
  unfold m__law_weight
  have f0 : 0 < r.f := by have := h.f1; omega
  have f1 : r.f < 1073741824 := by have := h.f3; omega
  have key := compL_map (vs := [2]) (base := [.val r.d', .val (.lst (xs.map Cor.D.int)), .no]) (t := .nm 2) (mc := eYes) (me := eBin .FloorDiv (eB1 .int (eBin .Sub (eBin .Add (eVar 2) (eSub (eVar 0) (eLit (.int 6)))) (eLit (.int 1)))) (eSub (eVar 0) (eLit (.int 6))))
    (e := [.val r.d', .val (.lst (xs.map Cor.D.int)), .no]) Cor.D.int (fun x => .int ((x + r.f - 1) / r.f)) (ys := xs.drop 2) (acc := []) (fun y _ => ⟨[.val r.d', .val (.lst (xs.map Cor.D.int)), .val (.int y)], false, [.val r.d', .val (.lst (xs.map Cor.D.int)), .val (.int y)], false, [.val r.d', .val (.lst (xs.map Cor.D.int)), .val (.int y)], by simp, rfl, by simp [f0, f1], by simp⟩) (by simp; omega)
  have e1 : (xs.map Cor.D.int).drop 2 = (xs.drop 2).map Cor.D.int := (List.map_drop ..).symm
  have e2 : (xs.map Cor.D.int).take 2 = (xs.take 2).map Cor.D.int := (List.map_take ..).symm
  have e3 : (xs.drop 2).map (fun x => Cor.D.int ((x + r.f - 1) / r.f)) = ((xs.drop 2).map fun x => (x + r.f - 1) / r.f).map Cor.D.int := by rw [List.map_map]; rfl
  simp [startE, e1, e2, key, e3, intsOf_map, wt, -List.map_map, -List.map_drop, -List.map_take]
def g1 (r : Rul) (c : Nat) (xs : List Int) : List Int :=
  if c = 45 then (if (r.d && (r.m || decide (0 < hd xs))) = true then 0 :: xs else xs) else (if (r.e && (decide (0 < hd xs) && decide (r.s < hd xs + mo c))) = true then 0 :: xs else xs)
def g3 (r : Rul) (c : Nat) (xs : List Int) : List Int := if (!decide (c = 45) && (!r.e && decide (r.s ≤ hd xs))) = true then 0 :: xs else xs
def gs (r : Rul) (xs : List Int) (c : Nat) : List Int := wi r ((g3 r c (mv2 (mo c) (g1 r c xs))).take (r.k + 1).toNat)
theorem gs_mv {r : Rul} (h : RulOk r) {xs : List Int} {c : Nat} (hx : xs ≠ []) (hl : xs.length ≤ r.k.toNat + 1) : gs r xs c = mv r xs c := by
  have k0 := h.k0
  have hk : (r.k + 1).toNat = r.k.toNat + 1 := by omega
  obtain ⟨x, t, rfl⟩ := List.exists_cons_of_ne_nil hx
  simp only [List.length_cons] at hl
  have tk2 : List.take r.k.toNat t = t := List.take_of_length_le (by omega)
  unfold gs mv
  congr 1
  rw [hk]
  by_cases hc : c = 45
  · subst hc
    unfold g3 g1 mv0
    rw [if_pos rfl, if_pos rfl]
    by_cases q : (r.d && (r.m || decide (0 < hd (x :: t)))) = true
    · rw [if_pos q, if_pos q]
      simp [mv2, mo, trn]
    · rw [if_neg q, if_neg q]
      simp [mv2, mo, tk2]
  · have hmo : mo c = mor c := by unfold mo; rw [if_neg hc]
    unfold g3 g1
    rw [if_neg hc, if_neg hc, hmo]
    cases he : r.e
    · have e1 : mv1 r (mor c) (x :: t) = x :: t := by unfold mv1; simp [he]
      rw [e1]
      unfold mv3
      by_cases g : r.s ≤ x + mor c
      · simp [he, hc, g, mv2, trn]
      · simp [he, hc, g, mv2, tk2]
    · have e3 : ∀ ys, mv3 r ys = ys := fun ys => by unfold mv3; simp [he]
      rw [e3]
      unfold mv1
      by_cases g1 : 0 < x <;> by_cases g2 : r.s < x + mor c <;> simp [he, g1, g2, mv2, trn, tk2]
theorem step_whl {r : Rul} (h : RulOk r) {w1 w2 w4 : Cor.Slot} : ∀ (n : Nat) (xs : List Int) (s : Cor.Slot), xs.length ≤ n → xs.length ≤ 1000 → (s = .val (.lst (xs.map Cor.D.int)) ∨ s = .own (.lst (xs.map Cor.D.int))) →
    ∃ s', (s' = .val (.lst ((wiN r n xs).map Cor.D.int)) ∨ s' = .own (.lst ((wiN r n xs).map Cor.D.int))) ∧
      sWhl (eAnd (eCmp .IsNot (eSub (eVar 0) (eLit (.int 5))) (eLit .non)) (eAnd (eCmp .Gt (eB1 .len (eRd 3)) (eLit (.int 1))) (eCmp .Gt (eCall f__law_weight (aCons (eVar 0) (aCons (eVar 3) aNil))) (eSub (eVar 0) (eLit (.int 5)))))) (bCons (sSet 3 (eSlc (eVar 3) oNone (oSome (eNeg (eLit (.int 1)))))) bNil) [.val r.d', w1, w2, s, w4] = .nx [.val r.d', w1, w2, s', w4] := by
  intro n
  induction n with
  | zero =>
    intro xs s h1 h2 hs
    have : xs = [] := List.length_eq_zero_iff.mp (by omega)
    subst this
    rw [sWhl_step]
    refine ⟨s, hs, ?_⟩
    cases hp : r.p with
    | none => rcases hs with rfl | rfl <;> simp [hp]
    | some p => rcases hs with rfl | rfl <;> simp [hp]
  | succ n ih =>
    intro xs s h1 h2 hs
    rw [sWhl_step]
    cases hp : r.p with
    | none => exact ⟨s, by simpa [wiN, over, hp] using hs, by rcases hs with rfl | rfl <;> simp [hp]⟩
    | some p =>
      have wo := weight_ok h h2
      by_cases g1 : 1 < xs.length
      · have g1' : (1 : Int) < (xs.length : Int) := by omega
        by_cases g2 : p < wt r.f xs
        · have cl : cutD (xs.map Cor.D.int) none (some (-1)) = xs.dropLast.map Cor.D.int := by rw [cut_last (by simpa using g1), List.map_dropLast]
          obtain ⟨s', hs', e⟩ := ih xs.dropLast (.own (.lst (xs.dropLast.map Cor.D.int))) (by rw [List.length_dropLast]; omega) (by rw [List.length_dropLast]; omega) (.inr rfl)
          refine ⟨s', by simpa [wiN, over, hp, g1, g2] using hs', ?_⟩
          rcases hs with rfl | rfl <;> simp [hp, g1', wo, g2, cl, -List.map_dropLast] <;> exact e
        · refine ⟨.val (.lst (xs.map Cor.D.int)), by simp [wiN, over, hp, g1, g2], ?_⟩
          rcases hs with rfl | rfl <;> simp [hp, g1', wo, g2]
      · have g1' : ¬ (1 : Int) < (xs.length : Int) := by omega
        refine ⟨s, by simpa [wiN, over, hp, g1] using hs, ?_⟩
        rcases hs with rfl | rfl <;> simp [hp, g1']
def sTail : Cor.Env → RS := (bCons (sSet 3 (eSlc (eVar 3) oNone (oSome (eBin .Add (eSub (eVar 0) (eLit (.int 4))) (eLit (.int 1))))))
  (bCons (sWhl (eAnd (eCmp .IsNot (eSub (eVar 0) (eLit (.int 5))) (eLit .non)) (eAnd (eCmp .Gt (eB1 .len (eRd 3)) (eLit (.int 1))) (eCmp .Gt (eCall f__law_weight (aCons (eVar 0) (aCons (eVar 3) aNil))) (eSub (eVar 0) (eLit (.int 5)))))) (bCons (sSet 3 (eSlc (eVar 3) oNone (oSome (eNeg (eLit (.int 1))))))
  bNil))
  (bCons (sRet (eB1 .tuple (eVar 3)))
  bNil)))
theorem step_tail {r : Rul} (h : RulOk r) {w1 w2 w4 : Cor.Slot} {xs : List Int} {s : Cor.Slot} (hL : xs.length ≤ 1000) (hs : s = .val (.lst (xs.map Cor.D.int)) ∨ s = .own (.lst (xs.map Cor.D.int))) :
    fin0 (sTail [.val r.d', w1, w2, s, w4]) = .ret (tI (wi r (xs.take (r.k + 1).toNat))) false none := by
  have k0 := h.k0
  have hk : 0 ≤ r.k + 1 := by omega
  obtain ⟨s', hs', e⟩ := step_whl h (w1 := w1) (w2 := w2) (w4 := w4) (xs.take (r.k + 1).toNat).length (xs.take (r.k + 1).toNat) (.own (.lst ((xs.take (r.k + 1).toNat).map Cor.D.int))) (Nat.le_refl _) (by simp only [List.length_take]; omega) (.inr rfl)
  have hw : wiN r (xs.take (r.k + 1).toNat).length (xs.take (r.k + 1).toNat) = wi r (xs.take (r.k + 1).toNat) := rfl
  rw [hw] at hs'
  have e1 : (xs.map Cor.D.int).take (r.k + 1).toNat = (xs.take (r.k + 1).toNat).map Cor.D.int := (List.map_take ..).symm
  unfold sTail
  rcases hs with rfl | rfl
  · simp [cut_np hk, e1, -List.map_take]
    rw [e]
    rcases hs' with rfl | rfl <;> simp
  · simp [cut_np hk, e1, -List.map_take]
    rw [e]
    rcases hs' with rfl | rfl <;> simp
@[simp] theorem fnd45 : m1D .find (.str [45, 97, 98]) (.str [45]) = some (.int 0) := rfl
@[simp] theorem fnd97 : m1D .find (.str [45, 97, 98]) (.str [97]) = some (.int 1) := rfl
@[simp] theorem fnd98 : m1D .find (.str [45, 97, 98]) (.str [98]) = some (.int 2) := rfl
theorem step_ok {r : Rul} (h : RulOk r) {x : Int} {t : List Int} {c : Nat} (hL : (x :: t).length ≤ r.k.toNat + 1) (hc : Ev c) : f__law_step [r.d', tI (x :: t), .str [c]] = .ret (tI (mv r (x :: t) c)) false none := by
  have k3 := h.k3
  rw [← gs_mv h (by simp) hL]
  simp only [List.length_cons] at hL
  have z1 : 1 + t.length ≤ 1000000 := by omega
  have z2 : 1 + (t.length + 1) ≤ 1000000 := by omega
  have T := fun (w1 w2 w4 : Cor.Slot) (xs : List Int) (hx : xs.length ≤ 1000) => step_tail h (w1 := w1) (w2 := w2) (w4 := w4) (s := .own (.lst (xs.map Cor.D.int))) hx (.inr rfl)
  unfold f__law_step
  rw [x_sem0]
  unfold m__law_step
  show fin0 (bCons _ (bCons _ (bCons _ (bCons _ (bCons _ sTail)))) _) = _
  rcases hc with rfl | rfl | rfl
  · have ta := T (.val (tI (x :: t))) (.val (.str [45])) (.val (.int 0)) (x :: t) (by simp only [List.length_cons]; omega)
    have tb := T (.val (tI (x :: t))) (.val (.str [45])) (.val (.int 0)) (0 :: x :: t) (by simp only [List.length_cons]; omega)
    cases hd1 : r.d <;> cases hm : r.m <;> by_cases g : 0 < x <;>
      simp [startE, z1, z2, hd1, hm, g, gs, g1, g3, mv2, mo, -List.take_succ_cons] <;> first | exact ta | exact tb
  · have ta := T (.val (tI (x :: t))) (.val (.str [97])) (.val (.int 1)) ((x + 1) :: t) (by simp only [List.length_cons]; omega)
    have tb := T (.val (tI (x :: t))) (.val (.str [97])) (.val (.int 1)) (1 :: x :: t) (by simp only [List.length_cons]; omega)
    have tc := T (.val (tI (x :: t))) (.val (.str [97])) (.val (.int 1)) (0 :: (x + 1) :: t) (by simp only [List.length_cons]; omega)
    cases he : r.e
    · by_cases g : r.s ≤ x + 1 <;> simp [startE, z1, z2, he, g, gs, g1, g3, mv2, mo, mor, -List.take_succ_cons] <;> first | exact ta | exact tc
    · by_cases g : 0 < x <;> by_cases g2 : r.s < x + 1 <;> simp [startE, z1, z2, he, g, g2, gs, g1, g3, mv2, mo, mor, -List.take_succ_cons] <;> first | exact ta | exact tb
  · have ta := T (.val (tI (x :: t))) (.val (.str [98])) (.val (.int 2)) ((x + 2) :: t) (by simp only [List.length_cons]; omega)
    have tb := T (.val (tI (x :: t))) (.val (.str [98])) (.val (.int 2)) (2 :: x :: t) (by simp only [List.length_cons]; omega)
    have tc := T (.val (tI (x :: t))) (.val (.str [98])) (.val (.int 2)) (0 :: (x + 2) :: t) (by simp only [List.length_cons]; omega)
    cases he : r.e
    · by_cases g : r.s ≤ x + 2 <;> simp [startE, z1, z2, he, g, gs, g1, g3, mv2, mo, mor, -List.take_succ_cons] <;> first | exact ta | exact tc
    · by_cases g : 0 < x <;> by_cases g2 : r.s < x + 2 <;> simp [startE, z1, z2, he, g, g2, gs, g1, g3, mv2, mo, mor, -List.take_succ_cons] <;> first | exact ta | exact tb
end HD
namespace Cor
@[simp] theorem x_iEnu {ma : Env → RE} {env : Env} : iEnu ma env = iK (ma env) (fun x e1 => match x with
  | .lst xs => .ok (xs.mapIdx fun k y => .tup [.int (k : Nat), y]) e1
  | .tup xs => .ok (xs.mapIdx fun k y => .tup [.int (k : Nat), y]) e1
  | .str xs => if xs.length ≤ lim then .ok ((xs.map fun c => D.str [c]).mapIdx fun k y => .tup [.int (k : Nat), y]) e1 else .no
  | _ => .no) := rfl
/-- a comprehension that takes nothing -/
theorem compL_none {vs : List Nat} {base : Env} {t : TG} {mc me : Env → RE} {e : Env} : ∀ {ys : List D} {acc : List D}, (∀ y ∈ ys, ∃ e1 fc e2, asg t y e = some e1 ∧ mc e1 = .ok (.bl false) fc e2 ∧ wipeE e2 vs = some e) →
    compL vs base t mc me ys e acc = .ok acc e
  | [], acc, _ => rfl
  | y :: ys, acc, h => by
    obtain ⟨e1, fc, e2, h1, h2, h3⟩ := h y (List.mem_cons_self ..)
    have ih := compL_none (vs := vs) (base := base) (t := t) (mc := mc) (me := me) (e := e) (ys := ys) (acc := acc) fun z hz => h z (List.mem_cons_of_mem _ hz)
    simp [h1, h2, h3, ih]
end Cor
namespace Cor
open PySem PySem.Spec L2
theorem eqvs_int : ∀ xs ys : List Int, eqvs (xs.map D.int) (ys.map D.int) = decide (xs = ys)
  | [], [] => by simp
  | [], y :: ys => by simp
  | x :: xs, [] => by simp
  | x :: xs, y :: ys => by
    have := eqvs_int xs ys
    simp only [List.map_cons, eqvs_cons, eqv_int, this, List.cons.injEq, Bool.decide_and]
    congr 1
end Cor
namespace HD
open PySem PySem.Spec L2 Cor
theorem eqv_tI {a b : List Int} : Cor.D.eqv (tI a) (tI b) = decide (a = b) := by rw [eqv_tup, eqvs_int]
theorem eqvs_tI : ∀ xs ys : List (List Int), eqvs (xs.map tI) (ys.map tI) = decide (xs = ys)
  | [], [] => by simp
  | [], y :: ys => by simp
  | x :: xs, [] => by simp
  | x :: xs, y :: ys => by
    have := eqvs_tI xs ys
    rw [List.map_cons, List.map_cons, eqvs_cons, eqv_tI, this]
    simp only [List.cons.injEq, Bool.decide_and]
theorem ok_tI {n : Nat} {a : List Int} : Cor.D.okN (n + 1) (tI a) = true := by
  rw [okN_tup, List.all_map]
  exact List.all_eq_true.mpr fun i _ => okN_int
theorem oks_tI {n : Nat} {xs : List (List Int)} : (xs.map tI).all (Cor.D.okN (n + 1)) = true := by
  rw [List.all_map]
  exact List.all_eq_true.mpr fun i _ => ok_tI
theorem mem_tI {a : List Int} : ∀ {xs : List (List Int)}, memD (tI a) (xs.map tI) = decide (a ∈ xs)
  | [] => by simp [memD]
  | x :: xs => by
    rw [List.map_cons, memD, eqv_tI, mem_tI (xs := xs)]
    simp only [List.mem_cons, Bool.decide_or]
    by_cases q : x = a
    · subst q; simp
    · have q2 : a ≠ x := fun e => q e.symm
      simp [q, q2]
theorem idx_tI {a : List Int} : ∀ {xs : List (List Int)} {i : Nat}, a ∈ xs → indexD (tI a) (xs.map tI) i = some (i + xs.idxOf a)
  | [], _, h => by cases h
  | x :: xs, i, h => by
    rw [List.map_cons, indexD, eqv_tI]
    by_cases q : x = a
    · subst q; simp
    · have q2 : (x == a) = false := by simpa using q
      rw [if_neg (by simpa using q), idx_tI (xs := xs) (i := i + 1) (by
        rcases List.mem_cons.mp h with e | e
        · exact absurd e.symm q
        · exact e), List.idxOf_cons, q2]
      show some _ = some (i + (xs.idxOf a + 1))
      congr 1
      omega
theorem cmp_tIs {xs ys : List (List Int)} : cmpD .Eq (.lst (xs.map tI)) (.lst (ys.map tI)) = some (decide (xs = ys)) := by
  rw [cmpD_eq, okN_lst, okN_lst, oks_tI, oks_tI, eqv_lst, eqvs_tI]
  rfl
theorem cmp_tI {a b : List Int} : cmpD .Eq (tI a) (tI b) = some (decide (a = b)) := by
  rw [cmpD_eq, ok_tI, ok_tI, eqv_tI]
  rfl
theorem nin_tI {a : List Int} {xs : List (List Int)} : cmpD .NotIn (tI a) (.lst (xs.map tI)) = some (!decide (a ∈ xs)) := by
  show (if (Cor.D.okN 8 (tI a) && (xs.map tI).all (Cor.D.okN 8)) = true then some (!memD (tI a) (xs.map tI)) else none) = _
  rw [ok_tI, oks_tI, mem_tI]
  rfl
theorem in_tI {a : List Int} {xs : List (List Int)} : cmpD .In (tI a) (.lst (xs.map tI)) = some (decide (a ∈ xs)) := by
  show (if (Cor.D.okN 8 (tI a) && (xs.map tI).all (Cor.D.okN 8)) = true then some (memD (tI a) (xs.map tI)) else none) = _
  rw [ok_tI, oks_tI, mem_tI]
  rfl
/-! what sizes there can be -/
structure Sz (r : Rul) (xs : List Int) : Prop where
  ne : xs ≠ []
  ln : xs.length ≤ r.k.toNat + 1
  bd : ∀ x ∈ xs, 0 ≤ x ∧ x ≤ 4
  lt : r.e = false → hd xs < r.s
  le : hd xs ≤ 3
theorem Sz.zero {r : Rul} (h : RulOk r) : Sz r [0] := ⟨by simp, by simp, by intro x hx; simp at hx; omega, fun _ => by have := h.s1; simp [hd]; omega, by simp [hd]⟩
theorem Sz.hd {r : Rul} {xs : List Int} (h : Sz r xs) : 0 ≤ hd xs ∧ HD.hd xs ≤ 4 := by
  obtain ⟨x, t, e⟩ := List.exists_cons_of_ne_nil h.ne
  rw [e]
  exact h.bd x (by rw [e]; exact List.mem_cons_self ..)
theorem Sz.trn {r : Rul} (h : RulOk r) {xs : List Int} (hb : ∀ x ∈ xs, 0 ≤ x ∧ x ≤ 4) : Sz r (trn r xs) where
  ne := by unfold HD.trn; simp
  ln := trn_k
  bd := fun y hy => by
    unfold HD.trn at hy
    rcases List.mem_cons.mp hy with rfl | hy
    · omega
    · exact hb y (List.mem_of_mem_take hy)
  lt := fun _ => by have := h.s1; simp [HD.trn, HD.hd]; omega
  le := by simp [HD.trn, HD.hd]
theorem wiN_hd {r : Rul} : ∀ (n : Nat) (xs : List Int), xs ≠ [] → hd (wiN r n xs) = hd xs
  | 0, xs, _ => rfl
  | n + 1, xs, h => by
    unfold wiN
    split
    · rename_i q
      have := over_len q
      obtain ⟨x, t, rfl⟩ := List.exists_cons_of_ne_nil h
      obtain ⟨y, u, rfl⟩ := List.exists_cons_of_ne_nil (l := t) (fun z => by rw [z] at this; simp at this)
      rw [List.dropLast_cons₂, wiN_hd n _ (by simp)]
      rfl
    · rfl
theorem wiN_mem {r : Rul} : ∀ (n : Nat) (xs : List Int), ∀ y ∈ wiN r n xs, y ∈ xs
  | 0, xs, y, hy => hy
  | n + 1, xs, y, hy => by
    unfold wiN at hy
    split at hy
    · exact (List.dropLast_sublist xs).subset (wiN_mem n _ y hy)
    · exact hy
theorem Sz.wi {r : Rul} {xs : List Int} (h : Sz r xs) : Sz r (wi r xs) where
  ne := wi_ne h.ne
  ln := Nat.le_trans wi_len h.ln
  bd := fun y hy => h.bd y (wiN_mem _ _ y hy)
  lt := fun e => by unfold HD.wi; rw [wiN_hd _ _ h.ne]; exact h.lt e
  le := by unfold HD.wi; rw [wiN_hd _ _ h.ne]; exact h.le
theorem mor_12 {c : Nat} : 1 ≤ mor c ∧ mor c ≤ 2 := by unfold mor; split <;> omega
theorem Sz.mv {r : Rul} (h : RulOk r) {xs : List Int} (z : Sz r xs) (c : Nat) : Sz r (mv r xs c) := by
  unfold HD.mv
  refine Sz.wi ?_
  have s3 := h.s3
  have m := mor_12 (c := c)
  have z0 := z.hd
  have zle := z.le
  have z2 : ∀ ys : List Int, ys ≠ [] → (∀ x ∈ ys, 0 ≤ x ∧ x ≤ 4) → HD.hd ys + mor c ≤ 4 → 0 ≤ HD.hd ys → ∀ x ∈ mv2 (mor c) ys, 0 ≤ x ∧ x ≤ 4 := fun ys hy hb h4 h0 x hx => by
    unfold mv2 at hx
    rcases List.mem_cons.mp hx with rfl | hx
    · omega
    · exact hb x (List.mem_of_mem_tail hx)
  split
  · unfold mv0
    split
    · exact Sz.trn h z.bd
    · exact z
  · cases he : r.e
    · have e1 : mv1 r (mor c) xs = xs := by unfold mv1; simp [he]
      rw [e1]
      have zl := z.lt he
      unfold mv3
      have b := z2 xs z.ne z.bd (by omega) z0.1
      by_cases q : r.s ≤ HD.hd (mv2 (mor c) xs)
      · rw [if_pos (by simp [he, q])]
        exact Sz.trn h b
      · rw [if_neg (by simp [he, q])]
        refine ⟨by unfold mv2; simp, by rw [mv2_len z.ne]; exact z.ln, b, fun _ => by omega, by omega⟩
    · have e3 : ∀ ys, mv3 r ys = ys := fun ys => by unfold mv3; simp [he]
      rw [e3]
      unfold mv1
      by_cases q : (r.e && (decide (0 < HD.hd xs) && decide (r.s < HD.hd xs + mor c))) = true
      · rw [if_pos q]
        have t := Sz.trn h z.bd
        have t0 : HD.hd (HD.trn r xs) = 0 := rfl
        refine ⟨by unfold mv2; simp, by rw [mv2_len t.ne]; exact t.ln, z2 _ t.ne t.bd (by omega) (by omega), fun e => by (rw [he] at e; cases e), ?_⟩
        show HD.hd (HD.trn r xs) + mor c ≤ 3
        omega
      · rw [if_neg q]
        have q2 : HD.hd xs = 0 ∨ HD.hd xs + mor c ≤ r.s := by
          simp only [he, Bool.true_and, Bool.and_eq_true, decide_eq_true_eq] at q
          omega
        refine ⟨by unfold mv2; simp, by rw [mv2_len z.ne]; exact z.ln, z2 _ z.ne z.bd (by omega) z0.1, fun e => by (rw [he] at e; cases e), ?_⟩
        show HD.hd xs + mor c ≤ 3
        omega
theorem Sz.gone {r : Rul} (h : RulOk r) : ∀ (row : List Nat) {xs : List Int}, Sz r xs → Sz r (gone r xs row)
  | [], _, z => z
  | c :: cs, _, z => Sz.gone h cs (z.mv h c)
/-! all of them -/
def un : Nat → List (List Int)
  | 0 => [[]]
  | n + 1 => [] :: [(0 : Int), 1, 2, 3, 4].flatMap fun x => (un n).map (x :: ·)
theorem un_mem : ∀ (n : Nat) (xs : List Int), xs.length ≤ n → (∀ x ∈ xs, 0 ≤ x ∧ x ≤ 4) → xs ∈ un n
  | 0, xs, h, _ => by
    have : xs = [] := List.length_eq_zero_iff.mp (by omega)
    subst this
    simp [un]
  | n + 1, [], _, _ => by simp [un]
  | n + 1, x :: xs, h, hb => by
    have ih := un_mem n xs (by simpa using h) fun y hy => hb y (List.mem_cons_of_mem _ hy)
    have hx := hb x (List.mem_cons_self ..)
    unfold un
    refine List.mem_cons_of_mem _ (List.mem_flatMap.mpr ⟨x, ?_, List.mem_map.mpr ⟨xs, ih, rfl⟩⟩)
    have : x = 0 ∨ x = 1 ∨ x = 2 ∨ x = 3 ∨ x = 4 := by omega
    rcases this with rfl | rfl | rfl | rfl | rfl <;> simp
theorem un_len : (un 4).length = 781 := by decide +kernel
theorem Sz.un {r : Rul} (h : RulOk r) {xs : List Int} (z : Sz r xs) : xs ∈ un 4 := un_mem 4 xs (by have := z.ln; have := h.k3; omega) z.bd
theorem nd_len {α : Type} [DecidableEq α] : ∀ {l u : List α}, l.Nodup → (∀ x ∈ l, x ∈ u) → l.length ≤ u.length
  | [], u, _, _ => by simp
  | x :: l, u, hn, hs => by
    obtain ⟨h1, h2⟩ := List.nodup_cons.mp hn
    have hx := hs x (List.mem_cons_self ..)
    have := nd_len (l := l) (u := u.erase x) h2 fun y hy => (List.mem_erase_of_ne (fun e => h1 (by rw [← e]; exact hy))).mpr (hs y (List.mem_cons_of_mem _ hy))
    rw [List.length_erase_of_mem hx] at this
    have := List.length_pos_of_mem hx
    simp only [List.length_cons]
    omega
theorem Sz.many {r : Rul} (h : RulOk r) {l : List (List Int)} (hn : l.Nodup) (hz : ∀ x ∈ l, Sz r x) : l.length ≤ 781 := by
  rw [← un_len]
  exact nd_len hn fun x hx => (hz x hx).un h
end HD
namespace HD
open PySem PySem.Spec L2 Cor
instance : Key tI := { eq := fun a b => eqv_tI, ky := fun a => by rw [keyB_tup, List.all_map]; exact List.all_eq_true.mpr fun i _ => okK_int }
theorem moved_sz {r : Rul} (h : RulOk r) {xs : List Int} (z : Sz r xs) {c : Nat} (hc : Ev c) : f_moved [r.d', tI xs, .str [c]] = .ret (tI (mv r xs c)) false none := by
  obtain ⟨x, t, rfl⟩ := List.exists_cons_of_ne_nil z.ne
  have := z.ln
  have := h.k3
  exact moved_ok h (by omega) hc
theorem step_sz {r : Rul} (h : RulOk r) {xs : List Int} (z : Sz r xs) {c : Nat} (hc : Ev c) : f__law_step [r.d', tI xs, .str [c]] = .ret (tI (mv r xs c)) false none := by
  obtain ⟨x, t, rfl⟩ := List.exists_cons_of_ne_nil z.ne
  exact step_ok h z.ln hc
@[simp] theorem ev45 : Ev 45 := .inl rfl
@[simp] theorem ev97 : Ev 97 := .inr (.inl rfl)
@[simp] theorem ev98 : Ev 98 := .inr (.inr rfl)
theorem ev_evs {c : Nat} (h : c ∈ evs) : Ev c := by simp [evs] at h; exact h
@[simp] theorem ix45 : m1D .index (.str [45, 97, 98]) (.str [45]) = some (.int 0) := rfl
@[simp] theorem ix97 : m1D .index (.str [45, 97, 98]) (.str [97]) = some (.int 1) := rfl
@[simp] theorem ix98 : m1D .index (.str [45, 97, 98]) (.str [98]) = some (.int 2) := rfl
@[simp] theorem mo45 : mo 45 = 0 := rfl
@[simp] theorem mo97 : mo 97 = 1 := rfl
@[simp] theorem mo98 : mo 98 = 2 := rfl
theorem ix_ev {c : Nat} (h : Ev c) : m1D .index (.str [45, 97, 98]) (.str [c]) = some (.int (mo c)) := by rcases h with rfl | rfl | rfl <;> rfl
theorem sum_tI {xs : List Int} : b1D .sum (tI xs) = some (.int xs.sum, false) := by simp
end HD
namespace HD
open PySem PySem.Spec L2 Cor
/-- what holds of a search over sizes -/
structure BQ (r : Rul) (s : BS (List Int)) : Prop where
  nd : s.1.Nodup
  sz : ∀ a ∈ s.1, Sz r a
  lk : ∀ x ∈ s.2, x.2 ∈ s.1
  ll : s.2.length ≤ s.1.length
theorem BQ.len {r : Rul} (h : RulOk r) {s : BS (List Int)} (q : BQ r s) : s.1.length ≤ 781 := Sz.many h q.nd q.sz
theorem BQ.start {r : Rul} (h : RulOk r) : BQ r ([[0]], [([], [0])]) := ⟨by simp, fun a ha => by simp at ha; rw [ha]; exact Sz.zero h, by simp, by simp⟩
theorem BQ.next {r : Rul} {s : BS (List Int)} (q : BQ r s) : BQ r (s.1, []) := ⟨q.nd, q.sz, by simp, by simp⟩
theorem BQ.add {r : Rul} {s : BS (List Int)} (q : BQ r s) {x : List Nat × List Int} (z : Sz r x.2) : BQ r (addR s x) := by
  unfold addR
  split
  · exact q
  · rename_i hn
    refine ⟨?_, fun a ha => ?_, fun y hy => ?_, ?_⟩
    · rw [List.nodup_append]
      exact ⟨q.nd, by simp, fun a ha b hb e => by simp only [List.mem_singleton] at hb; subst hb; subst e; exact hn ha⟩
    · rcases List.mem_append.mp ha with ha | ha
      · exact q.sz a ha
      · simp only [List.mem_singleton] at ha; rw [ha]; exact z
    · rcases List.mem_append.mp hy with hy | hy
      · exact List.mem_append_left _ (q.lk y hy)
      · simp only [List.mem_singleton] at hy; rw [hy]; simp
    · have := q.ll
      simp only [List.length_append, List.length_cons, List.length_nil]; omega
theorem BQ.fold {r : Rul} : ∀ (es : List (List Nat × List Int)) {s : BS (List Int)}, BQ r s → (∀ x ∈ es, Sz r x.2) → BQ r (es.foldl addR s)
  | [], s, q, _ => q
  | x :: es, s, q, h => BQ.fold es (q.add (h x (List.mem_cons_self ..))) fun y hy => h y (List.mem_cons_of_mem _ hy)
abbrev frD (F : List (List Nat × List Int)) : Cor.D := .lst (F.map fun x => tI x.2)
@[simp] theorem cmp_fr {F : List (List Nat × List Int)} : cmpD .NotEq (frD F) (.lst []) = some (!decide (F = [])) := by
  have e : (F.map fun x => tI x.2) = (F.map (·.2)).map tI := by rw [List.map_map]; rfl
  rw [cmpD_ne, okN_lst, okN_lst, e, oks_tI]
  cases F <;> simp
/-- all that can be reached has such sizes -/
theorem rc_sz {r : Rul} {sc : List Int → List (Nat × List Int)} (h : RulOk r) (hs : ∀ a, Sz r a → ∀ y ∈ sc a, Sz r y.2) {row : List Nat} {a : List Int} (hr : Rc sc [0] row a) : Sz r a := by
  induction hr with
  | nil => exact Sz.zero h
  | snoc _ hm ih => exact hs _ ih _ hm
theorem rc_many {r : Rul} {sc : List Int → List (Nat × List Int)} (h : RulOk r) (hs : ∀ a, Sz r a → ∀ y ∈ sc a, Sz r y.2) (K : List (List Int)) (hn : K.Nodup) (hk : ∀ a ∈ K, ∃ row, Rc sc [0] row a) : K.length ≤ 781 :=
  Sz.many h hn fun a ha => (hk a ha).elim fun _ hr => rc_sz h hs hr
/-- all steps -/
def scA (r : Rul) (a : List Int) : List (Nat × List Int) := evs.map fun c => (c, mv r a c)
theorem scA_sz {r : Rul} (h : RulOk r) (a : List Int) (z : Sz r a) : ∀ y ∈ scA r a, Sz r y.2 := fun y hy => by
  obtain ⟨c, _, rfl⟩ := List.mem_map.mp hy
  exact z.mv h c
theorem edg_sz {r : Rul} {sc : List Int → List (Nat × List Int)} (hs : ∀ a, Sz r a → ∀ y ∈ sc a, Sz r y.2) {s : BS (List Int)} (q : BQ r s) : ∀ x ∈ edg sc s.2, Sz r x.2 := fun x hx => by
  obtain ⟨u, hu, y, hy, rfl⟩ := edg_mem.mp hx
  exact hs _ (q.sz _ (q.lk u hu)) y hy
theorem lvl_fold {α : Type} [DecidableEq α] {sc : α → List (Nat × α)} {s : BS α} : (edg sc s.2).foldl addR (s.1, []) = lvl sc s := by rw [fold_addR]; simp [lvl]
theorem edg_fold {α : Type} [DecidableEq α] {sc : α → List (Nat × α)} {F : List (List Nat × α)} {s : BS α} : F.foldl (fun s x => ((sc x.2).map fun y => (x.1 ++ [y.1], y.2)).foldl addR s) s = (edg sc F).foldl addR s := by
  unfold edg
  rw [List.foldl_flatMap]
theorem BQ.lvl {r : Rul} {sc : List Int → List (Nat × List Int)} (hs : ∀ a, Sz r a → ∀ y ∈ sc a, Sz r y.2) {s : BS (List Int)} (q : BQ r s) : BQ r (lvl sc s) := by
  rw [← lvl_fold]
  exact BQ.fold _ q.next (edg_sz hs q)
end HD
namespace HD
open PySem PySem.Spec L2 Cor
/-- a search over sizes whose front holds rows -/
structure BR (r : Rul) (s : BS (List Int)) : Prop extends BQ r s where
  rl : ∀ x ∈ s.2, x.1.length ≤ s.1.length
  rv : ∀ x ∈ s.2, ∀ c ∈ x.1, Ev c
theorem BR.start {r : Rul} (h : RulOk r) : BR r ([[0]], [([], [0])]) := { BQ.start h with rl := by simp, rv := by simp }
theorem BR.next {r : Rul} {s : BS (List Int)} (q : BR r s) : BR r (s.1, []) := { q.toBQ.next with rl := by simp, rv := by simp }
theorem addR_len {α : Type} [DecidableEq α] {s : BS α} {x : List Nat × α} : s.1.length ≤ (addR s x).1.length := by
  unfold addR
  split
  · exact Nat.le_refl _
  · simp
theorem BR.add {r : Rul} {s : BS (List Int)} (q : BR r s) {x : List Nat × List Int} (z : Sz r x.2) (hl : x.1.length ≤ s.1.length + 1) (hv : ∀ c ∈ x.1, Ev c) : BR r (addR s x) := by
  refine { q.toBQ.add z with rl := fun y hy => ?_, rv := fun y hy => ?_ }
  · unfold addR at hy ⊢
    split at hy
    · rename_i hk
      rw [if_pos hk]; exact q.rl y hy
    · rename_i hk
      rw [if_neg hk]
      simp only [List.length_append, List.length_cons, List.length_nil]
      rcases List.mem_append.mp hy with hy | hy
      · have := q.rl y hy; omega
      · simp only [List.mem_singleton] at hy; rw [hy]; omega
  · unfold addR at hy
    split at hy
    · exact q.rv y hy
    · rcases List.mem_append.mp hy with hy | hy
      · exact q.rv y hy
      · simp only [List.mem_singleton] at hy; rw [hy]; exact hv
theorem BR.fold {r : Rul} : ∀ (es : List (List Nat × List Int)) {s : BS (List Int)} {n : Nat}, BR r s → n ≤ s.1.length → (∀ x ∈ es, Sz r x.2 ∧ x.1.length ≤ n + 1 ∧ ∀ c ∈ x.1, Ev c) → BR r (es.foldl addR s)
  | [], s, n, q, _, _ => q
  | x :: es, s, n, q, hn, h => by
    have hx := h x (List.mem_cons_self ..)
    exact BR.fold es (q.add hx.1 (by omega) hx.2.2) (Nat.le_trans hn addR_len) fun y hy => h y (List.mem_cons_of_mem _ hy)
theorem edg_len {α : Type} [DecidableEq α] {sc : α → List (Nat × α)} {F : List (List Nat × α)} {n : Nat} (h : ∀ x ∈ F, x.1.length ≤ n) : ∀ x ∈ edg sc F, x.1.length ≤ n + 1 := fun x hx => by
  obtain ⟨u, hu, y, hy, rfl⟩ := edg_mem.mp hx
  have := h u hu
  simp; omega
theorem BR.lvl {r : Rul} {sc : List Int → List (Nat × List Int)} (hs : ∀ a, Sz r a → ∀ y ∈ sc a, Sz r y.2) (hc : ∀ a, ∀ y ∈ sc a, Ev y.1) {s : BS (List Int)} (q : BR r s) : BR r (lvl sc s) := by
  rw [← lvl_fold]
  refine BR.fold _ q.next (Nat.le_refl _) fun x hx => ⟨edg_sz hs q.toBQ x hx, edg_len q.rl x hx, fun c hcx => ?_⟩
  obtain ⟨u, hu, y, hy, rfl⟩ := edg_mem.mp hx
  rcases List.mem_append.mp hcx with hcx | hcx
  · exact q.rv u hu c hcx
  · simp only [List.mem_singleton] at hcx; rw [hcx]; exact hc _ y hy
theorem scA_ev {r : Rul} (a : List Int) : ∀ y ∈ scA r a, Ev y.1 := fun y hy => by
  obtain ⟨c, hc, rfl⟩ := List.mem_map.mp hy
  exact ev_evs hc
abbrev frR (F : List (List Nat × List Int)) : Cor.D := .lst (F.map fun x => .tup [.str x.1, tI x.2])
theorem ev_lt {c : Nat} (h : Ev c) : c < 1114112 := by rcases h with rfl | rfl | rfl <;> decide
theorem cmp_frR {F : List (List Nat × List Int)} (h : ∀ x ∈ F, ∀ c ∈ x.1, Ev c) : cmpD .NotEq (frR F) (.lst []) = some (!decide (F = [])) := by
  have e : ∀ n, (F.map fun x => Cor.D.tup [.str x.1, tI x.2]).all (Cor.D.okN (n + 2)) = true := fun n => by
    rw [List.all_eq_true]
    intro d hd
    obtain ⟨x, hx, rfl⟩ := List.mem_map.mp hd
    rw [okN_tup]
    simp only [List.all_cons, List.all_nil, Bool.and_true, ok_tI, okN_str, List.all_eq_true, decide_eq_true_eq]
    exact fun c hc => ev_lt (h x hx c hc)
  rw [cmpD_ne, okN_lst, okN_lst, e]
  cases F <;> simp
end HD
namespace HD
open PySem PySem.Spec L2 Cor
structure CQ (r : Rul) (Q : List (List Int × Int)) : Prop where
  nd : (ak Q).Nodup
  sz : ∀ a ∈ ak Q, Sz r a
theorem CQ.len {r : Rul} (h : RulOk r) {Q : List (List Int × Int)} (q : CQ r Q) : Q.length ≤ 781 := by
  rw [← ak_len]
  exact Sz.many h q.nd q.sz
theorem CQ.nil {r : Rul} : CQ r [] := ⟨by simp [ak], by simp [ak]⟩
theorem CQ.add {r : Rul} {Q : List (List Int × Int)} (q : CQ r Q) {b : List Int} (z : Sz r b) {m : Int} : CQ r (cadd m Q b) :=
  ⟨cadd_nd q.nd, fun a ha => by
    unfold cadd at ha
    rw [ak_aput, sput_mem] at ha
    rcases ha with ha | rfl
    · exact q.sz a ha
    · exact z⟩
theorem CQ.fold {r : Rul} {m : Int} : ∀ (bs : List (List Int)) {Q : List (List Int × Int)}, (∀ b ∈ bs, Sz r b) → CQ r Q → CQ r (bs.foldl (cadd m) Q)
  | [], Q, _, q => q
  | b :: bs, Q, hb, q => CQ.fold bs (fun c hc => hb c (List.mem_cons_of_mem _ hc)) (q.add (hb b (List.mem_cons_self ..)))
def scM (r : Rul) (xs : List Int) : List (List Int) := evs.map (mv r xs)
theorem scM_sz {r : Rul} (h : RulOk r) {xs : List Int} (z : Sz r xs) : ∀ b ∈ scM r xs, Sz r b := fun b hb => by
  obtain ⟨c, _, rfl⟩ := List.mem_map.mp hb
  exact z.mv h c
end HD
namespace HD
open PySem PySem.Spec L2 Cor
theorem joinL_one : ∀ row : List Nat, joinL [] (row.map fun c => [c]) = row
  | [] => rfl
  | [a] => rfl
  | a :: b :: as => by
    have := joinL_one (b :: as)
    simp only [List.map_cons] at this ⊢
    rw [joinL, this]
    rfl
theorem join_ok {row : List Nat} (h : row.length ≤ 1000) : m1D .join (.str []) (.lst (row.map fun c => .str [c])) = some (.str row) := by
  have e : row.map (fun c => Cor.D.str [c]) = (row.map fun c => [c]).map Cor.D.str := by rw [List.map_map]; rfl
  have es : ((row.map fun c => [c]).map List.length).sum = row.length := by
    rw [List.map_map]
    induction row with
    | nil => rfl
    | cons a l ih => simp only [List.map_cons, List.sum_cons, Function.comp, List.length_cons, List.length_nil] at *; rw [ih (by omega) (by rw [List.map_map]; rfl)]; omega
  rw [e, m1D, strsOf_map, Option.bind_some, es, joinL_one, if_pos]
  simp only [lim_eq, List.length_nil]
  omega
theorem song_loop {m : Int} {sn : List Nat} (hs : ∀ c ∈ sn, Ev c) (h1 : 1 ≤ sn.length) (h2 : sn.length ≤ 10) {base : Cor.Env} : ∀ (ds : List Cor.D) (a b c : Int) (n : Nat) (acc : List Cor.D), DkOk a b c n → n + ds.length ≤ 90000 → acc.length + ds.length ≤ 1000 → ∃ (row : List Nat) (a' c' : Int),
    compL [3] base (.nm 3) eYes (eSub (eVar 2) (eCallIo f__law_pick 0 (aCons (eB1 .len (eVar 2)) aNil))) ds [.io (dk a b c), .val (.int m), .val (.str sn), .no] acc = .ok (acc ++ row.map fun c => .str [c]) [.io (dk a' b c'), .val (.int m), .val (.str sn), .no] ∧ row.length = ds.length ∧ (∀ c ∈ row, Ev c) ∧ DkOk a' b c' (n + ds.length)
  | [], a, b, c, n, acc, h, _, _ => ⟨[], a, c, by simp, rfl, by simp, h⟩
  | d :: ds, a, b, c, n, acc, h, hn, ha => by
    simp only [List.length_cons] at hn ha
    obtain ⟨q, a1, c1, e1, g0, g1, k1⟩ := pick_ok h (l := sn.length) (by omega) (by omega) (by omega)
    obtain ⟨j, rfl⟩ : ∃ j : Nat, q = j := ⟨q.toNat, by omega⟩
    have hj : j < sn.length := by omega
    obtain ⟨row, a', c', e, l, v, k⟩ := song_loop hs h1 h2 (base := base) ds a1 b c1 (n + 1) (acc ++ [.str [sn[j]]]) k1 (by omega) (by simp only [List.length_append, List.length_cons, List.length_nil]; omega)
    have hz : sn.length ≤ 1000000 := by omega
    have hz2 : acc.length < 1000000 := by omega
    refine ⟨sn[j] :: row, a', c', ?_, by simp [l], ?_, ?_⟩
    · simp [hz, hz2, e1, Cor.atI_nat, hj]
      rw [e]
      simp
    · intro x hx
      rcases List.mem_cons.mp hx with rfl | hx
      · exact hs _ (List.getElem_mem hj)
      · exact v x hx
    · rw [List.length_cons, show n + (ds.length + 1) = n + 1 + ds.length by omega]
      exact k
theorem song_s1 {a b c m : Int} {r1 a1 c1 : Int} {sn : List Nat} (e1 : f__law_pick [dk a b c, .int 4] = .ret (.int r1) false (some (dk a1 b c1))) (es : atI [Cor.D.str [45, 97, 98], .str [45, 97, 97, 98, 98], .str [97, 97, 98], .str [45, 97]] r1 = some (.str sn)) :
    sSet 2 (eSub (eLst (aCons (eLit (.str [45, 97, 98])) (aCons (eLit (.str [45, 97, 97, 98, 98])) (aCons (eLit (.str [97, 97, 98])) (aCons (eLit (.str [45, 97])) aNil))))) (eCallIo f__law_pick 0 (aCons (eLit (.int 4)) aNil))) (startE 4 true [dk a b c, .int m]) = .nx [.io (dk a1 b c1), .val (.int m), .val (.str sn), .no] := by
  simp [startE, e1, es]
theorem song_r1 {b m a1 c1 a2 c2 : Int} {q : Nat} {sn : List Nat} (e2 : f__law_pick [dk a1 b c1, .int (m + 1)] = .ret (.int q) false (some (dk a2 b c2))) :
    iRng1 (eCallIo f__law_pick 0 (aCons (eBin .Add (eVar 1) (eLit (.int 1))) aNil)) [.io (dk a1 b c1), .val (.int m), .val (.str sn), .no] = outI (rngD 0 (q : Int)) [.io (dk a2 b c2), .val (.int m), .val (.str sn), .no] := by
  have h : eCallIo f__law_pick 0 (aCons (eBin .Add (eVar 1) (eLit (.int 1))) aNil) [.io (dk a1 b c1), .val (.int m), .val (.str sn), .no] = .ok (.int q) false [.io (dk a2 b c2), .val (.int m), .val (.str sn), .no] := by simp [e2]
  rw [x_iRng1, h, iK_ok, rg1_int]
theorem song_end {row : List Nat} {E : Cor.Env} (jo : m1D .join (.str []) (.lst (row.map fun c => .str [c])) = some (.str row)) {ma : Cor.Env → RE} {E0 : Cor.Env} (h : ma E0 = .ok (.lst (row.map fun c => .str [c])) true E) :
    eM1 .join (eLit (.str [])) ma E0 = .ok (.str row) false E := by
  rw [x_eM1, x_eLit, m1K_ok, h, K1_ok, jo, outD_some]
theorem song_sn {r1 : Int} (g1 : 0 ≤ r1) (k1 : r1 < 4) : ∃ sn : List Nat, atI [Cor.D.str [45, 97, 98], .str [45, 97, 97, 98, 98], .str [97, 97, 98], .str [45, 97]] r1 = some (.str sn) ∧ (∀ c ∈ sn, Ev c) ∧ 1 ≤ sn.length ∧ sn.length ≤ 10 := by
  have : r1 = 0 ∨ r1 = 1 ∨ r1 = 2 ∨ r1 = 3 := by omega
  rcases this with rfl | rfl | rfl | rfl <;> refine ⟨_, by simp; rfl, ?_, by decide, by decide⟩ <;> intro c hc <;> simp at hc <;> unfold Ev <;> omega
theorem song_body {row : List Nat} {a b c m a1 c1 a' c' : Int} {sn : List Nat} (s1 : sSet 2 (eSub (eLst (aCons (eLit (.str [45, 97, 98])) (aCons (eLit (.str [45, 97, 97, 98, 98])) (aCons (eLit (.str [97, 97, 98])) (aCons (eLit (.str [45, 97])) aNil))))) (eCallIo f__law_pick 0 (aCons (eLit (.int 4)) aNil))) (startE 4 true [dk a b c, .int m]) = .nx [.io (dk a1 b c1), .val (.int m), .val (.str sn), .no])
    (s2 : eM1 .join (eLit (.str [])) (eComp [3] (iRng1 (eCallIo f__law_pick 0 (aCons (eBin .Add (eVar 1) (eLit (.int 1))) aNil))) (.nm 3) eYes (eSub (eVar 2) (eCallIo f__law_pick 0 (aCons (eB1 .len (eVar 2)) aNil)))) [.io (dk a1 b c1), .val (.int m), .val (.str sn), .no] = .ok (.str row) false [.io (dk a' b c'), .val (.int m), .val (.str sn), .no]) :
    f__law_song [dk a b c, .int m] = .ret (.str row) false (some (dk a' b c')) := by
  unfold f__law_song
  rw [x_sem1]
  unfold m__law_song
  rw [x_bCons, s1, bK_nx, x_bCons, x_sRet, s2, sK_ok, bK_rt, fin1_rt]
  rfl
theorem song_ok {a b c m : Int} {n : Nat} (h : DkOk a b c n) (hn : n ≤ 80000) (m0 : 0 ≤ m) (m1 : m ≤ 60) : ∃ (row : List Nat) (a' c' : Int), f__law_song [dk a b c, .int m] = .ret (.str row) false (some (dk a' b c')) ∧ RowOk row ∧ DkOk a' b c' (n + 62) := by
  obtain ⟨r1, a1, c1, e1, g1, k1, h1⟩ := pick_ok h (l := 4) (by decide) (by decide) (by omega)
  obtain ⟨r2, a2, c2, e2, g2, k2, h2⟩ := pick_ok h1 (l := m + 1) (by omega) (by omega) (by omega)
  obtain ⟨q, rfl⟩ : ∃ q : Nat, r2 = q := ⟨r2.toNat, by omega⟩
  obtain ⟨sn, es, hs, s1, s2⟩ := song_sn g1 k1
  obtain ⟨row, a', c', e, l, v, k⟩ := song_loop (m := m) hs s1 s2 (base := [.io (dk a2 b c2), .val (.int m), .val (.str sn), .no]) ((List.range q).map fun k => .int (k : Nat)) a2 b c2 (n + 1 + 1) [] h2 (by simp only [List.length_map, List.length_range]; omega) (by simp only [List.length_map, List.length_range, List.length_nil]; omega)
  simp only [List.length_map, List.length_range, List.nil_append] at l k e
  have rq := rngD_nat (n := q) (by omega)
  have jo := join_ok (row := row) (by omega)
  refine ⟨row, a', c', song_body (song_s1 e1 es) (song_end jo ?_), ⟨v, by omega⟩, ⟨k.a0, k.b0, k.b1, k.c0, by have := k.c1; omega⟩⟩
  have w : wipeE [.io (dk a2 b c2), .val (.int m), .val (.str sn), .no] [3] = some [.io (dk a2 b c2), .val (.int m), .val (.str sn), .no] := by simp
  rw [x_eComp, song_r1 e2, rq, outI_some, cK_ok, w, cK2_ok, e, cK3_ok]
  rfl
end HD
namespace HD
open PySem PySem.Spec L2 Cor
theorem behind_ok {r : Rul} (h : RulOk r) {row : List Nat} (hr : RowOk row) : f_behind [r.d', .str row] = .ret (tI (gone r [0] row)) false none := by
  unfold f_behind
  rw [x_sem0]
  unfold m_behind
  have hl := hr.len
  have e := walked_ok h (xs := [0]) hr.ev (by simp) (by simp only [List.length_cons, List.length_nil]; omega)
  have e : f_walked [r.d', .tup [.int 0], .str row] = .ret (.lst ((wk r [0] row).map tI)) true none := e
  have hz : 1 + (wk r [0] row).length ≤ 1000000 := by rw [wk_len]; omega
  have hz2 : (wk r [0] row).length + 1 ≤ 1000000 := by rw [wk_len]; omega
  have la : (Cor.D.tup [.int 0] :: (wk r [0] row).map tI).getLast? = some (tI (gone r [0] row)) := wk_last [0] row
  have la : atI (Cor.D.tup [.int 0] :: (wk r [0] row).map tI) (-1) = some (tI (gone r [0] row)) := by rw [Cor.atI_last]; exact la
  simp [startE, e, hz, hz2, la]
theorem sizes_ok {r : Rul} (h : RulOk r) {row : List Nat} (hr : RowOk row) : f_sizes [r.d', .str row] = .ret (tI (gone r [0] row)) false none := by
  unfold f_sizes
  rw [x_sem0]
  unfold m_sizes
  simp [startE, need_rule_ok h, need_row_ok hr, behind_ok h hr]
end HD
namespace HD
open PySem PySem.Spec L2 Cor
theorem cell_at (ns : List Int) : ∀ (k i : Nat), i < k → ∃ n : Int, (ns.map Cor.D.int ++ List.replicate k (.int 0))[i]? = some (.int n) := fun k i hi => by
  by_cases h : i < ns.length
  · exact ⟨ns[i], by rw [List.getElem?_append_left (by simpa using h), List.getElem?_map, List.getElem?_eq_getElem h]; rfl⟩
  · refine ⟨0, ?_⟩
    rw [List.getElem?_append_right (by simpa using h), List.getElem?_replicate, if_pos (by simp; omega)]
theorem deck_at {ns : List Int} (hl : ns.length ≤ 63) (k : Nat) (hk : k ≤ 8) {i : Nat} (hi : i < k) {env : Cor.Env} (h0 : getS env 0 = .val (.lst (ns.map Cor.D.int))) (h1 : getS env 1 = .val (.int i)) :
    ∃ a b, eCall f__law_deck (aCons (eSub (eBin .Add (eVar 0) (eBin .Mult (eLst (aCons (eLit (.int 0)) aNil)) (eLit (.int (k : Nat))))) (eVar 1)) (aCons (eVar 1) aNil)) env = .ok (dk a b i) true env ∧ DkOk a b i i := by
  obtain ⟨n, hn⟩ := cell_at ns k i hi
  obtain ⟨a, b, hd, dk⟩ := deck_ok n i (by omega) i (by omega)
  have hz : ns.length + k ≤ 1000000 := by omega
  have hz2 : k ≤ 1000000 ∧ (k : Int) < 1000000 ∧ (-1000000 : Int) < k := by omega
  have fl : (List.replicate k [Cor.D.int 0]).flatten = List.replicate k (.int 0) := by
    clear hn hz hz2 hk hi
    induction k with
    | zero => rfl
    | succ k ih => rw [List.replicate_succ, List.flatten_cons, ih]; rfl
  refine ⟨a, b, ?_, dk⟩
  simp [h0, h1, hz, hz2, fl, Cor.atI_nat, hn, hd, -List.flatten_replicate_singleton]
theorem deck_atg {j : Nat} {ns : List Int} (hl : ns.length ≤ 63) (k : Nat) (hk : k ≤ 8) {i : Nat} (hi : i < k) {env : Cor.Env} (h0 : getS env 0 = .val (.lst (ns.map Cor.D.int))) (h1 : getS env j = .val (.int i)) :
    ∃ a b, eCall f__law_deck (aCons (eSub (eBin .Add (eVar 0) (eBin .Mult (eLst (aCons (eLit (.int 0)) aNil)) (eLit (.int (k : Nat))))) (eVar j)) (aCons (eVar j) aNil)) env = .ok (dk a b i) true env ∧ DkOk a b i i := by
  obtain ⟨n, hn⟩ := cell_at ns k i hi
  obtain ⟨a, b, hd, dk⟩ := deck_ok n i (by omega) i (by omega)
  have hz : ns.length + k ≤ 1000000 := by omega
  have hz2 : k ≤ 1000000 ∧ (k : Int) < 1000000 ∧ (-1000000 : Int) < k := by omega
  have fl : (List.replicate k [Cor.D.int 0]).flatten = List.replicate k (.int 0) := by
    clear hn hz hz2 hk hi
    induction k with
    | zero => rfl
    | succ k ih => rw [List.replicate_succ, List.flatten_cons, ih]; rfl
  refine ⟨a, b, ?_, dk⟩
  simp [h0, h1, hz, hz2, fl, Cor.atI_nat, hn, hd, -List.flatten_replicate_singleton]
end HD
namespace HD
open PySem PySem.Spec L2 Cor
theorem sum_nn : ∀ {xs : List Int}, (∀ x ∈ xs, 0 ≤ x) → 0 ≤ xs.sum
  | [], _ => by simp
  | x :: xs, h => by
    have := sum_nn (xs := xs) fun y hy => h y (List.mem_cons_of_mem _ hy)
    have := h x (List.mem_cons_self ..)
    rw [List.sum_cons]; omega
theorem sum_take : ∀ (k : Nat) {xs : List Int}, (∀ x ∈ xs, 0 ≤ x) → (xs.take k).sum ≤ xs.sum
  | 0, xs, h => by rw [List.take_zero]; exact sum_nn h
  | k + 1, [], _ => by simp
  | k + 1, x :: xs, h => by
    have := sum_take k (xs := xs) fun y hy => h y (List.mem_cons_of_mem _ hy)
    rw [List.take_succ_cons, List.sum_cons, List.sum_cons]; omega
theorem wiN_sum {r : Rul} : ∀ (n : Nat) {xs : List Int}, (∀ x ∈ xs, 0 ≤ x) → (wiN r n xs).sum ≤ xs.sum
  | 0, xs, _ => Int.le_refl _
  | n + 1, xs, h => by
    unfold wiN
    split
    · refine Int.le_trans (wiN_sum n fun y hy => h y ((List.dropLast_sublist xs).subset hy)) ?_
      rw [List.dropLast_eq_take]; exact sum_take _ h
    · exact Int.le_refl _
theorem trn_sum {r : Rul} {xs : List Int} (h : ∀ x ∈ xs, 0 ≤ x) : (trn r xs).sum ≤ xs.sum := by
  unfold trn
  rw [List.sum_cons]
  have := sum_take r.k.toNat h
  omega
theorem trn_nn {r : Rul} {xs : List Int} (h : ∀ x ∈ xs, 0 ≤ x) : ∀ x ∈ trn r xs, 0 ≤ x := fun y hy => by
  unfold trn at hy
  rcases List.mem_cons.mp hy with rfl | hy
  · omega
  · exact h y (List.mem_of_mem_take hy)
theorem mv2_sum {l : Int} {xs : List Int} (h : xs ≠ []) : (mv2 l xs).sum = xs.sum + l := by
  obtain ⟨x, t, rfl⟩ := List.exists_cons_of_ne_nil h
  unfold mv2
  simp only [hd_cons, List.tail_cons, List.sum_cons]
  omega
theorem mv_sum {r : Rul} {xs : List Int} (z : Sz r xs) {c : Nat} (hc : Ev c) : (mv r xs c).sum ≤ xs.sum + mo c := by
  have nn : ∀ x ∈ xs, 0 ≤ x := fun x hx => (z.bd x hx).1
  have mm := mor_12 (c := c)
  unfold mv wi
  refine Int.le_trans (wiN_sum _ ?_) ?_
  · split
    · unfold mv0; split
      · exact trn_nn nn
      · exact nn
    · have n1 : ∀ x ∈ mv1 r (mor c) xs, 0 ≤ x := by unfold mv1; split; exact trn_nn nn; exact nn
      have n2 : ∀ x ∈ mv2 (mor c) (mv1 r (mor c) xs), 0 ≤ x := fun x hx => by
        unfold mv2 at hx
        rcases List.mem_cons.mp hx with rfl | hx
        · have : 0 ≤ hd (mv1 r (mor c) xs) := by
            unfold hd
            cases q : mv1 r (mor c) xs with
            | nil => simp
            | cons y ys => exact n1 y (by rw [q]; exact List.mem_cons_self ..)
          omega
        · exact n1 x (List.mem_of_mem_tail hx)
      unfold mv3; split
      · exact trn_nn n2
      · exact n2
  · by_cases h45 : c = 45
    · subst h45
      rw [if_pos rfl]
      have : mo 45 = 0 := rfl
      unfold mv0; split
      · have := trn_sum (r := r) nn; omega
      · omega
    · rw [if_neg h45]
      have hm : mo c = mor c := if_neg h45
      have n1 : ∀ x ∈ mv1 r (mor c) xs, 0 ≤ x := by unfold mv1; split; exact trn_nn nn; exact nn
      have e1 : mv1 r (mor c) xs ≠ [] := by
        unfold mv1; split
        · unfold trn; simp
        · exact z.ne
      have s1 : (mv1 r (mor c) xs).sum ≤ xs.sum := by unfold mv1; split; exact trn_sum nn; exact Int.le_refl _
      have n2 : ∀ x ∈ mv2 (mor c) (mv1 r (mor c) xs), 0 ≤ x := fun x hx => by
        unfold mv2 at hx
        rcases List.mem_cons.mp hx with rfl | hx
        · have : 0 ≤ hd (mv1 r (mor c) xs) := by
            unfold hd
            cases q : mv1 r (mor c) xs with
            | nil => simp
            | cons y ys => exact n1 y (by rw [q]; exact List.mem_cons_self ..)
          omega
        · exact n1 x (List.mem_of_mem_tail hx)
      have s2 := mv2_sum (l := mor c) e1
      unfold mv3; split
      · have := trn_sum (r := r) n2; omega
      · omega
/-- the lines that a row writes -/
def wr (s : List Nat) : Int := (s.map mo).sum
theorem wr_snoc {s : List Nat} {c : Nat} : wr (s ++ [c]) = wr s + mo c := by simp [wr]
theorem gone_snoc {r : Rul} {xs : List Int} {s : List Nat} {c : Nat} : gone r xs (s ++ [c]) = mv r (gone r xs s) c := by simp [gone]
theorem gone_sum {r : Rul} (h : RulOk r) : ∀ (s : List Nat) {xs : List Int}, Sz r xs → (∀ c ∈ s, Ev c) → (gone r xs s).sum ≤ xs.sum + wr s
  | [], xs, _, _ => by simp [gone, wr]
  | c :: s, xs, z, hv => by
    have h1 := mv_sum z (hv c (List.mem_cons_self ..))
    have h2 := gone_sum h s (z.mv h c) fun d hd => hv d (List.mem_cons_of_mem _ hd)
    have e : wr (c :: s) = mo c + wr s := by simp [wr]
    have e2 : gone r xs (c :: s) = gone r (mv r xs c) s := rfl
    rw [e2, e]; omega
theorem wr_count : ∀ {s : List Nat}, (∀ c ∈ s, Ev c) → ((s.filter fun x => x == 97).length : Int) + 2 * ((s.filter fun x => x == 98).length : Int) = wr s
  | [], _ => rfl
  | c :: s, h => by
    have ih := wr_count (s := s) fun d hd => h d (List.mem_cons_of_mem _ hd)
    have e : wr (c :: s) = mo c + wr s := by simp [wr]
    rw [e]
    rcases h c (List.mem_cons_self ..) with rfl | rfl | rfl <;> simp [mo, mor] <;> omega
end HD
namespace HD
open PySem PySem.Spec L2 Cor
theorem need_number_ok {n lo hi : Int} (h1 : lo ≤ n) (h2 : n ≤ hi) : f_need_number [.int n, .int lo, .int hi] = .ret .non false none := by
  have e := is_from_ok (v := .int n) (lo := lo) (hi := hi) rfl
  unfold f_need_number
  rw [x_sem0]
  unfold m_need_number
  simp [startE, e, isFrom, h1, h2]
theorem need_number_bad {v : Cor.D} {lo hi : Int} (hv : v.plain = true) (h : isFrom v lo hi = false) : f_need_number [v, .int lo, .int hi] = .exc ⟨"InvalidNumber", []⟩ none := by
  have e := is_from_ok (v := v) (lo := lo) (hi := hi) hv
  unfold f_need_number
  rw [x_sem0]
  unfold m_need_number
  simp [startE, e, h]
end HD
namespace HD
open PySem PySem.Spec L2 Cor
theorem lines_ok {c : Nat} (h : Ev c) : f_lines_of [.str [c]] = .ret (.int (mo c)) false none := by
  unfold f_lines_of
  rw [x_sem0]
  unfold m_lines_of
  simp [startE, ix_ev h]
end HD
namespace HD
open PySem PySem.Spec L2 Cor
theorem so_ev {r : Rul} (h : RulOk r) {x : List Nat × List Int} (z : Sz r x.2) {a2 : Cor.Slot} {s : BS (List Int)} (q : BQ r s) {s5 s6 : Cor.Slot} (h5 : s5.nio = true) (h6 : s6.nio = true) :
    ∃ t5 t6, t5.nio = true ∧ t6.nio = true ∧ BQ r (((scA r x.2).map fun y => (x.1 ++ [y.1], y.2)).foldl addR s) ∧ forL (stepF (.nm 5) w_states_of_2) [.str [45], .str [97], .str [98]] [.val r.d', .own (dS tI s.1), a2, .own (frD s.2), .val (tI x.2), s5, s6] =
      .nx [.val r.d', .own (dS tI (((scA r x.2).map fun y => (x.1 ++ [y.1], y.2)).foldl addR s).1), a2, .own (frD (((scA r x.2).map fun y => (x.1 ++ [y.1], y.2)).foldl addR s).2), .val (tI x.2), t5, t6] := by
  obtain ⟨e', h1, q', t5, t6, k5, k6, rfl⟩ := for_fold (t := .nm 5) (ss := w_states_of_2) (fun c : Nat => Cor.D.str [c]) (fun s c => addR s (x.1 ++ [c], mv r x.2 c))
    (fun s e => BQ r s ∧ ∃ s5 s6, s5.nio = true ∧ s6.nio = true ∧ e = [.val r.d', .own (dS tI s.1), a2, .own (frD s.2), .val (tI x.2), s5, s6]) evs s [.val r.d', .own (dS tI s.1), a2, .own (frD s.2), .val (tI x.2), s5, s6] (fun s c e hc ⟨q, s5, s6, h5, h6, he⟩ => by
      have mo := moved_sz h z (ev_evs hc)
      have hl := q.len h
      have hl1 : s.1.length < 1000000 := by omega
      have hl2 : s.2.length < 1000000 := by have := q.ll; omega
      refine ⟨[.val r.d', .own (dS tI s.1), a2, .own (frD s.2), .val (tI x.2), .val (.str [c]), s6], by rw [he]; simp [h5], ?_⟩
      unfold w_states_of_2
      refine ⟨[.val r.d', .own (dS tI (addR s (x.1 ++ [c], mv r x.2 c)).1), a2, .own (frD (addR s (x.1 ++ [c], mv r x.2 c)).2), .val (tI x.2), .val (.str [c]), .val (tI (mv r x.2 c))], .inl ?_, q.add (z.mv h c), _, _, rfl, rfl, rfl⟩
      unfold addR
      by_cases hk : mv r x.2 c ∈ s.1
      · simp [mo, h6, hk]
      · simp [mo, h6, hk, hl1, hl2, sput]) ⟨q, s5, s6, h5, h6, rfl⟩
  have e : evs.foldl (fun s c => addR s (x.1 ++ [c], mv r x.2 c)) s = ((scA r x.2).map fun y => (x.1 ++ [y.1], y.2)).foldl addR s := by
    unfold scA
    rw [List.map_map, List.foldl_map]; rfl
  rw [e] at h1 q'
  exact ⟨t5, t6, k5, k6, q', h1⟩
theorem so_lvl {r : Rul} (h : RulOk r) {s : BS (List Int)} (q : BQ r s) {s4 s5 s6 : Cor.Slot} (h4 : s4.nio = true) (h5 : s5.nio = true) (h6 : s6.nio = true) :
    ∃ t4 t5 t6, t4.nio = true ∧ t5.nio = true ∧ t6.nio = true ∧ forL (stepF (.nm 4) w_states_of_1) (s.2.map fun x => tI x.2) [.val r.d', .own (dS tI s.1), .val (frD s.2), .own (.lst []), s4, s5, s6] =
      .nx [.val r.d', .own (dS tI (lvl (scA r) s).1), .val (frD s.2), .own (frD (lvl (scA r) s).2), t4, t5, t6] := by
  obtain ⟨e', h1, q', t4, t5, t6, k4, k5, k6, rfl⟩ := for_fold (t := .nm 4) (ss := w_states_of_1) (fun x : List Nat × List Int => tI x.2) (fun s x => ((scA r x.2).map fun y => (x.1 ++ [y.1], y.2)).foldl addR s)
    (fun u e => BQ r u ∧ ∃ s4 s5 s6, s4.nio = true ∧ s5.nio = true ∧ s6.nio = true ∧ e = [.val r.d', .own (dS tI u.1), .val (frD s.2), .own (frD u.2), s4, s5, s6]) s.2 (s.1, []) _ (fun u x e hx ⟨qu, s4, s5, s6, h4, h5, h6, he⟩ => by
      obtain ⟨t5, t6, k5, k6, qk, k⟩ := so_ev h (x := x) (q.sz _ (q.lk x hx)) (a2 := .val (frD s.2)) qu h5 h6
      refine ⟨[.val r.d', .own (dS tI u.1), .val (frD s.2), .own (frD u.2), .val (tI x.2), s5, s6], by rw [he]; simp [h4], ?_⟩
      unfold w_states_of_1
      exact ⟨_, .inl (by simp [-forL_step]; rw [k]; exact bK_nx), qk, _, _, _, rfl, k5, k6, rfl⟩) ⟨q.next, s4, s5, s6, h4, h5, h6, rfl⟩
  rw [edg_fold, lvl_fold] at h1
  exact ⟨t4, t5, t6, k4, k5, k6, h1⟩
/-- all sizes that there can be -/
def sts (r : Rul) : List (List Int) := (bfs (scA r) 800 ([[0]], [([], [0])])).1
theorem sts_mem {r : Rul} (h : RulOk r) {a : List Int} : a ∈ sts r ↔ ∃ row, Rc (scA r) [0] row a :=
  (Inv.bfs 800 Inv.start).all (bfs_end (rc_many h (scA_sz h)) 800 Inv.start (by decide))
theorem sts_nd {r : Rul} : (sts r).Nodup := (Inv.bfs (sc := scA r) 800 Inv.start).nd
theorem sts_sz {r : Rul} (h : RulOk r) {a : List Int} (ha : a ∈ sts r) : Sz r a := ((sts_mem h).mp ha).elim fun _ hr => rc_sz h (scA_sz h) hr
theorem sts_len {r : Rul} (h : RulOk r) : (sts r).length ≤ 781 := Sz.many h sts_nd fun _ ha => sts_sz h ha
theorem sts_zero {r : Rul} (h : RulOk r) : [0] ∈ sts r := (sts_mem h).mpr ⟨[], .nil⟩
theorem rc_gone {r : Rul} {row : List Nat} (hv : ∀ c ∈ row, Ev c) : Rc (scA r) [0] row (gone r [0] row) := by
  have key : ∀ n (row : List Nat), row.length = n → (∀ c ∈ row, Ev c) → Rc (scA r) [0] row (gone r [0] row) := fun n => by
    induction n with
    | zero =>
      intro row hl _
      have : row = [] := List.length_eq_zero_iff.mp hl
      subst this
      exact .nil
    | succ n ih =>
      intro row hl hv
      have hn : row ≠ [] := fun e => by subst e; simp at hl
      have e := List.dropLast_concat_getLast hn
      have h1 := ih row.dropLast (by rw [List.length_dropLast]; omega) fun d hd => hv d ((List.dropLast_sublist row).subset hd)
      rw [← e]
      have h2 := hv _ (List.getLast_mem hn)
      generalize row.getLast hn = c at *
      have eg : gone r [0] (row.dropLast ++ [c]) = mv r (gone r [0] row.dropLast) c := by simp [gone]
      rw [eg]
      refine .snoc h1 (List.mem_map.mpr ⟨c, ?_, rfl⟩)
      rcases h2 with rfl | rfl | rfl <;> simp [evs]
  exact key _ row rfl hv
theorem rc_row {r : Rul} {row : List Nat} {a : List Int} (h : Rc (scA r) [0] row a) : gone r [0] row = a ∧ ∀ c ∈ row, Ev c := by
  induction h with
  | nil => exact ⟨rfl, by simp⟩
  | @snoc row a b c _ hm ih =>
    obtain ⟨d, hd, e⟩ := List.mem_map.mp hm
    cases e
    refine ⟨?_, fun x hx => ?_⟩
    · rw [← ih.1]; simp [gone]
    · rcases List.mem_append.mp hx with hx | hx
      · exact ih.2 x hx
      · simp only [List.mem_singleton] at hx; rw [hx]; exact ev_evs hd
theorem states_of_ok {r : Rul} (h : RulOk r) : f_states_of [r.d'] = .ret (.tup ((sts r).map tI)) false none := by
  obtain ⟨e', h1, q', s2, s3, s4, s5, s6, h2, h3, h4, h5, h6, rfl⟩ := whl_run (mc := v_states_of_0) (ms := w_states_of_0) lvC (lvl (scA r))
    (fun s e => BQ r s ∧ ∃ s2 s3 s4 s5 s6, (s2 = .val (frD s.2) ∨ s2 = .own (frD s.2)) ∧ s3.nio = true ∧ s4.nio = true ∧ s5.nio = true ∧ s6.nio = true ∧ e = [.val r.d', .own (dS tI s.1), s2, s3, s4, s5, s6])
    (fun s e ⟨q, s2, s3, s4, s5, s6, h2, h3, h4, h5, h6, he⟩ => by
      obtain ⟨t4, t5, t6, k4, k5, k6, k⟩ := so_lvl h q h4 h5 h6
      refine ⟨false, [.val r.d', .own (dS tI s.1), .val (frD s.2), s3, s4, s5, s6], ?_, fun _ => ⟨[.val r.d', .own (dS tI (lvl (scA r) s).1), .val (frD (lvl (scA r) s).2), .val (frD (lvl (scA r) s).2), t4, t5, t6], .inl ?_, q.lvl (scA_sz h), _, _, _, _, _, .inl rfl, rfl, k4, k5, k6, rfl⟩, fun _ => ⟨q, _, _, _, _, _, .inl rfl, h3, h4, h5, h6, rfl⟩⟩
      · rw [he]; unfold v_states_of_0 lvC
        rcases h2 with rfl | rfl <;> simp [-cmpD_ne]
      · unfold w_states_of_0
        simp [h3]
        rw [k]
        simp)
    800 ([[0]], [([], [0])]) [.val r.d', .own (dS tI [[0]]), .own (frD [([], [0])]), .no, .no, .no, .no] ⟨BQ.start h, _, _, _, _, _, .inr rfl, rfl, rfl, rfl, rfl, rfl⟩ (by
      have := bfs_end (rc_many h (scA_sz h)) 800 Inv.start (by decide)
      unfold bfs at this
      simp [lvC, this])
  have hu := sts_len h
  have hu2 : (sts r).length ≤ 1000000 := by omega
  unfold f_states_of
  rw [x_sem0]
  unfold m_states_of
  rw [b_step (e1 := [.val r.d', .own (dS tI [[0]]), .own (frD [([], [0])]), .no, .no, .no, .no]) (by simp [startE]), b_step h1]
  have hfold : (runW lvC (lvl (scA r)) 800 ([[0]], [([], [0])])).1 = sts r := rfl
  rw [hfold]
  simp [hu2]
/-! sorted -/
def ssz (K : List (List Int)) : List (List Int) := K.mergeSort fun a b => leD (tI a) (tI b)
theorem ssz_perm {K : List (List Int)} : (ssz K).Perm K := List.mergeSort_perm K _
theorem srt_ssz {K : List (List Int)} : srtD (K.map tI) = (ssz K).map tI := (List.map_mergeSort (f := tI) (fun a _ b _ => rfl)).symm
theorem pys_tI {xs : List Int} : (tI xs).py = .tuple (xs.map PyData.int) := by
  show PyData.tuple (pys (xs.map Cor.D.int)) = _
  rw [pys_eq, List.map_map]; rfl
theorem srt_tI {K : List (List Int)} (h0 : ∀ a ∈ K, a ≠ []) (h1 : K.length ≤ 1000000) : srtOk (K.map tI) = true := by
  unfold srtOk
  rw [oks_tI, pys_eq, List.map_map]
  simp only [Bool.true_and, Bool.and_eq_true, Bool.or_eq_true, decide_eq_true_eq, List.length_map]
  refine ⟨⟨?_, .inl ?_⟩, h1⟩
  · refine List.all_eq_true.mpr fun a ha => List.all_eq_true.mpr fun b hb => ?_
    obtain ⟨x, _, rfl⟩ := List.mem_map.mp ha
    obtain ⟨y, _, rfl⟩ := List.mem_map.mp hb
    show PySem.W.alike (tI x).py (tI y).py = true
    rw [pys_tI, pys_tI]
    have := PySem.W.alike_ints x y
    simpa [PySem.W.alike] using this
  · refine List.all_eq_true.mpr fun a ha => ?_
    obtain ⟨x, hx, rfl⟩ := List.mem_map.mp ha
    show okTp (tI x).py = true
    rw [pys_tI]
    obtain ⟨i, t, rfl⟩ := List.exists_cons_of_ne_nil (h0 x hx)
    rfl
end HD
set_option Elab.async false
set_option linter.all false
set_option maxRecDepth 100000
set_option maxHeartbeats 4000000
namespace HD
open PySem PySem.Spec L2 Cor
/-! pairs of sizes and a number of lines -/
abbrev LP := List Int × Int
abbrev pD (p : LP) : Cor.D := .tup [tI p.1, .int p.2]
theorem eqv_pD {p q : LP} : Cor.D.eqv (pD p) (pD q) = decide (p = q) := by
  obtain ⟨a, n⟩ := p
  obtain ⟨b, m⟩ := q
  rw [eqv_tup, eqvs_cons, eqv_tI, eqvs_cons, eqv_int]
  by_cases h1 : a = b <;> by_cases h2 : n = m <;> simp [h1, h2]
theorem ky_pD (p : LP) : keyB true (pD p) = true := by
  rw [keyB_tup]
  have : okK 7 (tI p.1) = true := by
    show (p.1.map Cor.D.int).all (okK 6) = true
    rw [List.all_map]; exact List.all_eq_true.mpr fun i _ => okK_int
  simp only [List.all_cons, List.all_nil, Bool.and_true, this, Bool.true_and]
  exact okK_int
instance : Key pD := { eq := fun a b => eqv_pD, ky := ky_pD }
theorem ok_pD {n : Nat} {p : LP} : Cor.D.okN (n + 2) (pD p) = true := by
  rw [okN_tup]
  simp only [List.all_cons, List.all_nil, Bool.and_true, ok_tI, okN_int]
theorem oks_pD {n : Nat} {L : List LP} : (L.map pD).all (Cor.D.okN (n + 2)) = true := by
  rw [List.all_map]; exact List.all_eq_true.mpr fun i _ => ok_pD
theorem cmp_pDs {L : List LP} : cmpD .Eq (.lst (L.map pD)) (.lst []) = some (decide (L = [])) := by
  rw [cmpD_eq, okN_lst, okN_lst, oks_pD]
  cases L <;> simp
theorem sz_sum {r : Rul} (h : RulOk r) {xs : List Int} (z : Sz r xs) : xs.sum ≤ 16 := by
  have hs : ∀ l : List Int, (∀ x ∈ l, 0 ≤ x ∧ x ≤ 4) → l.sum ≤ 4 * l.length := fun l => by
    induction l with
    | nil => intro _; simp
    | cons x l ih =>
      intro h
      have := ih fun y hy => h y (List.mem_cons_of_mem _ hy)
      have := h x (List.mem_cons_self ..)
      rw [List.sum_cons, List.length_cons]; omega
  have := hs _ z.bd
  have := z.ln
  have := h.k3
  omega
theorem wr_rep : ∀ n, wr (List.replicate n 97) = (n : Int)
  | 0 => rfl
  | n + 1 => by
    have : wr (97 :: List.replicate n 97) = mo 97 + wr (List.replicate n 97) := by simp [wr]
    rw [List.replicate_succ, this, wr_rep n, mo97]; omega
theorem scM_len {r : Rul} {a : List Int} : (scM r a).length = 3 := rfl
theorem rc_next {r : Rul} {a b : List Int} (h : ∃ row, Rc (scA r) [0] row a) (hb : b ∈ scM r a) : ∃ row, Rc (scA r) [0] row b := by
  obtain ⟨c, hc, rfl⟩ := List.mem_map.mp hb
  obtain ⟨row, hr⟩ := h
  exact ⟨row ++ [c], .snoc hr (List.mem_map.mpr ⟨c, hc, rfl⟩)⟩

/-! ### a search by a stack -/
def mn (n l : Int) : Int := if l < n then l else n
/-- one event on: the node behind it, and whether a line is lost. A node that lost one has 40. -/
def nx (r : Rul) (p : LP) (c : Nat) : LP := if (mv r p.1 c).sum < mn 40 (p.2 + mo c) then (mv r p.1 c, 40) else (mv r p.1 c, p.2 + mo c)
def nl (r : Rul) (p : LP) (c : Nat) : Bool := decide ((mv r p.1 c).sum < mn 40 (p.2 + mo c))
structure DS where
  K : List LP
  L : List LP
  B : List Int
def dev (r : Rul) (p : LP) (s : DS) (c : Nat) : DS :=
  ⟨if nx r p c ∈ s.K then s.K else s.K ++ [nx r p c], if nx r p c ∈ s.K then s.L else s.L ++ [nx r p c], if nl r p c = true then s.B ++ [(mv r p.1 c).sum] else s.B⟩
def dpop (s : DS) : DS := ⟨s.K, s.L.dropLast, s.B⟩
def dst (r : Rul) (s : DS) : DS := match s.L.getLast? with
  | none => s
  | some p => evs.foldl (dev r p) (dpop s)
def dC (s : DS) : Bool := !decide (s.L = [])
def zN : LP := ([0], 0)
def d0 : DS := ⟨[zN], [zN], []⟩
/-- what a node is -/
structure Nd (r : Rul) (p : LP) : Prop where
  sz : Sz r p.1
  st : p.1 ∈ sts r
  tt : p.2 = 40 ∨ (0 ≤ p.2 ∧ p.2 ≤ p.1.sum)
theorem mv_sts {r : Rul} (h : RulOk r) {a : List Int} (ha : a ∈ sts r) {c : Nat} (hc : c ∈ evs) : mv r a c ∈ sts r :=
  (sts_mem h).mpr (rc_next ((sts_mem h).mp ha) (List.mem_map.mpr ⟨c, hc, rfl⟩))
theorem Nd.nx {r : Rul} (h : RulOk r) {p : LP} (n : Nd r p) {c : Nat} (hc : c ∈ evs) : Nd r (nx r p c) := by
  have bb := mo_bd (c := c)
  have z := n.sz.mv h c
  have ss := sz_sum h n.sz
  have s0 := sum_nn fun x hx => (z.bd x hx).1
  unfold HD.nx
  split
  · exact ⟨z, mv_sts h n.st hc, .inl rfl⟩
  · rename_i q
    refine ⟨z, mv_sts h n.st hc, .inr ?_⟩
    unfold mn at q
    dsimp only
    rcases n.tt with e | ⟨a, b⟩
    · rw [e] at q ⊢
      have := sz_sum h z
      split at q <;> omega
    · split at q <;> omega
theorem Nd.z {r : Rul} (h : RulOk r) : Nd r zN := ⟨Sz.zero h, sts_zero h, .inr ⟨by decide, by decide⟩⟩
/-- what holds of the search -/
structure DI (r : Rul) (s : DS) : Prop where
  nd : s.K.Nodup
  nk : ∀ p ∈ s.K, Nd r p
  lk : ∀ p ∈ s.L, p ∈ s.K
  ll : s.L.length ≤ s.K.length
  bl : s.B.length ≤ 3 * (s.K.length - s.L.length)
  bs : ∀ b ∈ s.B, ∃ a ∈ sts r, b = a.sum
  z0 : zN ∈ s.K
  cl : ∀ p ∈ s.K, p ∈ s.L ∨ ∀ c ∈ evs, nx r p c ∈ s.K ∧ (nl r p c = true → (mv r p.1 c).sum ∈ s.B)
/-- while the events of a popped node are gone through -/
structure DJ (r : Rul) (k : Nat) (p : LP) (ds : List Nat) (s : DS) : Prop where
  nd : s.K.Nodup
  nk : ∀ p ∈ s.K, Nd r p
  lk : ∀ p ∈ s.L, p ∈ s.K
  dl : s.K.length - s.L.length = k
  ll : s.L.length ≤ s.K.length
  bl : s.B.length ≤ 3 * (k - 1) + ds.length
  bs : ∀ b ∈ s.B, ∃ a ∈ sts r, b = a.sum
  z0 : zN ∈ s.K
  pk : p ∈ s.K
  dn : ∀ c ∈ ds, nx r p c ∈ s.K ∧ (nl r p c = true → (mv r p.1 c).sum ∈ s.B)
  cl : ∀ q ∈ s.K, q = p ∨ q ∈ s.L ∨ ∀ c ∈ evs, nx r q c ∈ s.K ∧ (nl r q c = true → (mv r q.1 c).sum ∈ s.B)
theorem nd_few {r : Rul} (h : RulOk r) {K : List LP} (hn : K.Nodup) (hk : ∀ p ∈ K, Nd r p) : K.length ≤ 32021 := by
  have := nd_len (u := (un 4).flatMap fun a => (List.range 41).map fun i : Nat => ((a, (i : Int)) : LP)) hn fun p hp => by
    have n := hk p hp
    have := sz_sum h n.sz
    refine List.mem_flatMap.mpr ⟨p.1, Sz.un h n.sz, List.mem_map.mpr ⟨p.2.toNat, by rw [List.mem_range]; rcases n.tt with e | e <;> omega, ?_⟩⟩
    rw [show ((p.2.toNat : Nat) : Int) = p.2 by rcases n.tt with e | e <;> omega]
  refine Nat.le_trans this ?_
  rw [List.length_flatMap]
  simp only [List.length_map, List.length_range, List.map_const', List.sum_replicate_nat, un_len]
  decide
theorem DJ.ev {r : Rul} (h : RulOk r) {k : Nat} {p : LP} {ds : List Nat} {s : DS} (q : DJ r k p ds s) {c : Nat} (hc : c ∈ evs) : DJ r k p (ds ++ [c]) (dev r p s c) := by
  have np := q.nk p q.pk
  have nn := np.nx h hc
  have inc : ∀ x ∈ s.K, x ∈ (dev r p s c).K := fun x hx => by
    unfold dev; dsimp only
    split
    · exact hx
    · exact List.mem_append_left _ hx
  have inb : ∀ x ∈ s.B, x ∈ (dev r p s c).B := fun x hx => by
    unfold dev; dsimp only
    split
    · exact List.mem_append_left _ hx
    · exact hx
  have inl : ∀ x ∈ s.L, x ∈ (dev r p s c).L := fun x hx => by
    unfold dev; dsimp only
    split
    · exact hx
    · exact List.mem_append_left _ hx
  have new : nx r p c ∈ (dev r p s c).K := by
    unfold dev; dsimp only
    split
    · assumption
    · exact List.mem_append_right _ (List.mem_singleton.mpr rfl)
  have lost : nl r p c = true → (mv r p.1 c).sum ∈ (dev r p s c).B := fun e => by
    unfold dev; dsimp only
    rw [if_pos e]
    exact List.mem_append_right _ (List.mem_singleton.mpr rfl)
  refine ⟨?_, fun x hx => ?_, fun x hx => ?_, ?_, ?_, ?_, fun b hb => ?_, inc _ q.z0, inc _ q.pk, fun d hd => ?_, fun x hx => ?_⟩
  · unfold dev; dsimp only
    split
    · exact q.nd
    · rename_i hn
      rw [List.nodup_append]
      exact ⟨q.nd, by simp, fun a ha b hb e => by simp only [List.mem_singleton] at hb; subst hb; subst e; exact hn ha⟩
  · unfold dev at hx; dsimp only at hx
    split at hx
    · exact q.nk x hx
    · rcases List.mem_append.mp hx with hx | hx
      · exact q.nk x hx
      · simp only [List.mem_singleton] at hx; rw [hx]; exact nn
  · unfold dev at hx ⊢; dsimp only at hx ⊢
    split at hx
    · rename_i hk; rw [if_pos hk]; exact q.lk x hx
    · rename_i hk
      rw [if_neg hk]
      rcases List.mem_append.mp hx with hx | hx
      · exact List.mem_append_left _ (q.lk x hx)
      · exact List.mem_append_right _ hx
  · have := q.dl
    have := q.ll
    unfold dev; dsimp only
    split
    · exact q.dl
    · simp only [List.length_append, List.length_cons, List.length_nil]; omega
  · have := q.ll
    unfold dev; dsimp only
    split
    · exact q.ll
    · simp only [List.length_append, List.length_cons, List.length_nil]; omega
  · have := q.bl
    unfold dev; dsimp only
    rw [List.length_append, List.length_singleton]
    split
    · rw [List.length_append, List.length_singleton]; omega
    · omega
  · unfold dev at hb; dsimp only at hb
    split at hb
    · rcases List.mem_append.mp hb with hb | hb
      · exact q.bs b hb
      · simp only [List.mem_singleton] at hb; exact ⟨_, mv_sts h np.st hc, hb⟩
    · exact q.bs b hb
  · rcases List.mem_append.mp hd with hd | hd
    · obtain ⟨a, b⟩ := q.dn d hd
      exact ⟨inc _ a, fun e => inb _ (b e)⟩
    · simp only [List.mem_singleton] at hd
      rw [hd]; exact ⟨new, lost⟩
  · by_cases hx' : x ∈ s.K
    · rcases q.cl x hx' with e | e | e
      · exact .inl e
      · exact .inr (.inl (inl _ e))
      · exact .inr (.inr fun d hd => ⟨inc _ (e d hd).1, fun w => inb _ ((e d hd).2 w)⟩)
    · refine .inr (.inl ?_)
      unfold dev at hx ⊢; dsimp only at hx ⊢
      split at hx
      · exact absurd hx hx'
      · rename_i hk
        rw [if_neg hk]
        rcases List.mem_append.mp hx with hx | hx
        · exact absurd hx hx'
        · exact List.mem_append_right _ hx
theorem DI.pop {r : Rul} {s : DS} (q : DI r s) {p : LP} (e : s.L.getLast? = some p) : DJ r (s.K.length - s.L.length + 1) p [] (dpop s) := by
  have hn : s.L ≠ [] := fun z => by rw [z] at e; cases e
  have el : s.L = s.L.dropLast ++ [p] := by
    rw [List.getLast?_eq_some_getLast hn] at e
    cases e
    exact (List.dropLast_concat_getLast hn).symm
  have len : s.L.length = s.L.dropLast.length + 1 := by
    have := congrArg List.length el
    simpa using this
  have hp : p ∈ s.K := q.lk p (by rw [el]; simp)
  have ll := q.ll
  refine ⟨q.nd, q.nk, fun x hx => q.lk x ((List.dropLast_sublist _).subset hx), ?_, ?_, ?_, q.bs, q.z0, hp, by simp, fun x hx => ?_⟩
  · show s.K.length - s.L.dropLast.length = _; omega
  · show s.L.dropLast.length ≤ _; have : (dpop s).K.length = s.K.length := rfl; omega
  · have := q.bl; show s.B.length ≤ _; simp only [List.length_nil]; omega
  · rcases q.cl x hx with e | e
    · rw [el] at e
      rcases List.mem_append.mp e with e | e
      · exact .inr (.inl e)
      · exact .inl (by simpa using e)
    · exact .inr (.inr e)
theorem DJ.done {r : Rul} {k : Nat} {p : LP} {s : DS} (q : DJ r k p evs s) (hk : 1 ≤ k) : DI r s ∧ s.K.length - s.L.length = k :=
  ⟨⟨q.nd, q.nk, q.lk, q.ll, by have := q.bl; have := q.dl; have : evs.length = 3 := rfl; omega, q.bs, q.z0, fun x hx => by
    rcases q.cl x hx with e | e | e
    · exact .inr (e ▸ q.dn)
    · exact .inl e
    · exact .inr e⟩, q.dl⟩
theorem DI.step {r : Rul} (h : RulOk r) {s : DS} (q : DI r s) (hc : dC s = true) : DI r (dst r s) ∧ (dst r s).K.length - (dst r s).L.length = s.K.length - s.L.length + 1 := by
  have hn : s.L ≠ [] := fun z => by simp [dC, z] at hc
  have e := List.getLast?_eq_some_getLast hn
  generalize s.L.getLast hn = p at e
  unfold dst
  rw [e]
  have j0 := q.pop e
  have j1 := j0.ev h (c := 45) (by simp [evs])
  have j2 := j1.ev h (c := 97) (by simp [evs])
  have j3 := j2.ev h (c := 98) (by simp [evs])
  exact j3.done (by omega)
theorem DI.start {r : Rul} (h : RulOk r) : DI r d0 := ⟨by simp [d0], fun p hp => by simp [d0] at hp; rw [hp]; exact Nd.z h, by simp [d0], by simp [d0], by simp [d0], by simp [d0], by simp [d0], fun p hp => .inl hp⟩
theorem d_end {r : Rul} (h : RulOk r) : ∀ (n : Nat) {s : DS}, DI r s → 32022 ≤ n + (s.K.length - s.L.length) → dC (runW dC (dst r) n s) = false ∧ DI r (runW dC (dst r) n s)
  | 0, s, q, hn => by
    have := nd_few h q.nd q.nk
    omega
  | n + 1, s, q, hn => by
    rw [runW]
    by_cases hc : dC s = true
    · rw [if_pos hc]
      obtain ⟨q2, e⟩ := q.step h hc
      exact d_end h n q2 (by rw [e]; omega)
    · rw [if_neg hc]
      exact ⟨by simpa using hc, q⟩
/-- the whole search -/
def dfs (r : Rul) : DS := runW dC (dst r) 32022 d0
theorem dfs_is {r : Rul} (h : RulOk r) : dC (dfs r) = false ∧ DI r (dfs r) := d_end h 32022 (DI.start h) (Nat.le_add_right _ _)
theorem dfs_cl {r : Rul} (h : RulOk r) {p : LP} (hp : p ∈ (dfs r).K) : ∀ c ∈ evs, nx r p c ∈ (dfs r).K ∧ (nl r p c = true → (mv r p.1 c).sum ∈ (dfs r).B) := by
  obtain ⟨e, q⟩ := dfs_is h
  have eL : (dfs r).L = [] := by simpa [dC] using e
  rcases q.cl p hp with z | z
  · rw [eL] at z; cases z
  · exact z
/-- a row's node -/
def nrow (r : Rul) (row : List Nat) : LP := row.foldl (nx r) zN
theorem nrow_snoc {r : Rul} {row : List Nat} {c : Nat} : nrow r (row ++ [c]) = nx r (nrow r row) c := by simp [nrow]
theorem snoc_ind {P : List Nat → Prop} (h0 : P []) (h1 : ∀ row c, P row → P (row ++ [c])) : ∀ row, P row := fun row => by
  have : ∀ n (row : List Nat), row.length = n → P row := fun n => by
    induction n with
    | zero => intro row hl; rw [List.length_eq_zero_iff.mp hl]; exact h0
    | succ n ih =>
      intro row hl
      have hn : row ≠ [] := fun e => by subst e; simp at hl
      rw [← List.dropLast_concat_getLast hn]
      exact h1 _ _ (ih _ (by rw [List.length_dropLast]; omega))
  exact this _ row rfl
theorem nrow_is {r : Rul} (h : RulOk r) : ∀ row : List Nat, (∀ c ∈ row, Ev c) → nrow r row ∈ (dfs r).K ∧ (nrow r row).1 = gone r [0] row ∧ ((nrow r row).2 = wr row ∧ wr row ≤ (gone r [0] row).sum ∨ (nrow r row).2 = 40 ∧ (gone r [0] row).sum ∈ (dfs r).B) :=
  snoc_ind (fun _ => ⟨(dfs_is h).2.z0, rfl, .inl ⟨by simp [nrow, zN, wr], by simp [gone, wr]⟩⟩) fun row c ih hv => by
    obtain ⟨i1, i2, i3⟩ := ih fun d hd => hv d (List.mem_append_left _ hd)
    have ev : Ev c := hv c (by simp)
    have hc : c ∈ evs := by rcases ev with rfl | rfl | rfl <;> simp [evs]
    obtain ⟨k1, k2⟩ := dfs_cl h i1 c hc
    have bb := mo_bd (c := c)
    have z := ((Sz.zero h).gone h row)
    have z2 := z.mv h c
    have s1 := sz_sum h z
    have s2 := sz_sum h z2
    have s0 := sum_nn fun x hx => (z2.bd x hx).1
    refine ⟨nrow_snoc ▸ k1, ?_, ?_⟩
    · rw [nrow_snoc, gone_snoc, ← i2]
      unfold nx
      split <;> rfl
    · rw [nrow_snoc, gone_snoc, wr_snoc]
      unfold nl at k2
      unfold nx
      rw [i2] at k2 ⊢
      by_cases q : (mv r (gone r [0] row) c).sum < mn 40 ((nrow r row).2 + mo c)
      · rw [if_pos q]
        exact .inr ⟨rfl, k2 (decide_eq_true q)⟩
      · rw [if_neg q]
        unfold mn at q
        rcases i3 with ⟨a, b⟩ | ⟨a, b⟩
        · rw [a] at q ⊢
          refine .inl ⟨rfl, ?_⟩
          split at q <;> omega
        · rw [a] at q
          split at q <;> omega
theorem B_ne {r : Rul} (h : RulOk r) : (dfs r).B ≠ [] := fun e => by
  obtain ⟨_, _, i⟩ := nrow_is h (List.replicate 17 97) fun c hc => by rw [(List.mem_replicate.mp hc).2]; exact .inr (.inl rfl)
  have := sz_sum h ((Sz.zero h).gone h (List.replicate 17 97))
  rw [wr_rep, e] at i
  rcases i with ⟨_, b⟩ | ⟨_, b⟩
  · omega
  · cases b
theorem B_le {r : Rul} (h : RulOk r) : ∀ b ∈ (dfs r).B, 0 ≤ b ∧ b ≤ 16 := fun b hb => by
  obtain ⟨a, ha, e⟩ := (dfs_is h).2.bs b hb
  have z := sts_sz h ha
  have := sz_sum h z
  have := sum_nn fun x hx => (z.bd x hx).1
  omega
/-- how many lines are always kept -/
def sur (r : Rul) : Int := (dfs r).B.foldl mn 40
theorem fold_mn_le : ∀ (B : List Int) (m : Int), B.foldl mn m ≤ m ∧ ∀ b ∈ B, B.foldl mn m ≤ b
  | [], m => ⟨Int.le_refl _, by simp⟩
  | x :: B, m => by
    obtain ⟨h1, h2⟩ := fold_mn_le B (mn m x)
    have : mn m x ≤ m ∧ mn m x ≤ x := by unfold mn; split <;> omega
    rw [List.foldl_cons]
    refine ⟨by omega, fun b hb => ?_⟩
    rcases List.mem_cons.mp hb with rfl | hb
    · omega
    · exact h2 b hb
theorem fold_mn_mem : ∀ (B : List Int) (m : Int), B.foldl mn m = m ∨ B.foldl mn m ∈ B
  | [], m => .inl rfl
  | x :: B, m => by
    rw [List.foldl_cons]
    rcases fold_mn_mem B (mn m x) with e | e
    · rw [e]
      unfold mn
      split
      · exact .inr (List.mem_cons_self ..)
      · exact .inl rfl
    · exact .inr (List.mem_cons_of_mem _ e)
theorem fold_mn_eq {B : List Int} {m m' : Int} (hn : B ≠ []) (h : ∀ b ∈ B, b ≤ m ∧ b ≤ m') : B.foldl mn m = B.foldl mn m' := by
  obtain ⟨x, hx⟩ := List.exists_mem_of_ne_nil B hn
  obtain ⟨a1, a2⟩ := fold_mn_le B m
  obtain ⟨b1, b2⟩ := fold_mn_le B m'
  have hxx := h x hx
  have c1 := a2 x hx
  have c2 := b2 x hx
  have p1 : B.foldl mn m' ≤ B.foldl mn m := by
    rcases fold_mn_mem B m with e | e
    · rw [e]; omega
    · exact b2 _ e
  have p2 : B.foldl mn m ≤ B.foldl mn m' := by
    rcases fold_mn_mem B m' with e | e
    · rw [e]; omega
    · exact a2 _ e
  omega
theorem minI_fold : ∀ (B : List Int), B ≠ [] → (∀ b ∈ B, b ≤ 40) → minI B = some (B.foldl mn 40)
  | B, hn, hb => by
    have ex : ∀ l : List Int, l ≠ [] → ∃ m, minI l = some m := fun l => by
      induction l with
      | nil => intro h; exact absurd rfl h
      | cons a l ih =>
        intro _
        cases l with
        | nil => exact ⟨a, rfl⟩
        | cons b l =>
          obtain ⟨m, e⟩ := ih (by simp)
          have nz : b :: l = [] → False := fun z => by cases z
          exact ⟨_, by show (minI (b :: l)).map _ = _; rw [e]; rfl⟩
    obtain ⟨m, e⟩ := ex B hn
    obtain ⟨m1, m2⟩ := minI_spec e
    obtain ⟨a1, a2⟩ := fold_mn_le B 40
    have p1 := a2 m m1
    have p2 : m ≤ B.foldl mn 40 := by
      rcases fold_mn_mem B 40 with q | q
      · rw [q]; exact hb m m1
      · exact m2 _ q
    rw [e, show m = B.foldl mn 40 by omega]
theorem sur_bd {r : Rul} (h : RulOk r) : 0 ≤ sur r ∧ sur r ≤ 16 := by
  rcases fold_mn_mem (dfs r).B 40 with e | e
  · obtain ⟨x, hx⟩ := List.exists_mem_of_ne_nil _ (B_ne h)
    have := (fold_mn_le (dfs r).B 40).2 x hx
    have := B_le h x hx
    unfold sur; omega
  · exact B_le h _ e
/-- a row keeps as many -/
theorem sur_row {r : Rul} (h : RulOk r) {row : List Nat} (hv : ∀ c ∈ row, Ev c) : mn (sur r) (wr row) ≤ (gone r [0] row).sum := by
  have hm : mn (sur r) (wr row) ≤ sur r ∧ mn (sur r) (wr row) ≤ wr row := by unfold mn; split <;> omega
  obtain ⟨_, _, i⟩ := nrow_is h row hv
  rcases i with ⟨_, b⟩ | ⟨_, b⟩
  · omega
  · have := (fold_mn_le (dfs r).B 40).2 _ b
    unfold sur at hm ⊢; omega
end HD
set_option Elab.async false
set_option linter.all false
set_option maxRecDepth 100000
set_option maxHeartbeats 4000000
namespace HD
open PySem PySem.Spec L2 Cor
/-- the program has its own number for a node that lost a line -/
def ps (M : Int) (p : LP) : LP := (p.1, if p.2 = 40 then M else p.2)
theorem ps_1 {M : Int} {p : LP} : (ps M p).1 = p.1 := rfl
theorem ps_inj {r : Rul} {M : Int} (hM : ∀ a ∈ sts r, a.sum < M) {p q : LP} (hp : Nd r p) (hq : Nd r q) (e : ps M p = ps M q) : p = q := by
  have a := hM _ hp.st
  have b := hM _ hq.st
  have e1 : p.1 = q.1 := by have := congrArg Prod.fst e; exact this
  have e2 : (if p.2 = 40 then M else p.2) = (if q.2 = 40 then M else q.2) := by have := congrArg Prod.snd e; exact this
  refine Prod.ext e1 ?_
  rw [e1] at a
  rcases hp.tt with u | ⟨u, v⟩ <;> rcases hq.tt with u' | ⟨u', v'⟩
  · omega
  · rw [if_pos u] at e2; split at e2 <;> omega
  · rw [if_pos u'] at e2; rw [e1] at v; split at e2 <;> omega
  · rw [e1] at v
    split at e2 <;> split at e2 <;> omega
theorem ps_mem {r : Rul} {M : Int} (hM : ∀ a ∈ sts r, a.sum < M) {q : LP} {K : List LP} (hK : ∀ p ∈ K, Nd r p) (hq : Nd r q) : ps M q ∈ K.map (ps M) ↔ q ∈ K :=
  ⟨fun h => by
    obtain ⟨p, hp, e⟩ := List.mem_map.mp h
    rw [← ps_inj hM (hK p hp) hq e]; exact hp, fun h => List.mem_map.mpr ⟨q, h, rfl⟩⟩
theorem ps_step {r : Rul} (h : RulOk r) {M : Int} (hM : ∀ a ∈ sts r, a.sum < M) (hM2 : M ≤ 17) {p : LP} (np : Nd r p) {c : Nat} (hc : c ∈ evs) :
    decide ((mv r p.1 c).sum < mn M ((ps M p).2 + mo c)) = nl r p c ∧ (nl r p c = false → (ps M (nx r p c)).2 = mn M ((ps M p).2 + mo c)) ∧ (nl r p c = true → (ps M (nx r p c)).2 = M) ∧ (nx r p c).1 = mv r p.1 c := by
  have bb := mo_bd (c := c)
  have y := hM _ (mv_sts h np.st hc)
  have x := hM _ np.st
  have z := sz_sum h (np.sz.mv h c)
  unfold nl nx ps
  rcases np.tt with e | ⟨a, b⟩
  · rw [if_pos e]
    have l1 : (mv r p.1 c).sum < mn 40 (p.2 + mo c) := by unfold mn; split <;> omega
    have l2 : (mv r p.1 c).sum < mn M (M + mo c) := by unfold mn; split <;> omega
    rw [if_pos l1, decide_eq_true l1, decide_eq_true l2]
    exact ⟨rfl, (fun z => by cases z), fun _ => by simp, rfl⟩
  · have n40 : ¬ p.2 = 40 := by omega
    rw [if_neg n40]
    by_cases l1 : (mv r p.1 c).sum < mn 40 (p.2 + mo c)
    · have l2 : (mv r p.1 c).sum < mn M (p.2 + mo c) := by unfold mn at l1 ⊢; split at l1 <;> split <;> omega
      rw [if_pos l1, decide_eq_true l1, decide_eq_true l2]
      exact ⟨rfl, (fun z => by cases z), fun _ => by simp, rfl⟩
    · have l2 : ¬ (mv r p.1 c).sum < mn M (p.2 + mo c) := by unfold mn at l1 ⊢; split at l1 <;> split <;> omega
      rw [if_neg l1, decide_eq_false l1, decide_eq_false l2]
      refine ⟨rfl, fun _ => ?_, (fun z => by cases z), rfl⟩
      dsimp only
      unfold mn at l1 ⊢
      split at l1 <;> split <;> split <;> omega
theorem sput_map {r : Rul} {M : Int} {K : List LP} {q : LP} (hk : q ∉ K) (hm : ps M q ∈ K.map (ps M) ↔ q ∈ K) : sput (K.map (ps M)) (ps M q) = (K ++ [q]).map (ps M) := by
  unfold sput
  rw [if_neg fun z => hk (hm.mp z), List.map_append]; rfl
/-! the program's -/
theorem su_one {r : Rul} (h : RulOk r) {M : Int} (hM : ∀ a ∈ sts r, a.sum < M) (hM2 : M ≤ 17) {k : Nat} {p : LP} {ds : List Nat} {s : DS} (q : DJ r k p ds s) {c : Nat} (hc : c ∈ evs) {s8 s9 : Cor.Slot} (h8 : s8.nio = true) (h9 : s9.nio = true) :
    ∃ t8 t9, t8.nio = true ∧ t9.nio = true ∧ w_sure_of_1 [.val r.d', .val (.int M), .own (dS pD (s.K.map (ps M))), .own (.lst ((s.L.map (ps M)).map pD)), .val (.int (s.B.foldl mn M)), .val (.str [c]), .val (tI p.1), .val (.int (ps M p).2), s8, s9] = .nx [.val r.d', .val (.int M), .own (dS pD (((dev r p s c)).K.map (ps M))), .own (.lst ((((dev r p s c)).L.map (ps M)).map pD)), .val (.int (((dev r p s c)).B.foldl mn M)), .val (.str [c]), .val (tI p.1), .val (.int (ps M p).2), t8, t9] := by
  have np := q.nk p q.pk
  have m1 := moved_sz h np.sz (ev_evs hc)
  have li := lines_ok (ev_evs hc)
  obtain ⟨d1, d2, d3, d4⟩ := ps_step h hM hM2 np hc
  have hk := ps_mem hM q.nk (np.nx h hc)
  have fw := nd_few h q.nd q.nk
  have hl1 : s.K.length < 1000000 := by omega
  have hl2 : s.L.length < 1000000 := by have := q.ll; omega
  have y : (ps M (nx r p c)).1 = mv r p.1 c := d4
  refine ⟨.val (tI (mv r p.1 c)), .val (.int (ps M (nx r p c)).2), rfl, rfl, ?_⟩
  unfold w_sure_of_1
  have b1 : sSet 8 (eCall f_moved (aCons (eVar 0) (aCons (eVar 6) (aCons (eVar 5) aNil)))) [.val r.d', .val (.int M), .own (dS pD (s.K.map (ps M))), .own (.lst ((s.L.map (ps M)).map pD)), .val (.int (s.B.foldl mn M)), .val (.str [c]), .val (tI p.1), .val (.int (ps M p).2), s8, s9] = .nx [.val r.d', .val (.int M), .own (dS pD (s.K.map (ps M))), .own (.lst ((s.L.map (ps M)).map pD)), .val (.int (s.B.foldl mn M)), .val (.str [c]), .val (tI p.1), .val (.int (ps M p).2), .val (tI (mv r p.1 c)), s9] := by simp [m1, h8]
  have b2 : sSet 9 (eMn2 (aCons (eVar 1) (aCons (eBin .Add (eVar 7) (eCall f_lines_of (aCons (eVar 5) aNil))) aNil))) [.val r.d', .val (.int M), .own (dS pD (s.K.map (ps M))), .own (.lst ((s.L.map (ps M)).map pD)), .val (.int (s.B.foldl mn M)), .val (.str [c]), .val (tI p.1), .val (.int (ps M p).2), .val (tI (mv r p.1 c)), s9] = .nx [.val r.d', .val (.int M), .own (dS pD (s.K.map (ps M))), .own (.lst ((s.L.map (ps M)).map pD)), .val (.int (s.B.foldl mn M)), .val (.str [c]), .val (tI p.1), .val (.int (ps M p).2), .val (tI (mv r p.1 c)), .val (.int (mn M ((ps M p).2 + mo c)))] := by simp [li, h9, mn]
  have c1 : eCmp .Gt (eVar 9) (eB1 .sum (eVar 8)) [.val r.d', .val (.int M), .own (dS pD (s.K.map (ps M))), .own (.lst ((s.L.map (ps M)).map pD)), .val (.int (s.B.foldl mn M)), .val (.str [c]), .val (tI p.1), .val (.int (ps M p).2), .val (tI (mv r p.1 c)), .val (.int (mn M ((ps M p).2 + mo c)))] = .ok (.bl (nl r p c)) false [.val r.d', .val (.int M), .own (dS pD (s.K.map (ps M))), .own (.lst ((s.L.map (ps M)).map pD)), .val (.int (s.B.foldl mn M)), .val (.str [c]), .val (tI p.1), .val (.int (ps M p).2), .val (tI (mv r p.1 c)), .val (.int (mn M ((ps M p).2 + mo c)))] := by
    rw [← d1]
    generalize mn M ((ps M p).2 + mo c) = T
    simp [sum_tI]
  have bfi : sIf (eCmp .Gt (eVar 9) (eB1 .sum (eVar 8))) (bCons (sSet 4 (eMn2 (aCons (eVar 4) (aCons (eB1 .sum (eVar 8)) aNil)))) (bCons (sSet 9 (eVar 1)) bNil)) bNil [.val r.d', .val (.int M), .own (dS pD (s.K.map (ps M))), .own (.lst ((s.L.map (ps M)).map pD)), .val (.int (s.B.foldl mn M)), .val (.str [c]), .val (tI p.1), .val (.int (ps M p).2), .val (tI (mv r p.1 c)), .val (.int (mn M ((ps M p).2 + mo c)))] = .nx [.val r.d', .val (.int M), .own (dS pD (s.K.map (ps M))), .own (.lst ((s.L.map (ps M)).map pD)), .val (.int ((dev r p s c).B.foldl mn M)), .val (.str [c]), .val (tI p.1), .val (.int (ps M p).2), .val (tI (mv r p.1 c)), .val (.int (ps M (nx r p c)).2)] := by
    cases hn : nl r p c with
    | false =>
      rw [hn] at c1
      rw [if_f c1, x_bNil, d2 hn]
      have : (dev r p s c).B = s.B := by unfold dev; rw [hn]; rfl
      rw [this]
    | true =>
      rw [hn] at c1
      have e1 : (dev r p s c).B.foldl mn M = mn (s.B.foldl mn M) (mv r p.1 c).sum := by unfold dev; rw [hn]; simp
      rw [if_t c1, b_step (e1 := [.val r.d', .val (.int M), .own (dS pD (s.K.map (ps M))), .own (.lst ((s.L.map (ps M)).map pD)), .val (.int ((dev r p s c).B.foldl mn M)), .val (.str [c]), .val (tI p.1), .val (.int (ps M p).2), .val (tI (mv r p.1 c)), .val (.int (mn M ((ps M p).2 + mo c)))]) ?_, b_step (e1 := [.val r.d', .val (.int M), .own (dS pD (s.K.map (ps M))), .own (.lst ((s.L.map (ps M)).map pD)), .val (.int ((dev r p s c).B.foldl mn M)), .val (.str [c]), .val (tI p.1), .val (.int (ps M p).2), .val (tI (mv r p.1 c)), .val (.int (ps M (nx r p c)).2)]) ?_, x_bNil]
      · rw [d3 hn]; simp
      · rw [e1]
        generalize s.B.foldl mn M = T
        generalize mn M ((ps M p).2 + mo c) = T2
        simp [sum_tI, mn]
  rw [b_step b1, b_step b2, b_step bfi]
  have c2 : eCmp .NotIn (eTup (aCons (eVar 8) (aCons (eVar 9) aNil))) (eRd 2) [.val r.d', .val (.int M), .own (dS pD (s.K.map (ps M))), .own (.lst ((s.L.map (ps M)).map pD)), .val (.int ((dev r p s c).B.foldl mn M)), .val (.str [c]), .val (tI p.1), .val (.int (ps M p).2), .val (tI (mv r p.1 c)), .val (.int (ps M (nx r p c)).2)] = .ok (.bl (!decide (nx r p c ∈ s.K))) false [.val r.d', .val (.int M), .own (dS pD (s.K.map (ps M))), .own (.lst ((s.L.map (ps M)).map pD)), .val (.int ((dev r p s c).B.foldl mn M)), .val (.str [c]), .val (tI p.1), .val (.int (ps M p).2), .val (tI (mv r p.1 c)), .val (.int (ps M (nx r p c)).2)] := by
    refine cmp2 (x := pD (ps M (nx r p c))) (y := dS pD (s.K.map (ps M))) (f1 := false) (f2 := false) (e1 := [.val r.d', .val (.int M), .own (dS pD (s.K.map (ps M))), .own (.lst ((s.L.map (ps M)).map pD)), .val (.int ((dev r p s c).B.foldl mn M)), .val (.str [c]), .val (tI p.1), .val (.int (ps M p).2), .val (tI (mv r p.1 c)), .val (.int (ps M (nx r p c)).2)]) (by simp; exact y.symm ▸ rfl) rfl ?_
    rw [nin_S]
    congr 2
    exact decide_eq_decide.mpr hk
  by_cases hin : nx r p c ∈ s.K
  · rw [decide_eq_true hin, Bool.not_true] at c2
    rw [b_if c2, x_bNil]
    have e1 : (dev r p s c).K = s.K := if_pos hin
    have e2 : (dev r p s c).L = s.L := if_pos hin
    rw [e1, e2]
  · rw [decide_eq_false hin, Bool.not_false] at c2
    have e1 : (dev r p s c).K = s.K ++ [nx r p c] := if_neg hin
    have e2 : (dev r p s c).L = s.L ++ [nx r p c] := if_neg hin
    have t1 : eTup (aCons (eVar 8) (aCons (eVar 9) aNil)) [.val r.d', .val (.int M), .own (dS pD (s.K.map (ps M))), .own (.lst ((s.L.map (ps M)).map pD)), .val (.int ((dev r p s c).B.foldl mn M)), .val (.str [c]), .val (tI p.1), .val (.int (ps M p).2), .val (tI (mv r p.1 c)), .val (.int (ps M (nx r p c)).2)] = .ok (pD (ps M (nx r p c))) false [.val r.d', .val (.int M), .own (dS pD (s.K.map (ps M))), .own (.lst ((s.L.map (ps M)).map pD)), .val (.int ((dev r p s c).B.foldl mn M)), .val (.str [c]), .val (tI p.1), .val (.int (ps M p).2), .val (tI (mv r p.1 c)), .val (.int (ps M (nx r p c)).2)] := by simp; exact y.symm ▸ rfl
    have t2 : eTup (aCons (eVar 8) (aCons (eVar 9) aNil)) [.val r.d', .val (.int M), .own (dS pD (sput (s.K.map (ps M)) (ps M (nx r p c)))), .own (.lst ((s.L.map (ps M)).map pD)), .val (.int ((dev r p s c).B.foldl mn M)), .val (.str [c]), .val (tI p.1), .val (.int (ps M p).2), .val (tI (mv r p.1 c)), .val (.int (ps M (nx r p c)).2)] = .ok (pD (ps M (nx r p c))) false [.val r.d', .val (.int M), .own (dS pD (sput (s.K.map (ps M)) (ps M (nx r p c)))), .own (.lst ((s.L.map (ps M)).map pD)), .val (.int ((dev r p s c).B.foldl mn M)), .val (.str [c]), .val (tI p.1), .val (.int (ps M p).2), .val (tI (mv r p.1 c)), .val (.int (ps M (nx r p c)).2)] := by simp; exact y.symm ▸ rfl
    have b3 : sStD 2 (eTup (aCons (eVar 8) (aCons (eVar 9) aNil))) (eLit (.bl true)) [.val r.d', .val (.int M), .own (dS pD (s.K.map (ps M))), .own (.lst ((s.L.map (ps M)).map pD)), .val (.int ((dev r p s c).B.foldl mn M)), .val (.str [c]), .val (tI p.1), .val (.int (ps M p).2), .val (tI (mv r p.1 c)), .val (.int (ps M (nx r p c)).2)] = .nx [.val r.d', .val (.int M), .own (dS pD (sput (s.K.map (ps M)) (ps M (nx r p c)))), .own (.lst ((s.L.map (ps M)).map pD)), .val (.int ((dev r p s c).B.foldl mn M)), .val (.str [c]), .val (tI p.1), .val (.int (ps M p).2), .val (tI (mv r p.1 c)), .val (.int (ps M (nx r p c)).2)] := by
      generalize eTup (aCons (eVar 8) (aCons (eVar 9) aNil)) = E at *
      simp [-List.map_map, t1, hl1]
    have b4 : sApp 3 (eTup (aCons (eVar 8) (aCons (eVar 9) aNil))) [.val r.d', .val (.int M), .own (dS pD (sput (s.K.map (ps M)) (ps M (nx r p c)))), .own (.lst ((s.L.map (ps M)).map pD)), .val (.int ((dev r p s c).B.foldl mn M)), .val (.str [c]), .val (tI p.1), .val (.int (ps M p).2), .val (tI (mv r p.1 c)), .val (.int (ps M (nx r p c)).2)] = .nx [.val r.d', .val (.int M), .own (dS pD (sput (s.K.map (ps M)) (ps M (nx r p c)))), .own (.lst ((s.L.map (ps M)).map pD ++ [pD (ps M (nx r p c))])), .val (.int ((dev r p s c).B.foldl mn M)), .val (.str [c]), .val (tI p.1), .val (.int (ps M p).2), .val (tI (mv r p.1 c)), .val (.int (ps M (nx r p c)).2)] := by
      generalize eTup (aCons (eVar 8) (aCons (eVar 9) aNil)) = E at *
      generalize dS pD (sput (s.K.map (ps M)) (ps M (nx r p c))) = DS at *
      simp [-List.map_map, t2, hl2]
    rw [x_bCons, if_t c2, b_step b3, b_step b4, x_bNil, bK_nx, x_bNil, e1, e2, ← sput_map (r := r) hin hk]
    simp
theorem su_body {r : Rul} (h : RulOk r) {M : Int} (hM : ∀ a ∈ sts r, a.sum < M) (hM2 : M ≤ 17) {s : DS} (q : DI r s) (hc : dC s = true) {s5 s6 s7 s8 s9 : Cor.Slot} (h5 : s5.nio = true) (h6 : s6.nio = true) (h7 : s7.nio = true) (h8 : s8.nio = true) (h9 : s9.nio = true) :
    ∃ t5 t6 t7 t8 t9, t5.nio = true ∧ t6.nio = true ∧ t7.nio = true ∧ t8.nio = true ∧ t9.nio = true ∧ w_sure_of_0 [.val r.d', .val (.int M), .own (dS pD (s.K.map (ps M))), .own (.lst ((s.L.map (ps M)).map pD)), .val (.int (s.B.foldl mn M)), s5, s6, s7, s8, s9] = .nx [.val r.d', .val (.int M), .own (dS pD (((dst r s)).K.map (ps M))), .own (.lst ((((dst r s)).L.map (ps M)).map pD)), .val (.int (((dst r s)).B.foldl mn M)), t5, t6, t7, t8, t9] := by
  have hn : s.L ≠ [] := fun z => by simp [dC, z] at hc
  have e := List.getLast?_eq_some_getLast hn
  generalize s.L.getLast hn = p at e
  have j0 := q.pop e
  have j1 := j0.ev h (c := 45) (by simp [evs])
  have j2 := j1.ev h (c := 97) (by simp [evs])
  obtain ⟨t8_1, t9_1, k8, k9, w1⟩ := su_one h hM hM2 j0 (c := 45) (by simp [evs]) h8 h9
  obtain ⟨t8_2, t9_2, l8, l9, w2⟩ := su_one h hM hM2 j1 (c := 97) (by simp [evs]) k8 k9
  obtain ⟨t8_3, t9_3, n8, n9, w3⟩ := su_one h hM hM2 j2 (c := 98) (by simp [evs]) l8 l9
  have gl : ((s.L.map (ps M)).map pD).getLast? = some (pD (ps M p)) := by rw [List.getLast?_map, List.getLast?_map, e]; rfl
  have dl : ((s.L.map (ps M)).map pD).dropLast = ((dpop s).L.map (ps M)).map pD := by rw [List.dropLast_eq_take, ← List.map_take, ← List.map_take]; simp [dpop, List.dropLast_eq_take]
  have pe : ePop 3 [.val r.d', .val (.int M), .own (dS pD (s.K.map (ps M))), .own (.lst ((s.L.map (ps M)).map pD)), .val (.int (s.B.foldl mn M)), s5, s6, s7, s8, s9] = .ok (pD (ps M p)) false [.val r.d', .val (.int M), .own (dS pD (s.K.map (ps M))), .own (.lst (((dpop s).L.map (ps M)).map pD)), .val (.int (s.B.foldl mn M)), s5, s6, s7, s8, s9] := by
    show (match ((s.L.map (ps M)).map pD).getLast? with | some d => RE.ok d false _ | none => .no) = _
    rw [gl]
    show RE.ok _ false (List.set [.val r.d', .val (.int M), .own (dS pD (s.K.map (ps M))), .own (.lst ((s.L.map (ps M)).map pD)), .val (.int (s.B.foldl mn M)), s5, s6, s7, s8, s9] 3 (.own (.lst ((s.L.map (ps M)).map pD).dropLast))) = _
    rw [dl]; rfl
  have b1 : sUnp (.tup [.nm 6, .nm 7]) (ePop 3) [.val r.d', .val (.int M), .own (dS pD (s.K.map (ps M))), .own (.lst ((s.L.map (ps M)).map pD)), .val (.int (s.B.foldl mn M)), s5, s6, s7, s8, s9] = .nx [.val r.d', .val (.int M), .own (dS pD (((dpop s)).K.map (ps M))), .own (.lst ((((dpop s)).L.map (ps M)).map pD)), .val (.int (((dpop s)).B.foldl mn M)), s5, .val (tI p.1), .val (.int (ps M p).2), s8, s9] := by
    rw [x_sUnp, pe]
    simp [h6, h7, dpop, ps_1]
  have ds : dst r s = dev r p (dev r p (dev r p (dpop s) 45) 97) 98 := by unfold dst; rw [e]; rfl
  refine ⟨.val (.str [98]), .val (tI p.1), .val (.int (ps M p).2), t8_3, t9_3, rfl, rfl, rfl, n8, n9, ?_⟩
  unfold w_sure_of_0
  rw [b_step b1]
  have fe : ∀ e : Cor.Env, sFor (iAny (eLit (.str [45, 97, 98]))) (.nm 5) w_sure_of_1 e = forL (stepF (.nm 5) w_sure_of_1) [.str [45], .str [97], .str [98]] e := fun e => by
    rw [x_sFor, x_iAny, x_eLit, iK_ok, anyI_str, if_pos (by decide), foK_ok]
    rfl
  rw [x_bCons, fe, forL_step, show asg (.nm 5) (.str [45]) [.val r.d', .val (.int M), .own (dS pD (((dpop s)).K.map (ps M))), .own (.lst ((((dpop s)).L.map (ps M)).map pD)), .val (.int (((dpop s)).B.foldl mn M)), s5, .val (tI p.1), .val (.int (ps M p).2), s8, s9] = some [.val r.d', .val (.int M), .own (dS pD (((dpop s)).K.map (ps M))), .own (.lst ((((dpop s)).L.map (ps M)).map pD)), .val (.int (((dpop s)).B.foldl mn M)), .val (.str [45]), .val (tI p.1), .val (.int (ps M p).2), s8, s9] by simp [h5], seK_ok, w1, feK_nx, forL_step, show asg (.nm 5) (.str [97]) [.val r.d', .val (.int M), .own (dS pD (((dev r p (dpop s) 45)).K.map (ps M))), .own (.lst ((((dev r p (dpop s) 45)).L.map (ps M)).map pD)), .val (.int (((dev r p (dpop s) 45)).B.foldl mn M)), .val (.str [45]), .val (tI p.1), .val (.int (ps M p).2), t8_1, t9_1] = some [.val r.d', .val (.int M), .own (dS pD (((dev r p (dpop s) 45)).K.map (ps M))), .own (.lst ((((dev r p (dpop s) 45)).L.map (ps M)).map pD)), .val (.int (((dev r p (dpop s) 45)).B.foldl mn M)), .val (.str [97]), .val (tI p.1), .val (.int (ps M p).2), t8_1, t9_1] by simp, seK_ok, w2, feK_nx, forL_step, show asg (.nm 5) (.str [98]) [.val r.d', .val (.int M), .own (dS pD (((dev r p (dev r p (dpop s) 45) 97)).K.map (ps M))), .own (.lst ((((dev r p (dev r p (dpop s) 45) 97)).L.map (ps M)).map pD)), .val (.int (((dev r p (dev r p (dpop s) 45) 97)).B.foldl mn M)), .val (.str [97]), .val (tI p.1), .val (.int (ps M p).2), t8_2, t9_2] = some [.val r.d', .val (.int M), .own (dS pD (((dev r p (dev r p (dpop s) 45) 97)).K.map (ps M))), .own (.lst ((((dev r p (dev r p (dpop s) 45) 97)).L.map (ps M)).map pD)), .val (.int (((dev r p (dev r p (dpop s) 45) 97)).B.foldl mn M)), .val (.str [98]), .val (tI p.1), .val (.int (ps M p).2), t8_2, t9_2] by simp, seK_ok, w3, feK_nx, ds]
  rfl
theorem sure_of_ok {r : Rul} (h : RulOk r) : f_sure_of [r.d'] = .ret (.int (sur r)) false none := by
  have so := states_of_ok h
  have ln := sts_len h
  obtain ⟨m0, e0, em, le⟩ := maxI_is ((sts r).map List.sum) (by have := sts_zero h; intro z; rw [List.map_eq_nil_iff.mp z] at this; cases this)
  obtain ⟨a0, ha0, ea0⟩ := List.mem_map.mp em
  have hM : ∀ a ∈ sts r, a.sum < m0 + 1 := fun a ha => by have := le _ (List.mem_map.mpr ⟨a, ha, rfl⟩); omega
  have hM2 : m0 + 1 ≤ 17 := by have := sz_sum h (sts_sz h ha0); omega
  have hB : ((dfs r).B).foldl mn (m0 + 1) = sur r := fold_mn_eq (B_ne h) fun b hb => by
    obtain ⟨a, ha, eb⟩ := (dfs_is h).2.bs b hb
    have := hM a ha
    have := (B_le h b hb).2
    omega
  generalize hMM : m0 + 1 = M at *
  obtain ⟨e', h1, q', t5, t6, t7, t8, t9, k5, k6, k7, k8, k9, rfl⟩ := whl_run (mc := v_sure_of_0) (ms := w_sure_of_0) dC (dst r)
    (fun s e => DI r s ∧ ∃ s5 s6 s7 s8 s9, s5.nio = true ∧ s6.nio = true ∧ s7.nio = true ∧ s8.nio = true ∧ s9.nio = true ∧ e = [.val r.d', .val (.int M), .own (dS pD (s.K.map (ps M))), .own (.lst ((s.L.map (ps M)).map pD)), .val (.int (s.B.foldl mn M)), s5, s6, s7, s8, s9])
    (fun s e ⟨q, s5, s6, s7, s8, s9, h5, h6, h7, h8, h9, he⟩ => by
      refine ⟨false, [.val r.d', .val (.int M), .own (dS pD (s.K.map (ps M))), .own (.lst ((s.L.map (ps M)).map pD)), .val (.int (s.B.foldl mn M)), s5, s6, s7, s8, s9], ?_, fun hc => ?_, fun _ => ⟨q, _, _, _, _, _, h5, h6, h7, h8, h9, rfl⟩⟩
      · rw [he]
        unfold v_sure_of_0 dC
        refine cmp2 (x := .lst ((s.L.map (ps M)).map pD)) (y := .lst []) (f1 := false) (f2 := true) (e1 := [.val r.d', .val (.int M), .own (dS pD (s.K.map (ps M))), .own (.lst ((s.L.map (ps M)).map pD)), .val (.int (s.B.foldl mn M)), s5, s6, s7, s8, s9]) rfl (by simp) ?_
        rw [cmpD_ne, okN_lst, okN_lst, oks_pD]
        cases s.L <;> simp
      · obtain ⟨t5, t6, t7, t8, t9, k5, k6, k7, k8, k9, k⟩ := su_body h hM hM2 q hc h5 h6 h7 h8 h9
        exact ⟨_, .inl k, (q.step h hc).1, _, _, _, _, _, k5, k6, k7, k8, k9, rfl⟩)
    32022 d0 [.val r.d', .val (.int M), .own (dS pD ((d0).K.map (ps M))), .own (.lst (((d0).L.map (ps M)).map pD)), .val (.int ((d0).B.foldl mn M)), .no, .no, .no, .no, .no] ⟨DI.start h, _, _, _, _, _, rfl, rfl, rfl, rfl, rfl, rfl⟩ (dfs_is h).1
  have ed : runW dC (dst r) 32022 d0 = dfs r := rfl
  rw [ed, hB] at h1
  obtain ⟨e2, k, rfl⟩ := compL_fm (vs := [6]) (base := [.val r.d', .no, .no, .no, .no, .no, .no, .no, .no, .no]) (t := .nm 6) (mc := eYes) (me := eB1 .sum (eVar 6)) tI (fun _ => true) (fun a : List Int => Cor.D.int a.sum) (fun e => e = [.val r.d', .no, .no, .no, .no, .no, .no, .no, .no, .no]) (sts r) [] [.val r.d', .no, .no, .no, .no, .no, .no, .no, .no, .no] (fun a e ha he => by
    exact ⟨[.val r.d', .no, .no, .no, .no, .no, .val (tI a), .no, .no, .no], false, [.val r.d', .no, .no, .no, .no, .no, .val (tI a), .no, .no, .no], by rw [he]; simp, rfl, (fun z => by cases z), fun _ => ⟨false, [.val r.d', .no, .no, .no, .no, .no, .val (tI a), .no, .no, .no], _, by simp [sum_tI], by simp, rfl⟩⟩) rfl (by simp; omega)
  have sts_eq : ((sts r).filter fun _ => true).map (fun a : List Int => Cor.D.int a.sum) = ((sts r).map List.sum).map Cor.D.int := by rw [List.filter_eq_self.mpr (by simp), List.map_map]; rfl
  rw [List.nil_append, sts_eq] at k
  have c0 : eComp [6] (iAny (eCall f_states_of (aCons (eVar 0) aNil))) (.nm 6) eYes (eB1 .sum (eVar 6)) [.val r.d', .no, .no, .no, .no, .no, .no, .no, .no, .no] = .ok (.lst (((sts r).map List.sum).map Cor.D.int)) true [.val r.d', .no, .no, .no, .no, .no, .no, .no, .no, .no] := by
    rw [x_eComp, x_iAny, call1 (ma := eVar 0) (f1 := false) (e1 := [.val r.d', .no, .no, .no, .no, .no, .no, .no, .no, .no]) rfl so, iK_ok, anyI_tup, cK_ok]
    show cK2 _ _ _ _ _ _ (some [.val r.d', .no, .no, .no, .no, .no, .no, .no, .no, .no]) = _
    rw [cK2_ok, k, cK3_ok]
    rfl
  have b0 : sSet 1 (eBin .Add (eB1 .max (eComp [6] (iAny (eCall f_states_of (aCons (eVar 0) aNil))) (.nm 6) eYes (eB1 .sum (eVar 6)))) (eLit (.int 1))) [.val r.d', .no, .no, .no, .no, .no, .no, .no, .no, .no] = .nx [.val r.d', .val (.int M), .no, .no, .no, .no, .no, .no, .no, .no] := by
    generalize eComp [6] (iAny (eCall f_states_of (aCons (eVar 0) aNil))) (.nm 6) eYes (eB1 .sum (eVar 6)) = E at *
    generalize (sts r).map List.sum = S at *
    simp [c0, e0, hMM]
  have ez : ([.val r.d', .no, .no, .no, .no, .no, .no, .no, .no, .no] : Cor.Env) = startE 10 false [r.d'] := rfl
  have b1 : sPar3 2 3 4 (eD1 true (eTup (aCons (eLit (.tup [.int 0])) (aCons (eLit (.int 0)) aNil))) (eLit (.bl true))) (eLst (aCons (eTup (aCons (eLit (.tup [.int 0])) (aCons (eLit (.int 0)) aNil))) aNil)) (eVar 1) [.val r.d', .val (.int M), .no, .no, .no, .no, .no, .no, .no, .no] = .nx [.val r.d', .val (.int M), .own (dS pD ((d0).K.map (ps M))), .own (.lst (((d0).L.map (ps M)).map pD)), .val (.int ((d0).B.foldl mn M)), .no, .no, .no, .no, .no] := by
    simp [d0, zN, ps]
  unfold f_sure_of
  rw [x_sem0, ← ez]
  unfold m_sure_of
  rw [b_step b0, b_step b1, b_step h1]
  simp
/-! the law's -/
theorem sl_one {r : Rul} (h : RulOk r) {k : Nat} {p : LP} {ds : List Nat} (hds : ds.length ≤ 3) {s : DS} (q : DJ r k p ds s) {c : Nat} (hc : c ∈ evs) {s7 s8 : Cor.Slot} (h7 : s7.nio = true) (h8 : s8.nio = true) :
    ∃ t7 t8, t7.nio = true ∧ t8.nio = true ∧ w__law_sure_1 [.val r.d', .own (.lst (s.B.map Cor.D.int)), .own (.lst (s.L.map pD)), .own (dS pD s.K), .val (.str [c]), .val (tI p.1), .val (.int p.2), s7, s8] = .nx [.val r.d', .own (.lst (((dev r p s c)).B.map Cor.D.int)), .own (.lst (((dev r p s c)).L.map pD)), .own (dS pD ((dev r p s c)).K), .val (.str [c]), .val (tI p.1), .val (.int p.2), t7, t8] := by
  have np := q.nk p q.pk
  have st := step_sz h np.sz (ev_evs hc)
  have ix := ix_ev (ev_evs hc)
  have fw := nd_few h q.nd q.nk
  have hl1 : s.K.length < 1000000 := by omega
  have hl2 : s.L.length < 1000000 := by have := q.ll; omega
  have hl3 : s.B.length < 1000000 := by have := q.bl; have := q.dl; omega
  have y : (nx r p c).1 = mv r p.1 c := by unfold nx; split <;> rfl
  refine ⟨.val (tI (mv r p.1 c)), .val (.int (nx r p c).2), rfl, rfl, ?_⟩
  unfold w__law_sure_1
  have b1 : sSet 7 (eCall f__law_step (aCons (eVar 0) (aCons (eVar 5) (aCons (eVar 4) aNil)))) [.val r.d', .own (.lst (s.B.map Cor.D.int)), .own (.lst (s.L.map pD)), .own (dS pD s.K), .val (.str [c]), .val (tI p.1), .val (.int p.2), s7, s8] = .nx [.val r.d', .own (.lst (s.B.map Cor.D.int)), .own (.lst (s.L.map pD)), .own (dS pD s.K), .val (.str [c]), .val (tI p.1), .val (.int p.2), .val (tI (mv r p.1 c)), s8] := by simp [st, h7]
  have b2 : sSet 8 (eMn2 (aCons (eLit (.int 40)) (aCons (eBin .Add (eVar 6) (eM1 .index (eLit (.str [45, 97, 98])) (eVar 4))) aNil))) [.val r.d', .own (.lst (s.B.map Cor.D.int)), .own (.lst (s.L.map pD)), .own (dS pD s.K), .val (.str [c]), .val (tI p.1), .val (.int p.2), .val (tI (mv r p.1 c)), s8] = .nx [.val r.d', .own (.lst (s.B.map Cor.D.int)), .own (.lst (s.L.map pD)), .own (dS pD s.K), .val (.str [c]), .val (tI p.1), .val (.int p.2), .val (tI (mv r p.1 c)), .val (.int (mn 40 (p.2 + mo c)))] := by simp [ix, h8, mn]
  have c1 : eCmp .Gt (eVar 8) (eB1 .sum (eVar 7)) [.val r.d', .own (.lst (s.B.map Cor.D.int)), .own (.lst (s.L.map pD)), .own (dS pD s.K), .val (.str [c]), .val (tI p.1), .val (.int p.2), .val (tI (mv r p.1 c)), .val (.int (mn 40 (p.2 + mo c)))] = .ok (.bl (nl r p c)) false [.val r.d', .own (.lst (s.B.map Cor.D.int)), .own (.lst (s.L.map pD)), .own (dS pD s.K), .val (.str [c]), .val (tI p.1), .val (.int p.2), .val (tI (mv r p.1 c)), .val (.int (mn 40 (p.2 + mo c)))] := by
    unfold nl
    generalize mn 40 (p.2 + mo c) = T
    simp [sum_tI]
  have bfi : sIf (eCmp .Gt (eVar 8) (eB1 .sum (eVar 7))) (bCons (sApp 1 (eB1 .sum (eVar 7))) (bCons (sSet 8 (eLit (.int 40))) bNil)) bNil [.val r.d', .own (.lst (s.B.map Cor.D.int)), .own (.lst (s.L.map pD)), .own (dS pD s.K), .val (.str [c]), .val (tI p.1), .val (.int p.2), .val (tI (mv r p.1 c)), .val (.int (mn 40 (p.2 + mo c)))] = .nx [.val r.d', .own (.lst ((dev r p s c).B.map Cor.D.int)), .own (.lst (s.L.map pD)), .own (dS pD s.K), .val (.str [c]), .val (tI p.1), .val (.int p.2), .val (tI (mv r p.1 c)), .val (.int (nx r p c).2)] := by
    cases hn : nl r p c with
    | false =>
      rw [hn] at c1
      have e1 : (dev r p s c).B = s.B := by unfold dev; rw [hn]; rfl
      have e2 : (nx r p c).2 = mn 40 (p.2 + mo c) := by
        have bb := mo_bd (c := c)
        have := sz_sum h np.sz
        have := sz_sum h (np.sz.mv h c)
        have hn' := of_decide_eq_false hn
        unfold nx
        rw [if_neg hn']
        unfold mn at hn' ⊢
        dsimp only
        split at hn' <;> split <;> omega
      rw [if_f c1, x_bNil, e1, e2]
    | true =>
      rw [hn] at c1
      have e1 : (dev r p s c).B = s.B ++ [(mv r p.1 c).sum] := by unfold dev; rw [hn]; rfl
      have e2 : (nx r p c).2 = 40 := by unfold nx; rw [if_pos (of_decide_eq_true hn)]
      rw [if_t c1, e1, e2]
      generalize mn 40 (p.2 + mo c) = T
      simp [sum_tI, hl3]
  rw [b_step b1, b_step b2, b_step bfi]
  have c2 : eCmp .NotIn (eTup (aCons (eVar 7) (aCons (eVar 8) aNil))) (eRd 3) [.val r.d', .own (.lst ((dev r p s c).B.map Cor.D.int)), .own (.lst (s.L.map pD)), .own (dS pD s.K), .val (.str [c]), .val (tI p.1), .val (.int p.2), .val (tI (mv r p.1 c)), .val (.int (nx r p c).2)] = .ok (.bl (!decide (nx r p c ∈ s.K))) false [.val r.d', .own (.lst ((dev r p s c).B.map Cor.D.int)), .own (.lst (s.L.map pD)), .own (dS pD s.K), .val (.str [c]), .val (tI p.1), .val (.int p.2), .val (tI (mv r p.1 c)), .val (.int (nx r p c).2)] :=
    cmp2 (x := pD (nx r p c)) (y := dS pD s.K) (f1 := false) (f2 := false) (e1 := [.val r.d', .own (.lst ((dev r p s c).B.map Cor.D.int)), .own (.lst (s.L.map pD)), .own (dS pD s.K), .val (.str [c]), .val (tI p.1), .val (.int p.2), .val (tI (mv r p.1 c)), .val (.int (nx r p c).2)]) (by simp; exact y.symm ▸ rfl) rfl (by rw [nin_S]; simp)
  by_cases hin : nx r p c ∈ s.K
  · rw [decide_eq_true hin, Bool.not_true] at c2
    rw [b_if c2, x_bNil]
    have e1 : (dev r p s c).K = s.K := if_pos hin
    have e2 : (dev r p s c).L = s.L := if_pos hin
    rw [e1, e2]
  · rw [decide_eq_false hin, Bool.not_false] at c2
    have e1 : (dev r p s c).K = s.K ++ [nx r p c] := if_neg hin
    have e2 : (dev r p s c).L = s.L ++ [nx r p c] := if_neg hin
    have e3 : sput s.K (nx r p c) = s.K ++ [nx r p c] := by unfold sput; rw [if_neg hin]
    have t1 : eTup (aCons (eVar 7) (aCons (eVar 8) aNil)) [.val r.d', .own (.lst ((dev r p s c).B.map Cor.D.int)), .own (.lst (s.L.map pD)), .own (dS pD s.K), .val (.str [c]), .val (tI p.1), .val (.int p.2), .val (tI (mv r p.1 c)), .val (.int (nx r p c).2)] = .ok (pD (nx r p c)) false [.val r.d', .own (.lst ((dev r p s c).B.map Cor.D.int)), .own (.lst (s.L.map pD)), .own (dS pD s.K), .val (.str [c]), .val (tI p.1), .val (.int p.2), .val (tI (mv r p.1 c)), .val (.int (nx r p c).2)] := by simp; exact y.symm ▸ rfl
    have t2 : eTup (aCons (eVar 7) (aCons (eVar 8) aNil)) [.val r.d', .own (.lst ((dev r p s c).B.map Cor.D.int)), .own (.lst (s.L.map pD)), .own (dS pD (sput s.K (nx r p c))), .val (.str [c]), .val (tI p.1), .val (.int p.2), .val (tI (mv r p.1 c)), .val (.int (nx r p c).2)] = .ok (pD (nx r p c)) false [.val r.d', .own (.lst ((dev r p s c).B.map Cor.D.int)), .own (.lst (s.L.map pD)), .own (dS pD (sput s.K (nx r p c))), .val (.str [c]), .val (tI p.1), .val (.int p.2), .val (tI (mv r p.1 c)), .val (.int (nx r p c).2)] := by simp; exact y.symm ▸ rfl
    have b3 : sStD 3 (eTup (aCons (eVar 7) (aCons (eVar 8) aNil))) (eLit (.bl true)) [.val r.d', .own (.lst ((dev r p s c).B.map Cor.D.int)), .own (.lst (s.L.map pD)), .own (dS pD s.K), .val (.str [c]), .val (tI p.1), .val (.int p.2), .val (tI (mv r p.1 c)), .val (.int (nx r p c).2)] = .nx [.val r.d', .own (.lst ((dev r p s c).B.map Cor.D.int)), .own (.lst (s.L.map pD)), .own (dS pD (sput s.K (nx r p c))), .val (.str [c]), .val (tI p.1), .val (.int p.2), .val (tI (mv r p.1 c)), .val (.int (nx r p c).2)] := by
      generalize eTup (aCons (eVar 7) (aCons (eVar 8) aNil)) = E at *
      simp [-List.map_map, t1, hl1]
    have b4 : sApp 2 (eTup (aCons (eVar 7) (aCons (eVar 8) aNil))) [.val r.d', .own (.lst ((dev r p s c).B.map Cor.D.int)), .own (.lst (s.L.map pD)), .own (dS pD (sput s.K (nx r p c))), .val (.str [c]), .val (tI p.1), .val (.int p.2), .val (tI (mv r p.1 c)), .val (.int (nx r p c).2)] = .nx [.val r.d', .own (.lst (((dev r p s c)).B.map Cor.D.int)), .own (.lst (((dev r p s c)).L.map pD)), .own (dS pD ((dev r p s c)).K), .val (.str [c]), .val (tI p.1), .val (.int p.2), .val (tI (mv r p.1 c)), .val (.int (nx r p c).2)] := by
      rw [e1, e2, e3] at *
      generalize eTup (aCons (eVar 7) (aCons (eVar 8) aNil)) = E at *
      generalize dS pD (s.K ++ [nx r p c]) = DS at *
      simp [-List.map_map, t2, hl2]
    rw [x_bCons, if_t c2, b_step b3, b_step b4, x_bNil, bK_nx, x_bNil]
theorem sl_body {r : Rul} (h : RulOk r) {s : DS} (q : DI r s) (hc : dC s = true) {s4 s5 s6 s7 s8 : Cor.Slot} (h4 : s4.nio = true) (h5 : s5.nio = true) (h6 : s6.nio = true) (h7 : s7.nio = true) (h8 : s8.nio = true) :
    ∃ t4 t5 t6 t7 t8, t4.nio = true ∧ t5.nio = true ∧ t6.nio = true ∧ t7.nio = true ∧ t8.nio = true ∧ w__law_sure_0 [.val r.d', .own (.lst (s.B.map Cor.D.int)), .own (.lst (s.L.map pD)), .own (dS pD s.K), s4, s5, s6, s7, s8] = .nx [.val r.d', .own (.lst (((dst r s)).B.map Cor.D.int)), .own (.lst (((dst r s)).L.map pD)), .own (dS pD ((dst r s)).K), t4, t5, t6, t7, t8] := by
  have hn : s.L ≠ [] := fun z => by simp [dC, z] at hc
  have e := List.getLast?_eq_some_getLast hn
  generalize s.L.getLast hn = p at e
  have j0 := q.pop e
  have j1 := j0.ev h (c := 45) (by simp [evs])
  have j2 := j1.ev h (c := 97) (by simp [evs])
  obtain ⟨t7_1, t8_1, k8, k9, w1⟩ := sl_one h (by decide) j0 (c := 45) (by simp [evs]) h7 h8
  obtain ⟨t7_2, t8_2, l8, l9, w2⟩ := sl_one h (by decide) j1 (c := 97) (by simp [evs]) k8 k9
  obtain ⟨t7_3, t8_3, n8, n9, w3⟩ := sl_one h (by decide) j2 (c := 98) (by simp [evs]) l8 l9
  have gl : (s.L.map pD).getLast? = some (pD p) := by rw [List.getLast?_map, e]; rfl
  have dl : (s.L.map pD).dropLast = (dpop s).L.map pD := by rw [List.dropLast_eq_take, ← List.map_take]; simp [dpop, List.dropLast_eq_take]
  have pe : ePop 2 [.val r.d', .own (.lst (s.B.map Cor.D.int)), .own (.lst (s.L.map pD)), .own (dS pD s.K), s4, s5, s6, s7, s8] = .ok (pD p) false [.val r.d', .own (.lst (s.B.map Cor.D.int)), .own (.lst ((dpop s).L.map pD)), .own (dS pD s.K), s4, s5, s6, s7, s8] := by
    show (match (s.L.map pD).getLast? with | some d => RE.ok d false _ | none => .no) = _
    rw [gl]
    show RE.ok _ false (List.set [.val r.d', .own (.lst (s.B.map Cor.D.int)), .own (.lst (s.L.map pD)), .own (dS pD s.K), s4, s5, s6, s7, s8] 2 (.own (.lst (s.L.map pD).dropLast))) = _
    rw [dl]; rfl
  have b1 : sUnp (.tup [.nm 5, .nm 6]) (ePop 2) [.val r.d', .own (.lst (s.B.map Cor.D.int)), .own (.lst (s.L.map pD)), .own (dS pD s.K), s4, s5, s6, s7, s8] = .nx [.val r.d', .own (.lst (((dpop s)).B.map Cor.D.int)), .own (.lst (((dpop s)).L.map pD)), .own (dS pD ((dpop s)).K), s4, .val (tI p.1), .val (.int p.2), s7, s8] := by
    rw [x_sUnp, pe]
    simp [h5, h6, dpop]
  have ds : dst r s = dev r p (dev r p (dev r p (dpop s) 45) 97) 98 := by unfold dst; rw [e]; rfl
  refine ⟨.val (.str [98]), .val (tI p.1), .val (.int p.2), t7_3, t8_3, rfl, rfl, rfl, n8, n9, ?_⟩
  unfold w__law_sure_0
  rw [b_step b1]
  have fe : ∀ e : Cor.Env, sFor (iAny (eLit (.str [45, 97, 98]))) (.nm 4) w__law_sure_1 e = forL (stepF (.nm 4) w__law_sure_1) [.str [45], .str [97], .str [98]] e := fun e => by
    rw [x_sFor, x_iAny, x_eLit, iK_ok, anyI_str, if_pos (by decide), foK_ok]
    rfl
  rw [x_bCons, fe, forL_step, show asg (.nm 4) (.str [45]) [.val r.d', .own (.lst (((dpop s)).B.map Cor.D.int)), .own (.lst (((dpop s)).L.map pD)), .own (dS pD ((dpop s)).K), s4, .val (tI p.1), .val (.int p.2), s7, s8] = some [.val r.d', .own (.lst (((dpop s)).B.map Cor.D.int)), .own (.lst (((dpop s)).L.map pD)), .own (dS pD ((dpop s)).K), .val (.str [45]), .val (tI p.1), .val (.int p.2), s7, s8] by simp [h4], seK_ok, w1, feK_nx, forL_step, show asg (.nm 4) (.str [97]) [.val r.d', .own (.lst (((dev r p (dpop s) 45)).B.map Cor.D.int)), .own (.lst (((dev r p (dpop s) 45)).L.map pD)), .own (dS pD ((dev r p (dpop s) 45)).K), .val (.str [45]), .val (tI p.1), .val (.int p.2), t7_1, t8_1] = some [.val r.d', .own (.lst (((dev r p (dpop s) 45)).B.map Cor.D.int)), .own (.lst (((dev r p (dpop s) 45)).L.map pD)), .own (dS pD ((dev r p (dpop s) 45)).K), .val (.str [97]), .val (tI p.1), .val (.int p.2), t7_1, t8_1] by simp, seK_ok, w2, feK_nx, forL_step, show asg (.nm 4) (.str [98]) [.val r.d', .own (.lst (((dev r p (dev r p (dpop s) 45) 97)).B.map Cor.D.int)), .own (.lst (((dev r p (dev r p (dpop s) 45) 97)).L.map pD)), .own (dS pD ((dev r p (dev r p (dpop s) 45) 97)).K), .val (.str [97]), .val (tI p.1), .val (.int p.2), t7_2, t8_2] = some [.val r.d', .own (.lst (((dev r p (dev r p (dpop s) 45) 97)).B.map Cor.D.int)), .own (.lst (((dev r p (dev r p (dpop s) 45) 97)).L.map pD)), .own (dS pD ((dev r p (dev r p (dpop s) 45) 97)).K), .val (.str [98]), .val (tI p.1), .val (.int p.2), t7_2, t8_2] by simp, seK_ok, w3, feK_nx, ds]
  rfl
theorem law_sure_ok {r : Rul} (h : RulOk r) : f__law_sure [r.d'] = .ret (.int (sur r)) false none := by
  obtain ⟨e', h1, q', t4, t5, t6, t7, t8, k4, k5, k6, k7, k8, rfl⟩ := whl_run (mc := v__law_sure_0) (ms := w__law_sure_0) dC (dst r)
    (fun s e => DI r s ∧ ∃ s4 s5 s6 s7 s8, s4.nio = true ∧ s5.nio = true ∧ s6.nio = true ∧ s7.nio = true ∧ s8.nio = true ∧ e = [.val r.d', .own (.lst (s.B.map Cor.D.int)), .own (.lst (s.L.map pD)), .own (dS pD s.K), s4, s5, s6, s7, s8])
    (fun s e ⟨q, s4, s5, s6, s7, s8, h4, h5, h6, h7, h8, he⟩ => by
      refine ⟨false, [.val r.d', .own (.lst (s.B.map Cor.D.int)), .own (.lst (s.L.map pD)), .own (dS pD s.K), s4, s5, s6, s7, s8], ?_, fun hc => ?_, fun _ => ⟨q, _, _, _, _, _, h4, h5, h6, h7, h8, rfl⟩⟩
      · rw [he]
        unfold v__law_sure_0 dC
        refine cmp2 (x := .lst (s.L.map pD)) (y := .lst []) (f1 := false) (f2 := true) (e1 := [.val r.d', .own (.lst (s.B.map Cor.D.int)), .own (.lst (s.L.map pD)), .own (dS pD s.K), s4, s5, s6, s7, s8]) rfl (by simp) ?_
        rw [cmpD_ne, okN_lst, okN_lst, oks_pD]
        cases s.L <;> simp
      · obtain ⟨t4, t5, t6, t7, t8, k4, k5, k6, k7, k8, k⟩ := sl_body h q hc h4 h5 h6 h7 h8
        exact ⟨_, .inl k, (q.step h hc).1, _, _, _, _, _, k4, k5, k6, k7, k8, rfl⟩)
    32022 d0 [.val r.d', .own (.lst ((d0).B.map Cor.D.int)), .own (.lst ((d0).L.map pD)), .own (dS pD (d0).K), .no, .no, .no, .no, .no] ⟨DI.start h, _, _, _, _, _, rfl, rfl, rfl, rfl, rfl, rfl⟩ (dfs_is h).1
  have ed : runW dC (dst r) 32022 d0 = dfs r := rfl
  rw [ed] at h1
  have mi := minI_fold (dfs r).B (B_ne h) fun b hb => by have := (B_le h b hb).2; omega
  have es : (dfs r).B.foldl mn 40 = sur r := rfl
  rw [es] at mi
  have ez : ([.val r.d', .no, .no, .no, .no, .no, .no, .no, .no] : Cor.Env) = startE 9 false [r.d'] := rfl
  have b1 : sPar3 1 2 3 (eLst aNil) (eLst (aCons (eTup (aCons (eTup (aCons (eLit (.int 0)) aNil)) (aCons (eLit (.int 0)) aNil))) aNil)) (eD1 true (eTup (aCons (eTup (aCons (eLit (.int 0)) aNil)) (aCons (eLit (.int 0)) aNil))) (eLit (.bl true))) [.val r.d', .no, .no, .no, .no, .no, .no, .no, .no] = .nx [.val r.d', .own (.lst ((d0).B.map Cor.D.int)), .own (.lst ((d0).L.map pD)), .own (dS pD (d0).K), .no, .no, .no, .no, .no] := by
    simp [d0, zN]
  unfold f__law_sure
  rw [x_sem0, ← ez]
  unfold m__law_sure
  rw [b_step b1, b_step h1]
  generalize dS pD (dfs r).K = DS
  generalize (dfs r).L.map pD = DL
  generalize (dfs r).B = B at *
  simp [mi]
end HD
set_option Elab.async false
set_option linter.all false
set_option maxRecDepth 100000
set_option maxHeartbeats 4000000
namespace HD
open PySem PySem.Spec L2 Cor
theorem sure_lines_ok {r : Rul} (h : RulOk r) : f_sure_lines [r.d'] = .ret (.int (sur r)) false none := by
  have nr := need_rule_ok h
  have so := sure_of_ok h
  unfold f_sure_lines
  rw [x_sem0]
  unfold m_sure_lines
  simp [startE, nr, so]
def rk (r : Rul) (k : Nat) : Rul := ⟨r.s, r.e, r.d, r.m, k, r.p, r.f⟩
def rp (r : Rul) (l : Nat) : Rul := ⟨r.s, r.e, r.d, r.m, r.k, some l, r.f⟩
theorem rk_ok {r : Rul} (h : RulOk r) {k : Nat} (hk : k < 4) : RulOk (rk r k) := ⟨h.s1, h.s3, by simp [rk], by simp [rk]; omega, h.p1, h.f1, h.f3⟩
theorem rp_ok {r : Rul} (h : RulOk r) {l : Nat} (h1 : 1 ≤ l) (h2 : l ≤ 12) : RulOk (rp r l) := ⟨h.s1, h.s3, h.k0, h.k3, (fun p e => by cases e; omega), h.f1, h.f3⟩
theorem with_k {r : Rul} {k : Nat} : f_with_part [r.d', .int 4, .int (k : Nat)] = .ret (rk r k).d' false none := by
  unfold f_with_part
  rw [x_sem0]
  unfold m_with_part
  simp [startE, rk]
theorem with_p {r : Rul} {l : Nat} : f_with_part [r.d', .int 5, .int (l : Nat)] = .ret (rp r l).d' false none := by
  unfold f_with_part
  rw [x_sem0]
  unfold m_with_part
  simp [startE, rp]
def ck (r : Rul) (n : Int) (k : Nat) : Bool := decide (n ≤ sur (rk r k))
def cp (r : Rul) (n : Int) (l : Nat) : Bool := decide (n ≤ sur (rp r l))
def oN : Option Nat → Cor.D
  | none => .non
  | some k => .int (k : Nat)
theorem foldX_find {α : Type} (p : α → Bool) : ∀ xs : List α, foldX (fun (_ : Unit) a => if p a = true then Sum.inr a else Sum.inl ()) xs () = match xs.find? p with | some a => .inr a | none => .inl ()
  | [] => rfl
  | x :: xs => by
    rw [foldX, List.find?_cons]
    cases p x with
    | true => rfl
    | false =>
      rw [if_neg Bool.false_ne_true]
      exact foldX_find p xs
theorem least_keep_ok {r : Rul} (h : RulOk r) {n : Int} (n0 : 0 ≤ n) (n1 : n ≤ 20) : ∃ f, f_least_keep [r.d', .int n] = .ret (oN ((List.range 4).find? (ck r n))) f none := by
  have nr := need_rule_ok h
  have nn := need_number_ok (n := n) (lo := 0) (hi := 20) n0 n1
  have k := for_findR (t := .nm 2) (ss := w_least_keep_0) (fun k : Nat => Cor.D.int (k : Nat)) (fun (_ : Unit) k => if ck r n k = true then Sum.inr k else Sum.inl ()) (fun _ e => ∃ s2, s2.nio = true ∧ e = [.val r.d', .val (.int n), s2]) (fun k : Nat => Cor.D.int (k : Nat)) (List.range 4) () [.val r.d', .val (.int n), .no] (fun _ k e hk ⟨s2, h2, he⟩ => by
    have so := sure_of_ok (rk_ok h (List.mem_range.mp hk))
    have wk := with_k (r := r) (k := k)
    refine ⟨[.val r.d', .val (.int n), .val (.int (k : Nat))], by rw [he]; simp [h2], ?_⟩
    have c1 : eCmp .GtE (eCall f_sure_of (aCons (eCall f_with_part (aCons (eVar 0) (aCons (eLit (.int 4)) (aCons (eVar 2) aNil)))) aNil)) (eVar 1) [.val r.d', .val (.int n), .val (.int (k : Nat))] = .ok (.bl (ck r n k)) false [.val r.d', .val (.int n), .val (.int (k : Nat))] :=
      cmp2 (x := .int (sur (rk r k))) (y := .int n) (f1 := false) (f2 := false) (call1 (f1 := false) (call3 (ma := eVar 0) (mb := eLit (.int 4)) (mc := eVar 2) (f1 := false) (f2 := false) (f3 := false) rfl rfl rfl wk) so) rfl rfl
    unfold w_least_keep_0
    cases hb : ck r n k with
    | true =>
      rw [hb] at c1
      rw [if_pos rfl]
      exact ⟨false, _, by rw [x_bCons, if_t c1]; rfl⟩
    | false =>
      rw [hb] at c1
      rw [if_neg Bool.false_ne_true]
      exact ⟨_, .inl (by rw [b_if c1, x_bNil]), _, rfl, rfl⟩) ⟨_, rfl, rfl⟩
  rw [foldX_find] at k
  have fe : sFor (iRng1 (eBin .Add (eLit (.int 3)) (eLit (.int 1)))) (.nm 2) w_least_keep_0 [.val r.d', .val (.int n), .no] = forL (stepF (.nm 2) w_least_keep_0) ((List.range 4).map fun k : Nat => Cor.D.int (k : Nat)) [.val r.d', .val (.int n), .no] :=
    sFor_rng (n := 4) (f := false) (by simp) (by decide)
  have e0 : ([.val r.d', .val (.int n), .no] : Cor.Env) = startE 3 false [r.d', .int n] := rfl
  unfold f_least_keep
  rw [x_sem0, ← e0]
  unfold m_least_keep
  rw [b_step (e1 := [.val r.d', .val (.int n), .no]) (by simp [nr]), b_step (e1 := [.val r.d', .val (.int n), .no]) (by simp [nn]), x_bCons, fe]
  revert k
  cases (List.range 4).find? (ck r n) with
  | some k =>
    rintro ⟨f, e', k⟩
    rw [k, bK_rt]
    exact ⟨_, fin0_rt⟩
  | none =>
    rintro ⟨e', k, s2, h2, rfl⟩
    rw [k, bK_nx]
    exact ⟨false, rfl⟩
theorem rng12 : rngD 1 13 = some (((List.range 12).map (· + 1)).map fun k : Nat => Cor.D.int (k : Nat)) := by
  unfold rngD
  rw [if_pos (by omega)]
  rfl
theorem mem12 {k : Nat} (h : k ∈ (List.range 12).map (· + 1)) : 1 ≤ k ∧ k ≤ 12 := by
  obtain ⟨j, hj, rfl⟩ := List.mem_map.mp h
  rw [List.mem_range] at hj; omega
theorem least_pages_ok {r : Rul} (h : RulOk r) {n : Int} (n0 : 0 ≤ n) (n1 : n ≤ 20) : ∃ f, f_least_pages [r.d', .int n] = .ret (oN (((List.range 12).map (· + 1)).find? (cp r n))) f none := by
  have nr := need_rule_ok h
  have nn := need_number_ok (n := n) (lo := 0) (hi := 20) n0 n1
  have k := for_findR (t := .nm 2) (ss := w_least_pages_0) (fun k : Nat => Cor.D.int (k : Nat)) (fun (_ : Unit) k => if cp r n k = true then Sum.inr k else Sum.inl ()) (fun _ e => ∃ s2, s2.nio = true ∧ e = [.val r.d', .val (.int n), s2]) (fun k : Nat => Cor.D.int (k : Nat)) ((List.range 12).map (· + 1)) () [.val r.d', .val (.int n), .no] (fun _ k e hk ⟨s2, h2, he⟩ => by
    have kb := mem12 hk
    have so := sure_of_ok (rp_ok h kb.1 kb.2)
    have wk := with_p (r := r) (l := k)
    refine ⟨[.val r.d', .val (.int n), .val (.int (k : Nat))], by rw [he]; simp [h2], ?_⟩
    have c1 : eCmp .GtE (eCall f_sure_of (aCons (eCall f_with_part (aCons (eVar 0) (aCons (eLit (.int 5)) (aCons (eVar 2) aNil)))) aNil)) (eVar 1) [.val r.d', .val (.int n), .val (.int (k : Nat))] = .ok (.bl (cp r n k)) false [.val r.d', .val (.int n), .val (.int (k : Nat))] :=
      cmp2 (x := .int (sur (rp r k))) (y := .int n) (f1 := false) (f2 := false) (call1 (f1 := false) (call3 (ma := eVar 0) (mb := eLit (.int 5)) (mc := eVar 2) (f1 := false) (f2 := false) (f3 := false) rfl rfl rfl wk) so) rfl rfl
    unfold w_least_pages_0
    cases hb : cp r n k with
    | true =>
      rw [hb] at c1
      rw [if_pos rfl]
      exact ⟨false, _, by rw [x_bCons, if_t c1]; rfl⟩
    | false =>
      rw [hb] at c1
      rw [if_neg Bool.false_ne_true]
      exact ⟨_, .inl (by rw [b_if c1, x_bNil]), _, rfl, rfl⟩) ⟨_, rfl, rfl⟩
  rw [foldX_find] at k
  have fe : sFor (iRng2 (eLit (.int 1)) (eBin .Add (eLit (.int 12)) (eLit (.int 1)))) (.nm 2) w_least_pages_0 [.val r.d', .val (.int n), .no] = forL (stepF (.nm 2) w_least_pages_0) (((List.range 12).map (· + 1)).map fun k : Nat => Cor.D.int (k : Nat)) [.val r.d', .val (.int n), .no] := by
    have a1 : eBin .Add (eLit (.int 12)) (eLit (.int 1)) [.val r.d', .val (.int n), .no] = .ok (.int 13) false [.val r.d', .val (.int n), .no] := by simp
    rw [x_sFor, x_iRng2, x_eLit, iK_ok, rg2_int, a1, iK_ok, rg3_int, rng12, outI_some, foK_ok]
  have e0 : ([.val r.d', .val (.int n), .no] : Cor.Env) = startE 3 false [r.d', .int n] := rfl
  unfold f_least_pages
  rw [x_sem0, ← e0]
  unfold m_least_pages
  rw [b_step (e1 := [.val r.d', .val (.int n), .no]) (by simp [nr]), b_step (e1 := [.val r.d', .val (.int n), .no]) (by simp [nn]), x_bCons, fe]
  revert k
  cases ((List.range 12).map (· + 1)).find? (cp r n) with
  | some k =>
    rintro ⟨f, e', k⟩
    rw [k, bK_rt]
    exact ⟨_, fin0_rt⟩
  | none =>
    rintro ⟨e', k, s2, h2, rfl⟩
    rw [k, bK_nx]
    exact ⟨false, rfl⟩
theorem least_keep_bad {r : Rul} (h : RulOk r) {v : Cor.D} (hv : v.plain = true) (hb : isFrom v 0 20 = false) : f_least_keep [r.d', v] = .exc ⟨"InvalidNumber", []⟩ none := by
  have nr := need_rule_ok h
  have nn := need_number_bad (v := v) (lo := 0) (hi := 20) hv hb
  unfold f_least_keep
  rw [x_sem0]
  unfold m_least_keep
  simp [startE, nr, nn]
theorem least_pages_bad {r : Rul} (h : RulOk r) {v : Cor.D} (hv : v.plain = true) (hb : isFrom v 0 20 = false) : f_least_pages [r.d', v] = .exc ⟨"InvalidNumber", []⟩ none := by
  have nr := need_rule_ok h
  have nn := need_number_bad (v := v) (lo := 0) (hi := 20) hv hb
  unfold f_least_pages
  rw [x_sem0]
  unfold m_least_pages
  simp [startE, nr, nn]
/-! the law -/
theorem ne_oN {o : Option Nat} : cmpD .NotEq (oN o) (oN o) = some false := by
  cases o with
  | none => rfl
  | some k => simp [oN]
theorem hd_oN (xs : List Nat) : (if xs = [] then Cor.D.non else oN xs.head?) = oN xs.head? := by
  cases xs <;> rfl
theorem w1_ok {ns : List Int} {i : Nat} {a b c : Int} {r : Rul} (h : RulOk r) {n : Int} (n0 : 0 ≤ n) (n1 : n ≤ 20) {s2 s6 s7 s9 s10 : Cor.Slot} (h9 : s9.nio = true) :
    ∃ t9, t9.nio = true ∧ w_law_1 [.val (.lst (ns.map Cor.D.int)), .val (.int i), s2, .own (dk a b c), .val r.d', .val (.int (sur r)), s6, s7, .val (.int n), s9, s10, .no] = .nx [.val (.lst (ns.map Cor.D.int)), .val (.int i), s2, .own (dk a b c), .val r.d', .val (.int (sur r)), s6, s7, .val (.int n), t9, s10, .no] := by
  obtain ⟨f, lk⟩ := least_keep_ok h n0 n1
  obtain ⟨e', k, rfl⟩ := compL_fm (vs := [11]) (base := [.val (.lst (ns.map Cor.D.int)), .val (.int i), s2, .own (dk a b c), .val r.d', .val (.int (sur r)), s6, s7, .val (.int n), s9, s10, .no]) (t := .nm 11) (mc := eCmp .GtE (eCall f__law_sure (aCons (eBin .Add (eBin .Add (eSlc (eVar 4) oNone (oSome (eLit (.int 4)))) (eTup (aCons (eVar 11) aNil))) (eSlc (eVar 4) (oSome (eLit (.int 5))) oNone)) aNil)) (eVar 8)) (me := eVar 11) (fun k : Nat => Cor.D.int (k : Nat)) (ck r n) (fun k : Nat => Cor.D.int (k : Nat)) (fun e => e = [.val (.lst (ns.map Cor.D.int)), .val (.int i), s2, .own (dk a b c), .val r.d', .val (.int (sur r)), s6, s7, .val (.int n), s9, s10, .no]) (List.range 4) [] [.val (.lst (ns.map Cor.D.int)), .val (.int i), s2, .own (dk a b c), .val r.d', .val (.int (sur r)), s6, s7, .val (.int n), s9, s10, .no] (fun k e hk he => by
    have so := law_sure_ok (rk_ok h (List.mem_range.mp hk))
    have rr : (eBin .Add (eBin .Add (eSlc (eVar 4) oNone (oSome (eLit (.int 4)))) (eTup (aCons (eVar 11) aNil))) (eSlc (eVar 4) (oSome (eLit (.int 5))) oNone)) [.val (.lst (ns.map Cor.D.int)), .val (.int i), s2, .own (dk a b c), .val r.d', .val (.int (sur r)), s6, s7, .val (.int n), s9, s10, .val (.int (k : Nat))] = .ok (rk r k).d' false [.val (.lst (ns.map Cor.D.int)), .val (.int i), s2, .own (dk a b c), .val r.d', .val (.int (sur r)), s6, s7, .val (.int n), s9, s10, .val (.int (k : Nat))] := by simp [rk]
    have c1 : eCmp .GtE (eCall f__law_sure (aCons (eBin .Add (eBin .Add (eSlc (eVar 4) oNone (oSome (eLit (.int 4)))) (eTup (aCons (eVar 11) aNil))) (eSlc (eVar 4) (oSome (eLit (.int 5))) oNone)) aNil)) (eVar 8) [.val (.lst (ns.map Cor.D.int)), .val (.int i), s2, .own (dk a b c), .val r.d', .val (.int (sur r)), s6, s7, .val (.int n), s9, s10, .val (.int (k : Nat))] = .ok (.bl (ck r n k)) false [.val (.lst (ns.map Cor.D.int)), .val (.int i), s2, .own (dk a b c), .val r.d', .val (.int (sur r)), s6, s7, .val (.int n), s9, s10, .val (.int (k : Nat))] := cmp2 (x := .int (sur (rk r k))) (y := .int n) (f1 := false) (f2 := false) (call1 (f1 := false) rr so) rfl rfl
    exact ⟨[.val (.lst (ns.map Cor.D.int)), .val (.int i), s2, .own (dk a b c), .val r.d', .val (.int (sur r)), s6, s7, .val (.int n), s9, s10, .val (.int (k : Nat))], false, [.val (.lst (ns.map Cor.D.int)), .val (.int i), s2, .own (dk a b c), .val r.d', .val (.int (sur r)), s6, s7, .val (.int n), s9, s10, .val (.int (k : Nat))], by rw [he]; simp, c1, fun _ => ⟨_, by simp, rfl⟩, fun _ => ⟨false, [.val (.lst (ns.map Cor.D.int)), .val (.int i), s2, .own (dk a b c), .val r.d', .val (.int (sur r)), s6, s7, .val (.int n), s9, s10, .val (.int (k : Nat))], _, by simp, by simp, rfl⟩⟩) rfl (by simp)
  rw [List.nil_append] at k
  have c0 : eComp [11] (iRng1 (eLit (.int 4))) (.nm 11) (eCmp .GtE (eCall f__law_sure (aCons (eBin .Add (eBin .Add (eSlc (eVar 4) oNone (oSome (eLit (.int 4)))) (eTup (aCons (eVar 11) aNil))) (eSlc (eVar 4) (oSome (eLit (.int 5))) oNone)) aNil)) (eVar 8)) (eVar 11) [.val (.lst (ns.map Cor.D.int)), .val (.int i), s2, .own (dk a b c), .val r.d', .val (.int (sur r)), s6, s7, .val (.int n), s9, s10, .no] = .ok (.lst (((List.range 4).filter (ck r n)).map fun k : Nat => Cor.D.int (k : Nat))) true [.val (.lst (ns.map Cor.D.int)), .val (.int i), s2, .own (dk a b c), .val r.d', .val (.int (sur r)), s6, s7, .val (.int n), s9, s10, .no] := by
    rw [x_eComp, x_iRng1, x_eLit, iK_ok, rg1_int, show rngD 0 4 = some ((List.range 4).map fun k : Nat => Cor.D.int (k : Nat)) from rngD_nat (n := 4) (by decide), outI_some, cK_ok]
    show cK2 _ _ _ _ _ _ (some [.val (.lst (ns.map Cor.D.int)), .val (.int i), s2, .own (dk a b c), .val r.d', .val (.int (sur r)), s6, s7, .val (.int n), s9, s10, .no]) = _
    rw [cK2_ok, k, cK3_ok]
    rfl
  have b1 : sSet 9 (eComp [11] (iRng1 (eLit (.int 4))) (.nm 11) (eCmp .GtE (eCall f__law_sure (aCons (eBin .Add (eBin .Add (eSlc (eVar 4) oNone (oSome (eLit (.int 4)))) (eTup (aCons (eVar 11) aNil))) (eSlc (eVar 4) (oSome (eLit (.int 5))) oNone)) aNil)) (eVar 8)) (eVar 11)) [.val (.lst (ns.map Cor.D.int)), .val (.int i), s2, .own (dk a b c), .val r.d', .val (.int (sur r)), s6, s7, .val (.int n), s9, s10, .no] = .nx [.val (.lst (ns.map Cor.D.int)), .val (.int i), s2, .own (dk a b c), .val r.d', .val (.int (sur r)), s6, s7, .val (.int n), .own (.lst (((List.range 4).filter (ck r n)).map fun k : Nat => Cor.D.int (k : Nat))), s10, .no] := by rw [set_ (i := 9) c0 (show (getS [.val (.lst (ns.map Cor.D.int)), .val (.int i), s2, .own (dk a b c), .val r.d', .val (.int (sur r)), s6, s7, .val (.int n), s9, s10, .no] 9).nio = true from h9)]; rfl
  have hf : (List.range 4).find? (ck r n) = ((List.range 4).filter (ck r n)).head? := (List.head?_filter ..).symm
  have y1 : eCmp .NotEq (eCall f_least_keep (aCons (eVar 4) (aCons (eVar 8) aNil))) (eIfe (eCmp .NotEq (eVar 9) (eLst aNil)) (eSub (eVar 9) (eLit (.int 0))) (eLit .non)) [.val (.lst (ns.map Cor.D.int)), .val (.int i), s2, .own (dk a b c), .val r.d', .val (.int (sur r)), s6, s7, .val (.int n), .own (.lst (((List.range 4).filter (ck r n)).map fun k : Nat => Cor.D.int (k : Nat))), s10, .no] = .ok (.bl false) false [.val (.lst (ns.map Cor.D.int)), .val (.int i), s2, .own (dk a b c), .val r.d', .val (.int (sur r)), s6, s7, .val (.int n), .val (.lst (((List.range 4).filter (ck r n)).map fun k : Nat => Cor.D.int (k : Nat))), s10, .no] := by
    have z1 := call2 (ma := eVar 4) (mb := eVar 8) (g := f_least_keep) (env := [.val (.lst (ns.map Cor.D.int)), .val (.int i), s2, .own (dk a b c), .val r.d', .val (.int (sur r)), s6, s7, .val (.int n), .own (.lst (((List.range 4).filter (ck r n)).map fun k : Nat => Cor.D.int (k : Nat))), s10, .no]) (e1 := [.val (.lst (ns.map Cor.D.int)), .val (.int i), s2, .own (dk a b c), .val r.d', .val (.int (sur r)), s6, s7, .val (.int n), .own (.lst (((List.range 4).filter (ck r n)).map fun k : Nat => Cor.D.int (k : Nat))), s10, .no]) (e2 := [.val (.lst (ns.map Cor.D.int)), .val (.int i), s2, .own (dk a b c), .val r.d', .val (.int (sur r)), s6, s7, .val (.int n), .own (.lst (((List.range 4).filter (ck r n)).map fun k : Nat => Cor.D.int (k : Nat))), s10, .no]) (f1 := false) (f2 := false) rfl rfl lk
    have z2 : eIfe (eCmp .NotEq (eVar 9) (eLst aNil)) (eSub (eVar 9) (eLit (.int 0))) (eLit .non) [.val (.lst (ns.map Cor.D.int)), .val (.int i), s2, .own (dk a b c), .val r.d', .val (.int (sur r)), s6, s7, .val (.int n), .own (.lst (((List.range 4).filter (ck r n)).map fun k : Nat => Cor.D.int (k : Nat))), s10, .no] = .ok (oN ((List.range 4).find? (ck r n))) false [.val (.lst (ns.map Cor.D.int)), .val (.int i), s2, .own (dk a b c), .val r.d', .val (.int (sur r)), s6, s7, .val (.int n), .val (.lst (((List.range 4).filter (ck r n)).map fun k : Nat => Cor.D.int (k : Nat))), s10, .no] := by
      rw [hf]
      generalize (List.range 4).filter (ck r n) = F
      cases F <;> simp [oN, atI]
    exact cmp2 z1 z2 ne_oN
  refine ⟨.val (.lst (((List.range 4).filter (ck r n)).map fun k : Nat => Cor.D.int (k : Nat))), rfl, ?_⟩
  unfold w_law_1
  rw [b_step b1, b_if y1, x_bNil]
theorem wp_ok {ns : List Int} {i : Nat} {a b c : Int} {r : Rul} (h : RulOk r) {n : Int} (n0 : 0 ≤ n) (n1 : n ≤ 20) {s2 s6 s7 s9 s10 : Cor.Slot} (h9 : s9.nio = true) :
    sSet 9 (eComp [11] (iRng2 (eLit (.int 1)) (eLit (.int 13))) (.nm 11) (eCmp .GtE (eCall f__law_sure (aCons (eBin .Add (eBin .Add (eSlc (eVar 4) oNone (oSome (eLit (.int 5)))) (eTup (aCons (eVar 11) aNil))) (eSlc (eVar 4) (oSome (eLit (.int 6))) oNone)) aNil)) (eVar 8)) (eVar 11)) [.val (.lst (ns.map Cor.D.int)), .val (.int i), s2, .own (dk a b c), .val r.d', .val (.int (sur r)), s6, s7, .val (.int n), s9, s10, .no] = .nx [.val (.lst (ns.map Cor.D.int)), .val (.int i), s2, .own (dk a b c), .val r.d', .val (.int (sur r)), s6, s7, .val (.int n), .own (.lst ((((List.range 12).map (· + 1)).filter (cp r n)).map fun k : Nat => Cor.D.int (k : Nat))), s10, .no] ∧ eCmp .NotEq (eCall f_least_pages (aCons (eVar 4) (aCons (eVar 8) aNil))) (eIfe (eCmp .NotEq (eVar 9) (eLst aNil)) (eSub (eVar 9) (eLit (.int 0))) (eLit .non)) [.val (.lst (ns.map Cor.D.int)), .val (.int i), s2, .own (dk a b c), .val r.d', .val (.int (sur r)), s6, s7, .val (.int n), .own (.lst ((((List.range 12).map (· + 1)).filter (cp r n)).map fun k : Nat => Cor.D.int (k : Nat))), s10, .no] = .ok (.bl false) false [.val (.lst (ns.map Cor.D.int)), .val (.int i), s2, .own (dk a b c), .val r.d', .val (.int (sur r)), s6, s7, .val (.int n), .val (.lst ((((List.range 12).map (· + 1)).filter (cp r n)).map fun k : Nat => Cor.D.int (k : Nat))), s10, .no] := by
  obtain ⟨f, lk⟩ := least_pages_ok h n0 n1
  obtain ⟨e', k, rfl⟩ := compL_fm (vs := [11]) (base := [.val (.lst (ns.map Cor.D.int)), .val (.int i), s2, .own (dk a b c), .val r.d', .val (.int (sur r)), s6, s7, .val (.int n), s9, s10, .no]) (t := .nm 11) (mc := eCmp .GtE (eCall f__law_sure (aCons (eBin .Add (eBin .Add (eSlc (eVar 4) oNone (oSome (eLit (.int 5)))) (eTup (aCons (eVar 11) aNil))) (eSlc (eVar 4) (oSome (eLit (.int 6))) oNone)) aNil)) (eVar 8)) (me := eVar 11) (fun k : Nat => Cor.D.int (k : Nat)) (cp r n) (fun k : Nat => Cor.D.int (k : Nat)) (fun e => e = [.val (.lst (ns.map Cor.D.int)), .val (.int i), s2, .own (dk a b c), .val r.d', .val (.int (sur r)), s6, s7, .val (.int n), s9, s10, .no]) ((List.range 12).map (· + 1)) [] [.val (.lst (ns.map Cor.D.int)), .val (.int i), s2, .own (dk a b c), .val r.d', .val (.int (sur r)), s6, s7, .val (.int n), s9, s10, .no] (fun k e hk he => by
    have kb := mem12 hk
    have so := law_sure_ok (rp_ok h kb.1 kb.2)
    have rr : (eBin .Add (eBin .Add (eSlc (eVar 4) oNone (oSome (eLit (.int 5)))) (eTup (aCons (eVar 11) aNil))) (eSlc (eVar 4) (oSome (eLit (.int 6))) oNone)) [.val (.lst (ns.map Cor.D.int)), .val (.int i), s2, .own (dk a b c), .val r.d', .val (.int (sur r)), s6, s7, .val (.int n), s9, s10, .val (.int (k : Nat))] = .ok (rp r k).d' false [.val (.lst (ns.map Cor.D.int)), .val (.int i), s2, .own (dk a b c), .val r.d', .val (.int (sur r)), s6, s7, .val (.int n), s9, s10, .val (.int (k : Nat))] := by simp [rp]
    have c1 : eCmp .GtE (eCall f__law_sure (aCons (eBin .Add (eBin .Add (eSlc (eVar 4) oNone (oSome (eLit (.int 5)))) (eTup (aCons (eVar 11) aNil))) (eSlc (eVar 4) (oSome (eLit (.int 6))) oNone)) aNil)) (eVar 8) [.val (.lst (ns.map Cor.D.int)), .val (.int i), s2, .own (dk a b c), .val r.d', .val (.int (sur r)), s6, s7, .val (.int n), s9, s10, .val (.int (k : Nat))] = .ok (.bl (cp r n k)) false [.val (.lst (ns.map Cor.D.int)), .val (.int i), s2, .own (dk a b c), .val r.d', .val (.int (sur r)), s6, s7, .val (.int n), s9, s10, .val (.int (k : Nat))] := cmp2 (x := .int (sur (rp r k))) (y := .int n) (f1 := false) (f2 := false) (call1 (f1 := false) rr so) rfl rfl
    exact ⟨[.val (.lst (ns.map Cor.D.int)), .val (.int i), s2, .own (dk a b c), .val r.d', .val (.int (sur r)), s6, s7, .val (.int n), s9, s10, .val (.int (k : Nat))], false, [.val (.lst (ns.map Cor.D.int)), .val (.int i), s2, .own (dk a b c), .val r.d', .val (.int (sur r)), s6, s7, .val (.int n), s9, s10, .val (.int (k : Nat))], by rw [he]; simp, c1, fun _ => ⟨_, by simp, rfl⟩, fun _ => ⟨false, [.val (.lst (ns.map Cor.D.int)), .val (.int i), s2, .own (dk a b c), .val r.d', .val (.int (sur r)), s6, s7, .val (.int n), s9, s10, .val (.int (k : Nat))], _, by simp, by simp, rfl⟩⟩) rfl (by simp)
  rw [List.nil_append] at k
  have c0 : eComp [11] (iRng2 (eLit (.int 1)) (eLit (.int 13))) (.nm 11) (eCmp .GtE (eCall f__law_sure (aCons (eBin .Add (eBin .Add (eSlc (eVar 4) oNone (oSome (eLit (.int 5)))) (eTup (aCons (eVar 11) aNil))) (eSlc (eVar 4) (oSome (eLit (.int 6))) oNone)) aNil)) (eVar 8)) (eVar 11) [.val (.lst (ns.map Cor.D.int)), .val (.int i), s2, .own (dk a b c), .val r.d', .val (.int (sur r)), s6, s7, .val (.int n), s9, s10, .no] = .ok (.lst ((((List.range 12).map (· + 1)).filter (cp r n)).map fun k : Nat => Cor.D.int (k : Nat))) true [.val (.lst (ns.map Cor.D.int)), .val (.int i), s2, .own (dk a b c), .val r.d', .val (.int (sur r)), s6, s7, .val (.int n), s9, s10, .no] := by
    rw [x_eComp, x_iRng2, x_eLit, iK_ok, rg2_int, x_eLit, iK_ok, rg3_int, rng12, outI_some, cK_ok]
    show cK2 _ _ _ _ _ _ (some [.val (.lst (ns.map Cor.D.int)), .val (.int i), s2, .own (dk a b c), .val r.d', .val (.int (sur r)), s6, s7, .val (.int n), s9, s10, .no]) = _
    rw [cK2_ok, k, cK3_ok]
    rfl
  have hf : ((List.range 12).map (· + 1)).find? (cp r n) = (((List.range 12).map (· + 1)).filter (cp r n)).head? := (List.head?_filter ..).symm
  refine ⟨by rw [set_ (i := 9) c0 (show (getS [.val (.lst (ns.map Cor.D.int)), .val (.int i), s2, .own (dk a b c), .val r.d', .val (.int (sur r)), s6, s7, .val (.int n), s9, s10, .no] 9).nio = true from h9)]; rfl, ?_⟩
  have z1 := call2 (ma := eVar 4) (mb := eVar 8) (g := f_least_pages) (env := [.val (.lst (ns.map Cor.D.int)), .val (.int i), s2, .own (dk a b c), .val r.d', .val (.int (sur r)), s6, s7, .val (.int n), .own (.lst ((((List.range 12).map (· + 1)).filter (cp r n)).map fun k : Nat => Cor.D.int (k : Nat))), s10, .no]) (e1 := [.val (.lst (ns.map Cor.D.int)), .val (.int i), s2, .own (dk a b c), .val r.d', .val (.int (sur r)), s6, s7, .val (.int n), .own (.lst ((((List.range 12).map (· + 1)).filter (cp r n)).map fun k : Nat => Cor.D.int (k : Nat))), s10, .no]) (e2 := [.val (.lst (ns.map Cor.D.int)), .val (.int i), s2, .own (dk a b c), .val r.d', .val (.int (sur r)), s6, s7, .val (.int n), .own (.lst ((((List.range 12).map (· + 1)).filter (cp r n)).map fun k : Nat => Cor.D.int (k : Nat))), s10, .no]) (f1 := false) (f2 := false) rfl rfl lk
  have z2 : eIfe (eCmp .NotEq (eVar 9) (eLst aNil)) (eSub (eVar 9) (eLit (.int 0))) (eLit .non) [.val (.lst (ns.map Cor.D.int)), .val (.int i), s2, .own (dk a b c), .val r.d', .val (.int (sur r)), s6, s7, .val (.int n), .own (.lst ((((List.range 12).map (· + 1)).filter (cp r n)).map fun k : Nat => Cor.D.int (k : Nat))), s10, .no] = .ok (oN (((List.range 12).map (· + 1)).find? (cp r n))) false [.val (.lst (ns.map Cor.D.int)), .val (.int i), s2, .own (dk a b c), .val r.d', .val (.int (sur r)), s6, s7, .val (.int n), .val (.lst ((((List.range 12).map (· + 1)).filter (cp r n)).map fun k : Nat => Cor.D.int (k : Nat))), s10, .no] := by
    rw [hf]
    generalize ((List.range 12).map (· + 1)).filter (cp r n) = F
    cases F <;> simp [oN, atI]
  exact cmp2 z1 z2 ne_oN
theorem w2_ok {ns : List Int} {i : Nat} {a b c : Int} {r : Rul} (h : RulOk r) {v : Cor.D} (hv : v.plain = true) (hb : isFrom v 0 20 = false) {s2 s6 s7 s8 s9 : Cor.Slot} : w_law_2 [.val (.lst (ns.map Cor.D.int)), .val (.int i), s2, .own (dk a b c), .val r.d', .val (.int (sur r)), s6, s7, s8, s9, .val v, .no] = .nx [.val (.lst (ns.map Cor.D.int)), .val (.int i), s2, .own (dk a b c), .val r.d', .val (.int (sur r)), s6, s7, s8, s9, .val v, .no] := by
  have a1 := least_keep_bad h hv hb
  have a2 := least_pages_bad h hv hb
  have y1 : eCmp .NotEq (eTry (eCall f_least_keep (aCons (eVar 4) (aCons (eVar 10) aNil)))) (eLit (.str [78, 117, 109, 98, 101, 114, 43])) [.val (.lst (ns.map Cor.D.int)), .val (.int i), s2, .own (dk a b c), .val r.d', .val (.int (sur r)), s6, s7, s8, s9, .val v, .no] = .ok (.bl false) false [.val (.lst (ns.map Cor.D.int)), .val (.int i), s2, .own (dk a b c), .val r.d', .val (.int (sur r)), s6, s7, s8, s9, .val v, .no] :=
    try_err nm_InvalidNumber (call2x (ma := eVar 4) (mb := eVar 10) (f1 := false) (f2 := false) rfl rfl a1)
  have y2 : eCmp .NotEq (eTry (eCall f_least_pages (aCons (eVar 4) (aCons (eVar 10) aNil)))) (eLit (.str [78, 117, 109, 98, 101, 114, 43])) [.val (.lst (ns.map Cor.D.int)), .val (.int i), s2, .own (dk a b c), .val r.d', .val (.int (sur r)), s6, s7, s8, s9, .val v, .no] = .ok (.bl false) false [.val (.lst (ns.map Cor.D.int)), .val (.int i), s2, .own (dk a b c), .val r.d', .val (.int (sur r)), s6, s7, s8, s9, .val v, .no] :=
    try_err nm_InvalidNumber (call2x (ma := eVar 4) (mb := eVar 10) (f1 := false) (f2 := false) rfl rfl a2)
  unfold w_law_2
  rw [b_if y1, b_if y2, x_bNil]
end HD
set_option Elab.async false
set_option linter.all false
set_option maxRecDepth 100000
set_option maxHeartbeats 4000000
namespace HD
open PySem PySem.Spec L2 Cor
theorem m1_cnt {s : List Nat} {c : Nat} : m1D .count (.str s) (.str [c]) = some (.int ((s.filter fun x => x == c).length : Nat)) := rfl
theorem w0_ok {ns : List Int} (hl : ns.length ≤ 63) {i : Nat} (hi : i < 3) {s2 s3 s4 s5 s6 s7 s8 s9 s10 : Cor.Slot} (h3 : s3.nio = true) (h4 : s4.nio = true) (h5 : s5.nio = true) (h6 : s6.nio = true) (h7 : s7.nio = true) (h8 : s8.nio = true) (h9 : s9.nio = true) (h10 : s10.nio = true) :
    ∃ t3 t4 t5 t6 t7 t8 t9 t10, t3.nio = true ∧ t4.nio = true ∧ t5.nio = true ∧ t6.nio = true ∧ t7.nio = true ∧ t8.nio = true ∧ t9.nio = true ∧ t10.nio = true ∧ w_law_0 [.val (.lst (ns.map Cor.D.int)), .val (.int i), s2, s3, s4, s5, s6, s7, s8, s9, s10, .no] = .nx [.val (.lst (ns.map Cor.D.int)), .val (.int i), s2, t3, t4, t5, t6, t7, t8, t9, t10, .no] := by
  obtain ⟨a0, b0, hd, dk0⟩ := deck_at hl 3 (by decide) hi (env := [.val (.lst (ns.map Cor.D.int)), .val (.int i), s2, s3, s4, s5, s6, s7, s8, s9, s10, .no]) rfl rfl
  obtain ⟨r, a1, c1, e1, ro, dk1⟩ := rule_ok dk0 (by omega)
  obtain ⟨song, a2, c2, e2, hs, dk2⟩ := song_ok dk1 (by omega) (m := 60) (by decide) (by decide)
  obtain ⟨q, a3, c3, e3, g3, l3, dk3⟩ := pick_ok dk2 (l := 9) (by decide) (by decide) (by omega)
  obtain ⟨q2, a4, c4, e4, g4, l4, dk4⟩ := pick_ok dk3 (l := 6) (by decide) (by decide) (by omega)
  have sb := sur_bd ro
  have lsu := law_sure_ok ro
  have sli := sure_lines_ok ro
  have sz := sizes_ok ro hs
  have wc := wr_count hs.ev
  have sr := sur_row ro hs.ev
  have b1 : sSet 3 (eCall f__law_deck (aCons (eSub (eBin .Add (eVar 0) (eBin .Mult (eLst (aCons (eLit (.int 0)) aNil)) (eLit (.int 3)))) (eVar 1)) (aCons (eVar 1) aNil))) [.val (.lst (ns.map Cor.D.int)), .val (.int i), s2, s3, s4, s5, s6, s7, s8, s9, s10, .no] = .nx [.val (.lst (ns.map Cor.D.int)), .val (.int i), s2, .own (dk a0 b0 i), s4, s5, s6, s7, s8, s9, s10, .no] := by
    rw [x_sSet]; exact (congrArg (fun x => sK x _) hd).trans (by simp [h3])
  have b2 : sSet 4 (eCallIo f__law_rule 3 aNil) [.val (.lst (ns.map Cor.D.int)), .val (.int i), s2, .own (dk a0 b0 i), s4, s5, s6, s7, s8, s9, s10, .no] = .nx [.val (.lst (ns.map Cor.D.int)), .val (.int i), s2, .own (dk a1 b0 c1), .val r.d', s5, s6, s7, s8, s9, s10, .no] := by simp [e1, h4]
  have b3 : sSet 5 (eCall f__law_sure (aCons (eVar 4) aNil)) [.val (.lst (ns.map Cor.D.int)), .val (.int i), s2, .own (dk a1 b0 c1), .val r.d', s5, s6, s7, s8, s9, s10, .no] = .nx [.val (.lst (ns.map Cor.D.int)), .val (.int i), s2, .own (dk a1 b0 c1), .val r.d', .val (.int (sur r)), s6, s7, s8, s9, s10, .no] := by simp [lsu, h5]
  have y0 : eCmp .NotEq (eCall f_sure_lines (aCons (eVar 4) aNil)) (eVar 5) [.val (.lst (ns.map Cor.D.int)), .val (.int i), s2, .own (dk a1 b0 c1), .val r.d', .val (.int (sur r)), s6, s7, s8, s9, s10, .no] = .ok (.bl false) false [.val (.lst (ns.map Cor.D.int)), .val (.int i), s2, .own (dk a1 b0 c1), .val r.d', .val (.int (sur r)), s6, s7, s8, s9, s10, .no] := cmp2 (y := .int (sur r)) (f2 := false) (call1 (ma := eVar 4) (f1 := false) rfl sli) rfl (by simp)
  have b4 : sSet 6 (eCallIo f__law_song 3 (aCons (eLit (.int 60)) aNil)) [.val (.lst (ns.map Cor.D.int)), .val (.int i), s2, .own (dk a1 b0 c1), .val r.d', .val (.int (sur r)), s6, s7, s8, s9, s10, .no] = .nx [.val (.lst (ns.map Cor.D.int)), .val (.int i), s2, .own (dk a2 b0 c2), .val r.d', .val (.int (sur r)), .val (.str song), s7, s8, s9, s10, .no] := by simp [e2, h6]
  have b5 : sSet 7 (eBin .Add (eM1 .count (eVar 6) (eLit (.str [97]))) (eBin .Mult (eLit (.int 2)) (eM1 .count (eVar 6) (eLit (.str [98]))))) [.val (.lst (ns.map Cor.D.int)), .val (.int i), s2, .own (dk a2 b0 c2), .val r.d', .val (.int (sur r)), .val (.str song), s7, s8, s9, s10, .no] = .nx [.val (.lst (ns.map Cor.D.int)), .val (.int i), s2, .own (dk a2 b0 c2), .val r.d', .val (.int (sur r)), .val (.str song), .val (.int (wr song)), s8, s9, s10, .no] := by
    rw [← wc]; simp [h7, m1_cnt]
  have y1 : eCmp .Lt (eB1 .sum (eCall f_sizes (aCons (eVar 4) (aCons (eVar 6) aNil)))) (eMn2 (aCons (eVar 5) (aCons (eVar 7) aNil))) [.val (.lst (ns.map Cor.D.int)), .val (.int i), s2, .own (dk a2 b0 c2), .val r.d', .val (.int (sur r)), .val (.str song), .val (.int (wr song)), s8, s9, s10, .no] = .ok (.bl false) false [.val (.lst (ns.map Cor.D.int)), .val (.int i), s2, .own (dk a2 b0 c2), .val r.d', .val (.int (sur r)), .val (.str song), .val (.int (wr song)), s8, s9, s10, .no] := by
    have z1 := call2 (ma := eVar 4) (mb := eVar 6) (g := f_sizes) (env := [.val (.lst (ns.map Cor.D.int)), .val (.int i), s2, .own (dk a2 b0 c2), .val r.d', .val (.int (sur r)), .val (.str song), .val (.int (wr song)), s8, s9, s10, .no]) (e1 := [.val (.lst (ns.map Cor.D.int)), .val (.int i), s2, .own (dk a2 b0 c2), .val r.d', .val (.int (sur r)), .val (.str song), .val (.int (wr song)), s8, s9, s10, .no]) (e2 := [.val (.lst (ns.map Cor.D.int)), .val (.int i), s2, .own (dk a2 b0 c2), .val r.d', .val (.int (sur r)), .val (.str song), .val (.int (wr song)), s8, s9, s10, .no]) (f1 := false) (f2 := false) rfl rfl sz
    refine cmp2 (x := .int (gone r [0] song).sum) (y := .int (mn (sur r) (wr song))) (f1 := false) (f2 := false) (e1 := [.val (.lst (ns.map Cor.D.int)), .val (.int i), s2, .own (dk a2 b0 c2), .val r.d', .val (.int (sur r)), .val (.str song), .val (.int (wr song)), s8, s9, s10, .no]) ?_ ?_ ?_
    · rw [x_eB1, z1, K1_ok, sum_tI, outE_some]
    · simp [mn]
    · show some (decide _) = _
      rw [decide_eq_false (by omega)]
  obtain ⟨t9, k9, w1⟩ := w1_ok (ns := ns) (i := i) (a := a3) (b := b0) (c := c3) ro (n := q) (by omega) (by omega) (s2 := s2) (s6 := .val (.str song)) (s7 := .val (.int (wr song))) (s9 := s9) (s10 := s10) h9
  obtain ⟨u9, l9, w2⟩ := w1_ok (ns := ns) (i := i) (a := a3) (b := b0) (c := c3) ro (n := sur r + 1) (by omega) (by omega) (s2 := s2) (s6 := .val (.str song)) (s7 := .val (.int (wr song))) (s9 := t9) (s10 := s10) k9
  have pk : eCallIo f__law_pick 3 (aCons (eLit (.int 9)) aNil) [.val (.lst (ns.map Cor.D.int)), .val (.int i), s2, .own (dk a2 b0 c2), .val r.d', .val (.int (sur r)), .val (.str song), .val (.int (wr song)), s8, s9, s10, .no] = .ok (.int q) false [.val (.lst (ns.map Cor.D.int)), .val (.int i), s2, .own (dk a3 b0 c3), .val r.d', .val (.int (sur r)), .val (.str song), .val (.int (wr song)), s8, s9, s10, .no] := callIo1 (ma := eLit (.int 9)) (f1 := false) rfl rfl rfl e3
  have tu : (eTup (aCons (eCallIo f__law_pick 3 (aCons (eLit (.int 9)) aNil)) (aCons (eBin .Add (eVar 5) (eLit (.int 1))) aNil))) [.val (.lst (ns.map Cor.D.int)), .val (.int i), s2, .own (dk a2 b0 c2), .val r.d', .val (.int (sur r)), .val (.str song), .val (.int (wr song)), s8, s9, s10, .no] = .ok (.tup [.int q, .int (sur r + 1)]) false [.val (.lst (ns.map Cor.D.int)), .val (.int i), s2, .own (dk a3 b0 c3), .val r.d', .val (.int (sur r)), .val (.str song), .val (.int (wr song)), s8, s9, s10, .no] := by
    generalize eCallIo f__law_pick 3 (aCons (eLit (.int 9)) aNil) = M at *
    simp [pk]
  have b6 : sFor (iAny (eTup (aCons (eCallIo f__law_pick 3 (aCons (eLit (.int 9)) aNil)) (aCons (eBin .Add (eVar 5) (eLit (.int 1))) aNil)))) (.nm 8) w_law_1 [.val (.lst (ns.map Cor.D.int)), .val (.int i), s2, .own (dk a2 b0 c2), .val r.d', .val (.int (sur r)), .val (.str song), .val (.int (wr song)), s8, s9, s10, .no] = .nx [.val (.lst (ns.map Cor.D.int)), .val (.int i), s2, .own (dk a3 b0 c3), .val r.d', .val (.int (sur r)), .val (.str song), .val (.int (wr song)), .val (.int (sur r + 1)), u9, s10, .no] := by
    rw [for_tup tu, forL_step, show asg (.nm 8) (.int q) [.val (.lst (ns.map Cor.D.int)), .val (.int i), s2, .own (dk a3 b0 c3), .val r.d', .val (.int (sur r)), .val (.str song), .val (.int (wr song)), s8, s9, s10, .no] = some [.val (.lst (ns.map Cor.D.int)), .val (.int i), s2, .own (dk a3 b0 c3), .val r.d', .val (.int (sur r)), .val (.str song), .val (.int (wr song)), .val (.int q), s9, s10, .no] by simp [h8], seK_ok, w1, feK_nx, forL_step, show asg (.nm 8) (.int (sur r + 1)) [.val (.lst (ns.map Cor.D.int)), .val (.int i), s2, .own (dk a3 b0 c3), .val r.d', .val (.int (sur r)), .val (.str song), .val (.int (wr song)), .val (.int q), t9, s10, .no] = some [.val (.lst (ns.map Cor.D.int)), .val (.int i), s2, .own (dk a3 b0 c3), .val r.d', .val (.int (sur r)), .val (.str song), .val (.int (wr song)), .val (.int (sur r + 1)), t9, s10, .no] by simp, seK_ok, w2, feK_nx]
    rfl
  have b7 : sSet 8 (eCallIo f__law_pick 3 (aCons (eLit (.int 6)) aNil)) [.val (.lst (ns.map Cor.D.int)), .val (.int i), s2, .own (dk a3 b0 c3), .val r.d', .val (.int (sur r)), .val (.str song), .val (.int (wr song)), .val (.int (sur r + 1)), u9, s10, .no] = .nx [.val (.lst (ns.map Cor.D.int)), .val (.int i), s2, .own (dk a4 b0 c4), .val r.d', .val (.int (sur r)), .val (.str song), .val (.int (wr song)), .val (.int q2), u9, s10, .no] := by simp [e4]
  obtain ⟨b8, y2⟩ := wp_ok (ns := ns) (i := i) (a := a4) (b := b0) (c := c4) ro (n := q2) (by omega) (by omega) (s2 := s2) (s6 := .val (.str song)) (s7 := .val (.int (wr song))) (s9 := u9) (s10 := s10) l9
  obtain ⟨v9, hv9⟩ : ∃ v9 : Cor.Slot, v9 = .val (.lst ((((List.range 12).map (· + 1)).filter (cp r q2)).map fun k : Nat => Cor.D.int (k : Nat))) := ⟨_, rfl⟩
  rw [← hv9] at y2
  have n9 : v9.nio = true := by rw [hv9]; rfl
  obtain ⟨e', k, t10, k10, rfl⟩ := for_fold (t := .nm 10) (ss := w_law_2) (fun v : Cor.D => v) (fun (_ : Unit) _ => ()) (fun _ e => ∃ s10, s10.nio = true ∧ e = [.val (.lst (ns.map Cor.D.int)), .val (.int i), s2, .own (dk a4 b0 c4), .val r.d', .val (.int (sur r)), .val (.str song), .val (.int (wr song)), .val (.int q2), v9, s10, .no]) [.int (-1), .int 21, .non, .bl true] () [.val (.lst (ns.map Cor.D.int)), .val (.int i), s2, .own (dk a4 b0 c4), .val r.d', .val (.int (sur r)), .val (.str song), .val (.int (wr song)), .val (.int q2), v9, s10, .no] (fun _ v e hv ⟨s10, h10, he⟩ => by
    have hp : v.plain = true ∧ isFrom v 0 20 = false := by
      simp only [List.mem_cons, List.not_mem_nil, or_false] at hv
      rcases hv with rfl | rfl | rfl | rfl <;> exact ⟨rfl, rfl⟩
    refine ⟨[.val (.lst (ns.map Cor.D.int)), .val (.int i), s2, .own (dk a4 b0 c4), .val r.d', .val (.int (sur r)), .val (.str song), .val (.int (wr song)), .val (.int q2), v9, .val v, .no], by rw [he]; simp [h10], [.val (.lst (ns.map Cor.D.int)), .val (.int i), s2, .own (dk a4 b0 c4), .val r.d', .val (.int (sur r)), .val (.str song), .val (.int (wr song)), .val (.int q2), v9, .val v, .no], .inl ?_, _, ?_, rfl⟩
    · exact w2_ok (ns := ns) (i := i) (a := a4) (b := b0) (c := c4) ro hp.1 hp.2
    · rfl) ⟨s10, h10, rfl⟩
  have tu2 : (eTup (aCons (eNeg (eLit (.int 1))) (aCons (eLit (.int 21)) (aCons (eLit .non) (aCons (eLit (.bl true)) aNil))))) [.val (.lst (ns.map Cor.D.int)), .val (.int i), s2, .own (dk a4 b0 c4), .val r.d', .val (.int (sur r)), .val (.str song), .val (.int (wr song)), .val (.int q2), v9, s10, .no] = .ok (.tup [.int (-1), .int 21, .non, .bl true]) false [.val (.lst (ns.map Cor.D.int)), .val (.int i), s2, .own (dk a4 b0 c4), .val r.d', .val (.int (sur r)), .val (.str song), .val (.int (wr song)), .val (.int q2), v9, s10, .no] := by simp
  refine ⟨.own (dk a4 b0 c4), .val r.d', .val (.int (sur r)), .val (.str song), .val (.int (wr song)), .val (.int q2), v9, t10, rfl, rfl, rfl, rfl, rfl, rfl, n9, k10, ?_⟩
  unfold w_law_0
  rw [b_step b1, b_step b2, b_step b3, b_if y0, b_step b4, b_step b5, b_if y1, b_step b6, b_step b7, b_step b8, b_if y2, b_step ((for_tup tu2).trans (by rw [List.map_id'] at k; exact k)), x_bNil]
def rE : Rul := ⟨2, true, false, false, 1, none, 1⟩
def rV : Rul := ⟨1, false, true, true, 3, none, 1⟩
theorem okE : RulOk rE := ⟨by decide, by decide, by decide, by decide, (fun _ h => by cases h), by decide, by decide⟩
theorem okV : RulOk rV := ⟨by decide, by decide, by decide, by decide, (fun _ h => by cases h), by decide, by decide⟩
theorem sE : sur rE = 3 := by decide +kernel
theorem sV : sur rV = 0 := by decide +kernel
theorem kE3 : (List.range 4).find? (ck rE 3) = some 1 := by decide +kernel
theorem kE5 : (List.range 4).find? (ck rE 5) = some 3 := by decide +kernel
theorem kE7 : (List.range 4).find? (ck rE 7) = none := by decide +kernel
theorem pE2 : ((List.range 12).map (· + 1)).find? (cp rE 2) = some 3 := by decide +kernel
theorem pE3 : ((List.range 12).map (· + 1)).find? (cp rE 3) = some 4 := by decide +kernel
theorem pE4 : ((List.range 12).map (· + 1)).find? (cp rE 4) = none := by decide +kernel
theorem law_ok (ns : List Int) (hl : ns.length ≤ 63) : f_law [.lst (ns.map Cor.D.int)] = .ret (.bl true) false none := by
  have slE := sure_lines_ok okE
  have slV := sure_lines_ok okV
  rw [sE] at slE
  rw [sV] at slV
  obtain ⟨f1, kk3⟩ := least_keep_ok okE (n := 3) (by decide) (by decide)
  obtain ⟨f2, kk5⟩ := least_keep_ok okE (n := 5) (by decide) (by decide)
  obtain ⟨f3, kk7⟩ := least_keep_ok okE (n := 7) (by decide) (by decide)
  obtain ⟨f4, p2⟩ := least_pages_ok okE (n := 2) (by decide) (by decide)
  obtain ⟨f5, p3⟩ := least_pages_ok okE (n := 3) (by decide) (by decide)
  obtain ⟨f6, p4⟩ := least_pages_ok okE (n := 4) (by decide) (by decide)
  rw [kE3] at kk3
  rw [kE5] at kk5
  rw [kE7] at kk7
  rw [pE2] at p2
  rw [pE3] at p3
  rw [pE4] at p4
  obtain ⟨e', k, s1, s3, s4, s5, s6, s7, s8, s9, s10, k1, k3, k4, k5, k6, k7, k8, k9, k10, rfl⟩ := for_rng (t := .nm 1) (ss := w_law_0)
    (fun _ e => ∃ s1 s3 s4 s5 s6 s7 s8 s9 s10, s1.nio = true ∧ s3.nio = true ∧ s4.nio = true ∧ s5.nio = true ∧ s6.nio = true ∧ s7.nio = true ∧ s8.nio = true ∧ s9.nio = true ∧ s10.nio = true ∧ e = [.val (.lst (ns.map Cor.D.int)), s1, .no, s3, s4, s5, s6, s7, s8, s9, s10, .no])
    3 [.val (.lst (ns.map Cor.D.int)), .no, .no, .no, .no, .no, .no, .no, .no, .no, .no, .no] (fun i e hi ⟨s1, s3, s4, s5, s6, s7, s8, s9, s10, k1, k3, k4, k5, k6, k7, k8, k9, k10, he⟩ => by
      obtain ⟨t3, t4, t5, t6, t7, t8, t9, t10, l3, l4, l5, l6, l7, l8, l9, l10, ew⟩ := w0_ok hl hi (s2 := .no) k3 k4 k5 k6 k7 k8 k9 k10
      exact ⟨[.val (.lst (ns.map Cor.D.int)), .val (.int i), .no, s3, s4, s5, s6, s7, s8, s9, s10, .no], by rw [he]; simp [k1], _, .inl ew, _, _, _, _, _, _, _, _, _, rfl, l3, l4, l5, l6, l7, l8, l9, l10, rfl⟩) ⟨_, _, _, _, _, _, _, _, _, rfl, rfl, rfl, rfl, rfl, rfl, rfl, rfl, rfl, rfl⟩
  unfold f_law
  rw [x_sem0]
  unfold m_law
  have st : startE 12 false [.lst (ns.map Cor.D.int)] = [.val (.lst (ns.map Cor.D.int)), .no, .no, .no, .no, .no, .no, .no, .no, .no, .no, .no] := rfl
  rw [st, b_step (e1 := [.val (.lst (ns.map Cor.D.int)), s1, .no, s3, s4, s5, s6, s7, s8, s9, s10, .no]) ((sFor_rng (m := eLit (.int 3)) (n := 3) (f := false) rfl (by decide)).trans k)]
  have y1 : eCmp .NotEq (eCall f_sure_lines (aCons (eVar 2) aNil)) (eLit (.int 3)) [.val (.lst (ns.map Cor.D.int)), s1, .val rE.d', s3, s4, s5, s6, s7, s8, s9, s10, .no] = .ok (.bl false) false [.val (.lst (ns.map Cor.D.int)), s1, .val rE.d', s3, s4, s5, s6, s7, s8, s9, s10, .no] := cmp2 (y := .int 3) (f2 := false) (call1 (ma := eVar 2) (f1 := false) rfl slE) rfl (by simp)
  have z1 : eComp [11] (iAny (eTup (aCons (eLit (.int 3)) (aCons (eLit (.int 5)) (aCons (eLit (.int 7)) aNil))))) (.nm 11) eYes (eCall f_least_keep (aCons (eVar 2) (aCons (eVar 11) aNil))) [.val (.lst (ns.map Cor.D.int)), s1, .val rE.d', s3, s4, s5, s6, s7, s8, s9, s10, .no] = .ok (.lst [.int 1, .int 3, .non]) true [.val (.lst (ns.map Cor.D.int)), s1, .val rE.d', s3, s4, s5, s6, s7, s8, s9, s10, .no] := by
    simp [kk3, kk5, kk7, oN]
  have y2 : eCmp .NotEq (eComp [11] (iAny (eTup (aCons (eLit (.int 3)) (aCons (eLit (.int 5)) (aCons (eLit (.int 7)) aNil))))) (.nm 11) eYes (eCall f_least_keep (aCons (eVar 2) (aCons (eVar 11) aNil)))) (eLst (aCons (eLit (.int 1)) (aCons (eLit (.int 3)) (aCons (eLit .non) aNil)))) [.val (.lst (ns.map Cor.D.int)), s1, .val rE.d', s3, s4, s5, s6, s7, s8, s9, s10, .no] = .ok (.bl false) false [.val (.lst (ns.map Cor.D.int)), s1, .val rE.d', s3, s4, s5, s6, s7, s8, s9, s10, .no] :=
    cmp2 z1 (y := .lst [.int 1, .int 3, .non]) (f2 := true) (by simp) rfl
  have z2 : eComp [11] (iAny (eTup (aCons (eLit (.int 2)) (aCons (eLit (.int 3)) (aCons (eLit (.int 4)) aNil))))) (.nm 11) eYes (eCall f_least_pages (aCons (eVar 2) (aCons (eVar 11) aNil))) [.val (.lst (ns.map Cor.D.int)), s1, .val rE.d', s3, s4, s5, s6, s7, s8, s9, s10, .no] = .ok (.lst [.int 3, .int 4, .non]) true [.val (.lst (ns.map Cor.D.int)), s1, .val rE.d', s3, s4, s5, s6, s7, s8, s9, s10, .no] := by
    simp [p2, p3, p4, oN]
  have y3 : eCmp .NotEq (eComp [11] (iAny (eTup (aCons (eLit (.int 2)) (aCons (eLit (.int 3)) (aCons (eLit (.int 4)) aNil))))) (.nm 11) eYes (eCall f_least_pages (aCons (eVar 2) (aCons (eVar 11) aNil)))) (eLst (aCons (eLit (.int 3)) (aCons (eLit (.int 4)) (aCons (eLit .non) aNil)))) [.val (.lst (ns.map Cor.D.int)), s1, .val rE.d', s3, s4, s5, s6, s7, s8, s9, s10, .no] = .ok (.bl false) false [.val (.lst (ns.map Cor.D.int)), s1, .val rE.d', s3, s4, s5, s6, s7, s8, s9, s10, .no] :=
    cmp2 z2 (y := .lst [.int 3, .int 4, .non]) (f2 := true) (by simp) rfl
  have y4 : eCmp .Eq (eCall f_sure_lines (aCons (eTup (aCons (eLit (.int 1)) (aCons (eLit (.bl false)) (aCons (eLit (.bl true)) (aCons (eLit (.bl true)) (aCons (eLit (.int 3)) (aCons (eLit .non) (aCons (eLit (.int 1)) aNil)))))))) aNil)) (eLit (.int 0)) [.val (.lst (ns.map Cor.D.int)), s1, .val rE.d', s3, s4, s5, s6, s7, s8, s9, s10, .no] = .ok (.bl true) false [.val (.lst (ns.map Cor.D.int)), s1, .val rE.d', s3, s4, s5, s6, s7, s8, s9, s10, .no] := cmp2 (y := .int 0) (f2 := false) (call1 (e1 := [.val (.lst (ns.map Cor.D.int)), s1, .val rE.d', s3, s4, s5, s6, s7, s8, s9, s10, .no]) (x := rV.d') (f1 := false) (by simp [rV]) slV) rfl (by simp)
  rw [b_step (e1 := [.val (.lst (ns.map Cor.D.int)), s1, .val rE.d', s3, s4, s5, s6, s7, s8, s9, s10, .no]) (by simp [rE]), b_if (or_ff y1 y2), b_if y3, x_bCons, ret_ y4, bK_rt, fin0_rt]
end HD
set_option Elab.async false
set_option linter.all false
set_option maxRecDepth 100000
set_option maxHeartbeats 0
namespace HD
open PySem PySem.Spec PyProof.Rows L2 Cor
theorem fct {K : PySem.W.Frag} {h : Heap} {mg : Str → Option Value} (X : K.In h) (G : h.Ns mainGlobals mg) (c : He.SaysD fa fn K) (cm : ex K = true) : Fct K mg where
  m_ValueError := He.free_ok X G (c.fact 30 (f := .free "ValueError") rfl)
  m_all := He.free_ok X G (c.fact 31 (f := .free "all") rfl)
  m_bool := He.free_ok X G (c.fact 32 (f := .free "bool") rfl)
  m_int := He.free_ok X G (c.fact 33 (f := .free "int") rfl)
  m_isinstance := He.free_ok X G (c.fact 34 (f := .free "isinstance") rfl)
  m_len := He.free_ok X G (c.fact 35 (f := .free "len") rfl)
  m_list := He.free_ok X G (c.fact 36 (f := .free "list") rfl)
  m_max := He.free_ok X G (c.fact 37 (f := .free "max") rfl)
  m_min := He.free_ok X G (c.fact 38 (f := .free "min") rfl)
  m_range := He.free_ok X G (c.fact 39 (f := .free "range") rfl)
  m_str := He.free_ok X G (c.fact 40 (f := .free "str") rfl)
  m_sum := He.free_ok X G (c.fact 41 (f := .free "sum") rfl)
  m_tuple := He.free_ok X G (c.fact 42 (f := .free "tuple") rfl)
  m_zip := He.free_ok X G (c.fact 43 (f := .free "zip") rfl)
  g_MOST_SIZE := He.int_ok X G (c.fact 44 (f := .int "MOST_SIZE" 3) rfl)
  g_MOST_KEEP := He.int_ok X G (c.fact 45 (f := .int "MOST_KEEP" 3) rfl)
  g_MOST_PAGES := He.int_ok X G (c.fact 46 (f := .int "MOST_PAGES" 12) rfl)
  g_MOST_FACTOR := He.int_ok X G (c.fact 47 (f := .int "MOST_FACTOR" 3) rfl)
  g_MOST_EVENTS := He.int_ok X G (c.fact 48 (f := .int "MOST_EVENTS" 60) rfl)
  g_EVENTS := He.str_ok X G (c.fact 49 (f := .str "EVENTS" "-ab") rfl)
  x_InvalidNumber := xc_ok (He.glo_ok X G (c.fact 52 (f := .glo "InvalidNumber") rfl)) (c.fact 53 (f := .exc "InvalidNumber") rfl)
  x_InvalidRow := xc_ok (He.glo_ok X G (c.fact 54 (f := .glo "InvalidRow") rfl)) (c.fact 55 (f := .exc "InvalidRow") rfl)
  x_InvalidRule := xc_ok (He.glo_ok X G (c.fact 56 (f := .glo "InvalidRule") rfl)) (c.fact 57 (f := .exc "InvalidRule") rfl)
  xn := xnB_ok (Bool.and_eq_true_iff.mp (Bool.and_eq_true_iff.mp cm).1).2 (He.glo_ok X G (c.fact 51 (f := .glo "LogError") rfl)) fun n hn => He.glo_ok X G (c.facts (f := .glo n) (List.mem_append_right _ (List.mem_map.mpr ⟨n, hn, rfl⟩)))
  xl := ⟨_, He.glo_ok X G (c.fact 51 (f := .glo "LogError") rfl)⟩
  t_FIRST := ⟨_, He.glo_ok X G (c.fact 50 (f := .glo "FIRST") rfl), fun H => He.tupB_ok (Bool.and_eq_true_iff.mp cm).2 H⟩
theorem facts {P : Program} {w : World} {K : PySem.W.Frag} {h : Heap} {mg : Str → Option Value} {f : Addr} (X : K.In h) (G : h.Ns mainGlobals mg) (hfa : mg ("law" : Str) = some (.ref f)) (c : He.SaysD fa fn K) (cm : ex K = true) :
    ∃ fd : FuncData, (∀ (s : Shared) (v : Value), BindsTo s fd ⟨[v], []⟩ [("_law_script", v)]) ∧ ∀ base : Heap, K.In base → base.Ns mainGlobals mg → (∀ p ∈ LamDefs.names.map fun n => He.cT K (n, none), LamX.TabB base mg p.1 p.2) → FnOk P w K mg base (L2N.CX P w) 9 f fd ["_law_script"] (spLaw K) := by
  have F0 := fct X G c cm
  have u : uqB K = true := (Bool.and_eq_true_iff.mp (Bool.and_eq_true_iff.mp cm).1).1
  obtain ⟨fd__law_deck, F__law_deck⟩ := c.def_ 20 (d := d46) rfl
  obtain ⟨fd__law_pick, F__law_pick⟩ := c.def_ 21 (d := d47) rfl
  obtain ⟨fd__law_rule, F__law_rule⟩ := c.def_ 26 (d := d53) rfl
  obtain ⟨fd__law_weight, F__law_weight⟩ := c.def_ 24 (d := d50) rfl
  obtain ⟨fd__law_step, F__law_step⟩ := c.def_ 25 (d := d51) rfl
  obtain ⟨fd__law_sure, F__law_sure⟩ := c.def_ 28 (d := d55) rfl
  obtain ⟨fd__law_song, F__law_song⟩ := c.def_ 27 (d := d54) rfl
  obtain ⟨fd_is_from, F_is_from⟩ := c.def_ 0 (d := d20) rfl
  obtain ⟨fd_is_rule_of, F_is_rule_of⟩ := c.def_ 1 (d := d21) rfl
  obtain ⟨fd_need_rule, F_need_rule⟩ := c.def_ 3 (d := d23) rfl
  obtain ⟨fd_pages_of, F_pages_of⟩ := c.def_ 6 (d := d28) rfl
  obtain ⟨fd_within, F_within⟩ := c.def_ 8 (d := d30) rfl
  obtain ⟨fd_turned, F_turned⟩ := c.def_ 7 (d := d29) rfl
  obtain ⟨fd_moved, F_moved⟩ := c.def_ 9 (d := d31) rfl
  obtain ⟨fd_states_of, F_states_of⟩ := c.def_ 13 (d := d36) rfl
  obtain ⟨fd_lines_of, F_lines_of⟩ := c.def_ 14 (d := d38) rfl
  obtain ⟨fd_sure_of, F_sure_of⟩ := c.def_ 16 (d := d40) rfl
  obtain ⟨fd_sure_lines, F_sure_lines⟩ := c.def_ 15 (d := d39) rfl
  obtain ⟨fd_need_number, F_need_number⟩ := c.def_ 5 (d := d25) rfl
  obtain ⟨fd_with_part, F_with_part⟩ := c.def_ 17 (d := d42) rfl
  obtain ⟨fd_least_pages, F_least_pages⟩ := c.def_ 19 (d := d44) rfl
  obtain ⟨fd_is_row_of, F_is_row_of⟩ := c.def_ 2 (d := d22) rfl
  obtain ⟨fd_need_row, F_need_row⟩ := c.def_ 4 (d := d24) rfl
  obtain ⟨fd_walked, F_walked⟩ := c.def_ 10 (d := d32) rfl
  obtain ⟨fd_behind, F_behind⟩ := c.def_ 11 (d := d33) rfl
  obtain ⟨fd_sizes, F_sizes⟩ := c.def_ 12 (d := d34) rfl
  obtain ⟨fd_least_keep, F_least_keep⟩ := c.def_ 18 (d := d43) rfl
  obtain ⟨fd_law, F_law⟩ := c.def_ 29 (d := d56) rfl
  obtain ⟨fd__law_name_of, F__law_name_of⟩ := c.def_ 22 (d := d48) rfl
  obtain ⟨fd__law_try, F__law_try⟩ := c.def_ 23 (d := d49) rfl
  have G__law_deck := He.glo_ok X G (c.fact 20 (f := .glo "_law_deck") rfl)
  have G__law_pick := He.glo_ok X G (c.fact 21 (f := .glo "_law_pick") rfl)
  have G__law_rule := He.glo_ok X G (c.fact 26 (f := .glo "_law_rule") rfl)
  have G__law_weight := He.glo_ok X G (c.fact 24 (f := .glo "_law_weight") rfl)
  have G__law_step := He.glo_ok X G (c.fact 25 (f := .glo "_law_step") rfl)
  have G__law_sure := He.glo_ok X G (c.fact 28 (f := .glo "_law_sure") rfl)
  have G__law_song := He.glo_ok X G (c.fact 27 (f := .glo "_law_song") rfl)
  have G_is_from := He.glo_ok X G (c.fact 0 (f := .glo "is_from") rfl)
  have G_is_rule_of := He.glo_ok X G (c.fact 1 (f := .glo "is_rule_of") rfl)
  have G_need_rule := He.glo_ok X G (c.fact 3 (f := .glo "need_rule") rfl)
  have G_pages_of := He.glo_ok X G (c.fact 6 (f := .glo "pages_of") rfl)
  have G_within := He.glo_ok X G (c.fact 8 (f := .glo "within") rfl)
  have G_turned := He.glo_ok X G (c.fact 7 (f := .glo "turned") rfl)
  have G_moved := He.glo_ok X G (c.fact 9 (f := .glo "moved") rfl)
  have G_states_of := He.glo_ok X G (c.fact 13 (f := .glo "states_of") rfl)
  have G_lines_of := He.glo_ok X G (c.fact 14 (f := .glo "lines_of") rfl)
  have G_sure_of := He.glo_ok X G (c.fact 16 (f := .glo "sure_of") rfl)
  have G_sure_lines := He.glo_ok X G (c.fact 15 (f := .glo "sure_lines") rfl)
  have G_need_number := He.glo_ok X G (c.fact 5 (f := .glo "need_number") rfl)
  have G_with_part := He.glo_ok X G (c.fact 17 (f := .glo "with_part") rfl)
  have G_least_pages := He.glo_ok X G (c.fact 19 (f := .glo "least_pages") rfl)
  have G_is_row_of := He.glo_ok X G (c.fact 2 (f := .glo "is_row_of") rfl)
  have G_need_row := He.glo_ok X G (c.fact 4 (f := .glo "need_row") rfl)
  have G_walked := He.glo_ok X G (c.fact 10 (f := .glo "walked") rfl)
  have G_behind := He.glo_ok X G (c.fact 11 (f := .glo "behind") rfl)
  have G_sizes := He.glo_ok X G (c.fact 12 (f := .glo "sizes") rfl)
  have G_least_keep := He.glo_ok X G (c.fact 18 (f := .glo "least_keep") rfl)
  have G__law_name_of := He.glo_ok X G (c.fact 22 (f := .glo "_law_name_of") rfl)
  have G__law_try := He.glo_ok X G (c.fact 23 (f := .glo "_law_try") rfl)
  have e := hfa.symm.trans (He.glo_ok X G (c.fact 29 (f := .glo "law") rfl))
  cases e
  have b := FunD.bindsA (ps := ["_law_script"]) F_law fun _ _ _ _ _ _ us hl => match us, hl with | [_], _ => rfl
  refine ⟨fd_law, fun s v => b s [v] rfl, fun base kb gb TB => FnOk.imp ?_ (sp_of (mg := mg) law_ok)⟩
  have nm : NmOk P w K mg base 1 := nm_of G__law_name_of F__law_name_of (F__law_name_of.bindsN (ps := ["_law_e"]) fun _ _ _ _ _ _ us hl => match us, hl with | [_], _ => rfl) S__law_name_of (b__law_name_of F0) nm_z
  obtain ⟨CL, hCL⟩ := F0.xl
  have T : TryOk P w K mg base 1 := try_of G__law_try F__law_try (F__law_try.bindsN (ps := ["_law_door"]) fun _ _ _ _ _ _ us hl => match us, hl with | [_], _ => rfl) S__law_try rfl (.inl (by kernel_rfl)) (by decide) (by decide) (b__law_try nm CL hCL)
  have c__law_deck : FnS P w K mg base 1 "_law_deck" 2 false f__law_deck := fnS_of G__law_deck F__law_deck (F__law_deck.bindsN (ps := ["_law_cell", "_law_turn"]) fun _ _ _ _ _ _ us hl => match us, hl with | [_, _], _ => rfl) S__law_deck rfl (b__law_deck F0 )
  have c__law_pick : FnS P w K mg base 1 "_law_pick" 2 true f__law_pick := fnS_of G__law_pick F__law_pick (F__law_pick.bindsN (ps := ["_law_deck_here", "_law_limit"]) fun _ _ _ _ _ _ us hl => match us, hl with | [_, _], _ => rfl) S__law_pick rfl (b__law_pick F0 )
  have c__law_rule : FnS P w K mg base 2 "_law_rule" 1 true f__law_rule := fnS_of G__law_rule F__law_rule (F__law_rule.bindsN (ps := ["_law_deck_here"]) fun _ _ _ _ _ _ us hl => match us, hl with | [_], _ => rfl) S__law_rule rfl (b__law_rule F0 c__law_pick)
  have c__law_weight : FnS P w K mg base 1 "_law_weight" 2 false f__law_weight := fnS_of G__law_weight F__law_weight (F__law_weight.bindsN (ps := ["_law_r", "_law_line"]) fun _ _ _ _ _ _ us hl => match us, hl with | [_, _], _ => rfl) S__law_weight rfl (b__law_weight F0 )
  have c__law_step : FnS P w K mg base 2 "_law_step" 3 false f__law_step := fnS_of G__law_step F__law_step (F__law_step.bindsN (ps := ["_law_r", "_law_here", "_law_event"]) fun _ _ _ _ _ _ us hl => match us, hl with | [_, _, _], _ => rfl) S__law_step rfl (b__law_step F0 c__law_weight)
  have c__law_sure : FnS P w K mg base 3 "_law_sure" 1 false f__law_sure := fnS_of G__law_sure F__law_sure (F__law_sure.bindsN (ps := ["_law_r"]) fun _ _ _ _ _ _ us hl => match us, hl with | [_], _ => rfl) S__law_sure rfl (b__law_sure F0 c__law_step)
  have c__law_song : FnS P w K mg base 2 "_law_song" 2 true f__law_song := fnS_of G__law_song F__law_song (F__law_song.bindsN (ps := ["_law_deck_here", "_law_most"]) fun _ _ _ _ _ _ us hl => match us, hl with | [_, _], _ => rfl) S__law_song rfl (b__law_song F0 c__law_pick)
  have c_is_from : FnS P w K mg base 1 "is_from" 3 false f_is_from := fnS_of G_is_from F_is_from (F_is_from.bindsN (ps := ["value", "low", "high"]) fun _ _ _ _ _ _ us hl => match us, hl with | [_, _, _], _ => rfl) S_is_from rfl (b_is_from F0 )
  have c_is_rule_of : FnS P w K mg base 2 "is_rule_of" 1 false f_is_rule_of := fnS_of G_is_rule_of F_is_rule_of (F_is_rule_of.bindsN (ps := ["value"]) fun _ _ _ _ _ _ us hl => match us, hl with | [_], _ => rfl) S_is_rule_of rfl (b_is_rule_of F0 c_is_from)
  have c_need_rule : FnS P w K mg base 3 "need_rule" 1 false f_need_rule := fnS_of G_need_rule F_need_rule (F_need_rule.bindsN (ps := ["value"]) fun _ _ _ _ _ _ us hl => match us, hl with | [_], _ => rfl) S_need_rule rfl (b_need_rule F0 c_is_rule_of)
  have c_pages_of : FnS P w K mg base 1 "pages_of" 2 false f_pages_of := fnS_of G_pages_of F_pages_of (F_pages_of.bindsN (ps := ["rule", "sizes"]) fun _ _ _ _ _ _ us hl => match us, hl with | [_, _], _ => rfl) S_pages_of rfl (b_pages_of F0 )
  have c_within : FnS P w K mg base 2 "within" 2 false f_within := fnS_of G_within F_within (F_within.bindsN (ps := ["rule", "sizes"]) fun _ _ _ _ _ _ us hl => match us, hl with | [_, _], _ => rfl) S_within rfl (b_within F0 c_pages_of)
  have c_turned : FnS P w K mg base 1 "turned" 2 false f_turned := fnS_of G_turned F_turned (F_turned.bindsN (ps := ["rule", "sizes"]) fun _ _ _ _ _ _ us hl => match us, hl with | [_, _], _ => rfl) S_turned rfl (b_turned F0 )
  have c_moved : FnS P w K mg base 3 "moved" 3 false f_moved := fnS_of G_moved F_moved (F_moved.bindsN (ps := ["rule", "sizes", "event"]) fun _ _ _ _ _ _ us hl => match us, hl with | [_, _, _], _ => rfl) S_moved rfl (b_moved F0 c_turned c_within)
  have c_states_of : FnS P w K mg base 4 "states_of" 1 false f_states_of := fnS_of G_states_of F_states_of (F_states_of.bindsN (ps := ["rule"]) fun _ _ _ _ _ _ us hl => match us, hl with | [_], _ => rfl) S_states_of rfl (b_states_of F0 c_moved)
  have c_lines_of : FnS P w K mg base 1 "lines_of" 1 false f_lines_of := fnS_of G_lines_of F_lines_of (F_lines_of.bindsN (ps := ["event"]) fun _ _ _ _ _ _ us hl => match us, hl with | [_], _ => rfl) S_lines_of rfl (b_lines_of F0 )
  have c_sure_of : FnS P w K mg base 5 "sure_of" 1 false f_sure_of := fnS_of G_sure_of F_sure_of (F_sure_of.bindsN (ps := ["rule"]) fun _ _ _ _ _ _ us hl => match us, hl with | [_], _ => rfl) S_sure_of rfl (b_sure_of F0 c_states_of c_moved c_lines_of)
  have c_sure_lines : FnS P w K mg base 6 "sure_lines" 1 false f_sure_lines := fnS_of G_sure_lines F_sure_lines (F_sure_lines.bindsN (ps := ["rule"]) fun _ _ _ _ _ _ us hl => match us, hl with | [_], _ => rfl) S_sure_lines rfl (b_sure_lines F0 c_need_rule c_sure_of)
  have c_need_number : FnS P w K mg base 2 "need_number" 3 false f_need_number := fnS_of G_need_number F_need_number (F_need_number.bindsN (ps := ["value", "low", "high"]) fun _ _ _ _ _ _ us hl => match us, hl with | [_, _, _], _ => rfl) S_need_number rfl (b_need_number F0 c_is_from)
  have c_with_part : FnS P w K mg base 1 "with_part" 3 false f_with_part := fnS_of G_with_part F_with_part (F_with_part.bindsN (ps := ["rule", "index", "value"]) fun _ _ _ _ _ _ us hl => match us, hl with | [_, _, _], _ => rfl) S_with_part rfl (b_with_part F0 )
  have c_least_pages : FnS P w K mg base 6 "least_pages" 2 false f_least_pages := fnS_of G_least_pages F_least_pages (F_least_pages.bindsN (ps := ["rule", "lines"]) fun _ _ _ _ _ _ us hl => match us, hl with | [_, _], _ => rfl) S_least_pages rfl (b_least_pages F0 c_need_rule c_need_number c_sure_of c_with_part)
  have c_is_row_of : FnS P w K mg base 1 "is_row_of" 1 false f_is_row_of := fnS_of G_is_row_of F_is_row_of (F_is_row_of.bindsN (ps := ["value"]) fun _ _ _ _ _ _ us hl => match us, hl with | [_], _ => rfl) S_is_row_of rfl (b_is_row_of F0 )
  have c_need_row : FnS P w K mg base 2 "need_row" 1 false f_need_row := fnS_of G_need_row F_need_row (F_need_row.bindsN (ps := ["value"]) fun _ _ _ _ _ _ us hl => match us, hl with | [_], _ => rfl) S_need_row rfl (b_need_row F0 c_is_row_of)
  have c_walked : FnS P w K mg base 4 "walked" 3 false f_walked := fnS_of G_walked F_walked (F_walked.bindsN (ps := ["rule", "sizes", "row"]) fun _ _ _ _ _ _ us hl => match us, hl with | [_, _, _], _ => rfl) S_walked rfl (b_walked F0 c_moved)
  have c_behind : FnS P w K mg base 5 "behind" 2 false f_behind := fnS_of G_behind F_behind (F_behind.bindsN (ps := ["rule", "row"]) fun _ _ _ _ _ _ us hl => match us, hl with | [_, _], _ => rfl) S_behind rfl (b_behind F0 c_walked)
  have c_sizes : FnS P w K mg base 6 "sizes" 2 false f_sizes := fnS_of G_sizes F_sizes (F_sizes.bindsN (ps := ["rule", "row"]) fun _ _ _ _ _ _ us hl => match us, hl with | [_, _], _ => rfl) S_sizes rfl (b_sizes F0 c_need_rule c_need_row c_behind)
  have c_least_keep : FnS P w K mg base 6 "least_keep" 2 false f_least_keep := fnS_of G_least_keep F_least_keep (F_least_keep.bindsN (ps := ["rule", "lines"]) fun _ _ _ _ _ _ us hl => match us, hl with | [_, _], _ => rfl) S_least_keep rfl (b_least_keep F0 c_need_rule c_need_number c_sure_of c_with_part)
  exact fnOk_ofC F_law rfl S_law (lamC_of u TB (by decide)) (b_law F0 T c__law_deck c__law_rule c__law_sure c_sure_lines c__law_song c_sizes c__law_pick c_least_keep c_least_pages)
end HD
open PySem PySem.W PySem.Calls PyProof.Rows
theorem PySem.Challenge.cw_turnedlogs_k12_whole_lines_that_are_alwa_holds : PySem.Challenge.rw_turnedlogs_k12_whole_lines_that_are_alwa.Holds := by
  w_on; o_law
  refine HandSHeadRun.head_any (r := OpenLaw.row PySem.Challenge.rw_turnedlogs_k12_whole_lines_that_are_alwa) (q := view (OpenLaw.row PySem.Challenge.rw_turnedlogs_k12_whole_lines_that_are_alwa).prog [56]) (H := HD.hk) (ob := HD.ob) (M := 8000) (loose := HD.loose) (d := HandSHeadRun.topDef (OpenLaw.row PySem.Challenge.rw_turnedlogs_k12_whole_lines_that_are_alwa).prog 56) (kwd := []) HD.ob_eq
    (by kernel_rfl) (fun s => by kernel_rfl) HD.run (by kernel_rfl) (by kernel_rfl) (by kernel_rfl) (by rfl) (by first | assumption | decide +kernel) (by decide +kernel) ⟨rfl, rfl, rfl, rfl, rfl, by decide +kernel⟩ ?hw ?hc
  case hw => w_witness2
  case hc =>
    refine LamX.walk_ofTsE (l := PySem.Challenge.rw_turnedlogs_k12_whole_lines_that_are_alwa) (n := 63) (k := 9) (x := "_law_script") (CX := fun w => L2N.CX (PySem.Challenge.rw_turnedlogs_k12_whole_lines_that_are_alwa).prog w) rfl (by decide) (by kernel_rfl) ⟨rfl, by decide, by decide⟩ ?F (fun _ _ _ _ _ z => Cor.cx_none z)
    intro w mg fa h Y G hmg0
    obtain ⟨K, KX, c⟩ := Y
    have hmg : mg ("law" : PySem.Str) = some (.ref fa) := by
      have e : (HandSHeadRun.topDef (OpenLaw.row PySem.Challenge.rw_turnedlogs_k12_whole_lines_that_are_alwa).prog 56).name = ("law" : PySem.Str) := by kernel_rfl
      rw [← e]
      exact hmg0
    obtain ⟨fd, hb, hF⟩ := HD.facts (P := (PySem.Challenge.rw_turnedlogs_k12_whole_lines_that_are_alwa).prog) (w := w) KX G hmg c.t.d c.more
    exact ⟨K, KX, Cor.lawAt KX c.hd c.out c.empty hb hF⟩
