import PyProof.Rows.All
import Wide.All
import OpenK.AllK
import Wide.FinOn
import HandS.ForMost
import HandS.TupAny
import HandS.TupMul
import HandS.Deep
import HandS.Style
import HandS.Replace
import HandS.IsInst
import HandS.Codes
import HandS.ForExc
import HandS.CallLocal
import HandS.CallSlots
import HandS.Walk
import HandS.Words
import HandS.Defaults
import HandS.HeadEnd
import KE.GoesEnum
import PyProof.Draws
import HandS.Text
import HandS.Conv
import HandS.Head0
import HandS.Head1
import HandS.Head2
import HandS.HeadHook1
import HandS.HeadHook2
import HandS.HeadHook4
import PySem.Challenge.RW_turnedlogs_k02_whole_files_line_by_line
set_option Elab.async false
set_option linter.all false
set_option maxRecDepth 100000
set_option maxHeartbeats 2000000
/-! Cor0: the core language: values D, slots, terms CE, CS, what they evaluate to (plain functions). -/
namespace Cor
open PySem L2

inductive D where
  | non | bl (b : Bool) | int (i : Int) | str (x : List Nat) | tup (xs : List D) | lst (xs : List D) | dct (kvs : List (D × D)) | fn (x : Str)
  deriving Inhabited

/-- an exception: its class's name, what it was made with -/
structure XC where
  cls : Str
  args : List D

inductive Slot where
  | no | val (d : D) | own (d : D) | io (d : D)
  deriving Inhabited
abbrev Env := List Slot
def Slot.get : Slot → Option D
  | .no => none
  | .val d => some d
  | .own d => some d
  | .io d => some d

inductive RE where
  | ok (d : D) (fr : Bool) (env : Env) | ex (c : XC) (env : Env) | no
inductive REs where
  | ok (ds : List D) (env : Env) | ex (c : XC) (env : Env) | no
inductive RS where
  | nx (env : Env) | rt (d : D) (fr : Bool) (env : Env) | bk (env : Env) | ct (env : Env) | ex (c : XC) (env : Env) | no
inductive FR where
  | ret (d : D) (fr : Bool) (io : Option D) | exc (c : XC) (io : Option D) | no
abbrev Sem := List D → FR

def lim : Nat := 1000000

/-! ### values -/
mutual
def D.eqv : D → D → Bool
  | .non, .non => true
  | .bl a, .bl b => a == b
  | .bl a, .int j => (if a then 1 else 0) == j
  | .int i, .bl b => i == (if b then 1 else 0)
  | .int i, .int j => i == j
  | .str x, .str y => decide (x = y)
  | .lst xs, .lst ys => eqvs xs ys
  | .tup xs, .tup ys => eqvs xs ys
  | _, _ => false
def eqvs : List D → List D → Bool
  | [], [] => true
  | x :: xs, y :: ys => D.eqv x y && eqvs xs ys
  | _, _ => false
end
/-- data of at most n levels -/
def D.okN : Nat → D → Bool
  | _, .non => true
  | _, .bl _ => true
  | _, .int _ => true
  | _, .str x => x.all fun c => decide (c < 1114112)
  | n + 1, .tup xs => xs.all (okN n)
  | n + 1, .lst xs => xs.all (okN n)
  | _, _ => false
def D.isAtom : D → Bool
  | .non => true
  | .bl _ => true
  | .int _ => true
  | .str _ => true
  | .fn _ => true
  | _ => false
def intsOf : List D → Option (List Int)
  | [] => some []
  | .int i :: ds => (intsOf ds).map (i :: ·)
  | _ => none
def blsOf : List D → Option (List Bool)
  | [] => some []
  | .bl i :: ds => (blsOf ds).map (i :: ·)
  | _ => none
def strsOf : List D → Option (List (List Nat))
  | [] => some []
  | .str i :: ds => (strsOf ds).map (i :: ·)
  | _ => none
def maxI : List Int → Option Int
  | [] => none
  | [a] => some a
  | a :: as => (maxI as).map fun b => if a < b then b else a
def minI : List Int → Option Int
  | [] => none
  | [a] => some a
  | a :: as => (minI as).map fun b => if b < a then b else a

def binD : Operator → D → D → Option (D × Bool)
  | .Add, .int i, .int j => some (.int (i + j), false)
  | .Add, .str a, .str b => if a.length + b.length ≤ lim then some (.str (a ++ b), false) else none
  | .Add, .tup a, .tup b => if a.length + b.length ≤ lim then some (.tup (a ++ b), false) else none
  | .Add, .lst a, .lst b => if a.length + b.length ≤ lim then some (.lst (a ++ b), true) else none
  | .Sub, .int i, .int j => some (.int (i - j), false)
  | .Mult, .int i, .int j => if i.natAbs < 2 ^ 64 ∨ j.natAbs < 2 ^ 64 then some (.int (i * j), false) else none
  | .Mult, .lst a, .int j => if a.length * j.toNat ≤ lim ∧ j < 1000000 ∧ -1000000 < j then some (.lst (List.replicate j.toNat a).flatten, true) else none
  | .Mod, .int i, .int j => if j ≠ 0 then some (.int (i.fmod j), false) else none
  | .FloorDiv, .int i, .int j => if j ≠ 0 ∧ j.natAbs < 1073741824 then some (.int (i.fdiv j), false) else none
  | .Pow, .int i, .int j => if 0 ≤ j ∧ j ≤ 1000000 ∧ i.natAbs < 2 ^ 64 then some (.int (i ^ j.toNat), false) else none
  | _, _, _ => none
def isNon : D → Bool
  | .non => true
  | _ => false
def memD (a : D) : List D → Bool
  | [] => false
  | b :: bs => D.eqv b a || memD a bs
def cmpD : CmpOp → D → D → Option Bool
  | .Eq, a, b => if a.okN 8 && b.okN 8 then some (a.eqv b) else none
  | .NotEq, a, b => if a.okN 8 && b.okN 8 then some (!a.eqv b) else none
  | .Lt, .int i, .int j => some (decide (i < j))
  | .LtE, .int i, .int j => some (decide (i ≤ j))
  | .Gt, .int i, .int j => some (decide (j < i))
  | .GtE, .int i, .int j => some (decide (j ≤ i))
  | .Is, a, .non => some (isNon a)
  | .IsNot, a, .non => some (!isNon a)
  | .Is, .bl a, .bl b => some (a == b)
  | .IsNot, .bl a, .bl b => some (!(a == b))
  | .In, a, .tup bs => if a.okN 8 && bs.all (D.okN 8) then some (memD a bs) else none
  | .In, a, .lst bs => if a.okN 8 && bs.all (D.okN 8) then some (memD a bs) else none
  | .NotIn, a, .tup bs => if a.okN 8 && bs.all (D.okN 8) then some (!memD a bs) else none
  | .NotIn, a, .lst bs => if a.okN 8 && bs.all (D.okN 8) then some (!memD a bs) else none
  | .In, .str [c], .str b => some (decide (c ∈ b))
  | .NotIn, .str [c], .str b => some (!decide (c ∈ b))
  | _, _, _ => none
def subD : D → D → Option D
  | .tup xs, .int i => atI xs i
  | .lst xs, .int i => atI xs i
  | .str xs, .int i => if xs.length ≤ lim then (atI xs i).map fun c => .str [c] else none
  | _, _ => none
def cutD {α : Type} (xs : List α) (lo hi : Option Int) : List α := (xs.drop (HT.sIx xs.length 0 lo)).take (HT.sIx xs.length xs.length hi - HT.sIx xs.length 0 lo)
def slcD : D → Option Int → Option Int → Option (D × Bool)
  | .tup xs, lo, hi => some (.tup (cutD xs lo hi), false)
  | .lst xs, lo, hi => some (.lst (cutD xs lo hi), true)
  | .str xs, lo, hi => if xs.length ≤ lim then some (.str (cutD xs lo hi), false) else none
  | _, _, _ => none

/-! ### built-ins -/
inductive BF where
  | len | sum | max | min | any | all | tuple | list | int | str | bool | abs | isInt | isBool | isStr | isTup | isLst
  deriving DecidableEq
def b1D : BF → D → Option (D × Bool)
  | .len, .tup xs => some (.int xs.length, false)
  | .len, .lst xs => some (.int xs.length, false)
  | .len, .str xs => if xs.length ≤ lim then some (.int xs.length, false) else none
  | .sum, .lst xs => (intsOf xs).map fun is => (.int is.sum, false)
  | .sum, .tup xs => (intsOf xs).map fun is => (.int is.sum, false)
  | .max, .lst xs => ((intsOf xs).bind maxI).map fun i => (.int i, false)
  | .min, .lst xs => ((intsOf xs).bind minI).map fun i => (.int i, false)
  | .any, .lst xs => (blsOf xs).map fun bs => (.bl (bs.any id), false)
  | .all, .lst xs => (blsOf xs).map fun bs => (.bl (bs.all id), false)
  | .tuple, .lst xs => some (.tup xs, false)
  | .tuple, .tup xs => some (.tup xs, false)
  | .list, .lst xs => some (.lst xs, true)
  | .list, .tup xs => some (.lst xs, true)
  | .int, .int i => some (.int i, false)
  | .int, .bl b => some (.int (if b then 1 else 0), false)
  | .bool, .bl b => some (.bl b, false)
  | .abs, .int i => some (.int (if i < 0 then -i else i), false)
  | .str, .int i => if i.natAbs < 2 ^ 1900 then some (.str ((toString i).toList.map Char.toNat), false) else none
  | .isInt, d => match d with
    | .int _ => some (.bl true, false)
    | .bl _ => some (.bl true, false)
    | .dct _ => none
    | .fn _ => none
    | _ => some (.bl false, false)
  | .isBool, d => match d with
    | .bl _ => some (.bl true, false)
    | .dct _ => none
    | .fn _ => none
    | _ => some (.bl false, false)
  | .isStr, d => match d with
    | .str _ => some (.bl true, false)
    | .dct _ => none
    | .fn _ => none
    | _ => some (.bl false, false)
  | .isTup, d => match d with
    | .tup _ => some (.bl true, false)
    | .dct _ => none
    | .fn _ => none
    | _ => some (.bl false, false)
  | .isLst, d => match d with
    | .lst _ => some (.bl true, false)
    | .dct _ => none
    | .fn _ => none
    | _ => some (.bl false, false)
  | _, _ => none
inductive MF where
  | find | index | count | join | indexL
  deriving DecidableEq
def findIx (c : Nat) : List Nat → Nat → Option Nat
  | [], _ => none
  | x :: xs, k => if x = c then some k else findIx c xs (k + 1)
def joinL (sep : List Nat) : List (List Nat) → List Nat
  | [] => []
  | [a] => a
  | a :: b :: as => a ++ sep ++ joinL sep (b :: as)
def indexD (a : D) : List D → Nat → Option Nat
  | [], _ => none
  | b :: bs, k => if D.eqv b a then some k else indexD a bs (k + 1)
def m1D : MF → D → D → Option D
  | .find, .str [45, 97, 98], .str [c] => (findIx c [45, 97, 98] 0).map fun (k : Nat) => D.int (k : Int)
  | .index, .str [45, 97, 98], .str [c] => (findIx c [45, 97, 98] 0).map fun (k : Nat) => D.int (k : Int)
  | .count, .str xs, .str [c] => some (.int ((xs.filter fun x => x == c).length : Nat))
  | .join, .str sep, .lst xs => (strsOf xs).bind fun ys => if (ys.map List.length).sum + ys.length * sep.length ≤ lim then some (.str (joinL sep ys)) else none
  | .indexL, .lst xs, a => if a.okN 8 && xs.all (D.okN 8) then (indexD a xs 0).map fun (k : Nat) => D.int (k : Int) else none
  | _, _, _ => none

/-! ### terms -/
inductive TG where
  | nm (i : Nat) | tup (ts : List TG)
mutual
inductive CE where
  | lit (d : D) | var (i : Nat) | rd (i : Nat) | glob (x : Str) (d : D)
  | bin (op : Operator) (a b : CE) | neg (a : CE) | not (a : CE)
  | cmp (op : CmpOp) (a b : CE) | chain (o1 o2 : CmpOp) (a b c : CE)
  | and (a b : CE) | or (a b : CE) | ife (c a b : CE)
  | tup (es : List CE) | lst (es : List CE)
  | sub (a b : CE) | subR (i : Nat) (b : CE)
  | slc (a : CE) (lo hi : Option CE)
  | call (x : Str) (brw : Bool) (f : Sem) (args : List CE)
  | callIo (x : Str) (f : Sem) (i : Nat) (args : List CE)
  | b1 (f : BF) (a : CE) | m1 (m : MF) (o a : CE)
  | comp (own : List (Str × Nat)) (it : CI) (tg : TG) (cond : Option CE) (elt : CE)
inductive CI where
  | lst (e : CE) | tup (e : CE) | str (e : CE) | rng1 (e : CE) | rng2 (a b : CE) | enumL (e : CE)
end
inductive CS where
  | expr (e : CE) | set (i : Nat) (e : CE) | unp (ts : List TG) (e : CE) | par (i j : Nat) (a b : CE) | par3 (i j l : Nat) (a b c : CE)
  | app (i : Nat) (e : CE) | stI (i : Nat) (k v : CE)
  | ret (e : CE) | retV (i : Nat) | ifs (c : CE) (a b : List CS)
  | fors (it : CI) (tg : TG) (body : List CS) | whl (c : CE) (body : List CS)
  | aug (i : Nat) (op : Operator) (e : CE) | rais (cls : Str) (args : List D)
  | brk | cnt | pass

/-! ### what they do -/
def getS (env : Env) (i : Nat) : Slot := env.getD i .no
def varE (env : Env) (i : Nat) : RE :=
  match getS env i with
  | .val d => .ok d false env
  | .own d => .ok d false (env.set i (.val d))
  | _ => .no
def rdE (env : Env) (i : Nat) : RE :=
  match (getS env i).get with
  | some d => .ok d false env
  | none => .no
def RE.bind (r : RE) (k : D → Bool → Env → RE) : RE :=
  match r with
  | .ok d fr env => k d fr env
  | .ex c env => .ex c env
  | .no => .no
def outE (o : Option (D × Bool)) (env : Env) : RE :=
  match o with
  | some (d, fr) => .ok d fr env
  | none => .no
def outB (o : Option Bool) (env : Env) : RE :=
  match o with
  | some b => .ok (.bl b) false env
  | none => .no
def outD (o : Option D) (env : Env) : RE :=
  match o with
  | some b => .ok b false env
  | none => .no
mutual
/-- a target takes a value (its parts are frozen) -/
def asg : TG → D → Env → Option Env
  | .nm i, d, env => match getS env i with
    | .io _ => none
    | _ => some (env.set i (.val d))
  | .tup ts, .tup ds, env => asgs ts ds env
  | _, _, _ => none
def asgs : List TG → List D → Env → Option Env
  | [], [], env => some env
  | t :: ts, d :: ds, env => match asg t d env with
    | some env' => asgs ts ds env'
    | none => none
  | _, _, _ => none
end
/-- a comprehension's own names: nothing that is owned stands in them -/
def wipeE (env : Env) : List Nat → Option Env
  | [] => some env
  | v :: vs => match getS env v with
    | .own _ => none
    | .io _ => none
    | _ => (wipeE env vs).map fun e => e.set v .no
/-- behind it: what stood there -/
def backE (old env : Env) : List Nat → Env
  | [] => env
  | v :: vs => (backE old env vs).set v (getS old v)
/-- the loop of a comprehension: g the target, c the test, f the element -/
def compL (vs : List Nat) (base : Env) (tg : TG) (c : Env → RE) (f : Env → RE) : List D → Env → List D → REs
  | [], env, acc => .ok acc env
  | x :: xs, env, acc => match asg tg x env with
    | none => .no
    | some e1 => match c e1 with
      | .ok (.bl true) _ e2 => match f e2 with
        | .ok d _ e3 => if acc.length < lim then (match wipeE e3 vs with
          | some e4 => compL vs base tg c f xs e4 (acc ++ [d])
          | none => .no) else .no
        | _ => .no
      | .ok (.bl false) _ e2 => (match wipeE e2 vs with
        | some e4 => compL vs base tg c f xs e4 acc
        | none => .no)
      | _ => .no
def rngD (lo hi : Int) : Option (List D) :=
  if -(2 ^ 62) ≤ lo ∧ lo < 2 ^ 62 ∧ -(2 ^ 62) ≤ hi ∧ hi < 2 ^ 62 then some ((List.range (hi - lo).toNat).map fun k => .int (lo + (k : Nat))) else none
def outI (o : Option (List D)) (env : Env) : REs :=
  match o with
  | some b => .ok b env
  | none => .no
def REs.bind (r : REs) (k : List D → Env → RE) : RE :=
  match r with
  | .ok d env => k d env
  | .ex c env => .ex c env
  | .no => .no
def RE.bindI (r : RE) (k : D → Bool → Env → REs) : REs :=
  match r with
  | .ok d fr env => k d fr env
  | .ex c env => .ex c env
  | .no => .no
def intO : Option D → Option (Option Int)
  | none => some none
  | some (.int i) => some (some i)
  | _ => none
def callR (brw : Bool) (r : FR) (env : Env) : RE :=
  match r with
  | .ret d fr none => if brw && !d.isAtom then .no else .ok d fr env
  | .exc c none => .ex c env
  | _ => .no
def putBack (s : Slot) (d : D) : Slot :=
  match s with
  | .own _ => .own d
  | .io _ => .io d
  | s => s
def callRio (i : Nat) (r : FR) (env : Env) : RE :=
  match r with
  | .ret d fr (some z) => .ok d fr (env.set i (putBack (getS env i) z))
  | .exc c (some z) => .ex c (env.set i (putBack (getS env i) z))
  | _ => .no
def ioGet (env : Env) (i : Nat) : Option D :=
  match getS env i with
  | .own d => some d
  | .io d => some d
  | _ => none
mutual
def evE : CE → Env → RE
  | .lit d, env => .ok d false env
  | .var i, env => varE env i
  | .rd i, env => rdE env i
  | .glob _ d, env => .ok d false env
  | .bin op a b, env => (evE a env).bind fun x _ e1 => (evE b e1).bind fun y _ e2 => outE (binD op x y) e2
  | .neg a, env => (evE a env).bind fun x _ e1 => match x with
    | .int i => .ok (.int (-i)) false e1
    | _ => .no
  | .not a, env => (evE a env).bind fun x _ e1 => match x with
    | .bl b => .ok (.bl (!b)) false e1
    | _ => .no
  | .cmp op a b, env => (evE a env).bind fun x _ e1 => (evE b e1).bind fun y _ e2 => outB (cmpD op x y) e2
  | .chain o1 o2 a b c, env => (evE a env).bind fun x _ e1 => (evE b e1).bind fun y _ e2 => match cmpD o1 x y with
    | some true => (evE c e2).bind fun z _ e3 => outB (cmpD o2 y z) e3
    | some false => .ok (.bl false) false e2
    | none => .no
  | .and a b, env => (evE a env).bind fun x _ e1 => match x with
    | .bl true => evE b e1
    | .bl false => .ok (.bl false) false e1
    | _ => .no
  | .or a b, env => (evE a env).bind fun x _ e1 => match x with
    | .bl true => .ok (.bl true) false e1
    | .bl false => evE b e1
    | _ => .no
  | .ife c a b, env => (evE c env).bind fun x _ e1 => match x with
    | .bl true => evE a e1
    | .bl false => evE b e1
    | _ => .no
  | .tup es, env => (evEs es env).bind fun ds e1 => if ds.length ≤ lim then .ok (.tup ds) false e1 else .no
  | .lst es, env => (evEs es env).bind fun ds e1 => if ds.length ≤ lim then .ok (.lst ds) true e1 else .no
  | .sub a b, env => (evE a env).bind fun x _ e1 => (evE b e1).bind fun y _ e2 => outD (subD x y) e2
  | .subR i b, env => match (getS env i).get with
    | none => .no
    | some _ => (evE b env).bind fun y _ e1 => match (getS e1 i).get with
      | some x => outD (subD x y) e1
      | none => .no
  | .slc a lo hi, env => (evE a env).bind fun x _ e1 => (evO lo e1).bind fun l e2 => (evO hi e2).bind fun h e3 => match intO l.head?, intO h.head? with
    | some l', some h' => outE (slcD x l' h') e3
    | _, _ => .no
  | .call _ brw f args, env => (evEs args env).bind fun ds e1 => callR brw (f ds) e1
  | .callIo _ f i args, env => match ioGet env i with
    | none => .no
    | some _ => (evEs args env).bind fun ds e1 => match ioGet e1 i with
      | some d => callRio i (f (d :: ds)) e1
      | none => .no
  | .b1 f a, env => (evE a env).bind fun x _ e1 => outE (b1D f x) e1
  | .m1 m o a, env => (evE o env).bind fun x _ e1 => match x with
    | .str z => (evE a e1).bind fun y _ e2 => outD (m1D m (.str z) y) e2
    | _ => .no
  | .comp own it tg cond elt, env => (evI it env).bind fun ds e1 => match wipeE e1 (own.map (·.2)) with
    | none => .no
    | some e2 => (compL (own.map (·.2)) e1 tg (evC cond) (evE elt) ds e2 []).bind fun rs e3 => .ok (.lst rs) true (backE e1 e3 (own.map (·.2)))
def evC : Option CE → Env → RE
  | none, env => .ok (.bl true) false env
  | some c, env => evE c env
def evO : Option CE → Env → REs
  | none, env => .ok [] env
  | some e, env => (evE e env).bindI fun x _ e1 => match x with
    | .int i => .ok [.int i] e1
    | _ => .no
def evEs : List CE → Env → REs
  | [], env => .ok [] env
  | e :: es, env => (evE e env).bindI fun x _ e1 => match evEs es e1 with
    | .ok ds e2 => .ok (x :: ds) e2
    | .ex c e2 => .ex c e2
    | .no => .no
def evI : CI → Env → REs
  | .lst e, env => (evE e env).bindI fun x _ e1 => match x with
    | .lst xs => .ok xs e1
    | _ => .no
  | .tup e, env => (evE e env).bindI fun x _ e1 => match x with
    | .tup xs => .ok xs e1
    | _ => .no
  | .str e, env => (evE e env).bindI fun x _ e1 => match x with
    | .str xs => if xs.length ≤ lim then .ok (xs.map fun c => .str [c]) e1 else .no
    | _ => .no
  | .rng1 e, env => (evE e env).bindI fun x _ e1 => match x with
    | .int n => outI (rngD 0 n) e1
    | _ => .no
  | .rng2 a b, env => (evE a env).bindI fun x _ e1 => (evE b e1).bindI fun y _ e2 => match x, y with
    | .int n, .int m => outI (rngD n m) e2
    | _, _ => .no
  | .enumL e, env => (evE e env).bindI fun x _ e1 => match x with
    | .lst xs => .ok (xs.mapIdx fun k y => .tup [.int (k : Nat), y]) e1
    | .tup xs => .ok (xs.mapIdx fun k y => .tup [.int (k : Nat), y]) e1
    | _ => .no
end
/-- a loop over items -/
def forL (f : D → Env → RS) : List D → Env → RS
  | [], env => .nx env
  | x :: xs, env => match f x env with
    | .nx e => forL f xs e
    | .ct e => forL f xs e
    | .bk e => .nx e
    | r => r
/-- while: none where it never ends -/
def whlL (c : Env → RE) (f : Env → RS) (env : Env) : Option RS :=
  match c env with
  | .ok (.bl true) _ e1 => match f e1 with
    | .nx e => whlL c f e
    | .ct e => whlL c f e
    | .bk e => some (.nx e)
    | r => some r
  | .ok (.bl false) _ e1 => some (.nx e1)
  | .ex x e1 => some (.ex x e1)
  | _ => some .no
partial_fixpoint
def RE.bindS (r : RE) (k : D → Bool → Env → RS) : RS :=
  match r with
  | .ok d fr env => k d fr env
  | .ex c env => .ex c env
  | .no => .no
def REs.bindS (r : REs) (k : List D → Env → RS) : RS :=
  match r with
  | .ok d env => k d env
  | .ex c env => .ex c env
  | .no => .no
def putS (env : Env) (i : Nat) (d : D) (fr : Bool) : RS :=
  match getS env i with
  | .io _ => .no
  | _ => .nx (env.set i (if fr then .own d else .val d))
def nxO (o : Option Env) : RS :=
  match o with
  | some e => .nx e
  | none => .no
mutual
def evS : CS → Env → RS
  | .expr e, env => (evE e env).bindS fun _ _ e1 => .nx e1
  | .set i e, env => (evE e env).bindS fun d fr e1 => putS e1 i d fr
  | .unp ts e, env => (evE e env).bindS fun d _ e1 => nxO (asg (.tup ts) d e1)
  | .par i j a b, env => (evE a env).bindS fun x fx e1 => (evE b e1).bindS fun y fy e2 => match putS e2 i x fx with
    | .nx e3 => putS e3 j y fy
    | _ => .no
  | .par3 i j l a b c, env => (evE a env).bindS fun x fx e1 => (evE b e1).bindS fun y fy e2 => (evE c e2).bindS fun z fz e3 => match putS e3 i x fx with
    | .nx e4 => match putS e4 j y fy with
      | .nx e5 => putS e5 l z fz
      | _ => .no
    | _ => .no
  | .app i e, env => match ioGet env i with
    | none => .no
    | some _ => (evE e env).bindS fun d _ e1 => match ioGet e1 i with
      | some (.lst xs) => if xs.length < lim then .nx (e1.set i (putBack (getS e1 i) (.lst (xs ++ [d])))) else .no
      | _ => .no
  | .stI i k v, env => (evE v env).bindS fun d _ e1 => match ioGet e1 i with
    | none => .no
    | some _ => (evE k e1).bindS fun z _ e2 => match ioGet e2 i, z with
      | some (.lst xs), .int n => match ixN xs.length n with
        | some j => .nx (e2.set i (putBack (getS e2 i) (.lst (xs.set j d))))
        | none => .no
      | _, _ => .no
  | .ret e, env => (evE e env).bindS fun d fr e1 => .rt d fr e1
  | .retV i, env => match getS env i with
    | .own d => .rt d true (env.set i .no)
    | .val d => .rt d false env
    | _ => .no
  | .ifs c a b, env => (evE c env).bindS fun x _ e1 => match x with
    | .bl true => evSs a e1
    | .bl false => evSs b e1
    | _ => .no
  | .fors it tg body, env => (evI it env).bindS fun ds e1 => forL (fun x e => match asg tg x e with
      | some e2 => evSs body e2
      | none => .no) ds e1
  | .whl c body, env => (whlL (evE c) (evSs body) env).getD .no
  | .aug i op e, env => match getS env i with
    | .val (.int x) => (evE e env).bindS fun y _ e1 => match y with
      | .int y => (match binD op (.int x) (.int y) with
        | some (z, _) => .nx (e1.set i (.val z))
        | none => .no)
      | _ => .no
    | _ => .no
  | .rais cls args, env => .ex ⟨cls, args⟩ env
  | .brk, env => .bk env
  | .cnt, env => .ct env
  | .pass, env => .nx env
def evSs : List CS → Env → RS
  | [], env => .nx env
  | s :: ss, env => match evS s env with
    | .nx e1 => evSs ss e1
    | r => r
end
def startE (n : Nat) (io : Bool) (ds : List D) : Env :=
  (match io, ds with
  | true, d :: ds => .io d :: ds.map Slot.val
  | _, ds => ds.map Slot.val) ++ List.replicate (n - ds.length) .no
/-- what a def is worth: n names in all, io: the first argument is handed in to be changed -/
def semOf (n : Nat) (io : Bool) (body : List CS) : Sem := fun ds =>
  let z := fun (env : Env) => if io then (match getS env 0 with
    | .io d => some (some d)
    | _ => none) else some none
  match evSs body (startE n io ds) with
  | .rt d fr env => match z env with
    | some o => .ret d fr o
    | none => .no
  | .nx env => match z env with
    | some o => .ret .non false o
    | none => .no
  | .ex c env => match z env with
    | some o => .exc c o
    | none => .no
  | _ => .no
end Cor
set_option Elab.async false
set_option linter.all false
set_option maxRecDepth 100000
set_option maxHeartbeats 2000000
/-! Cor1: how data stand in the abstract heap: Rep; a frame's slots: ER; what an evaluation may change: Tr. -/
namespace Cor
open PySem PySem.Spec L2

section
variable (K : PySem.W.Frag) (mg : Str → Option Value)
mutual
/-- the value v is the datum d; what it leans on stands in H and stays -/
inductive Rep (H : Hp) : D → V → Prop
  | non : Rep H .non .non
  | bl (b : Bool) : Rep H (.bl b) (.bl b)
  | int (i : Int) : Rep H (.int i) (.int i)
  | str (x : List Nat) : Rep H (.str x) (.str ⟨x.toArray⟩)
  | tup {a : Addr} {vs : List V} {ds : List D} : SqT K H a vs → Reps H ds vs → Rep H (.tup ds) (.ref a)
  | lst {a : Addr} {vs : List V} {ds : List D} : SqL K H a vs → Reps H ds vs → Rep H (.lst ds) (.ref a)
  | fn {x : Str} {f : Addr} : mg x = some (.ref f) → Rep H (.fn x) (.ref f)
inductive Reps (H : Hp) : List D → List V → Prop
  | nil : Reps H [] []
  | cons {d : D} {ds : List D} {v : V} {vs : List V} : Rep H d v → Reps H ds vs → Reps H (d :: ds) (v :: vs)
end
end

section
variable {K : PySem.W.Frag} {mg : Str → Option Value} {H H' Hf Hf' : Hp}
theorem same_t {a : Addr} {vs : List V} (e : Same H H') (h : SqT K H a vs) : SqT K H' a vs := by
  rcases h with (h | ⟨o, h⟩) | h
  · exact .inl (.inl (e _ _ h))
  · exact .inl (.inr ⟨o, e _ _ h⟩)
  · exact .inr h
mutual
theorem Rep.up (e : Same H H') : ∀ {d : D} {v : V}, Rep K mg H d v → Rep K mg H' d v
  | _, _, .non => .non
  | _, _, .bl b => .bl b
  | _, _, .int i => .int i
  | _, _, .str x => .str x
  | _, _, .tup h hs => .tup (same_t e h) (Reps.up e hs)
  | _, _, .lst h hs => .lst (e.seq h) (Reps.up e hs)
  | _, _, .fn h => .fn h
theorem Reps.up (e : Same H H') : ∀ {ds : List D} {vs : List V}, Reps K mg H ds vs → Reps K mg H' ds vs
  | _, _, .nil => .nil
  | _, _, .cons h hs => .cons (Rep.up e h) (Reps.up e hs)
end
theorem Reps.length : ∀ {ds : List D} {vs : List V}, Reps K mg H ds vs → ds.length = vs.length
  | _, _, .nil => rfl
  | _, _, .cons _ hs => congrArg Nat.succ (Reps.length hs)
theorem Reps.app : ∀ {ds es : List D} {vs ws : List V}, Reps K mg H ds vs → Reps K mg H es ws → Reps K mg H (ds ++ es) (vs ++ ws)
  | _, _, _, _, .nil, h => h
  | _, _, _, _, .cons h hs, h' => .cons h (Reps.app hs h')
theorem Reps.one {d : D} {v : V} (h : Rep K mg H d v) : Reps K mg H [d] [v] := .cons h .nil
theorem Reps.get : ∀ {ds : List D} {vs : List V} {i : Nat} {d : D}, Reps K mg H ds vs → ds[i]? = some d → ∃ v, vs[i]? = some v ∧ Rep K mg H d v
  | _, _, _, _, .nil, e => by simp at e
  | _, _, 0, _, .cons h _, e => by simp at e; subst e; exact ⟨_, rfl, h⟩
  | _, _, i + 1, _, .cons _ hs, e => by
    obtain ⟨v, a, b⟩ := Reps.get (i := i) hs (by simpa using e)
    exact ⟨v, by simpa using a, b⟩
theorem Reps.getV : ∀ {ds : List D} {vs : List V} {i : Nat} {v : V}, Reps K mg H ds vs → vs[i]? = some v → ∃ d, ds[i]? = some d ∧ Rep K mg H d v
  | _, _, _, _, .nil, e => by simp at e
  | _, _, 0, _, .cons h _, e => by simp at e; subst e; exact ⟨_, rfl, h⟩
  | _, _, i + 1, _, .cons _ hs, e => by
    obtain ⟨v, a, b⟩ := Reps.getV (i := i) hs (by simpa using e)
    exact ⟨v, by simpa using a, b⟩
theorem Reps.set : ∀ {ds : List D} {vs : List V} {d : D} {v : V} (i : Nat), Reps K mg H ds vs → Rep K mg H d v → Reps K mg H (ds.set i d) (vs.set i v)
  | _, _, _, _, _, .nil, _ => .nil
  | _, _, _, _, 0, .cons _ hs, h => .cons h hs
  | _, _, _, _, i + 1, .cons h' hs, h => .cons h' (Reps.set i hs h)
theorem Reps.drop : ∀ {ds : List D} {vs : List V} (n : Nat), Reps K mg H ds vs → Reps K mg H (ds.drop n) (vs.drop n)
  | _, _, 0, h => h
  | _, _, _ + 1, .nil => .nil
  | _, _, n + 1, .cons _ hs => Reps.drop n hs
theorem Reps.take : ∀ {ds : List D} {vs : List V} (n : Nat), Reps K mg H ds vs → Reps K mg H (ds.take n) (vs.take n)
  | _, _, 0, _ => .nil
  | _, _, _ + 1, .nil => .nil
  | _, _, n + 1, .cons h hs => .cons h (Reps.take n hs)
theorem Reps.rep {ds : List D} {vs : List V} (h : Reps K mg H ds vs) : ∀ k : Nat, Reps K mg H (List.replicate k ds).flatten (List.replicate k vs).flatten
  | 0 => .nil
  | k + 1 => by
    rw [List.replicate_succ, List.replicate_succ, List.flatten_cons, List.flatten_cons]
    exact h.app (h.rep k)
theorem Reps.ints : ∀ {is : List Int} {ds : List D} {vs : List V}, Reps K mg H ds vs → intsOf ds = some is → vs = is.map V.int
  | is, [], _, .nil, e => by simp [intsOf] at e; subst e; rfl
  | is, d :: ds, _, .cons h hs, e => by
    cases h with
    | int i =>
      rw [intsOf, Option.map_eq_some_iff] at e
      obtain ⟨js, e1, rfl⟩ := e
      rw [Reps.ints hs e1]; rfl
    | _ => simp [intsOf] at e
theorem Reps.bls : ∀ {is : List Bool} {ds : List D} {vs : List V}, Reps K mg H ds vs → blsOf ds = some is → vs = is.map V.bl
  | is, [], _, .nil, e => by simp [blsOf] at e; subst e; rfl
  | is, d :: ds, _, .cons h hs, e => by
    cases h with
    | bl i =>
      rw [blsOf, Option.map_eq_some_iff] at e
      obtain ⟨js, e1, rfl⟩ := e
      rw [Reps.bls hs e1]; rfl
    | _ => simp [blsOf] at e
theorem Reps.strs : ∀ {is : List (List Nat)} {ds : List D} {vs : List V}, Reps K mg H ds vs → strsOf ds = some is → vs = is.map fun x => V.str ⟨x.toArray⟩
  | is, [], _, .nil, e => by simp [strsOf] at e; subst e; rfl
  | is, d :: ds, _, .cons h hs, e => by
    cases h with
    | str i =>
      rw [strsOf, Option.map_eq_some_iff] at e
      obtain ⟨js, e1, rfl⟩ := e
      rw [Reps.strs hs e1]; rfl
    | _ => simp [strsOf] at e
end

section
variable (K : PySem.W.Frag) (mg : Str → Option Value)
/-- at a stands what may be changed: the content d, its items frozen -/
inductive Cont (Hf H : Hp) : D → Addr → Prop
  | lst {a : Addr} {vs : List V} {ds : List D} : H a = some (.lst vs) → Reps K mg Hf ds vs → Cont Hf H (.lst ds) a
/-- a slot that holds what may be changed -/
def Mt (env : Env) (i : Nat) : Prop := ∃ d, env[i]? = some (Slot.own d) ∨ env[i]? = some (Slot.io d)
def OwnAt (env : Env) (σ : St) (a : Addr) : Prop := ∃ i, Mt env i ∧ σ[i]? = some (some (.ref a))
/-- the slots as they stand: Hf is the part of H that nobody changes -/
structure ER (Hf H : Hp) (env : Env) (σ : St) : Prop where
  le : Same Hf H
  len : env.length = σ.length
  val : ∀ (i : Nat) (d : D), env[i]? = some (Slot.val d) → ∃ v, σ[i]? = some (some v) ∧ Rep K mg Hf d v
  mu : ∀ (i : Nat) (d : D), env[i]? = some (Slot.own d) ∨ env[i]? = some (Slot.io d) → ∃ a, σ[i]? = some (some (.ref a)) ∧ Hf a = none ∧ Cont K mg Hf H d a
  inj : ∀ (i j : Nat) (a : Addr), Mt env i → Mt env j → σ[i]? = some (some (.ref a)) → σ[j]? = some (some (.ref a)) → i = j
end
/-- what an expression may do -/
structure Tr (pu : Bool) (Hf H : Hp) (env : Env) (Hf' H' : Hp) (env' : Env) (σ : St) : Prop where
  up : Same Hf Hf'
  len : env'.length = env.length
  mt : ∀ i, Mt env' i → Mt env i
  io : ∀ (i : Nat) (d : D), env[i]? = some (Slot.io d) → ∃ d', env'[i]? = some (Slot.io d')
  fr : ∀ a o, H a = some o → ¬ OwnAt env σ a → H' a = some o
  new : ∀ a, Hf' a ≠ none → Hf a ≠ none ∨ H a = none ∨ OwnAt env σ a
  pure : pu = true → Same H H'
  there : ∀ a, H a ≠ none → H' a ≠ none

section
variable {K : PySem.W.Frag} {mg : Str → Option Value} {H H' H'' Hf Hf' Hf'' : Hp} {env env' env'' : Env} {σ : St} {pu pu' : Bool}
theorem sm_there (e : Same H H') {a : Addr} (h : H a ≠ none) : H' a ≠ none := by
  cases q : H a with
  | none => exact absurd q h
  | some o => rw [e a o q]; simp
theorem Cont.there {d : D} {a : Addr} (h : Cont K mg Hf H d a) : ∃ o, H a = some o := by
  cases h with
  | lst h _ => exact ⟨_, h⟩
theorem Cont.rep {d : D} {a : Addr} (h : Cont K mg Hf H d a) (e : Same Hf H) : Rep K mg H d (.ref a) := by
  cases h with
  | lst h r => exact .lst (SqL.of h) (r.up e)
theorem Cont.freeze {d : D} {a : Addr} {o : HO} (h : Cont K mg Hf H d a) (ho : H a = some o) (hn : Hf a = none) : Rep K mg (upd Hf a o) d (.ref a) := by
  cases h with
  | lst h r =>
    rw [h] at ho; cases ho
    refine .lst (SqL.of upd_same) (r.up fun b o q => ?_)
    rw [upd_ne (ne_of_none q hn)]; exact q
theorem Cont.move {d : D} {a : Addr} (h : Cont K mg Hf H d a) (e : Same Hf Hf') (k : ∀ o, H a = some o → H' a = some o) : Cont K mg Hf' H' d a := by
  cases h with
  | lst h r => exact .lst (k _ h) (r.up e)
theorem OwnAt.back (t : ∀ i, Mt env' i → Mt env i) {a : Addr} (h : OwnAt env' σ a) : OwnAt env σ a := let ⟨i, m, e⟩ := h; ⟨i, t i m, e⟩
theorem ER.there (r : ER K mg Hf H env σ) {a : Addr} (h : OwnAt env σ a) : ∃ o, H a = some o := by
  obtain ⟨i, ⟨d, m⟩, e⟩ := h
  obtain ⟨b, e1, _, c⟩ := r.mu i d m
  rw [e] at e1; cases e1
  exact c.there
theorem ER.fresh (r : ER K mg Hf H env σ) {a : Addr} (h : H a = none) : ¬ OwnAt env σ a := fun q => by
  obtain ⟨o, e⟩ := r.there q
  rw [h] at e; cases e
theorem ER.noF (r : ER K mg Hf H env σ) {a : Addr} (h : OwnAt env σ a) : Hf a = none := by
  obtain ⟨i, ⟨d, m⟩, e⟩ := h
  obtain ⟨b, e1, n, _⟩ := r.mu i d m
  rw [e] at e1; cases e1
  exact n
theorem ER.freshF (r : ER K mg Hf H env σ) {a : Addr} (h : H a = none) : Hf a = none := by
  cases q : Hf a with
  | none => rfl
  | some o => rw [r.le a o q] at h; cases h
theorem Tr.refl : Tr pu Hf H env Hf H env σ := ⟨Same.refl _, rfl, fun _ h => h, fun _ d h => ⟨d, h⟩, fun _ _ h _ => h, fun _ h => .inl h, fun _ => Same.refl _, fun _ h => h⟩
theorem Tr.trans (t : Tr pu Hf H env Hf' H' env' σ) (u : Tr pu' Hf' H' env' Hf'' H'' env'' σ) : Tr (pu && pu') Hf H env Hf'' H'' env'' σ where
  up := t.up.trans u.up
  len := u.len.trans t.len
  mt := fun i h => t.mt i (u.mt i h)
  io := fun i d h => let ⟨d', e⟩ := t.io i d h; u.io i d' e
  fr := fun a o h n => u.fr a o (t.fr a o h n) fun q => n (q.back t.mt)
  new := fun a h => by
    rcases u.new a h with q | q | q
    · exact t.new a q
    · cases e : H a with
      | none => exact .inr (.inl rfl)
      | some o =>
        refine .inr (.inr (Classical.byContradiction fun n => ?_))
        rw [t.fr a o e n] at q; cases q
    · exact .inr (.inr (q.back t.mt))
  pure := fun h => by
    rw [Bool.and_eq_true] at h
    exact (t.pure h.1).trans (u.pure h.2)
  there := fun a h => u.there a (t.there a h)
theorem Tr.weak (t : Tr pu Hf H env Hf' H' env' σ) (h : pu' = true → pu = true) : Tr pu' Hf H env Hf' H' env' σ := ⟨t.up, t.len, t.mt, t.io, t.fr, t.new, fun q => t.pure (h q), t.there⟩
/-- the heap grows by one new object that is frozen at once -/
theorem ER.growF (r : ER K mg Hf H env σ) {p : Addr} {o : HO} (hp : H p = none) : ER K mg (upd Hf p o) (upd H p o) env σ ∧ Tr pu Hf H env (upd Hf p o) (upd H p o) env σ := by
  have hn := r.freshF hp
  have sF : Same Hf (upd Hf p o) := fun b q e => by rw [upd_ne (ne_of_none e hn)]; exact e
  have sH : Same H (upd H p o) := fun b q e => by rw [upd_ne (ne_of_none e hp)]; exact e
  refine ⟨⟨fun b q e => ?_, r.len, fun i d h => ?_, fun i d h => ?_, r.inj⟩, ⟨sF, rfl, fun _ h => h, fun _ d h => ⟨d, h⟩, fun a q e _ => sH a q e, fun a h => ?_, fun _ => sH, fun a h => sm_there sH h⟩⟩
  · by_cases hb : b = p
    · subst hb; rw [upd_same] at e ⊢; exact e
    · rw [upd_ne hb] at e; exact sH b q (r.le b q e)
  · obtain ⟨v, e, q⟩ := r.val i d h
    exact ⟨v, e, q.up sF⟩
  · obtain ⟨a, e, n, c⟩ := r.mu i d h
    refine ⟨a, e, ?_, c.move sF fun o q => sH a o q⟩
    obtain ⟨o', ho⟩ := c.there
    rw [upd_ne (ne_of_none ho hp)]; exact n
  · by_cases hb : a = p
    · subst hb; exact .inr (.inl hp)
    · rw [upd_ne hb] at h; exact .inl h
/-- .. by one new object that is not frozen -/
theorem ER.grow (r : ER K mg Hf H env σ) {p : Addr} {o : HO} (hp : H p = none) : ER K mg Hf (upd H p o) env σ ∧ Tr pu Hf H env Hf (upd H p o) env σ := by
  have sH : Same H (upd H p o) := fun b q e => by rw [upd_ne (ne_of_none e hp)]; exact e
  refine ⟨⟨r.le.trans sH, r.len, r.val, fun i d h => ?_, r.inj⟩, ⟨Same.refl _, rfl, fun _ h => h, fun _ d h => ⟨d, h⟩, fun a q e _ => sH a q e, fun a h => .inl h, fun _ => sH, fun a h => sm_there sH h⟩⟩
  obtain ⟨a, e, n, c⟩ := r.mu i d h
  exact ⟨a, e, n, c.move (Same.refl _) fun o q => sH a o q⟩
/-- something that nobody owns is frozen -/
theorem ER.frz (r : ER K mg Hf H env σ) {p : Addr} {o : HO} (hp : H p = some o) (hn : Hf p = none) (no : ¬ OwnAt env σ p) : ER K mg (upd Hf p o) H env σ := by
  have sF : Same Hf (upd Hf p o) := fun b q e => by rw [upd_ne (ne_of_none e hn)]; exact e
  refine ⟨fun b q e => ?_, r.len, fun i d h => ?_, fun i d h => ?_, r.inj⟩
  · by_cases hb : b = p
    · subst hb; rw [upd_same] at e; cases e; exact hp
    · rw [upd_ne hb] at e; exact r.le b q e
  · obtain ⟨v, e, q⟩ := r.val i d h
    exact ⟨v, e, q.up sF⟩
  · obtain ⟨a, e, n, c⟩ := r.mu i d h
    refine ⟨a, e, ?_, c.move sF fun _ q => q⟩
    have : a ≠ p := fun z => no ⟨i, ⟨d, h⟩, z ▸ e⟩
    rw [upd_ne this]; exact n
end

section
variable (K : PySem.W.Frag) (mg : Str → Option Value)
/-- a value that has come: new and nobody's (fr), or frozen (st), or as it stands just now -/
def VR (fr st : Bool) (d : D) (v : V) (H Hf' H' : Hp) : Prop :=
  if fr = true then ∃ p, v = .ref p ∧ H p = none ∧ Hf' p = none ∧ Cont K mg Hf' H' d p else Rep K mg (if st = true then Hf' else H') d v
end
section
variable {K : PySem.W.Frag} {mg : Str → Option Value} {H H' Hf Hf' : Hp} {env env' : Env} {σ : St} {pu fr st : Bool} {d : D} {v : V}
theorem VR.now (h : VR K mg fr st d v H Hf' H') (e : Same Hf' H') : Rep K mg H' d v := by
  unfold VR at h
  cases fr with
  | true =>
    rw [if_pos rfl] at h
    obtain ⟨p, rfl, _, _, c⟩ := h
    exact c.rep e
  | false =>
    rw [if_neg Bool.false_ne_true] at h
    cases st with
    | true => exact Rep.up e (by simpa using h)
    | false => simpa using h
/-- freeze what has come -/
theorem stab (r : ER K mg Hf H env σ) (r' : ER K mg Hf' H' env' σ) (t : Tr pu Hf H env Hf' H' env' σ) (h : VR K mg fr true d v H Hf' H') :
    ∃ Hf'', ER K mg Hf'' H' env' σ ∧ Tr pu Hf H env Hf'' H' env' σ ∧ Rep K mg Hf'' d v := by
  unfold VR at h
  cases fr with
  | false =>
    rw [if_neg Bool.false_ne_true] at h
    exact ⟨Hf', r', t, by simpa using h⟩
  | true =>
    rw [if_pos rfl] at h
    obtain ⟨p, rfl, hp, hn, c⟩ := h
    obtain ⟨o, ho⟩ := c.there
    have no : ¬ OwnAt env' σ p := fun q => r.fresh hp (q.back t.mt)
    refine ⟨upd Hf' p o, r'.frz ho hn no, ⟨fun b q e => ?_, t.len, t.mt, t.io, t.fr, fun a h => ?_, t.pure, t.there⟩, c.freeze ho hn⟩
    · have e' := t.up b q e
      rw [upd_ne (ne_of_none e' hn)]; exact e'
    · by_cases hb : a = p
      · subst hb; exact .inr (.inl hp)
      · rw [upd_ne hb] at h; exact t.new a h
theorem VR.back {H0 : Hp} (h : VR K mg fr st d v H Hf' H') (t : ∀ a, H0 a ≠ none → H a ≠ none) : VR K mg fr st d v H0 Hf' H' := by
  unfold VR at h ⊢
  cases fr with
  | false => exact h
  | true =>
    rw [if_pos rfl] at h ⊢
    obtain ⟨p, e, hp, r⟩ := h
    refine ⟨p, e, ?_, r⟩
    cases q : H0 p with
    | none => rfl
    | some o => exact absurd hp (t p (by rw [q]; simp))
theorem VR.old (h : Rep K mg Hf' d v) : VR K mg false true d v H Hf' H' := by
  unfold VR
  rw [if_neg Bool.false_ne_true, if_pos rfl]; exact h
theorem VR.cur (h : Rep K mg H' d v) : VR K mg false false d v H Hf' H' := by
  unfold VR
  rw [if_neg Bool.false_ne_true, if_neg Bool.false_ne_true]; exact h
theorem VR.new {p : Addr} (hp : H p = none) (hn : Hf' p = none) (c : Cont K mg Hf' H' d p) : VR K mg true st d (.ref p) H Hf' H' := by
  unfold VR
  rw [if_pos rfl]; exact ⟨p, rfl, hp, hn, c⟩
end
end Cor
set_option Elab.async false
set_option linter.all false
set_option maxRecDepth 100000
set_option maxHeartbeats 2000000
/-! Cor2: what the operators and the built-ins make of data. -/
namespace Cor
open PySem PySem.Spec L2

section
variable (K : PySem.W.Frag) (mg : Str → Option Value)
/-- what an operation gives: a frozen value, or one new object -/
inductive Out (Hf H : Hp) : Bool → D → V → Hp → Prop
  | old {d : D} {v : V} : Rep K mg Hf d v → Out Hf H false d v H
  | tup {p : Addr} {ds : List D} {vs : List V} : H p = none → Reps K mg Hf ds vs → Out Hf H false (.tup ds) (.ref p) (upd H p (.tup vs))
  | lst {p : Addr} {ds : List D} {vs : List V} : H p = none → Reps K mg Hf ds vs → Out Hf H true (.lst ds) (.ref p) (upd H p (.lst vs))
end
section
variable {K : PySem.W.Frag} {mg : Str → Option Value} {H H' Hf Hf' : Hp} {env env' : Env} {σ : St} {pu fr st : Bool} {d : D} {v : V}
theorem Out.done (r : ER K mg Hf H env σ) (o : Out K mg Hf H fr d v H') : ∃ Hf', ER K mg Hf' H' env σ ∧ Tr true Hf H env Hf' H' env σ ∧ VR K mg fr true d v H Hf' H' := by
  cases o with
  | old h => exact ⟨Hf, r, Tr.refl, VR.old h⟩
  | tup hp hs =>
    obtain ⟨a, b⟩ := r.growF (pu := true) (o := .tup _) hp
    exact ⟨_, a, b, VR.old (.tup (SqT.of upd_same) (hs.up b.up))⟩
  | lst hp hs =>
    obtain ⟨a, b⟩ := r.grow (pu := true) (o := .lst _) hp
    exact ⟨_, a, b, VR.new hp (r.freshF hp) (.lst upd_same hs)⟩

/-! ### as the library's data -/
mutual
def D.py : D → PyData
  | .non => .none
  | .bl b => .bool b
  | .int i => .int i
  | .str x => .str ⟨x.toArray⟩
  | .tup xs => .tuple (pys xs)
  | .lst xs => .list (pys xs)
  | .dct _ => .none
  | .fn _ => .none
def pys : List D → List PyData
  | [] => []
  | d :: ds => D.py d :: pys ds
end
theorem str_eq (x y : List Nat) : ((⟨x.toArray⟩ : Str) == ⟨y.toArray⟩) = decide (x = y) := by
  by_cases h : x = y
  · subst h; simp
  · rw [decide_eq_false h]
    refine beq_eq_false_iff_ne.mpr fun e => h ?_
    have := congrArg (fun z : Str => z.cps.toList) e
    simpa using this
mutual
theorem py_eqv : ∀ (n : Nat) (a b : D), a.okN n = true → b.okN n = true → PyData.eqv a.py b.py = a.eqv b
  | n, .non, b, _, hb => by cases b <;> first | rfl | (cases n <;> simp [D.okN] at hb) | simp [D.py, PyData.eqv, D.eqv]
  | n, .bl x, b, _, hb => by cases b <;> first | rfl | (cases n <;> simp [D.okN] at hb) | simp [D.py, PyData.eqv, D.eqv]
  | n, .int i, b, _, hb => by cases b <;> first | rfl | (cases n <;> simp [D.okN] at hb) | simp [D.py, PyData.eqv, D.eqv]
  | n, .str x, b, _, hb => by
    cases b with
    | str y => simp only [D.py, PyData.eqv, D.eqv]; exact str_eq _ _
    | _ => first | rfl | (cases n <;> simp [D.okN] at hb) | simp [D.py, PyData.eqv, D.eqv]
  | 0, .tup xs, b, ha, _ => by simp [D.okN] at ha
  | 0, .lst xs, b, ha, _ => by simp [D.okN] at ha
  | n + 1, .tup xs, b, ha, hb => by
    cases b with
    | tup ys => simp only [D.py, PyData.eqv, D.eqv]; exact py_eqvs n xs ys (by simpa [D.okN] using ha) (by simpa [D.okN] using hb)
    | _ => first | rfl | simp [D.okN] at hb | simp [D.py, PyData.eqv, D.eqv]
  | n + 1, .lst xs, b, ha, hb => by
    cases b with
    | lst ys => simp only [D.py, PyData.eqv, D.eqv]; exact py_eqvs n xs ys (by simpa [D.okN] using ha) (by simpa [D.okN] using hb)
    | _ => first | rfl | simp [D.okN] at hb | simp [D.py, PyData.eqv, D.eqv]
  | n, .dct _, b, ha, _ => by cases n <;> simp [D.okN] at ha
  | n, .fn _, b, ha, _ => by cases n <;> simp [D.okN] at ha
theorem py_eqvs : ∀ (n : Nat) (as bs : List D), (∀ x ∈ as, x.okN n = true) → (∀ x ∈ bs, x.okN n = true) → PyData.eqvAll (pys as) (pys bs) = eqvs as bs
  | n, [], [], _, _ => rfl
  | n, [], _ :: _, _, _ => rfl
  | n, _ :: _, [], _, _ => rfl
  | n, a :: as, b :: bs, ha, hb => by
    simp only [pys, PyData.eqvAll, eqvs]
    rw [py_eqv n a b (ha a List.mem_cons_self) (hb b List.mem_cons_self), py_eqvs n as bs (fun x h => ha x (List.mem_cons_of_mem _ h)) (fun x h => hb x (List.mem_cons_of_mem _ h))]
end
mutual
theorem py_lay : ∀ (n : Nat) (a : D), a.okN n = true → a.py.canLay0 = true ∧ a.py.depth ≤ n
  | n, .non, _ => by simp [D.py, PyData.canLay0, PyData.depth]
  | n, .bl x, _ => by simp [D.py, PyData.canLay0, PyData.depth]
  | n, .int i, _ => by simp [D.py, PyData.canLay0, PyData.depth]
  | n, .str x, h => by
    simp only [D.py, PyData.canLay0, PyData.depth, PyData.strOk]
    cases n <;> simpa [D.okN] using h
  | 0, .tup xs, h => by simp [D.okN] at h
  | 0, .lst xs, h => by simp [D.okN] at h
  | n + 1, .tup xs, h => by
    have q := py_lays n xs (by simpa [D.okN] using h)
    simp only [D.py, PyData.canLay0, PyData.depth]
    exact ⟨q.1, by omega⟩
  | n + 1, .lst xs, h => by
    have q := py_lays n xs (by simpa [D.okN] using h)
    simp only [D.py, PyData.canLay0, PyData.depth]
    exact ⟨q.1, by omega⟩
  | n, .dct _, ha => by cases n <;> simp [D.okN] at ha
  | n, .fn _, ha => by cases n <;> simp [D.okN] at ha
theorem py_lays : ∀ (n : Nat) (as : List D), (∀ x ∈ as, x.okN n = true) → PyData.canLayAll0 (pys as) = true ∧ PyData.depthAll (pys as) ≤ n
  | n, [], _ => by simp [pys, PyData.canLayAll0, PyData.depthAll]
  | n, a :: as, h => by
    have q1 := py_lay n a (h a List.mem_cons_self)
    have q2 := py_lays n as fun x hx => h x (List.mem_cons_of_mem _ hx)
    simp only [pys, PyData.canLayAll0, PyData.depthAll, q1.1, q2.1]
    exact ⟨rfl, by omega⟩
end
theorem py_shaped {n : Nat} {a : D} (h : a.okN n = true) (hn : n ≤ 60 := by decide) : SeqAt.shaped a.py = true := by
  have q := py_lay n a h
  unfold SeqAt.shaped
  rw [q.1]
  simp only [Bool.true_and, decide_eq_true_eq]
  omega
mutual
theorem Rep.dp : ∀ (n : Nat) {d : D} {v : V}, Rep K mg H d v → d.okN n = true → Dp K H v d.py
  | _, _, _, .non, _ => .non
  | _, _, _, .bl b, _ => .bl b
  | _, _, _, .int i, _ => .int i
  | _, _, _, .str x, _ => .str _
  | 0, _, _, .tup h hs, q => by simp [D.okN] at q
  | 0, _, _, .lst h hs, q => by simp [D.okN] at q
  | n + 1, _, _, .tup h hs, q => .tup h (Reps.dps n hs (by simpa [D.okN] using q))
  | n + 1, _, _, .lst h hs, q => .lst h (Reps.dps n hs (by simpa [D.okN] using q))
  | n, _, _, .fn h, q => by cases n <;> simp [D.okN] at q
theorem Reps.dps : ∀ (n : Nat) {ds : List D} {vs : List V}, Reps K mg H ds vs → (∀ x ∈ ds, x.okN n = true) → DpAll K H vs (pys ds)
  | _, _, _, .nil, _ => .nil
  | n, _, _, .cons h hs, q => .cons (Rep.dp n h (q _ List.mem_cons_self)) (Reps.dps n hs fun x hx => q x (List.mem_cons_of_mem _ hx))
end
theorem memD_any (a : D) (ha : a.okN 8 = true) : ∀ (bs : List D), (∀ x ∈ bs, x.okN 8 = true) → ((pys bs).any fun z => PyData.eqv z a.py) = memD a bs
  | [], _ => rfl
  | b :: bs, h => by
    simp only [pys, List.any_cons, memD]
    rw [py_eqv 8 b a (h b List.mem_cons_self) ha, memD_any a ha bs fun x hx => h x (List.mem_cons_of_mem _ hx)]

/-! ### binary operators -/
def BinOk (X : Cx) (op : Operator) : Prop := ∃ r2 : R2, OpR X (binaryOp op) r2 ∧ ∀ (Hf H : Hp) (x y : V) (d e q : D) (fr : Bool) (Q : VK), Same Hf H → Rep X.K X.mg Hf d x → Rep X.K X.mg Hf e y → binD op d e = some (q, fr) →
  (∀ z H', Out X.K X.mg Hf H fr q z H' → Q z H') → r2 x y H Q
theorem lim_line {n : Nat} (h : n ≤ lim) : n ≤ sizeLine := Nat.le_trans h (by decide)
/-- two lists that may be read, one behind another -/
def rCatL (K : PySem.W.Frag) : R2 := fun x y H Q => ∃ l b xs zs, x = .ref l ∧ y = .ref b ∧ SqL K H l xs ∧ SqL K H b zs ∧ xs.length + zs.length ≤ sizeLine ∧ ∀ p, H p = none → Q (.ref p) (upd H p (.lst (xs ++ zs)))
theorem list_addG (l : Addr) (items : Array Value) (n : Nat) (b : Addr) (items2 : Array Value) (n2 : Nat) (sl sl2 : Array (Option Value)) (hc0 : items.size + items2.size ≤ sizeLine) :
    Meets (Builtin.«list.__add__» ⟨[.ref l, .ref b], []⟩) (fun _ R s => s.heap.get? l = some { cls := .type "list", dict := none, data := .seq items n, slots := sl } ∧ s.heap.get? b = some { cls := .type "list", dict := none, data := .seq items2 n2, slots := sl2 } ∧ R (.ok (.ret (.ref s.heap.objs.size))) { s with heap := s.heap.push { cls := .type "list", data := .seq (items ++ items2) } }) :=
  .of_wp fun prog w A R s h => by obtain ⟨hp, g, d, tk, os⟩ := s; obtain ⟨hl, hb, h⟩ := h; have f1 := AutoSeq1.idx_int; have f2 := AutoSeq1.sub_tuple_tuple; have f3 := AutoSeq1.sub_list_list; have f4 := AutoSeq1.sub_tuple_list; have f5 := AutoSeq1.sub_list_tuple; wp_walk using AutoSeq1.wpAny_loadPart' hl, AutoSeq1.wpAny_loadPart' hb; exact ⟨_, rfl, h⟩
theorem op_catL {X : Cx} : OpR X (binaryOp .Add) (rCatL X.K) := by
  intro pins s σ H x y v u Q I rx ry h
  obtain ⟨l, b, xs, zs, rfl, rfl, hH, hB, hz, q⟩ := h
  cases rx
  cases ry
  obtain ⟨its, r, ⟨⟨c1, d1, dat1, sl1⟩, n, e1, e2, e4, e3⟩, hl⟩ := I.list hH
  obtain ⟨its2, r2, ⟨⟨c2, d2, dat2, sl2⟩, n2, e12, e22, e42, e32⟩, hl2⟩ := I.list hB
  simp only at e2 e4 e3 e22 e42 e32
  subst e2 e4 e3 e22 e42 e32
  refine PySem.concat_meets ⟨_, e1, rfl⟩ ⟨_, e12, rfl⟩ PySem.noFill_list_add PySem.seq_list_add PySem.F.slot_list_add PySem.F.entry_list_add (PySem.F.args_list_add_2 _ _) (list_addG l its.toArray n b its2.toArray n2 sl1 sl2 ?_) ⟨e1, e12, ?_⟩
  · rw [List.size_toArray, List.size_toArray, ← r.length, ← r2.length]; exact hz
  have ea : its.toArray ++ its2.toArray = (its ++ its2).toArray := by simp
  rw [ea]
  exact ⟨.ref _, _, I.lnew (t' := s.toks) (r.append r2) (by rw [List.length_append]; omega), rfl, q _ I.fresh⟩

/-- a list that may be read, times an int -/
def rRepL (K : PySem.W.Frag) : R2 := fun x y H Q => ∃ l k xs, x = .ref l ∧ y = .int k ∧ SqL K H l xs ∧ -(2 ^ 63) ≤ k ∧ k < 2 ^ 63 ∧ xs.length * k.toNat ≤ sizeLine ∧
  ∀ p, H p = none → Q (.ref p) (upd H p (.lst (List.replicate k.toNat xs).flatten))
theorem list_mulG (l : Addr) (items : Array Value) (n : Nat) (x : Int) (u : Tok) (sl : Array (Option Value)) (hc0 : ¬(!Builtin.List.listFitsIndex x) = true) (hc1 : ¬items.size * x.toNat > (2 ^ 63 - 1) / 8) (hc2 : ¬Builtin.List.listTooLong (items.size * x.toNat) = true) :
    Meets (Builtin.«list.__mul__» ⟨[.ref l, .int x u], []⟩) (fun _ R s => s.heap.get? l = some { cls := .type "list", dict := none, data := .seq items n, slots := sl } ∧ R (.ok (.ret (Value.ref s.heap.objs.size))) { s with heap := s.heap.push { cls := Value.type "list", data := Data.seq (List.foldl (fun x1 x2 => x1 ++ x2) #[] (List.replicate (if items.isEmpty = true then 0 else x.toNat) items)) }, toks := s.toks }) :=
  .of_wp fun prog w A R s h => by
    obtain ⟨hp, g, d, tk, os⟩ := s; obtain ⟨hl, h⟩ := h
    have hsz := AutoListH.joined_fits hc2
    wp_walk using AutoSeq1.wpAny_loadPart' hl; refine wpAny_ite_false (decide_eq_false (Nat.not_lt.mpr hsz)) ?_; wp_walk using AutoSeq1.wpAny_loadPart' hl; exact ⟨_, rfl, h⟩
theorem int_rmulG (a : Int) (t : Tok) (l : Addr) (items : Array Value) (n : Nat) (sl : Array (Option Value)) :
    Meets (Builtin.«int.__rmul__» ⟨[.int a t, .ref l], []⟩) (fun _ R s => s.heap.get? l = some { cls := .type "list", dict := none, data := .seq items n, slots := sl } ∧ R (.ok (.ret Value.notImplemented)) s) :=
  .of_wp fun prog w A R s h => by obtain ⟨hp, g, d, tk, os⟩ := s; obtain ⟨hl, h⟩ := h; wp_walk using AutoSeq1.wpAny_loadPart' hl; exact ⟨_, rfl, h⟩
theorem op_repL {X : Cx} : OpR X (binaryOp .Mult) (rRepL X.K) := by
  intro pins s σ H x y v u Q I rx ry h
  obtain ⟨l, k, xs, rfl, rfl, hH, h1, h2, hz, q⟩ := h
  cases rx
  obtain ⟨t, rfl⟩ := ry
  obtain ⟨its, r, ⟨⟨c1, d1, dat1, sl1⟩, n, e, e2, e4, e3⟩, hl⟩ := I.list hH
  simp only at e2 e4 e3
  subst e2 e4 e3
  have hlen : its.toArray.size * k.toNat ≤ sizeLine := by rw [List.size_toArray, ← r.length]; exact hz
  have hcap : ¬ its.toArray.size * k.toNat > (2 ^ 63 - 1) / 8 := by
    have : (sizeLine : Nat) ≤ (2 ^ 63 - 1) / 8 := by decide
    omega
  have hfit : ¬ (!Builtin.List.listFitsIndex k) = true := by
    rw [fitsIndex_both h1 h2]
    exact Bool.false_ne_true
  have hlong : ¬ Builtin.List.listTooLong (its.toArray.size * k.toNat) = true := by
    rw [notLongL hlen]
    exact Bool.false_ne_true
  have hnew : List.foldl (fun x1 x2 => x1 ++ x2) #[] (List.replicate (if its.toArray.isEmpty = true then 0 else k.toNat) its.toArray) = (List.replicate k.toNat its).flatten.toArray := by
    have f0 : ∀ m : Nat, List.foldl (fun x1 x2 => x1 ++ x2) #[] (List.replicate m its.toArray) = (List.replicate m its).flatten.toArray := fun m => by
      have := foldl_rep its m []
      rw [List.nil_append] at this
      exact this
    rw [f0]
    cases its with
    | nil => simp
    | cons a r' => rw [if_neg (by simp)]
  refine wpAny_binaryOp_repeat_ref (T := "list") (U := "int") (by decide) ⟨_, e, rfl⟩ (fun s' => typeIs_int s' k t) noFill_list_mul F.fills_int_mul F.slot_int_rmul repeat_list F.slot_int_index.lookup
    (call_meets F.slot_int_rmul (typeIs_int s k t) F.entry_int_rmul (F.args_int_rmul_2 _ _) (int_rmulG k t l its.toArray n sl1)
      ⟨e, rfl, ⟨_, e, rfl⟩, call_meets F.slot_list_mul ⟨_, e, rfl⟩ F.entry_list_mul (F.args_list_mul_2 _ _) (list_mulG l its.toArray n k t sl1 hfit hcap hlong) ⟨e, ?_⟩⟩)
  rw [hnew]
  exact ⟨.ref _, _, I.lnew (t' := s.toks) (r.rep k.toNat) (by rw [PyProof.Rows.lm_len_rep_flat, Nat.mul_comm]; exact hz), rfl, q _ I.fresh⟩

theorem Rep.intInv {i : Int} {x : V} (h : Rep K mg H (.int i) x) : x = .int i := by cases h; rfl
theorem Rep.blInv {i : Bool} {x : V} (h : Rep K mg H (.bl i) x) : x = .bl i := by cases h; rfl
theorem Rep.nonInv {x : V} (h : Rep K mg H .non x) : x = .non := by cases h; rfl
theorem Rep.strInv {i : List Nat} {x : V} (h : Rep K mg H (.str i) x) : x = .str ⟨i.toArray⟩ := by cases h; rfl
theorem Rep.tupInv {ds : List D} {x : V} (h : Rep K mg H (.tup ds) x) : ∃ a vs, x = .ref a ∧ SqT K H a vs ∧ Reps K mg H ds vs := by cases h with | tup h hs => exact ⟨_, _, rfl, h, hs⟩
theorem Rep.lstInv {ds : List D} {x : V} (h : Rep K mg H (.lst ds) x) : ∃ a vs, x = .ref a ∧ SqL K H a vs ∧ Reps K mg H ds vs := by cases h with | lst h hs => exact ⟨_, _, rfl, h, hs⟩
theorem str_len (x : List Nat) : (⟨x.toArray⟩ : Str).length = x.length := by simp [Str.length]
theorem str_app (x y : List Nat) : (⟨x.toArray⟩ : Str) ++ ⟨y.toArray⟩ = ⟨(x ++ y).toArray⟩ := by
  show (⟨x.toArray ++ y.toArray⟩ : Str) = _
  simp

theorem bin_add (X : Cx) : BinOk X .Add := by
  refine ⟨_, op_add.or (op_add_str.or (op_catA.or op_catL)), fun Hf H x y d e q fr Q le rx ry hs hq => ?_⟩
  cases d <;> cases e <;> simp only [binD, reduceCtorEq] at hs <;> try (first | (exfalso; exact hs.elim) | contradiction)
  · cases hs
    obtain rfl := rx.intInv
    obtain rfl := ry.intInv
    exact .inl ⟨_, _, rfl, rfl, hq _ _ (.old (.int _))⟩
  · split at hs
    · rename_i hz
      cases hs
      obtain rfl := rx.strInv
      obtain rfl := ry.strInv
      refine .inr (.inl ⟨_, _, rfl, rfl, ?_, ?_⟩)
      · rw [str_len, str_len]; exact lim_line hz
      · rw [str_app]; exact hq _ _ (.old (.str _))
    · cases hs
  · split at hs
    · rename_i hz
      cases hs
      obtain ⟨a, vs, rfl, h1, h2⟩ := rx.tupInv
      obtain ⟨b, ws, rfl, h3, h4⟩ := ry.tupInv
      refine .inr (.inr (.inl ⟨a, b, vs, ws, rfl, rfl, same_t le h1, same_t le h3, ?_, fun z => ?_, fun _ z => ?_, fun _ _ p hp => ?_⟩))
      · rw [← h2.length, ← h4.length]; exact lim_line hz
      · subst z; cases h2; exact hq _ _ (.old ry)
      · subst z; cases h4; rw [List.append_nil] at hq; exact hq _ _ (.old rx)
      · exact hq _ _ (.tup hp (h2.app h4))
    · cases hs
  · split at hs
    · rename_i hz
      cases hs
      obtain ⟨a, vs, rfl, h1, h2⟩ := rx.lstInv
      obtain ⟨b, ws, rfl, h3, h4⟩ := ry.lstInv
      refine .inr (.inr (.inr ⟨a, b, vs, ws, rfl, rfl, le.seq h1, le.seq h3, ?_, fun p hp => ?_⟩))
      · rw [← h2.length, ← h4.length]; exact lim_line hz
      · exact hq _ _ (.lst hp (h2.app h4))
    · cases hs
theorem bin_sub (X : Cx) : BinOk X .Sub := by
  refine ⟨_, op_sub, fun Hf H x y d e q fr Q le rx ry hs hq => ?_⟩
  cases d <;> cases e <;> simp only [binD, reduceCtorEq] at hs <;> try (first | (exfalso; exact hs.elim) | contradiction)
  cases hs
  obtain rfl := rx.intInv
  obtain rfl := ry.intInv
  exact ⟨_, _, rfl, rfl, hq _ _ (.old (.int _))⟩
theorem bin_mod (X : Cx) : BinOk X .Mod := by
  refine ⟨_, op_modN, fun Hf H x y d e q fr Q le rx ry hs hq => ?_⟩
  cases d <;> cases e <;> simp only [binD, reduceCtorEq] at hs <;> try (first | (exfalso; exact hs.elim) | contradiction)
  split at hs
  · rename_i hz
    cases hs
    obtain rfl := rx.intInv
    obtain rfl := ry.intInv
    exact ⟨_, _, rfl, rfl, hz, hq _ _ (.old (.int _))⟩
  · cases hs
theorem bin_fdiv (X : Cx) : BinOk X .FloorDiv := by
  refine ⟨_, op_fdivN, fun Hf H x y d e q fr Q le rx ry hs hq => ?_⟩
  cases d <;> cases e <;> simp only [binD, reduceCtorEq] at hs <;> try (first | (exfalso; exact hs.elim) | contradiction)
  split at hs
  · rename_i hz
    cases hs
    obtain rfl := rx.intInv
    obtain rfl := ry.intInv
    exact ⟨_, _, rfl, rfl, hz, hq _ _ (.old (.int _))⟩
  · cases hs
theorem bin_pow (X : Cx) : BinOk X .Pow := by
  refine ⟨_, op_pow, fun Hf H x y d e q fr Q le rx ry hs hq => ?_⟩
  cases d <;> cases e <;> simp only [binD, reduceCtorEq] at hs <;> try (first | (exfalso; exact hs.elim) | contradiction)
  split at hs
  · rename_i hz
    cases hs
    obtain rfl := rx.intInv
    obtain rfl := ry.intInv
    exact ⟨_, _, rfl, rfl, hz, hq _ _ (.old (.int _))⟩
  · cases hs
theorem c64 {i : Int} (h : i.natAbs < 2 ^ 64) : -(2 ^ 64) < i ∧ i < 2 ^ 64 := by omega
theorem bin_mul (X : Cx) : BinOk X .Mult := by
  refine ⟨_, op_mul.or op_repL, fun Hf H x y d e q fr Q le rx ry hs hq => ?_⟩
  cases d <;> cases e <;> simp only [binD, reduceCtorEq] at hs <;> try (first | (exfalso; exact hs.elim) | contradiction)
  · split at hs
    · rename_i hz
      cases hs
      obtain rfl := rx.intInv
      obtain rfl := ry.intInv
      refine .inl ⟨_, _, rfl, rfl, ?_, hq _ _ (.old (.int _))⟩
      rcases hz with z | z
      · exact .inl (c64 z)
      · exact .inr (c64 z)
    · cases hs
  · split at hs
    · rename_i hz
      cases hs
      obtain ⟨a, vs, rfl, h1, h2⟩ := rx.lstInv
      obtain rfl := ry.intInv
      refine .inr ⟨a, _, vs, rfl, rfl, le.seq h1, by omega, by omega, ?_, fun p hp => ?_⟩
      · rw [← h2.length]; exact lim_line hz.1
      · exact hq _ _ (.lst hp (h2.rep _))
    · cases hs
theorem bin_ok (X : Cx) (op : Operator) : BinOk X op := by
  cases op <;> first | exact bin_add X | exact bin_sub X | exact bin_mul X | exact bin_mod X | exact bin_fdiv X | exact bin_pow X |
    exact ⟨fun _ _ _ _ => False, fun _ _ _ _ _ _ _ _ _ _ _ _ h => h.elim, fun Hf H x y d e q fr Q le rx ry hs hq => by simp only [binD, reduceCtorEq] at hs⟩
end
end Cor
set_option Elab.async false
set_option linter.all false
set_option maxRecDepth 100000
set_option maxHeartbeats 2000000
/-! Cor3: comparisons, subscripts, slices, built-ins. -/
namespace Cor
open PySem PySem.Spec L2
section
variable {K : PySem.W.Frag} {mg : Str → Option Value} {H H' Hf Hf' : Hp} {d : D} {v : V}

/-! ### comparisons -/
def CmpOk (X : Cx) (op : CmpOp) : Prop := ∃ r2 : R2, OpR X (compareOp op) r2 ∧ ∀ (H : Hp) (x y : V) (d e : D) (b : Bool) (Q : VK), Rep X.K X.mg H d x → Rep X.K X.mg H e y → cmpD op d e = some b → Q (.bl b) H → r2 x y H Q
theorem cmp_eq (X : Cx) (hu : X.A.units + 65 < cLine) : CmpOk X .Eq := by
  refine ⟨_, op_eqD (by omega), fun H x y d e b Q rx ry hs hq => ?_⟩
  simp only [cmpD] at hs
  split at hs
  · rename_i h
    cases hs
    rw [Bool.and_eq_true] at h
    exact ⟨_, _, rx.dp 8 h.1, ry.dp 8 h.2, py_shaped h.1, py_shaped h.2, by rw [py_eqv 8 _ _ h.1 h.2]; exact hq⟩
  · cases hs
theorem cmp_ne (X : Cx) (hu : X.A.units + 65 < cLine) : CmpOk X .NotEq := by
  refine ⟨_, op_neD (by omega), fun H x y d e b Q rx ry hs hq => ?_⟩
  simp only [cmpD] at hs
  split at hs
  · rename_i h
    cases hs
    rw [Bool.and_eq_true] at h
    exact ⟨_, _, rx.dp 8 h.1, ry.dp 8 h.2, py_shaped h.1, py_shaped h.2, by rw [py_eqv 8 _ _ h.1 h.2]; exact hq⟩
  · cases hs
theorem cmp_ii (X : Cx) {op : CmpOp} {p : Int → Int → Bool} (h : OpR X (compareOp op) (rI0 fun i j => .bl (p i j))) (hp : ∀ d e b, cmpD op d e = some b → ∃ i j, d = .int i ∧ e = .int j ∧ b = p i j) : CmpOk X op := by
  refine ⟨_, h, fun H x y d e b Q rx ry hs hq => ?_⟩
  obtain ⟨i, j, rfl, rfl, rfl⟩ := hp d e b hs
  obtain rfl := rx.intInv
  obtain rfl := ry.intInv
  exact ⟨_, _, rfl, rfl, hq⟩
theorem cmp_lt (X : Cx) : CmpOk X .Lt := cmp_ii X op_lt fun d e b hs => by
  cases d <;> cases e <;> simp only [cmpD, reduceCtorEq] at hs; cases hs; exact ⟨_, _, rfl, rfl, rfl⟩
theorem cmp_le (X : Cx) : CmpOk X .LtE := cmp_ii X op_le fun d e b hs => by
  cases d <;> cases e <;> simp only [cmpD, reduceCtorEq] at hs; cases hs; exact ⟨_, _, rfl, rfl, rfl⟩
theorem cmp_gt (X : Cx) : CmpOk X .Gt := cmp_ii X op_gt fun d e b hs => by
  cases d <;> cases e <;> simp only [cmpD, reduceCtorEq] at hs; cases hs; exact ⟨_, _, rfl, rfl, rfl⟩
theorem cmp_ge (X : Cx) : CmpOk X .GtE := cmp_ii X op_ge fun d e b hs => by
  cases d <;> cases e <;> simp only [cmpD, reduceCtorEq] at hs; cases hs; exact ⟨_, _, rfl, rfl, rfl⟩
theorem rep_non {d : D} {x : V} (h : Rep K mg H d x) : decide (x = .non) = isNon d := by
  cases h <;> first | rfl | simp [isNon]
theorem cmp_is (X : Cx) : CmpOk X .Is := by
  refine ⟨_, op_isN.or op_isBl, fun H x y d e b Q rx ry hs hq => ?_⟩
  cases e <;> try (cases d <;> simp only [cmpD, reduceCtorEq] at hs <;> done)
  · simp only [cmpD] at hs
    cases hs
    obtain rfl := ry.nonInv
    exact .inl ⟨rfl, by rw [rep_non rx]; exact hq⟩
  · cases d <;> simp only [cmpD, reduceCtorEq] at hs
    cases hs
    obtain rfl := rx.blInv
    obtain rfl := ry.blInv
    exact .inr ⟨_, _, rfl, rfl, by rw [← Bool.beq_eq_decide_eq]; exact hq⟩
theorem cmp_isnot (X : Cx) : CmpOk X .IsNot := by
  refine ⟨_, op_notN.or op_notBl, fun H x y d e b Q rx ry hs hq => ?_⟩
  cases e <;> try (cases d <;> simp only [cmpD, reduceCtorEq] at hs <;> done)
  · simp only [cmpD] at hs
    cases hs
    obtain rfl := ry.nonInv
    exact .inl ⟨rfl, by rw [rep_non rx]; exact hq⟩
  · cases d <;> simp only [cmpD, reduceCtorEq] at hs
    cases hs
    obtain rfl := rx.blInv
    obtain rfl := ry.blInv
    exact .inr ⟨_, _, rfl, rfl, by rw [← Bool.beq_eq_decide_eq]; exact hq⟩
def rInT (K : PySem.W.Frag) : R2 := fun x y H Q => ∃ d ds, Dp K H x d ∧ Dp K H y (.tuple ds) ∧ SeqAt.shaped d = true ∧ SeqAt.shaped (.tuple ds) = true ∧ Q (.bl (ds.any fun z => PyData.eqv z d)) H
def rNotInT (K : PySem.W.Frag) : R2 := fun x y H Q => ∃ d ds, Dp K H x d ∧ Dp K H y (.tuple ds) ∧ SeqAt.shaped d = true ∧ SeqAt.shaped (.tuple ds) = true ∧ Q (.bl (!ds.any fun z => PyData.eqv z d)) H
theorem lay_tup {ds : List PyData} (h : SeqAt.shaped (.tuple ds) = true) : PyData.canLayAll0 ds = true := by
  have q := SeqAt.canLay_of_shaped h
  simpa only [PyData.canLay0] using q
theorem op_inT {X : Cx} (hu : X.A.units + 65 < cLine) : OpR X (compareOp .In) (rInT X.K) := by
  intro pins s σ H x y v u Q I rx ry h
  obtain ⟨d, ds, hd, he, sd, se, q⟩ := h
  obtain ⟨as, r1⟩ := Dp.reads I d x v hd rx
  obtain ⟨bs, r2⟩ := Dp.reads I (.tuple ds) y u he ry
  exact SeqAt.in_tuple_reads r2 r1 (lay_tup se) (SeqAt.canLay_of_shaped sd) (PyProof.Rows.room_in_shaped sd hu) ⟨.bl _, H, I, rfl, q⟩
theorem op_notInT {X : Cx} (hu : X.A.units + 65 < cLine) : OpR X (compareOp .NotIn) (rNotInT X.K) := by
  intro pins s σ H x y v u Q I rx ry h
  obtain ⟨d, ds, hd, he, sd, se, q⟩ := h
  obtain ⟨as, r1⟩ := Dp.reads I d x v hd rx
  obtain ⟨bs, r2⟩ := Dp.reads I (.tuple ds) y u he ry
  exact SeqAt.notIn_tuple_reads r2 r1 (lay_tup se) (SeqAt.canLay_of_shaped sd) (PyProof.Rows.room_in_shaped sd hu) ⟨.bl _, H, I, rfl, q⟩
theorem ok_up8 {bs : List D} (h : bs.all (D.okN 8) = true) : D.okN 9 (.tup bs) = true ∧ D.okN 9 (.lst bs) = true := ⟨h, h⟩
theorem cmp_in (X : Cx) (hu : X.A.units + 65 < cLine) : CmpOk X .In := by
  refine ⟨_, (op_inT hu).or ((op_inD hu).or op_in_str), fun H x y d e b Q rx ry hs hq => ?_⟩
  cases e <;> try (cases d <;> simp only [cmpD, reduceCtorEq] at hs <;> done)
  · rename_i t
    cases d <;> simp only [cmpD, reduceCtorEq] at hs
    rename_i s
    match s, hs with
    | [c], hs =>
      simp only [cmpD] at hs
      cases hs
      obtain rfl := rx.strInv
      obtain rfl := ry.strInv
      refine .inr (.inr ⟨_, _, rfl, rfl, ?_⟩)
      have e : (!(Builtin.Str.occurrences (⟨t.toArray⟩ : Str) ⟨[c].toArray⟩ 0 (⟨t.toArray⟩ : Str).length 1).isEmpty) = decide (c ∈ t) := by
        have := StrLaws.found_one ⟨t.toArray⟩ c
        simpa using this
      rw [e]; exact hq
    | [], hs => simp [cmpD] at hs
    | _ :: _ :: _, hs => simp [cmpD] at hs
  · rename_i bs
    simp only [cmpD] at hs
    split at hs
    · rename_i h
      cases hs
      rw [Bool.and_eq_true] at h
      refine .inl ⟨_, _, rx.dp 8 h.1, ry.dp 9 (ok_up8 h.2).1, py_shaped h.1, py_shaped (a := .tup bs) (ok_up8 h.2).1, ?_⟩
      rw [memD_any _ h.1 bs fun z hz => List.all_eq_true.mp h.2 z hz]; exact hq
    · cases hs
  · rename_i bs
    simp only [cmpD] at hs
    split at hs
    · rename_i h
      cases hs
      rw [Bool.and_eq_true] at h
      refine .inr (.inl ⟨_, _, rx.dp 8 h.1, ry.dp 9 (ok_up8 h.2).2, py_shaped h.1, py_shaped (a := .lst bs) (ok_up8 h.2).2, ?_⟩)
      rw [memD_any _ h.1 bs fun z hz => List.all_eq_true.mp h.2 z hz]; exact hq
    · cases hs
theorem cmp_notin (X : Cx) (hu : X.A.units + 65 < cLine) : CmpOk X .NotIn := by
  refine ⟨_, (op_notInT hu).or ((op_notInD hu).or op_notin_str), fun H x y d e b Q rx ry hs hq => ?_⟩
  cases e <;> try (cases d <;> simp only [cmpD, reduceCtorEq] at hs <;> done)
  · rename_i t
    cases d <;> simp only [cmpD, reduceCtorEq] at hs
    rename_i s
    match s, hs with
    | [c], hs =>
      simp only [cmpD] at hs
      cases hs
      obtain rfl := rx.strInv
      obtain rfl := ry.strInv
      refine .inr (.inr ⟨_, _, rfl, rfl, ?_⟩)
      have e : (!(Builtin.Str.occurrences (⟨t.toArray⟩ : Str) ⟨[c].toArray⟩ 0 (⟨t.toArray⟩ : Str).length 1).isEmpty) = decide (c ∈ t) := by
        have := StrLaws.found_one ⟨t.toArray⟩ c
        simpa using this
      rw [e]; exact hq
    | [], hs => simp [cmpD] at hs
    | _ :: _ :: _, hs => simp [cmpD] at hs
  · rename_i bs
    simp only [cmpD] at hs
    split at hs
    · rename_i h
      cases hs
      rw [Bool.and_eq_true] at h
      refine .inl ⟨_, _, rx.dp 8 h.1, ry.dp 9 (ok_up8 h.2).1, py_shaped h.1, py_shaped (a := .tup bs) (ok_up8 h.2).1, ?_⟩
      rw [memD_any _ h.1 bs fun z hz => List.all_eq_true.mp h.2 z hz]; exact hq
    · cases hs
  · rename_i bs
    simp only [cmpD] at hs
    split at hs
    · rename_i h
      cases hs
      rw [Bool.and_eq_true] at h
      refine .inr (.inl ⟨_, _, rx.dp 8 h.1, ry.dp 9 (ok_up8 h.2).2, py_shaped h.1, py_shaped (a := .lst bs) (ok_up8 h.2).2, ?_⟩)
      rw [memD_any _ h.1 bs fun z hz => List.all_eq_true.mp h.2 z hz]; exact hq
    · cases hs
theorem cmp_ok (X : Cx) (hu : X.A.units + 65 < cLine) (op : CmpOp) : CmpOk X op := by
  cases op
  · exact cmp_eq X hu
  · exact cmp_ne X hu
  · exact cmp_lt X
  · exact cmp_le X
  · exact cmp_gt X
  · exact cmp_ge X
  · exact cmp_is X
  · exact cmp_isnot X
  · exact cmp_in X hu
  · exact cmp_notin X hu

/-! ### subscripts, slices -/
theorem ixN_get {n : Nat} {i : Int} {j : Nat} (h : ixN n i = some j) : j < n := (ixN_seq h).2.1
theorem atI_reps {ds : List D} {vs : List V} {i : Int} {d : D} (r : Reps K mg H ds vs) (h : atI ds i = some d) : ∃ v, atI vs i = some v ∧ Rep K mg H d v := by
  unfold atI at h ⊢
  rw [← r.length]
  cases e : ixN ds.length i with
  | none => rw [e] at h; cases h
  | some j =>
    rw [e] at h
    obtain ⟨v, a, b⟩ := r.get (show ds[j]? = some d from h)
    exact ⟨v, a, b⟩
/-- a datum that is frozen, or owned -/
inductive Now (K : PySem.W.Frag) (mg : Str → Option Value) (Hf H : Hp) : D → V → Prop
  | frz {d : D} {v : V} : Rep K mg Hf d v → Now K mg Hf H d v
  | own {d : D} {a : Addr} : Cont K mg Hf H d a → Now K mg Hf H d (.ref a)
theorem Now.lstInv {ds : List D} {x : V} (le : Same Hf H) (h : Now K mg Hf H (.lst ds) x) : ∃ a vs, x = .ref a ∧ SqL K H a vs ∧ Reps K mg Hf ds vs := by
  cases h with
  | frz h => obtain ⟨a, vs, e, h1, h2⟩ := h.lstInv; exact ⟨a, vs, e, le.seq h1, h2⟩
  | own h => cases h with | lst h1 h2 => exact ⟨_, _, rfl, SqL.of h1, h2⟩
theorem Now.tupInv {ds : List D} {x : V} (le : Same Hf H) (h : Now K mg Hf H (.tup ds) x) : ∃ a vs, x = .ref a ∧ SqT K H a vs ∧ Reps K mg Hf ds vs := by
  cases h with
  | frz h => obtain ⟨a, vs, e, h1, h2⟩ := h.tupInv; exact ⟨a, vs, e, same_t le h1, h2⟩
  | own h => cases h
theorem Now.strInv {z : List Nat} {x : V} (h : Now K mg Hf H (.str z) x) : x = .str ⟨z.toArray⟩ := by
  cases h with
  | frz h => exact h.strInv
  | own h => cases h
/-- x[i], the item frozen -/
def SubOk (X : Cx) : Prop := ∃ r2 : R2, IxR X r2 ∧ ∀ (Hf H : Hp) (x y : V) (d e q : D) (Q : VK), Same Hf H → Now X.K X.mg Hf H d x → Rep X.K X.mg H e y → subD d e = some q → (∀ z, Rep X.K X.mg Hf q z → Q z H) → r2 x y H Q
theorem sub_ok (X : Cx) : SubOk X := by
  refine ⟨_, ix_seq, fun Hf H x y d e q Q le rx ry hs hq => ?_⟩
  cases d <;> cases e <;> simp only [subD, reduceCtorEq] at hs
  · split at hs
    · rename_i h
      rw [Option.map_eq_some_iff] at hs
      obtain ⟨c, e1, rfl⟩ := hs
      obtain rfl := rx.strInv
      obtain rfl := ry.intInv
      refine .inr (.inr ⟨_, _, c, rfl, rfl, ?_, ?_, hq _ (.str [c])⟩)
      · rw [str_len]; exact lim_line h
      · simpa using e1
    · cases hs
  · obtain ⟨a, vs, rfl, h1, h2⟩ := rx.tupInv le
    obtain rfl := ry.intInv
    obtain ⟨z, e1, e2⟩ := atI_reps h2 hs
    exact .inr (.inl ⟨a, vs, _, z, rfl, rfl, h1, e1, hq z e2⟩)
  · obtain ⟨a, vs, rfl, h1, h2⟩ := rx.lstInv le
    obtain rfl := ry.intInv
    obtain ⟨z, e1, e2⟩ := atI_reps h2 hs
    exact .inl ⟨a, vs, _, z, rfl, rfl, h1, e1, hq z e2⟩
theorem cut_reps {ds : List D} {vs : List V} {lo hi : Option Int} (r : Reps K mg H ds vs) : Reps K mg H (cutD ds lo hi) (cutV vs lo hi) := by
  unfold cutD cutV
  rw [← r.length]
  exact (r.drop _).take _
theorem cutS_eq (x : List Nat) (lo hi : Option Int) : cutS ⟨x.toArray⟩ lo hi = ⟨(cutD x lo hi).toArray⟩ := by
  unfold cutS cutD
  rw [str_len]
def SlcOk (X : Cx) : Prop := ∃ r : V → Option Int → Option Int → Hp → VK → Prop, SlR X r ∧ ∀ (Hf H : Hp) (x : V) (lo hi : Option Int) (d q : D) (fr : Bool) (Q : VK), Same Hf H → Rep X.K X.mg Hf d x → slcD d lo hi = some (q, fr) →
  (∀ z H', Out X.K X.mg Hf H fr q z H' → Q z H') → r x lo hi H Q
theorem cut_whole {α : Type} {xs : List α} {lo hi : Option Int} (h : HT.sIx xs.length 0 lo = 0 ∧ HT.sIx xs.length xs.length hi = xs.length) : cutD xs lo hi = xs := by
  unfold cutD
  rw [h.1, h.2]
  simp
theorem slc_ok (X : Cx) : SlcOk X := by
  refine ⟨_, sl_tupA.or (sl_list.or sl_str), fun Hf H x lo hi d q fr Q le rx hs hq => ?_⟩
  cases d <;> simp only [slcD, reduceCtorEq] at hs
  · split at hs
    · rename_i h
      cases hs
      obtain rfl := rx.strInv
      refine .inr (.inr ⟨_, rfl, ?_, ?_⟩)
      · rw [str_len]; exact lim_line h
      · rw [cutS_eq]; exact hq _ _ (.old (.str _))
    · cases hs
  · cases hs
    obtain ⟨a, vs, rfl, h1, h2⟩ := rx.tupInv
    refine .inl ⟨a, vs, rfl, same_t le h1, fun w => ?_, fun _ p hp => ?_⟩
    · rw [← h2.length] at w
      rw [cut_whole w] at hq
      exact hq _ _ (.old (.tup h1 h2))
    · exact hq _ _ (.tup hp (cut_reps h2))
  · cases hs
    obtain ⟨a, vs, rfl, h1, h2⟩ := rx.lstInv
    exact .inr (.inl ⟨a, vs, rfl, le.seq h1, fun p hp => hq _ _ (.lst hp (cut_reps h2))⟩)

/-! ### built-ins of one argument -/
/-- f(x), by what it is given -/
def CrOk (X : Cx) (u : Value) (f : D → Option (D × Bool)) : Prop := ∃ r : List V → Hp → VK → Prop, CallR X u r ∧ ∀ (Hf H : Hp) (x : V) (d q : D) (fr : Bool) (Q : VK), Same Hf H → Rep X.K X.mg Hf d x → f d = some (q, fr) →
  (∀ z H', Out X.K X.mg Hf H fr q z H' → Q z H') → r [x] H Q
theorem cr_len (X : Cx) : CrOk X (.builtin "len") (b1D .len) := by
  refine ⟨_, call_len_seq.or call_len_str, fun Hf H x d q fr Q le rx hs hq => ?_⟩
  cases d <;> simp only [b1D, reduceCtorEq] at hs
  · split at hs
    · rename_i h
      cases hs
      obtain rfl := rx.strInv
      refine .inr ⟨_, rfl, ?_, ?_⟩
      · rw [str_len]; exact lim_line h
      · rw [str_len]; exact hq _ _ (.old (.int _))
    · cases hs
  · cases hs
    obtain ⟨a, vs, rfl, h1, h2⟩ := rx.tupInv
    refine .inl ⟨a, vs, rfl, .inr (same_t le h1), ?_⟩
    rw [← h2.length]; exact hq _ _ (.old (.int _))
  · cases hs
    obtain ⟨a, vs, rfl, h1, h2⟩ := rx.lstInv
    refine .inl ⟨a, vs, rfl, .inl (le.seq h1), ?_⟩
    rw [← h2.length]; exact hq _ _ (.old (.int _))
theorem sum_rawT {prog : Program} {w : World} {A : Around} {E : Value → Shared → Prop} {s : Shared} {l : Addr} {its : List Value} {ns : List Int} {Q : Value → Shared → Prop} (hh : A.handled = none) (hl : s.heap.IsTuple l its.toArray) (hi : PyProof.Rows.IntsAre its ns)
    (h : ∀ h' tk t', (∀ b o, s.heap.get? b = some o → h'.get? b = some o) → Q (.int ns.sum t') { s with heap := h', toks := tk }) : wpAny (model prog w) A (call (.builtin "sum") [.ref l]) Q E s := by
  obtain ⟨xs, e⟩ := hi.allInts.items
  have hn : numsOf (intItems xs).toList = ns := by rw [← e]; exact hi.numsOf
  rw [nums_intItems] at hn
  rw [e] at hl
  have hlt : l < s.heap.objs.size := by obtain ⟨_, e, _⟩ := hl; exact Heap.lt_size e
  have hlI : l ≠ s.heap.objs.size := Nat.ne_of_lt hlt
  refine call_sum_walkG (wpAny_pyIter_tuple hl ?_)
  refine ⟨_, [_, l], [_], _, _, _, numAt xs, rfl, Walks.tuple (A := A.in1) hh _ l hlI (intItems xs), ⟨⟨_, Heap.get?_push_size _ rfl, rfl, rfl⟩, hl.push _⟩, fun b hb => ?_, (fun _ _ => intItems_at), fun h' tk t' hk => ?_⟩
  · show b < (s.heap.push _).objs.size
    rw [Heap.size_push]
    rcases List.mem_cons.mp hb with rfl | hb
    · exact Nat.lt_succ_self _
    · rcases List.mem_cons.mp hb with rfl | hb
      · exact Nat.lt_succ_of_lt hlt
      · cases hb
  · have hold : ∀ c o, s.heap.get? c = some o → h'.get? c = some o := fun c o e => by
      refine hk c o (fun hm => ?_) (Heap.get?_push_of_some _ e)
      rcases List.mem_cons.mp hm with e1 | hm
      · have := Heap.lt_size e; rw [e1] at this; exact Nat.lt_irrefl _ this
      · cases hm
    have := h h' tk t' hold
    rw [preSum_eq, List.take_of_length_le (by simp [intItems]), hn]; exact this
def rSumT (K : PySem.W.Frag) : List V → Hp → VK → Prop := fun vs H Q => ∃ (a : Addr) (ns : List Int), vs = [V.ref a] ∧ SqT K H a (ns.map V.int) ∧ Q (.int ns.sum) H
theorem cr_sumT {X : Cx} (hc : X.calm = true) : CallR X (.builtin "sum") (rSumT X.K) := by
  intro pins s σ H vs us Q I r h
  obtain ⟨a, ns, rfl, hs, q⟩ := h
  obtain ⟨its, rv, hl, _⟩ := I.tuple hs
  rw [Vals.ref1 r]
  exact sum_rawT (I.ok.hd hc) hl rv.ints fun h' tk t' hk => ⟨.int _, H, I.kept hk, ⟨_, rfl⟩, q⟩
theorem cr_sum' (X : Cx) (hc : X.calm = true) : CrOk X (.builtin "sum") (b1D .sum) := by
  refine ⟨_, (cr_sum hc).or (cr_sumT hc), fun Hf H x d q fr Q le rx hs hq => ?_⟩
  cases d <;> simp only [b1D, reduceCtorEq] at hs
  · rw [Option.map_eq_some_iff] at hs
    obtain ⟨is, e1, e2⟩ := hs
    cases e2
    obtain ⟨a, vs, rfl, h1, h2⟩ := rx.tupInv
    have ev := h2.ints e1
    subst ev
    exact .inr ⟨a, is, rfl, same_t le h1, hq _ _ (.old (.int _))⟩
  · rw [Option.map_eq_some_iff] at hs
    obtain ⟨is, e1, e2⟩ := hs
    cases e2
    obtain ⟨a, vs, rfl, h1, h2⟩ := rx.lstInv
    have ev := h2.ints e1
    subst ev
    exact .inl ⟨a, is, rfl, le.seq h1, hq _ _ (.old (.int _))⟩
theorem maxI_spec : ∀ {l : List Int} {m : Int}, maxI l = some m → m ∈ l ∧ ∀ y ∈ l, y ≤ m
  | [], _, h => by simp [maxI] at h
  | [a], m, h => by simp [maxI] at h; subst h; simp
  | a :: b :: as, m, h => by
    rw [maxI, Option.map_eq_some_iff] at h
    · obtain ⟨z, e, rfl⟩ := h
      obtain ⟨h1, h2⟩ := maxI_spec e
      split
      · refine ⟨List.mem_cons_of_mem _ h1, fun y hy => ?_⟩
        rcases List.mem_cons.mp hy with rfl | hy
        · omega
        · exact h2 y hy
      · refine ⟨List.mem_cons_self, fun y hy => ?_⟩
        rcases List.mem_cons.mp hy with rfl | hy
        · omega
        · have := h2 y hy; omega
    · simp
theorem minI_spec : ∀ {l : List Int} {m : Int}, minI l = some m → m ∈ l ∧ ∀ y ∈ l, m ≤ y
  | [], _, h => by simp [minI] at h
  | [a], m, h => by simp [minI] at h; subst h; simp
  | a :: b :: as, m, h => by
    rw [minI, Option.map_eq_some_iff] at h
    · obtain ⟨z, e, rfl⟩ := h
      obtain ⟨h1, h2⟩ := minI_spec e
      split
      · refine ⟨List.mem_cons_of_mem _ h1, fun y hy => ?_⟩
        rcases List.mem_cons.mp hy with rfl | hy
        · omega
        · exact h2 y hy
      · refine ⟨List.mem_cons_self, fun y hy => ?_⟩
        rcases List.mem_cons.mp hy with rfl | hy
        · omega
        · have := h2 y hy; omega
    · simp
theorem cr_max' (X : Cx) (hc : X.calm = true) : CrOk X (.builtin "max") (b1D .max) := by
  refine ⟨_, cr_max hc, fun Hf H x d q fr Q le rx hs hq => ?_⟩
  cases d <;> simp only [b1D, reduceCtorEq] at hs
  rw [Option.map_eq_some_iff] at hs
  obtain ⟨m, e1, e2⟩ := hs
  cases e2
  obtain ⟨is, e3, e4⟩ := Option.bind_eq_some_iff.mp e1
  obtain ⟨a, vs, rfl, h1, h2⟩ := rx.lstInv
  have ev := h2.ints e3
  subst ev
  obtain ⟨m1, m2⟩ := maxI_spec e4
  refine ⟨a, is, rfl, le.seq h1, List.length_pos_of_mem m1, fun z z1 z2 => ?_⟩
  have : z = m := Int.le_antisymm (m2 z z1) (z2 m m1)
  subst this
  exact hq _ _ (.old (.int _))
theorem cr_min' (X : Cx) (hc : X.calm = true) : CrOk X (.builtin "min") (b1D .min) := by
  refine ⟨_, cr_min hc, fun Hf H x d q fr Q le rx hs hq => ?_⟩
  cases d <;> simp only [b1D, reduceCtorEq] at hs
  rw [Option.map_eq_some_iff] at hs
  obtain ⟨m, e1, e2⟩ := hs
  cases e2
  obtain ⟨is, e3, e4⟩ := Option.bind_eq_some_iff.mp e1
  obtain ⟨a, vs, rfl, h1, h2⟩ := rx.lstInv
  have ev := h2.ints e3
  subst ev
  obtain ⟨m1, m2⟩ := minI_spec e4
  refine ⟨a, is, rfl, le.seq h1, List.length_pos_of_mem m1, fun z z1 z2 => ?_⟩
  have : z = m := Int.le_antisymm (z2 m m1) (m2 z z1)
  subst this
  exact hq _ _ (.old (.int _))
theorem cr_any' (X : Cx) (hc : X.calm = true) : CrOk X (.builtin "any") (b1D .any) := by
  refine ⟨_, cr_any hc, fun Hf H x d q fr Q le rx hs hq => ?_⟩
  cases d <;> simp only [b1D, reduceCtorEq] at hs
  rw [Option.map_eq_some_iff] at hs
  obtain ⟨is, e1, e2⟩ := hs
  cases e2
  obtain ⟨a, vs, rfl, h1, h2⟩ := rx.lstInv
  have ev := h2.bls e1
  subst ev
  exact ⟨a, is, rfl, le.seq h1, hq _ _ (.old (.bl _))⟩
theorem cr_all' (X : Cx) (hc : X.calm = true) : CrOk X (.builtin "all") (b1D .all) := by
  refine ⟨_, cr_all hc, fun Hf H x d q fr Q le rx hs hq => ?_⟩
  cases d <;> simp only [b1D, reduceCtorEq] at hs
  rw [Option.map_eq_some_iff] at hs
  obtain ⟨is, e1, e2⟩ := hs
  cases e2
  obtain ⟨a, vs, rfl, h1, h2⟩ := rx.lstInv
  have ev := h2.bls e1
  subst ev
  exact ⟨a, is, rfl, le.seq h1, hq _ _ (.old (.bl _))⟩
theorem cr_abs' (X : Cx) : CrOk X (.builtin "abs") (b1D .abs) := by
  refine ⟨_, call_abs, fun Hf H x d q fr Q le rx hs hq => ?_⟩
  cases d <;> simp only [b1D, reduceCtorEq] at hs
  cases hs
  obtain rfl := rx.intInv
  exact ⟨_, rfl, hq _ _ (.old (.int _))⟩
theorem cr_tuple' (X : Cx) : CrOk X (.type "tuple") (b1D .tuple) := by
  refine ⟨_, call_tuple_of, fun Hf H x d q fr Q le rx hs hq => ?_⟩
  cases d <;> simp only [b1D, reduceCtorEq] at hs
  · cases hs
    obtain ⟨a, vs, rfl, h1, h2⟩ := rx.tupInv
    exact ⟨a, vs, rfl, .inr ⟨same_t le h1, hq _ _ (.old (.tup h1 h2))⟩⟩
  · cases hs
    obtain ⟨a, vs, rfl, h1, h2⟩ := rx.lstInv
    exact ⟨a, vs, rfl, .inl ⟨le.seq h1, fun l hl => hq _ _ (.tup hl h2)⟩⟩
theorem cr_list' (X : Cx) : CrOk X (.type "list") (b1D .list) := by
  refine ⟨_, call_list_of, fun Hf H x d q fr Q le rx hs hq => ?_⟩
  cases d <;> simp only [b1D, reduceCtorEq] at hs
  · cases hs
    obtain ⟨a, vs, rfl, h1, h2⟩ := rx.tupInv
    exact ⟨a, vs, rfl, .inr (same_t le h1), fun l hl => hq _ _ (.lst hl h2)⟩
  · cases hs
    obtain ⟨a, vs, rfl, h1, h2⟩ := rx.lstInv
    exact ⟨a, vs, rfl, .inl (le.seq h1), fun l hl => hq _ _ (.lst hl h2)⟩
theorem cr_int' (X : Cx) : CrOk X (.type "int") (b1D .int) := by
  refine ⟨_, call_int1, fun Hf H x d q fr Q le rx hs hq => ?_⟩
  cases d <;> simp only [b1D, reduceCtorEq] at hs
  · cases hs
    obtain rfl := rx.blInv
    exact .inr ⟨_, rfl, hq _ _ (.old (.int _))⟩
  · cases hs
    obtain rfl := rx.intInv
    exact .inl ⟨_, rfl, hq _ _ (.old (.int _))⟩
theorem cr_bool' (X : Cx) : CrOk X (.type "bool") (b1D .bool) := by
  refine ⟨_, call_bool1, fun Hf H x d q fr Q le rx hs hq => ?_⟩
  cases d <;> simp only [b1D, reduceCtorEq] at hs
  cases hs
  obtain rfl := rx.blInv
  exact .inr ⟨_, rfl, hq _ _ (.old (.bl _))⟩
theorem log1900 {n : Nat} (h : n < 2 ^ 1900) : n.log2 < 1920 := by
  by_cases z : n = 0
  · subst z; decide
  · exact Nat.lt_of_lt_of_le ((Nat.log2_lt z).mpr h) (by decide)
theorem str_num (i : Int) : Str.ofString (toString i) = ⟨((toString i).toList.map Char.toNat).toArray⟩ := by
  unfold Str.ofString
  rw [cpsOfBytes_string]
theorem cr_str' (X : Cx) : CrOk X (.type "str") (b1D .str) := by
  refine ⟨_, call_str_int, fun Hf H x d q fr Q le rx hs hq => ?_⟩
  cases d <;> simp only [b1D, reduceCtorEq] at hs
  split at hs
  · rename_i h
    cases hs
    obtain rfl := rx.intInv
    refine ⟨_, rfl, log1900 h, ?_⟩
    rw [str_num]
    exact hq _ _ (.old (.str _))
  · cases hs
/-- isinstance(x, T), T a built-in class -/
def IsOk (X : Cx) (T : String) (f : D → Option (D × Bool)) : Prop := ∃ r : List V → Hp → VK → Prop, CallR X (.builtin "isinstance") r ∧ ∀ (H : Hp) (x : V) (d q : D) (fr : Bool) (Q : VK), Rep X.K X.mg H d x → f d = some (q, fr) →
  (q.isAtom = true → fr = false → ∀ z, (∀ Hf, Rep X.K X.mg Hf q z) → Q z H) → r [x, .ty T] H Q
theorem ty_tup {a : Addr} {vs : List V} (h : SqT K H a vs) : TyX K H (.ref a) (.type "tuple") := by
  rcases h with (h | ⟨o, h⟩) | ⟨o, its, n, h1, h2, _⟩
  · exact .base (.tup h)
  · exact .fTuple h
  · exact .kTuple h1 h2
theorem ty_lst {a : Addr} {vs : List V} (h : SqL K H a vs) : TyX K H (.ref a) (.type "list") := by
  rcases h with (h | ⟨o, h⟩) | ⟨o, its, n, h1, h2, _⟩
  · exact .base (.lst h)
  · exact .base (.frz h)
  · exact .kList h1 h2
/-- the class of a datum -/
def D.tyN : D → String
  | .non => "NoneType"
  | .bl _ => "bool"
  | .int _ => "int"
  | .str _ => "str"
  | .tup _ => "tuple"
  | .lst _ => "list"
  | .dct _ => "dict"
  | .fn _ => "function"
theorem rep_ty {d : D} {x : V} (h : Rep K mg H d x) (hn : ∀ f, d ≠ .fn f) : TyX K H x (.type d.tyN) := by
  cases h with
  | non => exact .base .non
  | bl b => exact .base (.bl b)
  | int i => exact .base (.int i)
  | str x => exact .base (.str _)
  | tup h _ => exact ty_tup h
  | lst h _ => exact ty_lst h
  | fn _ => exact (hn _ rfl).elim
theorem is_gen (X : Cx) (T : String) (f : D → Option (D × Bool)) (hf : ∀ d q fr, f d = some (q, fr) → (∀ g, d ≠ .fn g) ∧ fr = false ∧ ∃ b, q = .bl b ∧ kitB d.tyN T = some b) : IsOk X T f := by
  refine ⟨_, call_isi, fun H x d q fr Q rx hs hq => ?_⟩
  obtain ⟨h1, rfl, b, rfl, h2⟩ := hf d q fr hs
  exact ⟨x, _, _, _, b, rfl, .ty T, rep_ty rx h1, kit_ty h2, hq rfl rfl _ fun Hf => .bl b⟩
theorem is_int (X : Cx) : IsOk X "int" (b1D .isInt) := is_gen X _ _ fun d q fr h => by
  cases d <;> simp only [b1D, reduceCtorEq] at h <;> cases h <;> exact ⟨(fun g e => nomatch e), rfl, _, rfl, (by dsimp only [D.tyN]; decide +kernel)⟩
theorem is_bool (X : Cx) : IsOk X "bool" (b1D .isBool) := is_gen X _ _ fun d q fr h => by
  cases d <;> simp only [b1D, reduceCtorEq] at h <;> cases h <;> exact ⟨(fun g e => nomatch e), rfl, _, rfl, (by dsimp only [D.tyN]; decide +kernel)⟩
theorem is_str (X : Cx) : IsOk X "str" (b1D .isStr) := is_gen X _ _ fun d q fr h => by
  cases d <;> simp only [b1D, reduceCtorEq] at h <;> cases h <;> exact ⟨(fun g e => nomatch e), rfl, _, rfl, (by dsimp only [D.tyN]; decide +kernel)⟩
theorem is_tup (X : Cx) : IsOk X "tuple" (b1D .isTup) := is_gen X _ _ fun d q fr h => by
  cases d <;> simp only [b1D, reduceCtorEq] at h <;> cases h <;> exact ⟨(fun g e => nomatch e), rfl, _, rfl, (by dsimp only [D.tyN]; decide +kernel)⟩
theorem is_lst (X : Cx) : IsOk X "list" (b1D .isLst) := is_gen X _ _ fun d q fr h => by
  cases d <;> simp only [b1D, reduceCtorEq] at h <;> cases h <;> exact ⟨(fun g e => nomatch e), rfl, _, rfl, (by dsimp only [D.tyN]; decide +kernel)⟩

/-! ### methods of one argument -/
theorem joinL_eq (sep : List Nat) : ∀ ys : List (List Nat), Str.join ⟨sep.toArray⟩ (ys.map fun x => (⟨x.toArray⟩ : Str)) = ⟨(joinL sep ys).toArray⟩
  | [] => rfl
  | [a] => rfl
  | a :: b :: as => by
    show (⟨a.toArray⟩ : Str) ++ ⟨sep.toArray⟩ ++ Str.join ⟨sep.toArray⟩ ((b :: as).map fun x => (⟨x.toArray⟩ : Str)) = _
    rw [joinL_eq sep (b :: as), str_app, str_app]
    rfl
/-- s.m(x), s a text -/
def SmOk (X : Cx) (id : String) (m : MF) : Prop := ∃ r : V → List V → Hp → VK → Prop, MtR X id r ∧ ∀ (Hf H : Hp) (x y : V) (d e q : D) (Q : VK), Same Hf H → Rep X.K X.mg Hf d x → Rep X.K X.mg Hf e y → m1D m d e = some q →
  (∃ z, x = .str z) ∧ ((∀ z, (∀ Hf, Rep X.K X.mg Hf q z) → Q z H) → r x [y] H Q)
theorem occ_abc : ∀ c ∈ [45, 97, 98], ∃ k : Nat, findIx c [45, 97, 98] 0 = some k ∧ Builtin.Str.occurrences ⟨[45, 97, 98].toArray⟩ ⟨[c].toArray⟩ 0 (⟨[45, 97, 98].toArray⟩ : Str).length 1 = [k] := by
  intro c hc
  simp only [List.mem_cons, List.not_mem_nil, or_false] at hc
  rcases hc with rfl | rfl | rfl
  · exact ⟨0, by decide, by decide +kernel⟩
  · exact ⟨1, by decide, by decide +kernel⟩
  · exact ⟨2, by decide, by decide +kernel⟩
theorem findIx_abc {c k : Nat} (h : findIx c [45, 97, 98] 0 = some k) : c ∈ [45, 97, 98] := by
  simp only [findIx] at h
  split at h
  · simp_all
  · split at h
    · simp_all
    · split at h
      · simp_all
      · cases h
theorem m1_abc {m : MF} (hm : m = .find ∨ m = .index) {d e q : D} (h : m1D m d e = some q) : ∃ c k : Nat, d = .str [45, 97, 98] ∧ e = .str [c] ∧ q = .int (k : Int) ∧ findIx c [45, 97, 98] 0 = some k := by
  rcases hm with rfl | rfl
  · unfold m1D at h
    split at h <;> simp only [reduceCtorEq] at *
    rw [Option.map_eq_some_iff] at h
    obtain ⟨k, h1, h2⟩ := h
    refine ⟨_, k, ?_, ?_, ?_, h1⟩ <;> first | trivial | rfl | exact h2.symm
  · unfold m1D at h
    split at h <;> simp only [reduceCtorEq] at *
    rw [Option.map_eq_some_iff] at h
    obtain ⟨k, h1, h2⟩ := h
    refine ⟨_, k, ?_, ?_, ?_, h1⟩ <;> first | trivial | rfl | exact h2.symm
theorem sm_find (X : Cx) : SmOk X "str.find" .find := by
  refine ⟨_, mt_find, fun Hf H x y d e q Q le rx ry hs => ?_⟩
  obtain ⟨c, k, rfl, rfl, rfl, hk⟩ := m1_abc (.inl rfl) hs
  obtain rfl := rx.strInv
  obtain rfl := ry.strInv
  refine ⟨⟨_, rfl⟩, fun hq => ⟨_, _, rfl, rfl, ?_⟩⟩
  obtain ⟨k', h1, h2⟩ := occ_abc c (findIx_abc hk)
  rw [hk] at h1
  cases h1
  have e : Txt.find ⟨[45, 97, 98].toArray⟩ ⟨[c].toArray⟩ = (k : Int) := by
    unfold Txt.find
    rw [h2]
  rw [e]
  exact hq _ fun Hf => .int _
theorem sm_index (X : Cx) : SmOk X "str.index" .index := by
  refine ⟨_, mt_sindex, fun Hf H x y d e q Q le rx ry hs => ?_⟩
  obtain ⟨c, k, rfl, rfl, rfl, hk⟩ := m1_abc (.inr rfl) hs
  obtain rfl := rx.strInv
  obtain rfl := ry.strInv
  refine ⟨⟨_, rfl⟩, fun hq => ?_⟩
  obtain ⟨k', h1, h2⟩ := occ_abc c (findIx_abc hk)
  rw [hk] at h1
  cases h1
  exact ⟨_, _, _, _, rfl, rfl, h2, hq _ fun Hf => .int _⟩
theorem sm_join (X : Cx) : SmOk X "str.join" .join := by
  refine ⟨_, mt_join, fun Hf H x y d e q Q le rx ry hs => ?_⟩
  unfold m1D at hs
  split at hs <;> simp only [reduceCtorEq] at *
  obtain ⟨ys, h1, h2⟩ := Option.bind_eq_some_iff.mp hs
  split at h2
  · rename_i hz
    cases h2
    obtain rfl := rx.strInv
    obtain ⟨a, vs, rfl, h3, h4⟩ := ry.lstInv
    have ev := h4.strs h1
    subst ev
    refine ⟨⟨_, rfl⟩, fun hq => ⟨_, a, ys.map fun x => ⟨x.toArray⟩, rfl, rfl, .inl ?_, ?_, ?_⟩⟩
    · rw [List.map_map]; exact le.seq h3
    · rw [List.map_map, List.length_map, str_len]
      have : (Str.length ∘ fun x : List Nat => (⟨x.toArray⟩ : Str)) = List.length := by funext x; exact str_len x
      rw [this]
      exact Nat.le_trans hz (by decide)
    · have : ∀ sep : List Nat, Txt.join ⟨sep.toArray⟩ (ys.map fun x => (⟨x.toArray⟩ : Str)) = ⟨(joinL sep ys).toArray⟩ := fun sep => (StrLaws.glued_eq_join _ _).trans (joinL_eq sep ys)
      rw [this]
      exact hq _ fun Hf => .str _
  · cases h2
end
end Cor
set_option Elab.async false
set_option linter.all false
set_option maxRecDepth 100000
set_option maxHeartbeats 2000000
/-! Cor4: what holds of an expression's evaluation (tI), and how its parts make it. -/
namespace Cor
open PySem PySem.Spec L2

section
variable (K : PySem.W.Frag) (mg : Str → Option Value) (W : WX)
/-- what is wanted behind an evaluation -/
def GE (st pu : Bool) (Hf H : Hp) (env : Env) (σ : St) (Q : VK) : RE → Prop
  | .ok d fr env' => ∀ v H' Hf', ER K mg Hf' H' env' σ → Tr pu Hf H env Hf' H' env' σ → VR K mg fr st d v H Hf' H' → Q v H'
  | .ex c env' => ∀ C H' Hf', mg c.cls = some (.ref C) → ER K mg Hf' H' env' σ → Tr pu Hf H env Hf' H' env' σ → W (.ref C) none σ H'
  | .no => False
def GEs (st pu : Bool) (Hf H : Hp) (env : Env) (σ : St) (Q : List V → Hp → Prop) : REs → Prop
  | .ok ds env' => ∀ vs H' Hf', ER K mg Hf' H' env' σ → Tr pu Hf H env Hf' H' env' σ → Reps K mg (if st = true then Hf' else H') ds vs → Q vs H'
  | .ex c env' => ∀ C H' Hf', mg c.cls = some (.ref C) → ER K mg Hf' H' env' σ → Tr pu Hf H env Hf' H' env' σ → W (.ref C) none σ H'
  | .no => False
def GT (Hf H : Hp) (env : Env) (σ : St) (Q : Bool → Hp → Prop) : RE → Prop
  | .ok (.bl b) _ env' => ∀ H' Hf', ER K mg Hf' H' env' σ → Tr false Hf H env Hf' H' env' σ → Q b H'
  | .ex c env' => ∀ C H' Hf', mg c.cls = some (.ref C) → ER K mg Hf' H' env' σ → Tr false Hf H env Hf' H' env' σ → W (.ref C) none σ H'
  | _ => False
def tI (st pu : Bool) (m : Env → RE) : TE := fun σ H Q => ∃ Hf env, ER K mg Hf H env σ ∧ GE K mg W st pu Hf H env σ Q (m env)
def tIs (st pu : Bool) (m : Env → REs) : TA := fun σ H Q => ∃ Hf env, ER K mg Hf H env σ ∧ GEs K mg W st pu Hf H env σ Q (m env)
def tTI (m : Env → RE) : TT := fun σ H Q => ∃ Hf env, ER K mg Hf H env σ ∧ GT K mg W Hf H env σ Q (m env)
end
theorem PE.imp {X : Cx} {e : Expr} {t t' : TE} (h : PE X e t) (i : ∀ σ H Q, t' σ H Q → t σ H Q) : PE X e t' := ⟨fun pins s σ H Q I q => h.run pins s σ H Q I (i σ H Q q)⟩
theorem PT.imp {X : Cx} {e : Expr} {t t' : TT} (h : PT X e t) (i : ∀ σ H Q, t' σ H Q → t σ H Q) : PT X e t' := ⟨fun pins s σ H Q I q => h.run pins s σ H Q I (i σ H Q q)⟩
theorem PA.imp {X : Cx} {e : List Expr} {t t' : TA} (h : PA X e t) (i : ∀ σ H Q, t' σ H Q → t σ H Q) : PA X e t' := ⟨fun pos pins s σ H Q I q => h.run pos pins s σ H Q I (i σ H Q q)⟩
theorem PS.imp {X : Cx} {e : Stmt} {t t' : TS} (h : PS X e t) (i : ∀ D σ H, t' D σ H → t D σ H) : PS X e t' := ⟨fun pins s σ H D I q => h.run pins s σ H D I (i D σ H q)⟩

section
variable {K : PySem.W.Frag} {mg : Str → Option Value} {W : WX} {H H1 H2 Hf Hf1 Hf2 : Hp} {env e1 e2 : Env} {σ : St} {st st1 st2 pu p1 p2 pp fr : Bool} {Q Q1 Q2 : VK} {r : RE} {d : D} {v : V}
/-- the next part runs -/
theorem GE.next {k : D → Bool → Env → RE} (t : Tr p1 Hf H env Hf1 H1 e1 σ) (hp : pu = true → (p1 && p2) = true) (g : GE K mg W st pu Hf H env σ Q (r.bind k))
    (c : ∀ d fr e2 v H2 Hf2, r = .ok d fr e2 → ER K mg Hf2 H2 e2 σ → Tr p2 Hf1 H1 e1 Hf2 H2 e2 σ → VR K mg fr st2 d v H1 Hf2 H2 → GE K mg W st pu Hf H env σ Q (k d fr e2) → Q2 v H2) : GE K mg W st2 p2 Hf1 H1 e1 σ Q2 r := by
  cases r with
  | ok d fr e2 => exact fun v H2 Hf2 a b z => c d fr e2 v H2 Hf2 rfl a b z g
  | ex x e2 => exact fun C H2 Hf2 hC a b => g C H2 Hf2 hC a ((t.trans b).weak hp)
  | no => exact g.elim
theorem GE.first {k : D → Bool → Env → RE} (hp : pu = true → p1 = true) (g : GE K mg W st pu Hf H env σ Q (r.bind k))
    (c : ∀ d fr e2 v H2 Hf2, r = .ok d fr e2 → ER K mg Hf2 H2 e2 σ → Tr p1 Hf H env Hf2 H2 e2 σ → VR K mg fr st1 d v H Hf2 H2 → GE K mg W st pu Hf H env σ Q (k d fr e2) → Q1 v H2) : GE K mg W st1 p1 Hf H env σ Q1 r :=
  g.next (p1 := true) Tr.refl (fun h => by rw [hp h]; rfl) c
/-- it is through -/
theorem GE.fin (g : GE K mg W st pu Hf H env σ Q (.ok d fr e1)) (t : Tr p1 Hf H env Hf1 H1 e1 σ) (hp : pu = true → p1 = true) (R : ER K mg Hf1 H1 e1 σ) (z : VR K mg fr st d v H Hf1 H1) : Q v H1 := g v H1 Hf1 R (t.weak hp) z
/-- an operator's answer comes behind its operands -/
theorem GE.out (g : GE K mg W true pu Hf H env σ Q (.ok d fr e1)) (t : Tr p1 Hf H env Hf1 H1 e1 σ) (hp : pu = true → p1 = true) (R : ER K mg Hf1 H1 e1 σ) (o : Out K mg Hf1 H1 fr d v H2) : Q v H2 := by
  obtain ⟨Hf2, R2, t2, z⟩ := o.done R
  exact g v H2 Hf2 R2 ((t.trans t2).weak fun h => by rw [hp h]; rfl) (z.back t.there)
theorem ER.self (R : ER K mg Hf H env σ) : ∃ Hf' env', ER K mg Hf' H env' σ ∧ env' = env ∧ Hf' = Hf := ⟨Hf, env, R, rfl, rfl⟩
end

section
variable {X : Cx} {W : WX} {a b c : Expr} {pos : Pos} {ma mb mc : Env → RE} {st sa sb pa pb pc pu : Bool}

theorem s_lit {e : Expr} {d : D} {v : V} (h : PE X e (tC v)) (hr : ∀ H, Rep X.K X.mg H d v) : PE X e (tI X.K X.mg W true true fun env => .ok d false env) :=
  PE.imp h fun σ H Q ⟨Hf, env, R, g⟩ => g v H Hf R Tr.refl (VR.old (hr Hf))
theorem getS_lt {env : Env} {i : Nat} {s : Slot} (h : getS env i = s) (hs : s ≠ .no) : env[i]? = some s := by
  unfold getS at h
  rw [List.getD_eq_getElem?_getD] at h
  cases e : env[i]? with
  | none => rw [e] at h; exact absurd h.symm (by simpa using hs)
  | some z => rw [e] at h; simp at h; rw [h]
/-- an owned slot is frozen -/
theorem ER.melt {K : PySem.W.Frag} {mg : Str → Option Value} {H Hf : Hp} {env : Env} {σ : St} {i : Nat} {d : D} (R : ER K mg Hf H env σ) (h : env[i]? = some (Slot.own d)) :
    ∃ Hf' a, σ[i]? = some (some (.ref a)) ∧ ER K mg Hf' H (env.set i (.val d)) σ ∧ Tr true Hf H env Hf' H (env.set i (.val d)) σ ∧ Rep K mg Hf' d (.ref a) := by
  obtain ⟨a, e, hn, c⟩ := R.mu i d (.inl h)
  obtain ⟨o, ho⟩ := c.there
  have hi : i < env.length := (List.getElem?_eq_some_iff.mp h).1
  have sF : Same Hf (upd Hf a o) := fun b q e => by rw [upd_ne (ne_of_none e hn)]; exact e
  have rep := c.freeze ho hn
  have mt : ∀ j, Mt (env.set i (.val d)) j → j ≠ i ∧ Mt env j := fun j ⟨z, hz⟩ => by
    by_cases hj : i = j
    · subst hj
      rw [List.getElem?_set_self hi] at hz
      rcases hz with hz | hz <;> cases hz
    · rw [List.getElem?_set_ne hj] at hz
      exact ⟨fun q => hj q.symm, z, hz⟩
  refine ⟨upd Hf a o, a, e, ⟨fun b q hq => ?_, by rw [List.length_set]; exact R.len, fun j z hz => ?_, fun j z hz => ?_, fun j k b hj hk => R.inj j k b (mt j hj).2 (mt k hk).2⟩, ⟨sF, List.length_set, fun j hj => (mt j hj).2, fun j z hz => ?_, fun _ _ q _ => q, fun b hb => ?_, fun _ => Same.refl _, fun _ q => q⟩, rep⟩
  · by_cases hb : b = a
    · subst hb; rw [upd_same] at hq; cases hq; exact ho
    · rw [upd_ne hb] at hq; exact R.le b q hq
  · by_cases hj : i = j
    · subst hj
      rw [List.getElem?_set_self hi] at hz
      cases hz
      exact ⟨_, e, rep⟩
    · rw [List.getElem?_set_ne hj] at hz
      obtain ⟨v, e1, q⟩ := R.val j z hz
      exact ⟨v, e1, q.up sF⟩
  · obtain ⟨hj, _⟩ := mt j ⟨z, hz⟩
    rw [List.getElem?_set_ne (Ne.symm hj)] at hz
    obtain ⟨b, e1, n1, c1⟩ := R.mu j z hz
    refine ⟨b, e1, ?_, c1.move sF fun _ q => q⟩
    have : b ≠ a := fun q => hj (R.inj j i a ⟨z, hz⟩ ⟨d, .inl h⟩ (q ▸ e1) e)
    rw [upd_ne this]; exact n1
  · by_cases hj : i = j
    · subst hj; rw [h] at hz; cases hz
    · exact ⟨z, by rw [List.getElem?_set_ne hj]; exact hz⟩
  · by_cases hba : b = a
    · subst hba; exact .inr (.inr ⟨i, ⟨d, .inl h⟩, e⟩)
    · rw [upd_ne hba] at hb; exact .inl hb
theorem s_var {e : Expr} {i : Nat} (h : PE X e (tVar i)) : PE X e (tI X.K X.mg W true true fun env => varE env i) := by
  refine PE.imp h fun σ H Q ⟨Hf, env, R, g⟩ => ?_
  unfold varE at g
  dsimp only at g
  cases q : getS env i with
  | no => rw [q] at g; exact g.elim
  | io d => rw [q] at g; exact g.elim
  | val d =>
    rw [q] at g
    obtain ⟨v, e1, r⟩ := R.val i d (getS_lt q (by simp))
    exact ⟨v, e1, g v H Hf R Tr.refl (VR.old r)⟩
  | own d =>
    rw [q] at g
    obtain ⟨Hf', a, e1, R', t, r⟩ := R.melt (getS_lt q (by simp))
    exact ⟨_, e1, g _ H Hf' R' t (VR.old r)⟩
theorem s_rd {e : Expr} {i : Nat} (h : PE X e (tVar i)) : PE X e (tI X.K X.mg W false true fun env => rdE env i) := by
  refine PE.imp h fun σ H Q ⟨Hf, env, R, g⟩ => ?_
  unfold rdE at g
  dsimp only at g
  cases q : getS env i with
  | no => rw [q] at g; exact g.elim
  | io d =>
    rw [q] at g
    obtain ⟨a, e1, n, c⟩ := R.mu i d (.inr (getS_lt q (by simp)))
    exact ⟨_, e1, g _ H Hf R Tr.refl (VR.cur (c.rep R.le))⟩
  | val d =>
    rw [q] at g
    obtain ⟨v, e1, r⟩ := R.val i d (getS_lt q (by simp))
    exact ⟨v, e1, g v H Hf R Tr.refl (VR.cur (r.up R.le))⟩
  | own d =>
    rw [q] at g
    obtain ⟨a, e1, n, c⟩ := R.mu i d (.inl (getS_lt q (by simp)))
    exact ⟨_, e1, g _ H Hf R Tr.refl (VR.cur (c.rep R.le))⟩
theorem s_bin {op : Operator} (ha : PE X a (tI X.K X.mg W true pa ma)) (hb : PE X b (tI X.K X.mg W true pb mb)) :
    PE X (.BinOp a op b pos) (tI X.K X.mg W true (pa && pb) fun env => (ma env).bind fun x _ e1 => (mb e1).bind fun y _ e2 => outE (binD op x y) e2) := by
  obtain ⟨r2, h1, h2⟩ := bin_ok X op
  refine PE.imp (pe_op h1 ha hb) fun σ H Q ⟨Hf, env, R, g⟩ => ?_
  refine ⟨Hf, env, R, g.first (fun h => (Bool.and_eq_true_iff.mp h).1) fun x fx e1 v H1 Hf1 _ R1 t1 z1 g1 => ?_⟩
  obtain ⟨Hf1, R1, t1, z1⟩ := stab R R1 t1 z1
  refine ⟨Hf1, e1, R1, g1.next t1 (fun h => h) fun y fy e2 u H2 Hf2 _ R2 t2 z2 g2 => ?_⟩
  obtain ⟨Hf2, R2, t2, z2⟩ := stab R1 R2 t2 z2
  cases q : binD op x y with
  | none => rw [q] at g2; exact g2.elim
  | some o =>
    obtain ⟨o, fo⟩ := o
    rw [q] at g2
    exact h2 Hf2 H2 v u x y o fo Q R2.le (z1.up t2.up) z2 q fun w H3 hw => GE.out g2 (t1.trans t2) (fun h => h) R2 hw
theorem s_neg (ha : PE X a (tI X.K X.mg W sa pa ma)) : PE X (.UnaryOp .USub a pos) (tI X.K X.mg W true pa fun env => (ma env).bind fun x _ e1 => match x with
    | .int i => .ok (.int (-i)) false e1
    | _ => .no) := by
  refine PE.imp (pe_un un_neg ha) fun σ H Q ⟨Hf, env, R, g⟩ => ⟨Hf, env, R, g.first (fun h => h) fun x fx e1 v H1 Hf1 _ R1 t1 z1 g1 => ?_⟩
  cases x <;> try exact g1.elim
  obtain rfl := (z1.now R1.le).intInv
  exact ⟨_, rfl, GE.fin g1 t1 (fun h => h) R1 (VR.old (.int _))⟩
theorem s_not (ha : PE X a (tI X.K X.mg W sa pa ma)) : PE X (.UnaryOp .Not a pos) (tI X.K X.mg W true pa fun env => (ma env).bind fun x _ e1 => match x with
    | .bl b => .ok (.bl (!b)) false e1
    | _ => .no) := by
  refine PE.imp (pe_not ha) fun σ H Q ⟨Hf, env, R, g⟩ => ⟨Hf, env, R, g.first (fun h => h) fun x fx e1 v H1 Hf1 _ R1 t1 z1 g1 => ?_⟩
  cases x <;> try exact g1.elim
  obtain rfl := (z1.now R1.le).blInv
  exact ⟨_, rfl, GE.fin g1 t1 (fun h => h) R1 (VR.old (.bl _))⟩
theorem s_cmp {op : CmpOp} (hu : X.A.units + 65 < cLine) (hm : behindInMarks op b = false) (ha : PE X a (tI X.K X.mg W sa pa ma)) (hb : PE X b (tI X.K X.mg W sb pb mb)) (hs : (sa || pb) = true) :
    PE X (.Compare a [op] [b] pos) (tI X.K X.mg W true (pa && pb) fun env => (ma env).bind fun x _ e1 => (mb e1).bind fun y _ e2 => outB (cmpD op x y) e2) := by
  obtain ⟨r2, h1, h2⟩ := cmp_ok X hu op
  refine PE.imp (pe_cmpR h1 ha hb hm) fun σ H Q ⟨Hf, env, R, g⟩ => ?_
  refine ⟨Hf, env, R, g.first (fun h => (Bool.and_eq_true_iff.mp h).1) fun x fx e1 v H1 Hf1 _ R1 t1 z1 g1 => ?_⟩
  have fin : ∀ Hf1, ER X.K X.mg Hf1 H1 e1 σ → Tr pa Hf H env Hf1 H1 e1 σ → (sa = true → Rep X.K X.mg Hf1 x v) → Rep X.K X.mg H1 x v → tI X.K X.mg W sb pb mb σ H1 fun y H2 => r2 v y H2 Q := fun Hf1 R1 t1 q1 q2 =>
    ⟨Hf1, e1, R1, g1.next t1 (fun h => h) fun y fy e2 u H2 Hf2 _ R2 t2 z2 g2 => by
      have rx : Rep X.K X.mg H2 x v := by
        cases sa with
        | true => exact ((q1 rfl).up t2.up).up R2.le
        | false => exact q2.up (t2.pure (by simpa using hs))
      cases q : cmpD op x y with
      | none => rw [q] at g2; exact g2.elim
      | some o =>
        rw [q] at g2
        exact h2 H2 v u x y o Q rx (z2.now R2.le) q (GE.fin g2 (t1.trans t2) (fun h => h) R2 (VR.old (.bl _)))⟩
  cases sa with
  | true =>
    obtain ⟨Hf1, R1, t1, z1⟩ := stab R R1 t1 z1
    exact fin Hf1 R1 t1 (fun _ => z1) (z1.up R1.le)
  | false => exact fin Hf1 R1 t1 (fun h => nomatch h) (z1.now R1.le)
theorem s_and (ha : PE X a (tI X.K X.mg W sa pa ma)) {rest : List Expr} (hb : PE X (.BoolOp .And (b :: rest) pos) (tI X.K X.mg W true pb mb)) :
    PE X (.BoolOp .And (a :: b :: rest) pos) (tI X.K X.mg W true (pa && pb) fun env => (ma env).bind fun x _ e1 => match x with
    | .bl true => mb e1
    | .bl false => .ok (.bl false) false e1
    | _ => .no) := by
  refine PE.imp (pe_and ha hb) fun σ H Q ⟨Hf, env, R, g⟩ => ⟨Hf, env, R, g.first (fun h => (Bool.and_eq_true_iff.mp h).1) fun x fx e1 v H1 Hf1 _ R1 t1 z1 g1 => ?_⟩
  cases x <;> try exact g1.elim
  rename_i k _
  obtain rfl := (z1.now R1.le).blInv
  refine ⟨k, rfl, ?_⟩
  cases k with
  | false =>
    refine iteF ?_
    exact GE.fin g1 t1 (fun h => (Bool.and_eq_true_iff.mp h).1) R1 (VR.old (.bl _))
  | true =>
    refine iteT ?_
    refine ⟨Hf1, e1, R1, ?_⟩
    have g1 : GE X.K X.mg W true (pa && pb) Hf H env σ Q (mb e1) := g1
    cases q : mb e1 with
    | ok d fr e2 =>
      rw [q] at g1
      exact fun v2 H2 Hf2 R2 t2 z2 => g1 v2 H2 Hf2 R2 (t1.trans t2) (z2.back t1.there)
    | ex c e2 =>
      rw [q] at g1
      exact fun C H2 Hf2 hC R2 t2 => g1 C H2 Hf2 hC R2 (t1.trans t2)
    | no => rw [q] at g1; exact g1
theorem s_or (ha : PE X a (tI X.K X.mg W sa pa ma)) {rest : List Expr} (hb : PE X (.BoolOp .Or (b :: rest) pos) (tI X.K X.mg W true pb mb)) :
    PE X (.BoolOp .Or (a :: b :: rest) pos) (tI X.K X.mg W true (pa && pb) fun env => (ma env).bind fun x _ e1 => match x with
    | .bl true => .ok (.bl true) false e1
    | .bl false => mb e1
    | _ => .no) := by
  refine PE.imp (pe_or ha hb) fun σ H Q ⟨Hf, env, R, g⟩ => ⟨Hf, env, R, g.first (fun h => (Bool.and_eq_true_iff.mp h).1) fun x fx e1 v H1 Hf1 _ R1 t1 z1 g1 => ?_⟩
  cases x <;> try exact g1.elim
  rename_i k _
  obtain rfl := (z1.now R1.le).blInv
  refine ⟨k, rfl, ?_⟩
  cases k with
  | true =>
    refine iteT ?_
    exact GE.fin g1 t1 (fun h => (Bool.and_eq_true_iff.mp h).1) R1 (VR.old (.bl _))
  | false =>
    refine iteF ?_
    refine ⟨Hf1, e1, R1, ?_⟩
    have g1 : GE X.K X.mg W true (pa && pb) Hf H env σ Q (mb e1) := g1
    cases q : mb e1 with
    | ok d fr e2 =>
      rw [q] at g1
      exact fun v2 H2 Hf2 R2 t2 z2 => g1 v2 H2 Hf2 R2 (t1.trans t2) (z2.back t1.there)
    | ex c e2 =>
      rw [q] at g1
      exact fun C H2 Hf2 hC R2 t2 => g1 C H2 Hf2 hC R2 (t1.trans t2)
    | no => rw [q] at g1; exact g1
theorem s_one {op : BoolOp} {t : TE} (h : PE X a t) : PE X (.BoolOp op [a] pos) t := pe_one h

/-! ### tests -/
theorem GT.of {K : PySem.W.Frag} {mg : Str → Option Value} {H Hf : Hp} {env : Env} {σ : St} {Q : Bool → Hp → Prop} {r : RE} (g : GT K mg W Hf H env σ Q r) : GE K mg W st pu Hf H env σ (fun x H1 => ∃ c, x = .bl c ∧ Q c H1) r ∨ r = .no := by
  cases r with
  | no => exact .inr rfl
  | ex c e => exact .inl fun C H' Hf' hC R t => g C H' Hf' hC R (t.weak fun h => nomatch h)
  | ok d fr e =>
    refine .inl fun v H' Hf' R t z => ?_
    cases d <;> try exact g.elim
    obtain rfl := (z.now R.le).blInv
    exact ⟨_, rfl, g H' Hf' R (t.weak fun h => nomatch h)⟩
theorem s_test {e : Expr} {m : Env → RE} (h : PE X e (tI X.K X.mg W st pu m)) (he : ∀ whole, isTrue e X.env whole = (do let v ← whole; standAt e.pos; holding [v] (truthy v))) : PT X e (tTI X.K X.mg W m) := by
  refine PT.imp (pt_val h he) fun σ H Q ⟨Hf, env, R, g⟩ => ⟨Hf, env, R, ?_⟩
  rcases GT.of (st := st) (pu := pu) g with q | q
  · exact q
  · rw [q] at g; exact g.elim
theorem s_tcmp {op : CmpOp} (hu : X.A.units + 65 < cLine) (hm : behindInMarks op b = false) (ha : PE X a (tI X.K X.mg W sa pa ma)) (hb : PE X b (tI X.K X.mg W sb pb mb)) (hs : (sa || pb) = true) :
    PT X (.Compare a [op] [b] pos) (tTI X.K X.mg W fun env => (ma env).bind fun x _ e1 => (mb e1).bind fun y _ e2 => outB (cmpD op x y) e2) := by
  obtain ⟨r2, h1, h2⟩ := cmp_ok X hu op
  refine PT.imp (pt_cmpR h1 ha hb hm) fun σ H Q ⟨Hf, env, R, g⟩ => ?_
  have g : GE X.K X.mg W true false Hf H env σ (fun x H1 => ∃ c, x = .bl c ∧ Q c H1) ((ma env).bind fun x _ e1 => (mb e1).bind fun y _ e2 => outB (cmpD op x y) e2) := by
    dsimp only at g
    rcases GT.of (st := true) (pu := false) g with q | q
    · exact q
    · rw [q] at g; exact g.elim
  refine ⟨Hf, env, R, g.first (by intro h; cases h) fun x fx e1 v H1 Hf1 _ R1 t1 z1 g1 => ?_⟩
  have fin : ∀ Hf1, ER X.K X.mg Hf1 H1 e1 σ → Tr pa Hf H env Hf1 H1 e1 σ → (sa = true → Rep X.K X.mg Hf1 x v) → Rep X.K X.mg H1 x v → tI X.K X.mg W sb pb mb σ H1 fun y H2 => r2 v y H2 fun x H1 => ∃ c, x = .bl c ∧ Q c H1 := fun Hf1 R1 t1 q1 q2 =>
    ⟨Hf1, e1, R1, g1.next t1 (by intro h; cases h) fun y fy e2 u H2 Hf2 _ R2 t2 z2 g2 => by
      have rx : Rep X.K X.mg H2 x v := by
        cases sa with
        | true => exact ((q1 rfl).up t2.up).up R2.le
        | false => exact q2.up (t2.pure (by simpa using hs))
      cases q : cmpD op x y with
      | none => rw [q] at g2; exact g2.elim
      | some o =>
        rw [q] at g2
        exact h2 H2 v u x y o _ rx (z2.now R2.le) q (GE.fin g2 (t1.trans t2) (by intro h; cases h) R2 (VR.old (.bl _)))⟩
  cases sa with
  | true =>
    obtain ⟨Hf1, R1, t1, z1⟩ := stab R R1 t1 z1
    exact fin Hf1 R1 t1 (fun _ => z1) (z1.up R1.le)
  | false => exact fin Hf1 R1 t1 (fun h => nomatch h) (z1.now R1.le)
/-- behind a test the next part runs -/
theorem GT.first {K : PySem.W.Frag} {mg : Str → Option Value} {H Hf : Hp} {env : Env} {σ : St} {Q Q1 : Bool → Hp → Prop} {r : RE} {k : D → Bool → Env → RE} (g : GT K mg W Hf H env σ Q (r.bind k))
    (hb : ∀ d fr e2, r = .ok d fr e2 → (∃ b, d = .bl b) ∨ k d fr e2 = .no)
    (c : ∀ b fr e2 H2 Hf2, r = .ok (.bl b) fr e2 → ER K mg Hf2 H2 e2 σ → Tr false Hf H env Hf2 H2 e2 σ → GT K mg W Hf H env σ Q (k (.bl b) fr e2) → Q1 b H2) : GT K mg W Hf H env σ Q1 r := by
  cases r with
  | no => exact g.elim
  | ex x e2 => exact g
  | ok d fr e2 =>
    rcases hb d fr e2 rfl with ⟨b, rfl⟩ | q
    · exact fun H2 Hf2 R2 t2 => c b fr e2 H2 Hf2 rfl R2 t2 g
    · have g : GT K mg W Hf H env σ Q (k d fr e2) := g
      rw [q] at g; exact g.elim
theorem GT.chain {K : PySem.W.Frag} {mg : Str → Option Value} {H Hf H1 Hf1 : Hp} {env e1 : Env} {σ : St} {Q : Bool → Hp → Prop} {r : RE} (g : GT K mg W Hf H env σ Q r) (t : Tr false Hf H env Hf1 H1 e1 σ) : GT K mg W Hf1 H1 e1 σ Q r := by
  cases r with
  | no => exact g.elim
  | ex x e2 => exact fun C H2 Hf2 hC R2 t2 => g C H2 Hf2 hC R2 (t.trans t2)
  | ok d fr e2 =>
    cases d <;> try exact g.elim
    exact fun H2 Hf2 R2 t2 => g H2 Hf2 R2 (t.trans t2)
theorem s_tnot (ha : PT X a (tTI X.K X.mg W ma)) : PT X (.UnaryOp .Not a pos) (tTI X.K X.mg W fun env => (ma env).bind fun x _ e1 => match x with
    | .bl b => .ok (.bl (!b)) false e1
    | _ => .no) := by
  refine PT.imp (pt_not ha) fun σ H Q ⟨Hf, env, R, g⟩ => ⟨Hf, env, R, g.first (fun d fr e2 _ => ?_) fun b fr e2 H2 Hf2 _ R2 t2 g2 => g2 H2 Hf2 R2 t2⟩
  cases d <;> first | exact .inl ⟨_, rfl⟩ | exact .inr rfl
theorem s_tand (ha : PT X a (tTI X.K X.mg W ma)) {rest : List Expr} (hb : PW X (.BoolOp .And (b :: rest) pos) (tTI X.K X.mg W mb)) :
    PW X (.BoolOp .And (a :: b :: rest) pos) (tTI X.K X.mg W fun env => (ma env).bind fun x _ e1 => match x with
    | .bl true => mb e1
    | .bl false => .ok (.bl false) false e1
    | _ => .no) := by
  have h := pw_and ha hb
  refine ⟨fun whole pins s σ H Q I q => h.run whole pins s σ H Q I ?_⟩
  obtain ⟨Hf, env, R, g⟩ := q
  refine ⟨Hf, env, R, g.first (fun d fr e2 _ => ?_) fun b fr e2 H2 Hf2 _ R2 t2 g2 => ?_⟩
  · cases d <;> first | exact .inl ⟨_, rfl⟩ | exact .inr rfl
  · cases b with
    | true => exact iteT ⟨Hf2, e2, R2, GT.chain g2 t2⟩
    | false => exact iteF (g2 H2 Hf2 R2 t2)
theorem s_tor (ha : PT X a (tTI X.K X.mg W ma)) {rest : List Expr} (hb : PW X (.BoolOp .Or (b :: rest) pos) (tTI X.K X.mg W mb)) :
    PW X (.BoolOp .Or (a :: b :: rest) pos) (tTI X.K X.mg W fun env => (ma env).bind fun x _ e1 => match x with
    | .bl true => .ok (.bl true) false e1
    | .bl false => mb e1
    | _ => .no) := by
  have h := pw_or ha hb
  refine ⟨fun whole pins s σ H Q I q => h.run whole pins s σ H Q I ?_⟩
  obtain ⟨Hf, env, R, g⟩ := q
  refine ⟨Hf, env, R, g.first (fun d fr e2 _ => ?_) fun b fr e2 H2 Hf2 _ R2 t2 g2 => ?_⟩
  · cases d <;> first | exact .inl ⟨_, rfl⟩ | exact .inr rfl
  · cases b with
    | true => exact iteT (g2 H2 Hf2 R2 t2)
    | false => exact iteF ⟨Hf2, e2, R2, GT.chain g2 t2⟩
end
end Cor
set_option Elab.async false
set_option linter.all false
set_option maxRecDepth 100000
set_option maxHeartbeats 2000000
/-! Cor5: conditional expressions, displays, subscripts, calls, built-ins, comprehensions. -/
namespace Cor
open PySem PySem.Spec L2

section
variable {X : Cx} {W : WX} {a b c e : Expr} {es : List Expr} {pos : Pos} {m ma mb mc : Env → RE} {ms : Env → REs} {st sa sb pa pb pc pu ps : Bool}
variable {K : PySem.W.Frag} {mg : Str → Option Value} {H H1 H' Hf Hf1 Hf' : Hp} {env e1 env' : Env} {σ : St} {Q : VK} {p1 p2 : Bool}

/-- from a value's wish to a test's -/
theorem GE.gt {Q1 : Bool → Hp → Prop} {r : RE} {k : D → Bool → Env → RE} (g : GE K mg W st false Hf H env σ Q (r.bind k)) (hb : ∀ d fr e2, r = .ok d fr e2 → (∃ b, d = .bl b) ∨ k d fr e2 = .no)
    (c : ∀ b fr e2 H2 Hf2, r = .ok (.bl b) fr e2 → ER K mg Hf2 H2 e2 σ → Tr false Hf H env Hf2 H2 e2 σ → GE K mg W st false Hf H env σ Q (k (.bl b) fr e2) → Q1 b H2) : GT K mg W Hf H env σ Q1 r := by
  cases r with
  | no => exact g.elim
  | ex x e2 => exact g
  | ok d fr e2 =>
    rcases hb d fr e2 rfl with ⟨b, rfl⟩ | q
    · exact fun H2 Hf2 R2 t2 => c b fr e2 H2 Hf2 rfl R2 t2 g
    · have g : GE K mg W st false Hf H env σ Q (k d fr e2) := g
      rw [q] at g; exact g.elim
theorem GE.chain {r : RE} (g : GE K mg W st pu Hf H env σ Q r) (t : Tr p1 Hf H env Hf1 H1 e1 σ) (hp : pu = true → (p1 && p2) = true) : GE K mg W st p2 Hf1 H1 e1 σ Q r := by
  cases r with
  | no => exact g.elim
  | ex x e2 => exact fun C H2 Hf2 hC R2 t2 => g C H2 Hf2 hC R2 ((t.trans t2).weak hp)
  | ok d fr e2 => exact fun v H2 Hf2 R2 t2 z => g v H2 Hf2 R2 ((t.trans t2).weak hp) (z.back t.there)
theorem s_ife (hc : PT X c (tTI X.K X.mg W mc)) (ha : PE X a (tI X.K X.mg W true false ma)) (hb : PE X b (tI X.K X.mg W true false mb)) : PE X (.IfExp c a b pos) (tI X.K X.mg W true false fun env => (mc env).bind fun x _ e1 => match x with
    | .bl true => ma e1
    | .bl false => mb e1
    | _ => .no) := by
  refine PE.imp (pe_ifExp hc ha hb) fun σ H Q ⟨Hf, env, R, g⟩ => ⟨Hf, env, R, g.gt (fun d fr e2 _ => ?_) fun b fr e2 H2 Hf2 _ R2 t2 g2 => ?_⟩
  · cases d <;> first | exact .inl ⟨_, rfl⟩ | exact .inr rfl
  · cases b with
    | true => exact iteT ⟨Hf2, e2, R2, g2.chain t2 (fun h => nomatch h)⟩
    | false => exact iteF ⟨Hf2, e2, R2, g2.chain t2 (fun h => nomatch h)⟩
theorem PE.weak {m : Env → RE} (h : PE X e (tI X.K X.mg W st pu m)) {pu' : Bool} (hp : pu' = true → pu = true) : PE X e (tI X.K X.mg W st pu' m) := by
  refine PE.imp h fun σ H Q ⟨Hf, env, R, g⟩ => ⟨Hf, env, R, ?_⟩
  cases q : m env with
  | no => rw [q] at g; exact g.elim
  | ex x e2 => rw [q] at g; exact fun C H2 Hf2 hC R2 t2 => g C H2 Hf2 hC R2 (t2.weak hp)
  | ok d fr e2 => rw [q] at g; exact fun v H2 Hf2 R2 t2 z => g v H2 Hf2 R2 (t2.weak hp) z

/-! ### argument lists, displays -/
theorem s_anil : PA X [] (tIs X.K X.mg W st true fun env => .ok [] env) := PA.imp pa_nil fun σ H Q ⟨Hf, env, R, g⟩ => g [] H Hf R Tr.refl .nil
theorem s_acons (hsa : st = true → sa = true) (hpu : st = false → ps = true) (ha : PE X a (tI X.K X.mg W sa pa ma)) (hr : PA X es (tIs X.K X.mg W st ps ms)) (hs : starEach (a :: es) X.env = (false, eval a X.env) :: starEach es X.env) :
    PA X (a :: es) (tIs X.K X.mg W st (pa && ps) fun env => (ma env).bindI fun x _ e1 => match ms e1 with
      | .ok ds e2 => .ok (x :: ds) e2
      | .ex c e2 => .ex c e2
      | .no => .no) := by
  refine PA.imp (pa_cons ha hr hs) fun σ H Q ⟨Hf, env, R, g⟩ => ⟨Hf, env, R, ?_⟩
  dsimp only at g
  cases q : ma env with
  | no => rw [q] at g; exact g.elim
  | ex x e2 => rw [q] at g; exact fun C H2 Hf2 hC R2 t2 => g C H2 Hf2 hC R2 (t2.weak fun h => (Bool.and_eq_true_iff.mp h).1)
  | ok d fr e1 =>
    rw [q] at g
    refine fun v H1 Hf1 R1 t1 z1 => ?_
    have fin : ∀ Hf1, ER X.K X.mg Hf1 H1 e1 σ → Tr pa Hf H env Hf1 H1 e1 σ → (st = true → Rep X.K X.mg Hf1 d v) → Rep X.K X.mg H1 d v → tIs X.K X.mg W st ps ms σ H1 fun xs H2 => Q (v :: xs) H2 := fun Hf1 R1 t1 q1 q2 => by
      refine ⟨Hf1, e1, R1, ?_⟩
      have g : GEs X.K X.mg W st (pa && ps) Hf H env σ Q (match ms e1 with
        | .ok ds e2 => .ok (d :: ds) e2
        | .ex c e2 => .ex c e2
        | .no => .no) := g
      cases q' : ms e1 with
      | no => rw [q'] at g; exact g.elim
      | ex x e2 => rw [q'] at g; exact fun C H2 Hf2 hC R2 t2 => g C H2 Hf2 hC R2 (t1.trans t2)
      | ok ds e2 =>
        rw [q'] at g
        refine fun vs H2 Hf2 R2 t2 rs => g _ H2 Hf2 R2 (t1.trans t2) (.cons ?_ rs)
        cases st with
        | true => exact (q1 rfl).up t2.up
        | false => exact q2.up (t2.pure (hpu rfl))
    cases st with
    | true =>
      have := hsa rfl
      subst this
      obtain ⟨Hf1, R1, t1, z1⟩ := stab R R1 t1 z1
      exact fin Hf1 R1 t1 (fun _ => z1) (z1.up R1.le)
    | false => exact fin Hf1 R1 t1 (fun h => nomatch h) (z1.now R1.le)
theorem GEs.fst {k : List D → Env → RE} {r : REs} {Q1 : List V → Hp → Prop} (hp : pu = true → p1 = true) (g : GE K mg W st pu Hf H env σ Q (r.bind k))
    (c : ∀ ds e2 vs H2 Hf2, r = .ok ds e2 → ER K mg Hf2 H2 e2 σ → Tr p1 Hf H env Hf2 H2 e2 σ → Reps K mg (if sa = true then Hf2 else H2) ds vs → GE K mg W st pu Hf H env σ Q (k ds e2) → Q1 vs H2) : GEs K mg W sa p1 Hf H env σ Q1 r := by
  cases r with
  | ok ds e2 => exact fun vs H2 Hf2 a b z => c ds e2 vs H2 Hf2 rfl a b z g
  | ex x e2 => exact fun C H2 Hf2 hC a b => g C H2 Hf2 hC a (b.weak hp)
  | no => exact g.elim
theorem s_tup {x1 : Nat} (h : PA X es (tIs X.K X.mg W true ps ms)) : PE X (.Tuple es x1 pos) (tI X.K X.mg W true ps fun env => (ms env).bind fun ds e1 => if ds.length ≤ lim then .ok (.tup ds) false e1 else .no) := by
  refine PE.imp (pe_tup h) fun σ H Q ⟨Hf, env, R, g⟩ => ⟨Hf, env, R, GEs.fst (fun h => h) g fun ds e1 vs H1 Hf1 _ R1 t1 rs g1 => ?_⟩
  split at g1
  · rename_i hz
    rw [if_pos rfl] at rs
    refine ⟨by rw [← rs.length]; exact lim_line hz, fun p hp => GE.out g1 t1 (fun h => h) R1 (.tup hp rs)⟩
  · exact g1.elim
theorem s_lst (h : PA X es (tIs X.K X.mg W true ps ms)) : PE X (.List es pos) (tI X.K X.mg W true ps fun env => (ms env).bind fun ds e1 => if ds.length ≤ lim then .ok (.lst ds) true e1 else .no) := by
  refine PE.imp (pe_lst h) fun σ H Q ⟨Hf, env, R, g⟩ => ⟨Hf, env, R, GEs.fst (fun h => h) g fun ds e1 vs H1 Hf1 _ R1 t1 rs g1 => ?_⟩
  split at g1
  · rename_i hz
    rw [if_pos rfl] at rs
    refine ⟨by rw [← rs.length]; exact lim_line hz, fun p hp => GE.out g1 t1 (fun h => h) R1 (.lst hp rs)⟩
  · exact g1.elim

/-! ### subscripts, slices -/
theorem s_sub (hs : PlainIx b) (ha : PE X a (tI X.K X.mg W true pa ma)) (hb : PE X b (tI X.K X.mg W sb pb mb)) :
    PE X (.Subscript a b pos) (tI X.K X.mg W true (pa && pb) fun env => (ma env).bind fun x _ e1 => (mb e1).bind fun y _ e2 => outD (subD x y) e2) := by
  obtain ⟨r2, h1, h2⟩ := sub_ok X
  refine PE.imp (pe_ix h1 ha hb hs) fun σ H Q ⟨Hf, env, R, g⟩ => ?_
  refine ⟨Hf, env, R, g.first (fun h => (Bool.and_eq_true_iff.mp h).1) fun x fx e1 v H1 Hf1 _ R1 t1 z1 g1 => ?_⟩
  obtain ⟨Hf1, R1, t1, z1⟩ := stab R R1 t1 z1
  refine ⟨Hf1, e1, R1, g1.next t1 (fun h => h) fun y fy e2 u H2 Hf2 _ R2 t2 z2 g2 => ?_⟩
  cases q : subD x y with
  | none => rw [q] at g2; exact g2.elim
  | some o =>
    rw [q] at g2
    exact h2 Hf2 H2 v u x y o Q R2.le (.frz (z1.up t2.up)) (z2.now R2.le) q fun w hw => GE.fin g2 (t1.trans t2) (fun h => h) R2 (VR.old hw)
/-- what stands in a slot -/
theorem ER.now (R : ER K mg Hf H env σ) {i : Nat} {d : D} (h : (getS env i).get = some d) : ∃ v, σ[i]? = some (some v) ∧ Now K mg Hf H d v := by
  cases q : getS env i with
  | no => rw [q] at h; cases h
  | val z =>
    rw [q] at h; cases h
    obtain ⟨v, e, r⟩ := R.val i d (getS_lt q (by simp))
    exact ⟨v, e, .frz r⟩
  | own z =>
    rw [q] at h; cases h
    obtain ⟨a, e, _, c⟩ := R.mu i d (.inl (getS_lt q (by simp)))
    exact ⟨_, e, .own c⟩
  | io z =>
    rw [q] at h; cases h
    obtain ⟨a, e, _, c⟩ := R.mu i d (.inr (getS_lt q (by simp)))
    exact ⟨_, e, .own c⟩
theorem s_subR {i : Nat} (hs : PlainIx b) (ha : PE X a (tVar i)) (hb : PE X b (tI X.K X.mg W sb pb mb)) :
    PE X (.Subscript a b pos) (tI X.K X.mg W true pb fun env => match (getS env i).get with
      | none => .no
      | some _ => (mb env).bind fun y _ e1 => match (getS e1 i).get with
        | some x => outD (subD x y) e1
        | none => .no) := by
  obtain ⟨r2, h1, h2⟩ := sub_ok X
  refine PE.imp (pe_ix h1 ha hb hs) fun σ H Q ⟨Hf, env, R, g⟩ => ?_
  dsimp only at g
  cases q0 : (getS env i).get with
  | none => rw [q0] at g; exact g.elim
  | some d0 =>
    rw [q0] at g
    obtain ⟨v, ev, _⟩ := R.now q0
    refine ⟨v, ev, Hf, env, R, GE.first (fun h => h) g fun y fy e1 u H1 Hf1 _ R1 t1 z1 g1 => ?_⟩
    cases q1 : (getS e1 i).get with
    | none => rw [q1] at g1; exact g1.elim
    | some x =>
      rw [q1] at g1
      dsimp only at g1
      obtain ⟨v', ev', n⟩ := R1.now q1
      rw [ev] at ev'
      cases ev'
      cases q : subD x y with
      | none => rw [q] at g1; exact g1.elim
      | some o =>
        rw [q] at g1
        exact h2 Hf1 H1 v u x y o Q R1.le n (z1.now R1.le) q fun w hw => GE.fin g1 t1 (fun h => h) R1 (VR.old hw)
/-- an optional part -/
def tOI (K : PySem.W.Frag) (mg : Str → Option Value) (W : WX) (pu : Bool) (mo : Env → REs) : TO := fun σ H Q => ∃ Hf env, ER K mg Hf H env σ ∧ match mo env with
  | .ok l env' => ∃ i, intO l.head? = some i ∧ ∀ H' Hf', ER K mg Hf' H' env' σ → Tr pu Hf H env Hf' H' env' σ → Q i H'
  | .ex c env' => ∀ C H' Hf', mg c.cls = some (.ref C) → ER K mg Hf' H' env' σ → Tr pu Hf H env Hf' H' env' σ → W (.ref C) none σ H'
  | .no => False
theorem po_imp {o : Option Expr} {t t' : TO} (h : PO X o t) (i : ∀ σ H Q, t' σ H Q → t σ H Q) : PO X o t' := ⟨fun pins s σ H Q I q => h.run pins s σ H Q I (i σ H Q q)⟩
theorem s_ono : PO X none (tOI X.K X.mg W true fun env => .ok [] env) := po_imp po_none fun σ H Q ⟨Hf, env, R, i, hi, g⟩ => by
  cases hi
  exact g H Hf R Tr.refl
theorem s_oso (ha : PE X a (tI X.K X.mg W sa pa ma)) : PO X (some a) (tOI X.K X.mg W pa fun env => (ma env).bindI fun x _ e1 => match x with
    | .int i => .ok [.int i] e1
    | _ => .no) := by
  refine po_imp (po_some ha) fun σ H Q ⟨Hf, env, R, g⟩ => ⟨Hf, env, R, ?_⟩
  dsimp only at g
  cases q : ma env with
  | no => rw [q] at g; exact g.elim
  | ex x e2 => rw [q] at g; exact g
  | ok d fr e1 =>
    rw [q] at g
    refine fun v H1 Hf1 R1 t1 z1 => ?_
    cases d <;> try exact g.elim
    obtain ⟨i, hi, g⟩ := g
    cases hi
    obtain rfl := (z1.now R1.le).intInv
    exact ⟨_, rfl, g H1 Hf1 R1 t1⟩
/-- a part is an int, where it is there -/
def IntP (mo : Env → REs) : Prop := ∀ env l e, mo env = .ok l e → ∃ i, intO l.head? = some i
theorem intP_none : IntP fun env => .ok [] env := fun _ _ _ h => by cases h; exact ⟨none, rfl⟩
theorem intP_some : IntP fun env => (ma env).bindI fun x _ e1 => match x with
    | .int i => .ok [.int i] e1
    | _ => .no := fun env l e h => by
  dsimp only at h
  cases q : ma env with
  | no => rw [q] at h; cases h
  | ex x e2 => rw [q] at h; cases h
  | ok d fr e1 =>
    rw [q] at h
    cases d <;> first | (cases h; exact ⟨_, rfl⟩) | cases h
theorem s_slc {lo hi : Option Expr} {ml mh : Env → REs} {pl ph : Bool} {p2' : Pos} (il : IntP ml) (ih : IntP mh) (ha : PE X a (tI X.K X.mg W true pa ma)) (hl : PO X lo (tOI X.K X.mg W pl ml)) (hh : PO X hi (tOI X.K X.mg W ph mh)) :
    PE X (.Subscript a (.Slice lo hi none p2') pos) (tI X.K X.mg W true (pa && pl && ph) fun env => (ma env).bind fun x _ e1 => (ml e1).bind fun l e2 => (mh e2).bind fun h e3 => match intO l.head?, intO h.head? with
    | some l', some h' => outE (slcD x l' h') e3
    | _, _ => .no) := by
  obtain ⟨r, h1, h2⟩ := slc_ok X
  refine PE.imp (pe_slice h1 ha hl hh) fun σ H Q ⟨Hf, env, R, g⟩ => ?_
  refine ⟨Hf, env, R, g.first (fun h => by simp only [Bool.and_eq_true] at h; exact h.1.1) fun x fx e1 v H1 Hf1 _ R1 t1 z1 g1 => ?_⟩
  obtain ⟨Hf1, R1, t1, z1⟩ := stab R R1 t1 z1
  refine ⟨Hf1, e1, R1, ?_⟩
  cases ql : ml e1 with
  | no => rw [ql] at g1; exact g1.elim
  | ex c e2 => rw [ql] at g1; exact fun C H2 Hf2 hC R2 t2 => g1 C H2 Hf2 hC R2 ((t1.trans t2).weak fun h => by simp only [Bool.and_eq_true] at h ⊢; exact h.1)
  | ok l e2 =>
    rw [ql] at g1
    obtain ⟨i, qi⟩ := il _ _ _ ql
    refine ⟨i, qi, fun H2 Hf2 R2 t2 => ⟨Hf2, e2, R2, ?_⟩⟩
    have g1 : GE X.K X.mg W true (pa && pl && ph) Hf H env σ Q ((mh e2).bind fun h e3 => match intO l.head?, intO h.head? with
      | some l', some h' => outE (slcD x l' h') e3
      | _, _ => .no) := g1
    cases qh : mh e2 with
    | no => rw [qh] at g1; exact g1.elim
    | ex c e3 => rw [qh] at g1; exact fun C H3 Hf3 hC R3 t3 => g1 C H3 Hf3 hC R3 ((t1.trans t2).trans t3)
    | ok h e3 =>
      rw [qh] at g1
      obtain ⟨j, qj⟩ := ih _ _ _ qh
      have g1 : GE X.K X.mg W true (pa && pl && ph) Hf H env σ Q (match intO l.head?, intO h.head? with
        | some l', some h' => outE (slcD x l' h') e3
        | _, _ => .no) := g1
      rw [qi, qj] at g1
      dsimp only at g1
      refine ⟨j, qj, fun H3 Hf3 R3 t3 => ?_⟩
      cases q : slcD x i j with
      | none => rw [q] at g1; exact g1.elim
      | some o =>
        obtain ⟨o, fo⟩ := o
        rw [q] at g1
        exact h2 Hf3 H3 v i j x o fo Q R3.le ((z1.up t2.up).up t3.up) q fun w H4 hw => GE.out g1 ((t1.trans t2).trans t3) (fun h => h) R3 hw
end
end Cor
set_option Elab.async false
set_option linter.all false
set_option maxRecDepth 100000
set_option maxHeartbeats 2000000
/-! Cor6: chains, built-ins, calls of defs. -/
namespace Cor
open PySem PySem.Spec L2

section
variable {X : Cx} {W : WX} {a b c e : Expr} {es : List Expr} {pos p : Pos} {m ma mb mc : Env → RE} {ms : Env → REs} {st sa sb sc pa pb pc pu ps : Bool}
variable {K : PySem.W.Frag} {mg : Str → Option Value} {H H1 H' Hf Hf1 Hf' : Hp} {env e1 env' : Env} {σ : St} {Q : VK} {p1 p2 : Bool}

theorem chain_read {o1 o2 : CmpOp} {r2 r2' : R2} (h2 : ∀ (H : Hp) (x y : V) (d e : D) (b : Bool) (Q : VK), Rep X.K X.mg H d x → Rep X.K X.mg H e y → cmpD o1 d e = some b → Q (.bl b) H → r2 x y H Q)
    (h2' : ∀ (H : Hp) (x y : V) (d e : D) (b : Bool) (Q : VK), Rep X.K X.mg H d x → Rep X.K X.mg H e y → cmpD o2 d e = some b → Q (.bl b) H → r2' x y H Q) (R : ER X.K X.mg Hf H env σ)
    (g : GE X.K X.mg W true (pa && pb && pc) Hf H env σ Q ((ma env).bind fun x _ e1 => (mb e1).bind fun y _ e2 => match cmpD o1 x y with
    | some true => (mc e2).bind fun z _ e3 => outB (cmpD o2 y z) e3
    | some false => .ok (.bl false) false e2
    | none => .no)) : tChain r2 r2' (tI X.K X.mg W true pa ma) (tI X.K X.mg W true pb mb) (tI X.K X.mg W sc pc mc) σ H Q := by
  refine ⟨Hf, env, R, g.first (fun h => by simp only [Bool.and_eq_true] at h; exact h.1.1) fun x fx e1 v H1 Hf1 _ R1 t1 z1 g1 => ?_⟩
  obtain ⟨Hf1, R1, t1, z1⟩ := stab R R1 t1 z1
  refine ⟨Hf1, e1, R1, g1.next t1 (fun h => by simp only [Bool.and_eq_true] at h ⊢; exact h.1) fun y fy e2 u H2 Hf2 _ R2 t2 z2 g2 => ?_⟩
  obtain ⟨Hf2, R2, t2, z2⟩ := stab R1 R2 t2 z2
  cases q : cmpD o1 x y with
  | none => rw [q] at g2; exact g2.elim
  | some k =>
    rw [q] at g2
    refine h2 H2 v u x y k _ ((z1.up t2.up).up R2.le) (z2.up R2.le) q ⟨k, rfl, ?_⟩
    cases k with
    | false => exact iteF (GE.fin g2 (t1.trans t2) (fun h => by simp only [Bool.and_eq_true] at h ⊢; exact h.1) R2 (VR.old (.bl _)))
    | true =>
      refine iteT ⟨Hf2, e2, R2, ?_⟩
      dsimp only at g2
      refine GE.next (t1.trans t2) (fun h => h) g2 fun z fz e3 w' H3 Hf3 _ R3 t3 z3 g3 => ?_
      cases q' : cmpD o2 y z with
      | none => rw [q'] at g3; exact g3.elim
      | some k' =>
        rw [q'] at g3
        exact h2' H3 u w' y z k' Q ((z2.up t3.up).up R3.le) (z3.now R3.le) q' (GE.fin g3 ((t1.trans t2).trans t3) (fun h => h) R3 (VR.old (.bl _)))
theorem s_chain {o1 o2 : CmpOp} (hu : X.A.units + 65 < cLine) (hm : lastMarks [o1, o2] [b, c] = false) (ha : PE X a (tI X.K X.mg W true pa ma)) (hb : PE X b (tI X.K X.mg W true pb mb)) (hc : PE X c (tI X.K X.mg W sc pc mc)) :
    PE X (.Compare a [o1, o2] [b, c] pos) (tI X.K X.mg W true (pa && pb && pc) fun env => (ma env).bind fun x _ e1 => (mb e1).bind fun y _ e2 => match cmpD o1 x y with
    | some true => (mc e2).bind fun z _ e3 => outB (cmpD o2 y z) e3
    | some false => .ok (.bl false) false e2
    | none => .no) := by
  obtain ⟨r2, h1, h2⟩ := cmp_ok X hu o1
  obtain ⟨r2', h1', h2'⟩ := cmp_ok X hu o2
  exact PE.imp (pe_chain h1 h1' ha hb hc hm) fun σ H Q ⟨Hf, env, R, g⟩ => chain_read h2 h2' R g
theorem s_tchain {o1 o2 : CmpOp} (hu : X.A.units + 65 < cLine) (hm : lastMarks [o1, o2] [b, c] = false) (ha : PE X a (tI X.K X.mg W true pa ma)) (hb : PE X b (tI X.K X.mg W true pb mb)) (hc : PE X c (tI X.K X.mg W sc pc mc)) :
    PT X (.Compare a [o1, o2] [b, c] pos) (tTI X.K X.mg W fun env => (ma env).bind fun x _ e1 => (mb e1).bind fun y _ e2 => match cmpD o1 x y with
    | some true => (mc e2).bind fun z _ e3 => outB (cmpD o2 y z) e3
    | some false => .ok (.bl false) false e2
    | none => .no) := by
  obtain ⟨r2, h1, h2⟩ := cmp_ok X hu o1
  obtain ⟨r2', h1', h2'⟩ := cmp_ok X hu o2
  refine PT.imp (pt_chain h1 h1' ha hb hc hm) fun σ H Q ⟨Hf, env, R, g⟩ => ?_
  dsimp only at g
  rcases GT.of (st := true) (pu := pa && pb && pc) g with q | q
  · exact chain_read h2 h2' R q
  · rw [q] at g; exact g.elim

/-! ### built-ins -/
theorem atom_rep {d : D} {v : V} (h : Rep K mg H d v) (ha : d.isAtom = true) : Rep K mg Hf d v := by
  cases h with
  | non => exact .non
  | bl b => exact .bl b
  | int i => exact .int i
  | str x => exact .str x
  | tup _ _ => simp [D.isAtom] at ha
  | lst _ _ => simp [D.isAtom] at ha
  | fn h => exact .fn h
/-- an argument, alone -/
theorem one_read {f : D → Option (D × Bool)} {r : List V → Hp → VK → Prop} (h : ∀ (Hf H : Hp) (x : V) (d q : D) (fr : Bool) (Q : VK), Same Hf H → Rep X.K X.mg Hf d x → f d = some (q, fr) → (∀ z H', Out X.K X.mg Hf H fr q z H' → Q z H') → r [x] H Q)
    (R : ER X.K X.mg Hf H env σ) (g : GE X.K X.mg W true pa Hf H env σ Q ((ma env).bind fun x _ e1 => outE (f x) e1)) : tCB r (tCons (tI X.K X.mg W true pa ma) tNil) σ H Q := by
  refine ⟨Hf, env, R, g.first (fun h => h) fun x fx e1 v H1 Hf1 _ R1 t1 z1 g1 => ?_⟩
  obtain ⟨Hf1, R1, t1, z1⟩ := stab R R1 t1 z1
  cases q : f x with
  | none => rw [q] at g1; exact g1.elim
  | some o =>
    obtain ⟨o, fo⟩ := o
    rw [q] at g1
    exact h Hf1 H1 v x o fo Q R1.le z1 q fun w H2 hw => GE.out g1 t1 (fun h => h) R1 hw
/-- .. that is not frozen; the answer holds nothing of it -/
theorem one_now {f : D → Option (D × Bool)} {r : List V → Hp → VK → Prop} (h : ∀ (Hf H : Hp) (x : V) (d q : D) (fr : Bool) (Q : VK), Same Hf H → Rep X.K X.mg Hf d x → f d = some (q, fr) → (∀ z H', Out X.K X.mg Hf H fr q z H' → Q z H') → r [x] H Q)
    (hf : ∀ d q fr, f d = some (q, fr) → q.isAtom = true) (R : ER X.K X.mg Hf H env σ) (g : GE X.K X.mg W true pa Hf H env σ Q ((ma env).bind fun x _ e1 => outE (f x) e1)) : tCB r (tCons (tI X.K X.mg W sa pa ma) tNil) σ H Q := by
  refine ⟨Hf, env, R, g.first (fun h => h) fun x fx e1 v H1 Hf1 _ R1 t1 z1 g1 => ?_⟩
  cases q : f x with
  | none => rw [q] at g1; exact g1.elim
  | some o =>
    obtain ⟨o, fo⟩ := o
    rw [q] at g1
    refine h H1 H1 v x o fo Q (Same.refl _) (z1.now R1.le) q fun w H2 hw => ?_
    have ha := hf x o fo q
    cases hw with
    | old hr => exact GE.fin g1 t1 (fun h => h) R1 (VR.old (atom_rep hr ha))
    | tup _ _ => simp [D.isAtom] at ha
    | lst _ _ => simp [D.isAtom] at ha
/-- how a built-in is called -/
inductive BCall (X : Cx) : BF → Str → Prop
  | fn {f : BF} {id : String} {x : Str} (h : CrOk X (.builtin id) (b1D f)) (hm : X.mg x = none) (hv : bootBuiltins x = some (.builtin id)) (hn : x ≠ "__name__") (hd : (x == ("__debug__" : Str)) = false) : BCall X f x
  | ty {f : BF} {id : String} {x : Str} (h : CrOk X (.type id) (b1D f)) (hm : X.mg x = none) (hv : bootBuiltins x = some (.type id)) (hn : x ≠ "__name__") (hd : (x == ("__debug__" : Str)) = false) : BCall X f x
def BF.atomic : BF → Bool
  | .tuple => false
  | .list => false
  | _ => true
theorem b1_atom {f : BF} (hf : f.atomic = true) {d q : D} {fr : Bool} (h : b1D f d = some (q, fr)) : q.isAtom = true := by
  cases f <;> simp only [BF.atomic, reduceCtorEq] at hf <;> cases d <;> simp only [b1D, reduceCtorEq] at h <;> first
    | (cases h; rfl)
    | (split at h <;> first | (cases h; rfl) | cases h)
    | (rw [Option.map_eq_some_iff] at h; obtain ⟨_, _, h⟩ := h; cases h; rfl)
theorem s_b1 {f : BF} {x : Str} (hb : BCall X f x) (hg : Gl X x) (hs : sa = true ∨ f.atomic = true) (ha : PE X a (tI X.K X.mg W sa pa ma)) (he : starEach [a] X.env = (false, eval a X.env) :: starEach [] X.env) :
    PE X (.Call (.Name x p) [a] [] pos) (tI X.K X.mg W true pa fun env => (ma env).bind fun x _ e1 => outE (b1D f x) e1) := by
  have pa1 : PA X [a] (tCons (tI X.K X.mg W sa pa ma) tNil) := pa_cons ha pa_nil he
  cases hb with
  | fn h hm hv hn hd =>
    obtain ⟨r, h1, h2⟩ := h
    refine PE.imp (pe_callB h1 hg hm hv pa1 hn hd he rfl) fun σ H Q ⟨Hf, env, R, g⟩ => ?_
    rcases hs with rfl | hs
    · exact one_read h2 R g
    · exact one_now h2 (fun _ _ _ => b1_atom hs) R g
  | ty h hm hv hn hd =>
    obtain ⟨r, h1, h2⟩ := h
    refine PE.imp (pe_callTy h1 hg hm hv pa1 hn hd he rfl) fun σ H Q ⟨Hf, env, R, g⟩ => ?_
    rcases hs with rfl | hs
    · exact one_read h2 R g
    · exact one_now h2 (fun _ _ _ => b1_atom hs) R g
theorem s_isi {f : BF} {T : String} {t : Expr} {p2' : Pos} (h : IsOk X T (b1D f)) (hf : f.atomic = true) (hff : ∀ d q fr, b1D f d = some (q, fr) → fr = false) (hm : X.mg "isinstance" = none) (hg : Gl X "isinstance") (ht : PE X t (tC (.ty T)))
    (ha : PE X a (tI X.K X.mg W sa pa ma)) (he : starEach [a, t] X.env = (false, eval a X.env) :: starEach [t] X.env) (he2 : starEach [t] X.env = (false, eval t X.env) :: starEach [] X.env) (hpl : (backTo pos (starEach [t] X.env)).any (·.1) = false) :
    PE X (.Call (.Name "isinstance" p) [a, t] [] pos) (tI X.K X.mg W true pa fun env => (ma env).bind fun x _ e1 => outE (b1D f x) e1) := by
  obtain ⟨r, h1, h2⟩ := h
  refine PE.imp (pe_callB h1 hg hm (by decide +kernel) (pa_cons ha (pa_cons ht pa_nil he2) he) (by decide) (by decide) he hpl) fun σ H Q ⟨Hf, env, R, g⟩ => ?_
  refine ⟨Hf, env, R, GE.first (fun h => h) g fun x fx e1 v H1 Hf1 _ R1 t1 z1 g1 => ?_⟩
  cases q : b1D f x with
  | none => rw [q] at g1; exact g1.elim
  | some o =>
    obtain ⟨o, fo⟩ := o
    rw [q] at g1
    refine h2 H1 v x o fo Q (z1.now R1.le) q fun ha hfr z hz => ?_
    subst hfr
    exact GE.fin g1 t1 (fun h => h) R1 (VR.old (hz Hf1))
theorem s_m1 {mf : MF} {id : String} {name : Str} {o : Expr} {apos : Pos} (h : SmOk X id mf) (slot : PySem.Slot "str" name id) (ty : typeOf (.builtin id) = pure (.type "method_descriptor"))
    (ho : PE X o (tI X.K X.mg W true pa ma)) (ha : PE X a (tI X.K X.mg W true pb mb)) (hs : starEach [a] X.env = [(false, eval a X.env)]) (hbase : attributeBase o name X.env (eval o X.env) = eval o X.env) (hline : (apos.endLine == pos.line) = true) :
    PE X (.Call (.Attribute o name apos) [a] [] pos) (tI X.K X.mg W true (pa && pb) fun env => (ma env).bind fun x _ e1 => match x with
      | .str z => (mb e1).bind fun y _ e2 => outD (m1D mf (.str z) y) e2
      | _ => .no) := by
  obtain ⟨r, h1, h2⟩ := h
  refine PE.imp (pe_m1 slot ty h1 ho ha hs hbase hline) fun σ H Q ⟨Hf, env, R, g⟩ => ?_
  refine ⟨Hf, env, R, g.first (fun h => (Bool.and_eq_true_iff.mp h).1) fun x fx e1 v H1 Hf1 _ R1 t1 z1 g1 => ?_⟩
  cases x <;> try exact g1.elim
  rename_i z _
  have ev := (z1.now R1.le).strInv
  subst ev
  refine ⟨⟨_, rfl⟩, Hf1, e1, R1, GE.next t1 (fun h => h) g1 fun y fy e2 u H2 Hf2 _ R2 t2 z2 g2 => ?_⟩
  obtain ⟨Hf2, R2, t2, z2⟩ := stab R1 R2 t2 z2
  cases q : m1D mf (.str z) y with
  | none => rw [q] at g2; exact g2.elim
  | some o =>
    rw [q] at g2
    exact (h2 Hf2 H2 _ u (.str z) y o Q R2.le (.str z) z2 q).2 fun w hw => GE.fin g2 (t1.trans t2) (fun h => h) R2 (VR.old (hw Hf2))

/-! ### calls of defs -/
def ioE (z : Option D) : Env := match z with
  | some d => [.io d]
  | none => []
def ioS (io : Bool) (vs : List V) : St := if io = true then (vs.take 1).map some else []
/-- a def's promise: it hands back what f says; io: its first argument is changed -/
def spOf (K : PySem.W.Frag) (mg : Str → Option Value) (n : Nat) (io : Bool) (f : Sem) : Sp := fun vs H Q E => vs.length = n ∧ ∃ (ds0 : Option D) (ds : List D) (Hf : Hp), (ds0.isSome = io) ∧ (io = true → vs ≠ []) ∧
  ER K mg Hf H (ioE ds0) (ioS io vs) ∧ Reps K mg Hf ds (vs.drop (if io = true then 1 else 0)) ∧
  match f (ds0.toList ++ ds) with
  | .ret d fr z => z.isSome = io ∧ ∀ v H' Hf', ER K mg Hf' H' (ioE z) (ioS io vs) → Tr (!io) Hf H (ioE ds0) Hf' H' (ioE z) (ioS io vs) → VR K mg fr true d v H Hf' H' → Q v H'
  | .exc c z => z.isSome = io ∧ ∀ C H' Hf', mg c.cls = some (.ref C) → ER K mg Hf' H' (ioE z) (ioS io vs) → Tr (!io) Hf H (ioE ds0) Hf' H' (ioE z) (ioS io vs) → E (.ref C) none H'
  | .no => False
/-- a def of the module keeps its promise, by at most level k -/
structure FnS (P : Program) (w : World) (K : PySem.W.Frag) (mg : Str → Option Value) (base : Heap) (k : Nat) (x : Str) (n : Nat) (io : Bool) (f : Sem) : Prop where
  ex : ∃ (fa : Addr) (fd : FuncData) (ps : List Str), mg x = some (.ref fa) ∧ PySem.W.keepIn K (.ref fa) = true ∧ Binds K fd ps [] ∧ FnOk P w K mg base (L2.CX P w) k fa fd ps (spOf K mg n io f)
theorem FnS.mono {P : Program} {w : World} {K : PySem.W.Frag} {mg : Str → Option Value} {base : Heap} {j k : Nat} {x : Str} {n : Nat} {io : Bool} {f : Sem} (h : FnS P w K mg base j x n io f) (hk : j ≤ k) : FnS P w K mg base k x n io f :=
  ⟨let ⟨fa, fd, ps, a, b, c, d⟩ := h.ex; ⟨fa, fd, ps, a, b, c, d.mono hk⟩⟩
/-- behind a call that changes nothing -/
theorem lift0 (R1 : ER K mg Hf H e1 σ) (r : ER K mg Hf' H' [] []) (t : Tr true Hf H [] Hf' H' [] []) : ER K mg Hf' H' e1 σ ∧ Tr true Hf H e1 Hf' H' e1 σ := by
  have nown : ∀ a, ¬ OwnAt [] [] a := fun a ⟨i, ⟨d, h⟩, _⟩ => by simp at h
  refine ⟨⟨r.le, R1.len, fun i d h => ?_, fun i d h => ?_, R1.inj⟩, ⟨t.up, rfl, fun _ h => h, fun _ d h => ⟨d, h⟩, fun a o h _ => t.pure rfl a o h, fun a h => ?_, t.pure, t.there⟩⟩
  · obtain ⟨v, e, q⟩ := R1.val i d h
    exact ⟨v, e, q.up t.up⟩
  · obtain ⟨a, e, n, c⟩ := R1.mu i d h
    refine ⟨a, e, ?_, c.move t.up fun o q => t.pure rfl a o q⟩
    cases q : Hf' a with
    | none => rfl
    | some o =>
      rcases t.new a (by rw [q]; simp) with z | z | z
      · exact absurd n z
      · obtain ⟨o', ho⟩ := c.there
        rw [z] at ho; cases ho
      · exact (nown a z).elim
  · rcases t.new a h with z | z | z
    · exact .inl z
    · exact .inr (.inl z)
    · exact (nown a z).elim
/-- behind a call that changes what stands in slot i -/
theorem lift1 {i : Nat} {d z : D} {a : Addr} (R1 : ER K mg Hf H e1 σ) (hi : e1[i]? = some (Slot.own d) ∨ e1[i]? = some (Slot.io d)) (ha : σ[i]? = some (some (.ref a))) (r : ER K mg Hf' H' [.io z] [some (.ref a)]) (t : Tr false Hf H [.io d] Hf' H' [.io z] [some (.ref a)]) :
    ER K mg Hf' H' (e1.set i (putBack (getS e1 i) z)) σ ∧ Tr false Hf H e1 Hf' H' (e1.set i (putBack (getS e1 i) z)) σ := by
  have hlt : i < e1.length := by rcases hi with h | h <;> exact (List.getElem?_eq_some_iff.mp h).1
  have hs : getS e1 i = .own d ∨ getS e1 i = .io d := by
    unfold getS
    rw [List.getD_eq_getElem?_getD]
    rcases hi with h | h <;> rw [h]
    · exact .inl rfl
    · exact .inr rfl
  have hp : putBack (getS e1 i) z = .own z ∧ e1[i]? = some (Slot.own d) ∨ putBack (getS e1 i) z = .io z ∧ e1[i]? = some (Slot.io d) := by
    rcases hs with h | h
    · exact .inl ⟨by rw [h]; rfl, getS_lt h (by simp)⟩
    · exact .inr ⟨by rw [h]; rfl, getS_lt h (by simp)⟩
  have own1 : ∀ b, OwnAt [.io d] [some (.ref a)] b → b = a := fun b ⟨j, ⟨w, hw⟩, e⟩ => by
    cases j with
    | zero => simp at e; exact e.symm
    | succ j => simp at e
  have isown : OwnAt e1 σ a := ⟨i, ⟨d, hi⟩, ha⟩
  have mt : ∀ j, Mt (e1.set i (putBack (getS e1 i) z)) j → Mt e1 j := fun j ⟨w, hw⟩ => by
    by_cases hj : i = j
    · subst hj; exact ⟨d, hi⟩
    · rw [List.getElem?_set_ne hj] at hw; exact ⟨w, hw⟩
  have keep : ∀ b o, b ≠ a → H b = some o → H' b = some o := fun b o hb h => t.fr b o h fun q => hb (own1 b q)
  obtain ⟨a', ea, na, ca⟩ := r.mu 0 z (.inr rfl)
  simp at ea
  subst ea
  have newF : ∀ b, Hf' b ≠ none → Hf b ≠ none ∨ H b = none ∨ b = a := fun b h => by
    rcases t.new b h with q | q | q
    · exact .inl q
    · exact .inr (.inl q)
    · exact .inr (.inr (own1 b q))
  refine ⟨⟨r.le, by rw [List.length_set]; exact R1.len, fun j w h => ?_, fun j w h => ?_, fun j k b hj hk => R1.inj j k b (mt j hj) (mt k hk)⟩, ⟨t.up, List.length_set, mt, fun j w h => ?_, fun b o h n => keep b o (fun q => n (q ▸ isown)) h, fun b h => ?_, (fun h => nomatch h), t.there⟩⟩
  · by_cases hj : i = j
    · subst hj
      rw [List.getElem?_set_self hlt] at h
      rcases hp with ⟨q, _⟩ | ⟨q, _⟩ <;> rw [q] at h <;> cases h
    · rw [List.getElem?_set_ne hj] at h
      obtain ⟨v, e, q⟩ := R1.val j w h
      exact ⟨v, e, q.up t.up⟩
  · by_cases hj : i = j
    · subst hj
      rw [List.getElem?_set_self hlt] at h
      have hw : w = z := by rcases hp with ⟨q, _⟩ | ⟨q, _⟩ <;> rw [q] at h <;> rcases h with h | h <;> cases h <;> rfl
      subst hw
      exact ⟨a, ha, na, ca⟩
    · rw [List.getElem?_set_ne hj] at h
      obtain ⟨b, e, n, c⟩ := R1.mu j w h
      have hb : b ≠ a := fun q => hj (R1.inj i j a ⟨d, hi⟩ ⟨w, h⟩ ha (q ▸ e))
      refine ⟨b, e, ?_, c.move t.up fun o q => keep b o hb q⟩
      cases q : Hf' b with
      | none => rfl
      | some o =>
        rcases newF b (by rw [q]; simp) with y | y | y
        · exact absurd n y
        · obtain ⟨o', ho⟩ := c.there
          rw [y] at ho; cases ho
        · exact absurd y hb
  · by_cases hj : i = j
    · subst hj
      rcases hp with ⟨_, q⟩ | ⟨q, _⟩
      · rw [q] at h; cases h
      · exact ⟨z, by rw [List.getElem?_set_self hlt, q]⟩
    · exact ⟨w, by rw [List.getElem?_set_ne hj]; exact h⟩
  · rcases newF b h with y | y | y
    · exact .inl y
    · exact .inr (.inl y)
    · exact .inr (.inr (y ▸ isown))
theorem ER.nil (le : Same Hf H) : ER K mg Hf H [] [] := ⟨le, rfl, fun i d h => by simp at h, fun i d h => by simp at h, fun i j a ⟨d, h⟩ => by simp at h⟩
theorem isSome_none {α : Type} {o : Option α} (h : o.isSome = false) : o = none := by cases o <;> simp_all
theorem s_call {k n : Nat} {x : Str} {f : Sem} (F : FnS X.prog X.w X.K X.mg X.base k x n false f) (hr : Room k X.A) (hg : Gl X x) (tk : Takes X W) (hd : (x == ("__debug__" : Str)) = false) (hn : (a :: es).length = n)
    (ha : PA X (a :: es) (tIs X.K X.mg W true ps ms)) (hl : ∀ env ds e1, ms env = .ok ds e1 → ds.length = n) (he : starEach (a :: es) X.env = (false, eval a X.env) :: starEach es X.env) (hpl : (backTo pos (starEach es X.env)).any (·.1) = false) :
    PE X (.Call (.Name x p) (a :: es) [] pos) (tI X.K X.mg W true ps fun env => (ms env).bind fun ds e1 => callR false (f ds) e1) := by
  obtain ⟨fa, fd, pl, h1, h2, h3, h4⟩ := F.ex
  refine PE.imp (pe_callS h4 hr hg h1 h2 h3 (fun σ => passAt tk σ) ha hd he hpl) fun σ H Q ⟨Hf, env, R, g⟩ => ⟨Hf, env, R, GEs.fst (fun h => h) g fun ds e1 vs H1 Hf1 hm R1 t1 rs g1 => ?_⟩
  rw [if_pos rfl] at rs
  refine ⟨by rw [← rs.length]; exact hl env ds e1 hm, none, ds, Hf1, rfl, (fun h => nomatch h), ER.nil R1.le, rs, ?_⟩
  show match f ds with
    | .ret d fr z => _
    | .exc c z => _
    | .no => False
  unfold callR at g1
  cases q : f ds with
  | no => rw [q] at g1; exact g1.elim
  | ret d fr z =>
    rw [q] at g1
    cases z with
    | some z => exact g1.elim
    | none =>
      refine ⟨rfl, fun v H' Hf' r t y => ?_⟩
      obtain ⟨R2, t2⟩ := lift0 R1 r t
      simp only [Bool.false_and, Bool.false_eq_true, if_false] at g1
      exact GE.fin g1 (t1.trans t2) (fun h => by rw [h]; rfl) R2 (y.back t1.there)
  | exc c z =>
    rw [q] at g1
    cases z with
    | some z => exact g1.elim
    | none =>
      refine ⟨rfl, fun C H' Hf' hC r t => ?_⟩
      obtain ⟨R2, t2⟩ := lift0 R1 r t
      exact g1 C H' Hf' hC R2 ((t1.trans t2).weak fun h => by rw [h]; rfl)
end
end Cor
set_option Elab.async false
set_option linter.all false
set_option maxRecDepth 100000
set_option maxHeartbeats 2000000
/-! Cor7: more calls; what is walked; comprehensions. -/
namespace Cor
open PySem PySem.Spec L2

section
variable {X : Cx} {W : WX} {a b c e : Expr} {es : List Expr} {pos p : Pos} {m ma mb mc : Env → RE} {ms : Env → REs} {st sa sb sc pa pb pc pu ps : Bool}
variable {K : PySem.W.Frag} {mg : Str → Option Value} {H H1 H' Hf Hf1 Hf' : Hp} {env e1 env' : Env} {σ : St} {Q : VK} {p1 p2 : Bool}

/-- arguments that are only lent; the answer is flat -/
theorem s_callB {k n : Nat} {x : Str} {f : Sem} (F : FnS X.prog X.w X.K X.mg X.base k x n false f) (hr : Room k X.A) (hg : Gl X x) (tk : Takes X W) (hd : (x == ("__debug__" : Str)) = false) (hn : (a :: es).length = n)
    (ha : PA X (a :: es) (tIs X.K X.mg W false ps ms)) (hl : ∀ env ds e1, ms env = .ok ds e1 → ds.length = n) (he : starEach (a :: es) X.env = (false, eval a X.env) :: starEach es X.env) (hpl : (backTo pos (starEach es X.env)).any (·.1) = false) :
    PE X (.Call (.Name x p) (a :: es) [] pos) (tI X.K X.mg W true ps fun env => (ms env).bind fun ds e1 => callR true (f ds) e1) := by
  obtain ⟨fa, fd, pl, h1, h2, h3, h4⟩ := F.ex
  refine PE.imp (pe_callS h4 hr hg h1 h2 h3 (fun σ => passAt tk σ) ha hd he hpl) fun σ H Q ⟨Hf, env, R, g⟩ => ⟨Hf, env, R, GEs.fst (fun h => h) g fun ds e1 vs H1 Hf1 hm R1 t1 rs g1 => ?_⟩
  rw [if_neg Bool.false_ne_true] at rs
  refine ⟨by rw [← rs.length]; exact hl env ds e1 hm, none, ds, H1, rfl, (fun h => nomatch h), ER.nil (Same.refl _), rs, ?_⟩
  show match f ds with
    | .ret d fr z => _
    | .exc c z => _
    | .no => False
  have lift : ∀ {H' Hf'}, ER X.K X.mg Hf' H' [] [] → Tr true H1 H1 [] Hf' H' [] [] → ER X.K X.mg Hf1 H' e1 σ ∧ Tr true Hf1 H1 e1 Hf1 H' e1 σ := fun {H' Hf'} r t => by
    have s := t.pure rfl
    refine ⟨⟨R1.le.trans s, R1.len, R1.val, fun i d h => ?_, R1.inj⟩, ⟨Same.refl _, rfl, fun _ h => h, fun _ d h => ⟨d, h⟩, fun a o h _ => s a o h, fun a h => .inl h, fun _ => s, t.there⟩⟩
    obtain ⟨a, e, n, c⟩ := R1.mu i d h
    exact ⟨a, e, n, c.move (Same.refl _) fun o q => s a o q⟩
  unfold callR at g1
  cases q : f ds with
  | no => rw [q] at g1; exact g1.elim
  | ret d fr z =>
    rw [q] at g1
    cases z with
    | some z => exact g1.elim
    | none =>
      refine ⟨rfl, fun v H' Hf' r t y => ?_⟩
      obtain ⟨R2, t2⟩ := lift r t
      simp only [Bool.true_and] at g1
      cases hat : d.isAtom with
      | false => rw [hat] at g1; exact g1.elim
      | true =>
        rw [hat] at g1
        unfold VR at y
        cases fr with
        | true =>
          rw [if_pos rfl] at y
          obtain ⟨p', _, _, _, c⟩ := y
          cases c
          simp [D.isAtom] at hat
        | false =>
          rw [if_neg Bool.false_ne_true, if_pos rfl] at y
          exact GE.fin g1 (t1.trans t2) (fun h => by rw [h]; rfl) R2 (VR.old (atom_rep y hat))
  | exc c z =>
    rw [q] at g1
    cases z with
    | some z => exact g1.elim
    | none =>
      refine ⟨rfl, fun C H' Hf' hC r t => ?_⟩
      obtain ⟨R2, t2⟩ := lift r t
      exact g1 C H' Hf1 hC R2 ((t1.trans t2).weak (fun (h : ps = true) => by rw [h]; rfl))
theorem ioGet_at {i : Nat} {d : D} (h : ioGet env i = some d) : env[i]? = some (Slot.own d) ∨ env[i]? = some (Slot.io d) := by
  unfold ioGet at h
  cases q : getS env i with
  | no => rw [q] at h; cases h
  | val z => rw [q] at h; cases h
  | own z => rw [q] at h; cases h; exact .inl (getS_lt q (by simp))
  | io z => rw [q] at h; cases h; exact .inr (getS_lt q (by simp))
theorem s_callIo {k n i : Nat} {x : Str} {f : Sem} (F : FnS X.prog X.w X.K X.mg X.base k x n true f) (hr : Room k X.A) (hg : Gl X x) (tk : Takes X W) (hd : (x == ("__debug__" : Str)) = false) (hn : (a :: es).length = n)
    (ha : PE X a (tVar i)) (hes : PA X es (tIs X.K X.mg W true ps ms)) (hl : ∀ env ds e1, ms env = .ok ds e1 → ds.length + 1 = n) (he : starEach (a :: es) X.env = (false, eval a X.env) :: starEach es X.env) (hpl : (backTo pos (starEach es X.env)).any (·.1) = false) :
    PE X (.Call (.Name x p) (a :: es) [] pos) (tI X.K X.mg W true false fun env => match ioGet env i with
      | none => .no
      | some _ => (ms env).bind fun ds e1 => match ioGet e1 i with
        | some d => callRio i (f (d :: ds)) e1
        | none => .no) := by
  obtain ⟨fa, fd, pl, h1, h2, h3, h4⟩ := F.ex
  refine PE.imp (pe_callS h4 hr hg h1 h2 h3 (fun σ => passAt tk σ) (pa_cons ha hes he) hd he hpl) fun σ H Q ⟨Hf, env, R, g⟩ => ?_
  dsimp only at g
  cases q0 : ioGet env i with
  | none => rw [q0] at g; exact g.elim
  | some d0 =>
    rw [q0] at g
    dsimp only at g
    obtain ⟨av, ev, _⟩ := R.mu i d0 (ioGet_at q0)
    refine ⟨_, ev, Hf, env, R, GEs.fst (pu := false) (by intro h; cases h) g fun ds e1 vs H1 Hf1 hm R1 t1 rs g1 => ?_⟩
    cases q1 : ioGet e1 i with
    | none => rw [q1] at g1; exact g1.elim
    | some d =>
      rw [q1] at g1
      dsimp only at g1
      rw [if_pos rfl] at rs
      have hi := ioGet_at q1
      obtain ⟨av', ev', na, ca⟩ := R1.mu i d hi
      rw [ev] at ev'
      cases ev'
      have R0 : ER X.K X.mg Hf1 H1 [.io d] [some (.ref av)] := by
        refine ⟨R1.le, rfl, fun j w h => ?_, fun j w h => ?_, fun j l b hj hl _ _ => ?_⟩
        · cases j with
          | zero => simp at h
          | succ j => simp at h
        · cases j with
          | zero =>
            simp at h
            subst h
            exact ⟨av, rfl, na, ca⟩
          | succ j => simp at h
        · obtain ⟨w, hw⟩ := hj
          obtain ⟨w', hw'⟩ := hl
          cases j with
          | zero => cases l with
            | zero => rfl
            | succ l => simp at hw'
          | succ j => simp at hw
      refine ⟨by rw [List.length_cons, ← rs.length]; exact hl env ds e1 hm, some d, ds, Hf1, rfl, (fun _ h => nomatch h), R0, rs, ?_⟩
      show match f (d :: ds) with
        | .ret d fr z => _
        | .exc c z => _
        | .no => False
      unfold callRio at g1
      cases q : f (d :: ds) with
      | no => rw [q] at g1; exact g1.elim
      | ret d' fr z =>
        rw [q] at g1
        cases z with
        | none => exact g1.elim
        | some z =>
          refine ⟨rfl, fun v H' Hf' r t y => ?_⟩
          obtain ⟨R2, t2⟩ := lift1 R1 hi ev r t
          exact GE.fin g1 (t1.trans t2) (fun h => nomatch h) R2 (y.back t1.there)
      | exc c z =>
        rw [q] at g1
        cases z with
        | none => exact g1.elim
        | some z =>
          refine ⟨rfl, fun C H' Hf' hC r t => ?_⟩
          obtain ⟨R2, t2⟩ := lift1 R1 hi ev r t
          exact g1 C H' Hf' hC R2 ((t1.trans t2).weak fun h => nomatch h)

/-! ### what is walked -/
/-- J gives the data ds, one behind another, while Hf stands -/
def WalkD (K : PySem.W.Frag) (mg : Str → Option Value) (Hf : Hp) (ds : List D) (J : It) : Prop := Walk J ds.length (fun H => Same Hf H) fun i H x H' => ∃ d, ds[i]? = some d ∧ Out K mg Hf H false d x H'
def GJ (K : PySem.W.Frag) (mg : Str → Option Value) (W : WX) (pu : Bool) (Hf H : Hp) (env : Env) (σ : St) (R : It → Hp → Prop) (r : REs) : Prop := match r with
  | .ok ds env' => ∀ J H' Hf', ER K mg Hf' H' env' σ → Tr pu Hf H env Hf' H' env' σ → WalkD K mg Hf' ds J → R J H'
  | .ex c env' => ∀ C H' Hf', mg c.cls = some (.ref C) → ER K mg Hf' H' env' σ → Tr pu Hf H env Hf' H' env' σ → W (.ref C) none σ H'
  | .no => False
def tJ (K : PySem.W.Frag) (mg : Str → Option Value) (W : WX) (pu : Bool) (m : Env → REs) : TI := fun σ H R => ∃ Hf env, ER K mg Hf H env σ ∧ GJ K mg W pu Hf H env σ R (m env)
theorem PI.imp {tg it : Expr} {t t' : TI} (h : PI X tg it t) (i : ∀ σ H R, t' σ H R → t σ H R) : PI X tg it t' := ⟨fun pins s σ H R I q => h.run pins s σ H R I (i σ H R q)⟩
/-- a value's evaluation, then the walk -/
theorem tJ_bind {R : It → Hp → Prop} {m : Env → RE} {k : D → Bool → Env → REs} (R0 : ER K mg Hf H env σ)
    (g : GJ K mg W pu Hf H env σ R ((m env).bindI k)) {Q1 : VK}
    (c : ∀ d fr e1 v H1 Hf1, m env = .ok d fr e1 → ER K mg Hf1 H1 e1 σ → Tr pu Hf H env Hf1 H1 e1 σ → Rep K mg Hf1 d v →
      GJ K mg W pu Hf H env σ R (k d fr e1) → Q1 v H1) : GE K mg W true pu Hf H env σ Q1 (m env) := by
  cases q : m env with
  | no => rw [q] at g; exact g.elim
  | ex x e2 => rw [q] at g; exact g
  | ok d fr e1 =>
    rw [q] at g
    refine fun v H1 Hf1 R1 t1 z1 => ?_
    obtain ⟨Hf1, R1, t1, z1⟩ := stab R0 R1 t1 z1
    exact c d fr e1 v H1 Hf1 q R1 t1 z1 g
theorem walkD_list {ds : List D} {vs : List V} {a : Addr} (h : SqL K Hf a vs) (r : Reps K mg Hf ds vs) : WalkD K mg Hf ds (Itl K a) := by
  unfold WalkD
  rw [r.length]
  refine walk_list.mono (fun H e => e.seq h) fun i H x H' _ _ y => ?_
  obtain ⟨rfl, e⟩ := y
  obtain ⟨d, e1, e2⟩ := r.getV e
  exact ⟨d, e1, .old e2⟩
theorem walkD_tup {ds : List D} {vs : List V} {a : Addr} (h : SqT K Hf a vs) (r : Reps K mg Hf ds vs) : WalkD K mg Hf ds (Itt K a) := by
  unfold WalkD
  rw [r.length]
  refine walk_tup.mono (fun H e => same_t e h) fun i H x H' _ _ y => ?_
  obtain ⟨rfl, e⟩ := y
  obtain ⟨d, e1, e2⟩ := r.getV e
  exact ⟨d, e1, .old e2⟩
theorem i_lst {tg : Expr} (ha : PE X a (tI X.K X.mg W true pa ma)) : PI X tg a (tJ X.K X.mg W pa fun env => (ma env).bindI fun x _ e1 => match x with
    | .lst xs => .ok xs e1
    | _ => .no) := by
  refine PI.imp (pi_list ha) fun σ H R ⟨Hf, env, R0, g⟩ => ⟨Hf, env, R0, tJ_bind R0 g fun d fr e1 v H1 Hf1 _ R1 t1 z1 g1 => ?_⟩
  cases d <;> try exact g1.elim
  obtain ⟨a, vs, rfl, h1, h2⟩ := z1.lstInv
  exact ⟨a, rfl, ⟨vs, R1.le.seq h1⟩, g1 _ H1 Hf1 R1 t1 (walkD_list h1 h2)⟩
theorem i_tup {tg : Expr} (ha : PE X a (tI X.K X.mg W true pa ma)) : PI X tg a (tJ X.K X.mg W pa fun env => (ma env).bindI fun x _ e1 => match x with
    | .tup xs => .ok xs e1
    | _ => .no) := by
  refine PI.imp (pi_tup ha) fun σ H R ⟨Hf, env, R0, g⟩ => ⟨Hf, env, R0, tJ_bind R0 g fun d fr e1 v H1 Hf1 _ R1 t1 z1 g1 => ?_⟩
  cases d <;> try exact g1.elim
  obtain ⟨a, vs, rfl, h1, h2⟩ := z1.tupInv
  exact ⟨a, rfl, ⟨vs, same_t R1.le h1⟩, g1 _ H1 Hf1 R1 t1 (walkD_tup h1 h2)⟩
theorem i_str {tg : Expr} (ha : PE X a (tI X.K X.mg W true pa ma)) : PI X tg a (tJ X.K X.mg W pa fun env => (ma env).bindI fun x _ e1 => match x with
    | .str xs => if xs.length ≤ lim then .ok (xs.map fun c => .str [c]) e1 else .no
    | _ => .no) := by
  refine PI.imp (pi_str ha) fun σ H R ⟨Hf, env, R0, g⟩ => ⟨Hf, env, R0, tJ_bind R0 g fun d fr e1 v H1 Hf1 _ R1 t1 z1 g1 => ?_⟩
  cases d <;> try exact g1.elim
  rename_i xs _
  obtain rfl := z1.strInv
  refine ⟨_, rfl, ?_⟩
  by_cases hz : xs.length ≤ lim
  · simp only [hz, if_true] at g1
    refine g1 _ H1 Hf1 R1 t1 ?_
    unfold WalkD
    have hsz : (xs.map fun c => D.str [c]).length = (⟨xs.toArray⟩ : Str).cps.size := by simp
    rw [hsz]
    refine walk_str.mono (fun _ _ => trivial) fun i H x H' _ _ y => ?_
    obtain ⟨rfl, c, e1, rfl⟩ := y
    refine ⟨.str [c], ?_, .old (.str [c])⟩
    rw [List.getElem?_map]
    have : xs[i]? = some c := by simpa using e1
    rw [this]; rfl
  · simp only [hz, if_false] at g1
    exact g1.elim
theorem rngD_walk {lo hi : Int} {ds : List D} (h : rngD lo hi = some ds) : (-(2 ^ 62) ≤ lo ∧ lo < 2 ^ 62 ∧ -(2 ^ 62) ≤ hi ∧ hi < 2 ^ 62) ∧ ∀ Hf, WalkD K mg Hf ds (Itr lo (hi - lo).toNat) := by
  unfold rngD at h
  split at h
  · rename_i hz
    cases h
    refine ⟨hz, fun Hf => ?_⟩
    unfold WalkD
    rw [List.length_map, List.length_range]
    refine walk_range.mono (fun _ _ => trivial) fun i H x H' hi' _ y => ?_
    obtain ⟨rfl, rfl⟩ := y
    refine ⟨.int (lo + (i : Nat)), ?_, .old (.int _)⟩
    rw [List.getElem?_map, List.getElem?_range hi']
    rfl
  · cases h
theorem i_rng1 {tg : Expr} (hg : Gl X "range") (hm : X.mg "range" = none) (ha : PE X a (tI X.K X.mg W sa pa ma)) (hs : starEach [a] X.env = [(false, eval a X.env)]) : PI X tg (.Call (.Name "range" p) [a] [] pos) (tJ X.K X.mg W pa fun env => (ma env).bindI fun x _ e1 => match x with
    | .int n => outI (rngD 0 n) e1
    | _ => .no) := by
  refine PI.imp (pi_range1 hg hm (pa_cons ha pa_nil (by rw [hs]; rfl)) hs) fun σ H R ⟨Hf, env, R0, g⟩ => ⟨Hf, env, R0, ?_⟩
  dsimp only at g
  cases q : ma env with
  | no => rw [q] at g; exact g.elim
  | ex x e2 => rw [q] at g; exact g
  | ok d fr e1 =>
    rw [q] at g
    refine fun v H1 Hf1 R1 t1 z1 => ?_
    cases d <;> try exact g.elim
    rename_i n
    obtain rfl := (z1.now R1.le).intInv
    have g : GJ X.K X.mg W pa Hf H env σ R (outI (rngD 0 n) e1) := g
    cases q2 : rngD 0 n with
    | none => rw [q2] at g; exact g.elim
    | some ds =>
      rw [q2] at g
      obtain ⟨⟨_, _, z3, z4⟩, wd⟩ := rngD_walk (K := X.K) (mg := X.mg) q2
      refine ⟨n, rfl, z3, z4, g _ H1 Hf1 R1 t1 ?_⟩
      have := wd Hf1
      rw [Int.sub_zero] at this
      exact this
theorem i_rng2 {tg : Expr} (hg : Gl X "range") (hm : X.mg "range" = none) (ha : PE X a (tI X.K X.mg W sa pa ma)) (hb : PE X b (tI X.K X.mg W sb pb mb)) (hs : starEach [a, b] X.env = [(false, eval a X.env), (false, eval b X.env)]) (hs2 : starEach [b] X.env = [(false, eval b X.env)]) : PI X tg (.Call (.Name "range" p) [a, b] [] pos) (tJ X.K X.mg W (pa && pb) fun env => (ma env).bindI fun x _ e1 => (mb e1).bindI fun y _ e2 => match x, y with
    | .int n, .int m => outI (rngD n m) e2
    | _, _ => .no) := by
  refine PI.imp (pi_range2 hg hm (pa_cons ha (pa_cons hb pa_nil (by rw [hs2]; rfl)) (by rw [hs, hs2])) hs hs2) fun σ H R ⟨Hf, env, R0, g⟩ => ⟨Hf, env, R0, ?_⟩
  dsimp only at g
  cases q : ma env with
  | no => rw [q] at g; exact g.elim
  | ex x e2 => rw [q] at g; exact fun C H2 Hf2 hC R2 t2 => g C H2 Hf2 hC R2 (t2.weak fun h => (Bool.and_eq_true_iff.mp h).1)
  | ok d fr e1 =>
    rw [q] at g
    refine fun v H1 Hf1 R1 t1 z1 => ⟨Hf1, e1, R1, ?_⟩
    have g : GJ X.K X.mg W (pa && pb) Hf H env σ R ((mb e1).bindI fun y _ e2 => match (generalizing := false) d, y with
        | .int n, .int m => outI (rngD n m) e2
        | _, _ => .no) := g
    cases q' : mb e1 with
    | no => rw [q'] at g; exact g.elim
    | ex x e2 => rw [q'] at g; exact fun C H2 Hf2 hC R2 t2 => g C H2 Hf2 hC R2 (t1.trans t2)
    | ok d2 fr2 e2 =>
      rw [q'] at g
      refine fun u H2 Hf2 R2 t2 z2 => ?_
      cases d <;> try exact g.elim
      cases d2 <;> try exact g.elim
      rename_i n g0 m
      obtain rfl := (z1.now R1.le).intInv
      obtain rfl := (z2.now R2.le).intInv
      have g : GJ X.K X.mg W (pa && pb) Hf H env σ R (outI (rngD n m) e2) := g
      cases q2 : rngD n m with
      | none => rw [q2] at g; exact g.elim
      | some ds =>
        rw [q2] at g
        obtain ⟨zz, wd⟩ := rngD_walk (K := X.K) (mg := X.mg) q2
        exact ⟨n, m, rfl, zz, g _ H2 Hf2 R2 (t1.trans t2) (wd Hf2)⟩
end
end Cor
set_option Elab.async false
set_option linter.all false
set_option maxRecDepth 100000
set_option maxHeartbeats 2000000
/-! Cor8: what statements may do to slots and heap; targets; comprehensions. -/
namespace Cor
open PySem PySem.Spec L2

structure TrS (Hf H : Hp) (env : Env) (σ : St) (Hf' H' : Hp) (env' : Env) (σ' : St) : Prop where
  up : Same Hf Hf'
  len : env'.length = env.length
  own : ∀ a, OwnAt env' σ' a → OwnAt env σ a ∨ H a = none
  io : ∀ (i : Nat) (d : D), env[i]? = some (Slot.io d) → (∃ d', env'[i]? = some (Slot.io d')) ∧ σ'[i]? = σ[i]?
  fr : ∀ a o, H a = some o → ¬ OwnAt env σ a → H' a = some o
  new : ∀ a, Hf' a ≠ none → Hf a ≠ none ∨ H a = none ∨ OwnAt env σ a
  there : ∀ a, H a ≠ none → H' a ≠ none

section
variable {K : PySem.W.Frag} {mg : Str → Option Value} {W : WX} {H H1 H2 H' H'' Hf Hf1 Hf2 Hf' Hf'' : Hp} {env e1 e2 env' env'' : Env} {σ σ1 σ' σ'' : St} {d : D} {v : V} {pu fr st : Bool} {Q : VK} {i : Nat}
theorem Tr.s (t : Tr pu Hf H env Hf' H' env' σ) : TrS Hf H env σ Hf' H' env' σ := ⟨t.up, t.len, fun _ h => .inl (h.back t.mt), fun i d h => ⟨t.io i d h, rfl⟩, t.fr, t.new, t.there⟩
theorem TrS.refl : TrS Hf H env σ Hf H env σ := (Tr.refl (pu := true)).s
theorem TrS.trans (t : TrS Hf H env σ Hf' H' env' σ') (u : TrS Hf' H' env' σ' Hf'' H'' env'' σ'') : TrS Hf H env σ Hf'' H'' env'' σ'' where
  up := t.up.trans u.up
  len := u.len.trans t.len
  own := fun a h => by
    rcases u.own a h with q | q
    · exact t.own a q
    · cases e : H a with
      | none => exact .inr rfl
      | some o =>
        refine .inl (Classical.byContradiction fun n => ?_)
        rw [t.fr a o e n] at q; cases q
  io := fun i d h => by
    obtain ⟨⟨d', e⟩, s⟩ := t.io i d h
    obtain ⟨q, s'⟩ := u.io i d' e
    exact ⟨q, s'.trans s⟩
  fr := fun a o h n => u.fr a o (t.fr a o h n) fun q => by
    rcases t.own a q with z | z
    · exact n z
    · rw [h] at z; cases z
  new := fun a h => by
    rcases u.new a h with q | q | q
    · exact t.new a q
    · cases e : H a with
      | none => exact .inr (.inl rfl)
      | some o =>
        refine .inr (.inr (Classical.byContradiction fun n => ?_))
        rw [t.fr a o e n] at q; cases q
    · rcases t.own a q with z | z
      · exact .inr (.inr z)
      · exact .inr (.inl z)
  there := fun a h => u.there a (t.there a h)
theorem TrS.tr (t : TrS Hf H env σ Hf' H' env' σ) (mt : ∀ i, Mt env' i → Mt env i) : Tr false Hf H env Hf' H' env' σ := ⟨t.up, t.len, mt, fun i d h => (t.io i d h).1, t.fr, t.new, (fun h => nomatch h), t.there⟩
def noIo (env : Env) (i : Nat) : Prop := ∀ d, env[i]? ≠ some (Slot.io d)
theorem noIo_of {s : Slot} (h : getS env i = s) (hs : ∀ d, s ≠ .io d) : noIo env i := fun d e => by
  unfold getS at h
  rw [List.getD_eq_getElem?_getD, e] at h
  exact hs d h.symm
theorem mt_set {s : Slot} (hs : s = .no ∨ ∃ d, s = .val d) {j : Nat} (h : Mt (env.set i s) j) : j ≠ i ∧ Mt env j := by
  obtain ⟨z, hz⟩ := h
  by_cases hj : i = j
  · subst hj
    by_cases hi : i < env.length
    · rw [List.getElem?_set_self hi] at hz
      rcases hs with rfl | ⟨d, rfl⟩ <;> rcases hz with hz | hz <;> cases hz
    · rw [List.getElem?_eq_none (by simpa using hi)] at hz
      rcases hz with hz | hz <;> cases hz
  · rw [List.getElem?_set_ne hj] at hz
    exact ⟨fun q => hj q.symm, z, hz⟩
/-- a slot takes a value, or nothing -/
theorem ER.setS (R : ER K mg Hf H env σ) {s : Slot} {o : Option V} (hs : s = .no ∨ ∃ d v, s = .val d ∧ o = some v ∧ Rep K mg Hf d v) (hio : noIo env i) :
    ER K mg Hf H (env.set i s) (σ.set i o) ∧ TrS Hf H env σ Hf H (env.set i s) (σ.set i o) ∧ ∀ j, Mt (env.set i s) j → Mt env j := by
  have hs' : s = .no ∨ ∃ d, s = .val d := hs.imp id fun ⟨d, v, h, _⟩ => ⟨d, h⟩
  have out : ∀ j w, (env.set i s)[j]? = some w → j ≠ i → env[j]? = some w := fun j w h hj => by rw [List.getElem?_set_ne (Ne.symm hj)] at h; exact h
  refine ⟨⟨R.le, by rw [List.length_set, List.length_set]; exact R.len, fun j d h => ?_, fun j d h => ?_, fun j k b hj hk ej ek => ?_⟩, ⟨Same.refl _, List.length_set, fun a ⟨j, m, e⟩ => ?_, fun j d h => ?_, fun _ _ q _ => q, fun _ q => .inl q, fun _ q => q⟩, fun j h => (mt_set hs' h).2⟩
  · by_cases hj : i = j
    · subst hj
      by_cases hi : i < env.length
      · rw [List.getElem?_set_self hi] at h
        rcases hs with rfl | ⟨d', v, rfl, rfl, r⟩
        · cases h
        · cases h
          exact ⟨v, by rw [List.getElem?_set_self (R.len ▸ hi)], r⟩
      · rw [List.getElem?_eq_none (by simpa using hi)] at h; cases h
    · rw [List.getElem?_set_ne hj] at h ⊢
      exact R.val j d h
  · obtain ⟨hj, _⟩ := mt_set hs' ⟨d, h⟩
    rw [List.getElem?_set_ne (Ne.symm hj)] at h ⊢
    exact R.mu j d h
  · obtain ⟨hj', mj⟩ := mt_set hs' hj
    obtain ⟨hk', mk⟩ := mt_set hs' hk
    rw [List.getElem?_set_ne (Ne.symm hj')] at ej
    rw [List.getElem?_set_ne (Ne.symm hk')] at ek
    exact R.inj j k b mj mk ej ek
  · obtain ⟨hj, mj⟩ := mt_set hs' m
    rw [List.getElem?_set_ne (Ne.symm hj)] at e
    exact .inl ⟨j, mj, e⟩
  · by_cases hj : i = j
    · subst hj; exact absurd h (hio d)
    · exact ⟨⟨d, by rw [List.getElem?_set_ne hj]; exact h⟩, List.getElem?_set_ne hj⟩
/-- .. what it owns from now on -/
theorem ER.setO (R : ER K mg Hf H env σ) {p : Addr} (hp : Hf p = none) (c : Cont K mg Hf H d p) (no : ¬ OwnAt env σ p) (hio : noIo env i) {H0 Hf0 : Hp} {env0 : Env} {σ0 : St} (t : TrS Hf0 H0 env0 σ0 Hf H env σ) (h0 : H0 p = none) :
    ER K mg Hf H (env.set i (.own d)) (σ.set i (some (.ref p))) ∧ TrS Hf0 H0 env0 σ0 Hf H (env.set i (.own d)) (σ.set i (some (.ref p))) := by
  have mt : ∀ {j}, Mt (env.set i (.own d)) j → j ≠ i → Mt env j := fun {j} ⟨z, hz⟩ hj => by
    rw [List.getElem?_set_ne (Ne.symm hj)] at hz
    exact ⟨z, hz⟩
  refine ⟨⟨R.le, by rw [List.length_set, List.length_set]; exact R.len, fun j d' h => ?_, fun j d' h => ?_, fun j k b hj hk ej ek => ?_⟩, ⟨t.up, by rw [List.length_set]; exact t.len, fun a ⟨j, m, e⟩ => ?_, fun j d' h => ?_, t.fr, t.new, t.there⟩⟩
  · by_cases hj : i = j
    · subst hj
      by_cases hi : i < env.length
      · rw [List.getElem?_set_self hi] at h; cases h
      · rw [List.getElem?_eq_none (by simpa using hi)] at h; cases h
    · rw [List.getElem?_set_ne hj] at h ⊢
      exact R.val j d' h
  · by_cases hj : i = j
    · subst hj
      by_cases hi : i < env.length
      · rw [List.getElem?_set_self hi] at h
        rcases h with h | h <;> cases h
        exact ⟨p, by rw [List.getElem?_set_self (R.len ▸ hi)], hp, c⟩
      · rw [List.getElem?_eq_none (by simpa using hi)] at h
        rcases h with h | h <;> cases h
    · rw [List.getElem?_set_ne hj] at h ⊢
      exact R.mu j d' h
  · by_cases h1 : j = i <;> by_cases h2 : k = i
    · rw [h1, h2]
    · subst h1
      have m := mt hk h2
      rw [List.getElem?_set_ne (Ne.symm h2)] at ek
      by_cases hi : j < σ.length
      · rw [List.getElem?_set_self hi] at ej
        cases ej
        exact absurd ⟨k, m, ek⟩ no
      · rw [List.getElem?_eq_none (by simpa using hi)] at ej; cases ej
    · subst h2
      have m := mt hj h1
      rw [List.getElem?_set_ne (Ne.symm h1)] at ej
      by_cases hi : k < σ.length
      · rw [List.getElem?_set_self hi] at ek
        cases ek
        exact absurd ⟨j, m, ej⟩ no
      · rw [List.getElem?_eq_none (by simpa using hi)] at ek; cases ek
    · have m := mt hj h1
      have m' := mt hk h2
      rw [List.getElem?_set_ne (Ne.symm h1)] at ej
      rw [List.getElem?_set_ne (Ne.symm h2)] at ek
      exact R.inj j k b m m' ej ek
  · by_cases h1 : j = i
    · subst h1
      by_cases hi : j < σ.length
      · rw [List.getElem?_set_self hi] at e
        cases e
        exact .inr h0
      · rw [List.getElem?_eq_none (by simpa using hi)] at e; cases e
    · have m' := mt m h1
      rw [List.getElem?_set_ne (Ne.symm h1)] at e
      exact t.own a ⟨j, m', e⟩
  · obtain ⟨⟨z, hz⟩, q⟩ := t.io j d' h
    by_cases hj : i = j
    · subst hj; exact absurd hz (hio z)
    · exact ⟨⟨z, by rw [List.getElem?_set_ne hj]; exact hz⟩, by rw [List.getElem?_set_ne hj]; exact q⟩
/-- what nobody owns is rewritten -/
theorem ER.updN (R : ER K mg Hf H env σ) {p : Addr} {o : HO} (hp : Hf p = none) (no : ¬ OwnAt env σ p) : ER K mg Hf (upd H p o) env σ := by
  refine ⟨fun b q e => ?_, R.len, R.val, fun j d h => ?_, R.inj⟩
  · rw [upd_ne (ne_of_none e hp)]; exact R.le b q e
  · obtain ⟨a, e, n, c⟩ := R.mu j d h
    have ha : a ≠ p := fun q => no ⟨j, ⟨d, h⟩, q ▸ e⟩
    exact ⟨a, e, n, c.move (Same.refl _) fun o q => by rw [upd_ne ha]; exact q⟩

/-! ### targets -/
mutual
def TG.ix : TG → List Nat
  | .nm i => [i]
  | .tup ts => ixs ts
def ixs : List TG → List Nat
  | [] => []
  | t :: ts => t.ix ++ ixs ts
end
end
section
variable (K : PySem.W.Frag) (mg : Str → Option Value)
def AsgK (Hf H : Hp) (env : Env) (σ : St) (ix : List Nat) (env' : Env) (Q : St → Hp → Prop) : Prop := ∀ σ', ER K mg Hf H env' σ' → TrS Hf H env σ Hf H env' σ' → (∀ j, Mt env' j → Mt env j) → (∀ j, j ∉ ix → σ'[j]? = σ[j]?) → Q σ' H
def tG (t : TG) : L2.TG := fun v σ H Q => ∃ Hf env d env', ER K mg Hf H env σ ∧ Rep K mg Hf d v ∧ asg t d env = some env' ∧ AsgK K mg Hf H env σ t.ix env' Q
def tGs (ts : List TG) : TGs := fun vs σ H Q => ∃ Hf env ds env', ER K mg Hf H env σ ∧ Reps K mg Hf ds vs ∧ asgs ts ds env = some env' ∧ AsgK K mg Hf H env σ (ixs ts) env' Q
end
theorem PG.imp {X : Cx} {e : Expr} {t t' : L2.TG} (h : PG X e t) (i : ∀ v σ H Q, t' v σ H Q → t v σ H Q) : PG X e t' := ⟨fun pins s σ H v u Q I r q => h.run pins s σ H v u Q I r (i v σ H Q q)⟩
theorem PGs.imp {X : Cx} {e : List Expr} {t t' : TGs} (h : PGs X e t) (i : ∀ v σ H Q, t' v σ H Q → t v σ H Q) : PGs X e t' := ⟨fun pins s σ H v u Q I r q => h.run pins s σ H v u Q I r (i v σ H Q q)⟩
theorem PTs.imp {X : Cx} {e : List Expr} {t t' : TT} (h : PTs X e t) (i : ∀ σ H Q, t' σ H Q → t σ H Q) : PTs X e t' := ⟨fun pins s σ H Q I q => h.run pins s σ H Q I (i σ H Q q)⟩
section
variable {X : Cx} {W : WX} {K : PySem.W.Frag} {mg : Str → Option Value} {H H1 H' Hf Hf1 Hf' : Hp} {env e1 e2 env' : Env} {σ : St} {i : Nat} {pos p : Pos}
theorem g_nm {e : Expr} (h : PG X e (gName i)) : PG X e (tG X.K X.mg (.nm i)) := by
  refine PG.imp h fun v σ H Q ⟨Hf, env, d, env', R, r, ha, k⟩ => ?_
  unfold asg at ha
  have hio : noIo env i := by
    cases q : getS env i <;> first | (rw [q] at ha; cases ha; done) | exact noIo_of q (by intro d; simp)
  have he : env.set i (.val d) = env' := by
    cases q : getS env i <;> rw [q] at ha <;> first | exact Option.some.inj ha | cases ha
  subst he
  obtain ⟨R', t, m⟩ := R.setS (s := .val d) (o := some v) (.inr ⟨d, v, rfl, rfl, r⟩) hio
  exact k _ R' t m fun j hj => List.getElem?_set_ne (fun q => hj (by subst q; simp [TG.ix]))
theorem gs_nil : PGs X [] (tGs X.K X.mg []) := by
  refine PGs.imp pgs_nil fun vs σ H Q ⟨Hf, env, ds, env', R, r, ha, k⟩ => ?_
  cases r with
  | nil => cases ha; exact ⟨rfl, k σ R TrS.refl (fun _ h => h) fun _ _ => rfl⟩
  | cons _ _ => cases ha
theorem gs_cons {e : Expr} {es : List Expr} {t : TG} {ts : List TG} (h1 : PG X e (tG X.K X.mg t)) (h2 : PGs X es (tGs X.K X.mg ts))
    (hs : (assignEach (e :: es) X.env).map (·.2) = assign e X.env :: (assignEach es X.env).map (·.2)) : PGs X (e :: es) (tGs X.K X.mg (t :: ts)) := by
  refine PGs.imp (pgs_cons h1 h2 hs) fun vs σ H Q ⟨Hf, env, ds, env', R, r, ha, k⟩ => ?_
  cases r with
  | nil => cases ha
  | @cons d ds v vs r rs =>
    unfold asgs at ha
    cases q : asg t d env with
    | none => rw [q] at ha; cases ha
    | some em =>
      rw [q] at ha
      refine ⟨v, vs, rfl, Hf, env, d, em, R, r, q, fun σ1 R1 t1 m1 n1 => ⟨Hf, em, ds, env', R1, rs, ha, fun σ2 R2 t2 m2 n2 => k σ2 R2 (t1.trans t2) (fun j h => m1 j (m2 j h)) fun j hj => ?_⟩⟩
      have hj1 : j ∉ t.ix := fun z => hj (by simp [ixs, z])
      have hj2 : j ∉ ixs ts := fun z => hj (by simp [ixs, z])
      rw [n2 j hj2, n1 j hj1]
theorem asgs_len : ∀ {ts : List TG} {ds : List D} {env env' : Env}, asgs ts ds env = some env' → ds.length = ts.length
  | [], [], _, _, _ => rfl
  | [], _ :: _, _, _, h => by cases h
  | _ :: _, [], _, _, h => by cases h
  | t :: ts, d :: ds, env, env', h => by
    unfold asgs at h
    cases q : asg t d env with
    | none => rw [q] at h; cases h
    | some em => rw [q] at h; simp [asgs_len h]
theorem g_tup {es : List Expr} {k : Nat} {ts : List TG} (hc : X.calm = true) (h : PGs X es (tGs X.K X.mg ts)) (hn : (assignEach es X.env).length = ts.length) (hst : (assignEach es X.env).findIdx? (·.1) = none) : PG X (.Tuple es k pos) (tG X.K X.mg (.tup ts)) := by
  refine PG.imp (pg_tup hc h hn hst) fun v σ H Q ⟨Hf, env, d, env', R, r, ha, k⟩ => ?_
  cases d <;> try (unfold asg at ha; cases ha)
  rename_i ds
  unfold asg at ha
  obtain ⟨a, vs, rfl, h1, h2⟩ := r.tupInv
  exact ⟨a, vs, rfl, same_t R.le h1, by rw [← h2.length]; exact asgs_len ha, Hf, env, ds, env', R, h2, ha, k⟩

/-! ### comprehensions -/
theorem wipe_get (σ : St) (j : Nat) : ∀ vs : List Nat, (wipe σ vs)[j]? = if j ∈ vs then (if j < σ.length then some none else none) else σ[j]?
  | [] => by simp [wipe]
  | v :: vs => by
    unfold wipe
    by_cases hj : v = j
    · subst hj
      rw [if_pos (by simp)]
      by_cases hl : v < σ.length
      · rw [if_pos hl, List.getElem?_set_self (by rw [wipe_length]; exact hl)]
      · rw [if_neg hl, List.getElem?_eq_none (by rw [List.length_set, wipe_length]; omega)]
    · rw [List.getElem?_set_ne hj, wipe_get σ j vs]
      have : j ∈ v :: vs ↔ j ∈ vs := by simp [Ne.symm hj]
      simp only [this]
theorem wipe_same {σ σ' : St} {vs : List Nat} (hl : σ'.length = σ.length) (h : ∀ j, j ∉ vs → σ'[j]? = σ[j]?) : wipe σ' vs = wipe σ vs := by
  refine List.ext_getElem? fun j => ?_
  rw [wipe_get, wipe_get, hl]
  by_cases hj : j ∈ vs
  · rw [if_pos hj, if_pos hj]
  · rw [if_neg hj, if_neg hj, h j hj]
theorem wipe_wipe {σ : St} {vs : List Nat} : wipe (wipe σ vs) vs = wipe σ vs := wipe_same (wipe_length _ _) fun j hj => by rw [wipe_get, if_neg hj]
theorem wipeE_ok : ∀ {vs : List Nat} {env env' : Env}, wipeE env vs = some env' → ER K mg Hf H env σ → ER K mg Hf H env' (wipe σ vs) ∧ TrS Hf H env σ Hf H env' (wipe σ vs) ∧ (∀ j, Mt env' j → Mt env j ∧ j ∉ vs) ∧ (∀ j, j ∈ vs → ¬ Mt env j) ∧ ∀ j, j ∉ vs → env'[j]? = env[j]?
  | [], env, env', h, R => by
    cases h
    exact ⟨R, TrS.refl, fun _ h => ⟨h, by simp⟩, fun j hj => by simp at hj, fun _ _ => rfl⟩
  | v :: vs, env, env', h, R => by
    unfold wipeE at h
    have key : (∀ d, getS env v ≠ .own d) ∧ (∀ d, getS env v ≠ .io d) ∧ ∃ e, wipeE env vs = some e ∧ e.set v .no = env' := by
      cases q : getS env v <;> rw [q] at h <;> first
        | cases h
        | (refine ⟨by simp, by simp, ?_⟩
           obtain ⟨e, h1, h2⟩ := Option.map_eq_some_iff.mp h
           exact ⟨e, h1, h2⟩)
    obtain ⟨k1, k2, e, h1, h2⟩ := key
    obtain ⟨R1, t1, m1, n1, s1⟩ := wipeE_ok h1 R
    have nm : ¬ Mt env v := fun ⟨d, hd⟩ => by
      have : getS env v = .own d ∨ getS env v = .io d := by
        unfold getS
        rw [List.getD_eq_getElem?_getD]
        rcases hd with hd | hd <;> rw [hd] <;> simp
      rcases this with z | z
      · exact k1 d z
      · exact k2 d z
    have hio : noIo e v := fun d z => nm (m1 v ⟨d, .inr z⟩).1
    obtain ⟨R2, t2, m2⟩ := R1.setS (s := .no) (o := none) (i := v) (.inl rfl) hio
    subst h2
    refine ⟨R2, t1.trans t2, fun j hj => ?_, fun j hj => ?_, fun j hj => ?_⟩
    · obtain ⟨z1, z2⟩ := m1 j (m2 j hj)
      have := (mt_set (.inl rfl) hj).1
      exact ⟨z1, by simp [this, z2]⟩
    · rcases List.mem_cons.mp hj with z | z
      · rw [z]; exact nm
      · exact n1 j z
    · have a1 : v ≠ j := fun z => hj (by simp [z])
      have a2 : j ∉ vs := fun z => hj (by simp [z])
      rw [List.getElem?_set_ne a1, s1 j a2]
theorem backE_get (old : Env) (j : Nat) : ∀ (vs : List Nat) (env : Env), old.length = env.length → (backE old env vs)[j]? = if j ∈ vs then old[j]? else env[j]?
  | [], env, _ => by simp [backE]
  | v :: vs, env, hl => by
    unfold backE
    have hlen : ∀ ws : List Nat, (backE old env ws).length = env.length := fun ws => by
      induction ws with
      | nil => rfl
      | cons w ws ih => unfold backE; rw [List.length_set, ih]
    by_cases hj : v = j
    · subst hj
      rw [if_pos (by simp)]
      by_cases hv : v < env.length
      · rw [List.getElem?_set_self (by rw [hlen]; exact hv)]
        unfold getS
        rw [List.getD_eq_getElem?_getD, List.getElem?_eq_getElem (by omega)]
        rfl
      · rw [List.getElem?_eq_none (by rw [List.length_set, hlen]; omega), List.getElem?_eq_none (by omega)]
    · rw [List.getElem?_set_ne hj, backE_get old j vs env hl]
      have : j ∈ v :: vs ↔ j ∈ vs := by simp [Ne.symm hj]
      simp only [this]
theorem backE_len (old env : Env) (vs : List Nat) : (backE old env vs).length = env.length := by
  induction vs with
  | nil => rfl
  | cons w ws ih => unfold backE; rw [List.length_set, ih]
/-- behind the block the own names are as they were -/
theorem back_ok {vs : List Nat} (R0 : ER K mg Hf H e1 σ) (nm : ∀ j, j ∈ vs → ¬ Mt e1 j) (R : ER K mg Hf' H' env' (wipe σ vs)) (t : TrS Hf H e1 σ Hf' H' env' (wipe σ vs)) (m : ∀ j, Mt env' j → Mt e1 j) :
    ER K mg Hf' H' (backE e1 env' vs) σ ∧ Tr false Hf H e1 Hf' H' (backE e1 env' vs) σ := by
  have hl := t.len
  have get := fun j => backE_get e1 j vs env' hl.symm
  have mtb : ∀ j, Mt (backE e1 env' vs) j → j ∉ vs ∧ Mt env' j := fun j ⟨d, h⟩ => by
    rw [get j] at h
    by_cases hj : j ∈ vs
    · rw [if_pos hj] at h; exact absurd ⟨d, h⟩ (nm j hj)
    · rw [if_neg hj] at h; exact ⟨hj, d, h⟩
  have sg : ∀ j, j ∉ vs → (wipe σ vs)[j]? = σ[j]? := fun j hj => by rw [wipe_get, if_neg hj]
  refine ⟨⟨R.le, by rw [backE_len, hl, R0.len], fun j d h => ?_, fun j d h => ?_, fun j k b hj hk ej ek => ?_⟩, ⟨t.up, by rw [backE_len, hl], fun j h => m j (mtb j h).2, fun j d h => ?_, t.fr, t.new, (fun h => nomatch h), t.there⟩⟩
  · rw [get j] at h
    by_cases hj : j ∈ vs
    · rw [if_pos hj] at h
      obtain ⟨v, e, r⟩ := R0.val j d h
      exact ⟨v, e, r.up t.up⟩
    · rw [if_neg hj] at h
      obtain ⟨v, e, r⟩ := R.val j d h
      exact ⟨v, by rw [← sg j hj]; exact e, r⟩
  · obtain ⟨hj, _⟩ := mtb j ⟨d, h⟩
    rw [get j, if_neg hj] at h
    rw [← sg j hj]
    exact R.mu j d h
  · obtain ⟨hj', mj⟩ := mtb j hj
    obtain ⟨hk', mk⟩ := mtb k hk
    rw [← sg j hj'] at ej
    rw [← sg k hk'] at ek
    exact R.inj j k b mj mk ej ek
  · have hj : j ∉ vs := fun z => nm j z ⟨d, .inr h⟩
    rw [get j, if_neg hj]
    exact (t.io j d h).1
theorem Out.up {d : D} {v : V} {fr : Bool} (e : Same Hf Hf') (o : Out K mg Hf H fr d v H') : Out K mg Hf' H fr d v H' := by
  cases o with
  | old h => exact .old (h.up e)
  | tup hp hs => exact .tup hp (hs.up e)
  | lst hp hs => exact .lst hp (hs.up e)
abbrev WF : WX := fun _ _ _ _ => False
theorem compL_step {vs : List Nat} {base : Env} {t : TG} {mc me : Env → RE} {x : D} {xs : List D} {env : Env} {acc : List D} : compL vs base t mc me (x :: xs) env acc = match asg t x env with
    | none => .no
    | some e1 => match mc e1 with
      | .ok (.bl true) _ e2 => match me e2 with
        | .ok d _ e3 => if acc.length < lim then (match wipeE e3 vs with
          | some e4 => compL vs base t mc me xs e4 (acc ++ [d])
          | none => .no) else .no
        | _ => .no
      | .ok (.bl false) _ e2 => (match wipeE e2 vs with
        | some e4 => compL vs base t mc me xs e4 acc
        | none => .no)
      | _ => .no := rfl
theorem lc_ok {vs : List Nat} {t : TG} {pi pe : Bool} {mi : Env → REs} {mc me : Env → RE} (hix : ∀ j ∈ t.ix, j ∈ vs) {σ : St} {H : Hp} {Q : VK}
    (h : tI K mg W true false (fun env => (mi env).bind fun ds e1 => match wipeE e1 vs with
      | none => .no
      | some e2 => (compL vs e1 t mc me ds e2 []).bind fun rs e3 => .ok (.lst rs) true (backE e1 e3 vs)) σ H Q) :
    tLc (tJ K mg W pi mi) (tG K mg t) (tTI K mg WF mc) (tI K mg WF true pe me) vs σ H Q := by
  obtain ⟨Hf, env, R, g⟩ := h
  refine ⟨Hf, env, R, ?_⟩
  dsimp only at g
  cases q : mi env with
  | no => rw [q] at g; exact g.elim
  | ex x e2 => rw [q] at g; exact fun C H2 Hf2 hC R2 t2 => g C H2 Hf2 hC R2 (t2.weak fun h => nomatch h)
  | ok ds e1 =>
    rw [q] at g
    refine fun J H1 Hf1 R1 t1 wd Dd hD => ?_
    cases hw : wipeE e1 vs with
    | none =>
      have g : GE K mg W true false Hf H env σ Q (match wipeE e1 vs with
        | none => .no
        | some e2 => (compL vs e1 t mc me ds e2 []).bind fun rs e3 => .ok (.lst rs) true (backE e1 e3 vs)) := g
      rw [hw] at g; exact g.elim
    | some e2 =>
      have g : GE K mg W true false Hf H env σ Q (match wipeE e1 vs with
        | none => .no
        | some e2 => (compL vs e1 t mc me ds e2 []).bind fun rs e3 => .ok (.lst rs) true (backE e1 e3 vs)) := g
      rw [hw] at g
      have g : GE K mg W true false Hf H env σ Q ((compL vs e1 t mc me ds e2 []).bind fun rs e3 => .ok (.lst rs) true (backE e1 e3 vs)) := g
      obtain ⟨RD, tD⟩ := R1.grow (pu := true) (o := .lst []) hD
      have hFD := R1.freshF hD
      have nD := R1.fresh hD
      obtain ⟨R2, t2, m2, nm, _⟩ := wipeE_ok hw RD
      have t02 := tD.s.trans t2
      refine lc_it wd (fun i H' => ∃ Hf' e acc ws, ER K mg Hf' H' e (wipe σ vs) ∧ TrS Hf1 H1 e1 σ Hf' H' e (wipe σ vs) ∧ (∀ j, Mt e j → Mt e1 j) ∧ H' Dd = some (.lst ws) ∧ Reps K mg Hf' acc ws ∧ Hf' Dd = none ∧ ¬ OwnAt e (wipe σ vs) Dd ∧
          GE K mg W true false Hf H env σ Q ((compL vs e1 t mc me (ds.drop i) e acc).bind fun rs e3 => .ok (.lst rs) true (backE e1 e3 vs)))
        ⟨Hf1, e2, [], [], R2, t02, fun j h => (m2 j h).1, upd_same, .nil, hFD, fun z => ?_, by rw [List.drop_zero]; exact g⟩ (fun i H' _ ⟨Hf', e, acc, ws, Re, te, _⟩ => te.up.trans Re.le) ?_ ?_
      · rcases t02.own Dd z with z | z
        · exact nD z
        · exact absurd z (by
            have := R2.fresh (a := Dd)
            intro _
            exact nD (by
              obtain ⟨j, mj, ej⟩ := ‹OwnAt e2 (wipe σ vs) Dd›
              obtain ⟨mj1, hj⟩ := m2 j mj
              rw [wipe_get, if_neg hj] at ej
              exact ⟨j, mj1, ej⟩))
      · rintro i x H2 H3 hi ⟨Hf2, e, acc, ws, Re, te, me1, hDe, ra, hFe, nDe, g⟩ ⟨d, hd, o⟩
        have hdr : ds.drop i = d :: ds.drop (i + 1) := by
          obtain ⟨hlt, e⟩ := List.getElem?_eq_some_iff.mp hd
          rw [List.drop_eq_getElem_cons hlt, e]
        rw [hdr, compL_step] at g
        obtain ⟨Hf3, R3, t3, z3⟩ := (o.up te.up).done Re
        have r3 : Rep K mg Hf3 d x := by
          unfold VR at z3
          simpa using z3
        cases qa : asg t d e with
        | none => rw [qa] at g; exact g.elim
        | some e3 =>
          rw [qa] at g
          refine ⟨Hf3, e, d, e3, R3, r3, qa, fun σ4 R4 t4 m4 n4 => ⟨?_, Hf3, e3, R4, ?_⟩⟩
          · have hl : σ4.length = (wipe σ vs).length := by rw [← R4.len, t4.len, R3.len]
            rw [wipe_same hl fun j hj => n4 j fun z => hj (hix j z), wipe_wipe]
          have hl4 : wipe σ4 vs = wipe σ vs := by
            have hl : σ4.length = (wipe σ vs).length := by rw [← R4.len, t4.len, R3.len]
            rw [wipe_same hl fun j hj => n4 j fun z => hj (hix j z), wipe_wipe]
          have T4 := te.trans (t3.s.trans t4)
          have M4 : ∀ j, Mt e3 j → Mt e1 j := fun j h => me1 j (m4 j h)
          have own4 : ∀ {e' σ'} {Hx Hy : Hp}, TrS Hf1 H1 e1 σ Hx Hy e' σ' → (∀ j, Mt e' j → Mt e1 j) → ER K mg Hx Hy e' σ' → OwnAt e' σ' Dd → OwnAt e' σ' Dd := fun _ _ _ z => z
          have nD4 : ¬ OwnAt e3 σ4 Dd := fun z => by
            rcases (t3.s.trans t4).own Dd z with y | y
            · exact nDe y
            · rw [hDe] at y; cases y
          have hD3 : H3 Dd = some (.lst ws) := t3.fr Dd _ hDe nDe
          have hF3 : Hf3 Dd = none := by
            cases y : Hf3 Dd with
            | none => rfl
            | some o' =>
              rcases t3.new Dd (by rw [y]; simp) with z | z | z
              · exact absurd hFe z
              · rw [hDe] at z; cases z
              · exact absurd z nDe
          -- a step of the block keeps the new list
          have stp : ∀ {b : Bool} {Hx Hy : Hp} {e' : Env}, Tr b Hf3 H3 e3 Hx Hy e' σ4 → ER K mg Hx Hy e' σ4 → TrS Hf1 H1 e1 σ Hx Hy e' σ4 ∧ (∀ j, Mt e' j → Mt e1 j) ∧ Hy Dd = some (.lst ws) ∧ Hx Dd = none ∧ ¬ OwnAt e' σ4 Dd := fun {b Hx Hy e'} t r => by
            refine ⟨T4.trans t.s, fun j h => M4 j (t.mt j h), t.fr Dd _ hD3 nD4, ?_, fun z => nD4 (z.back t.mt)⟩
            cases y : Hx Dd with
            | none => rfl
            | some o' =>
              rcases t.new Dd (by rw [y]; simp) with z | z | z
              · exact absurd hF3 z
              · rw [hD3] at z; cases z
              · exact absurd z nD4
          -- the turn's end
          have endT : ∀ {Hx Hy : Hp} {e' e4 : Env} {acc' : List D} {ws' : List V}, ER K mg Hx Hy e' σ4 → TrS Hf1 H1 e1 σ Hx Hy e' σ4 → (∀ j, Mt e' j → Mt e1 j) → Hy Dd = some (.lst ws') → Hx Dd = none → ¬ OwnAt e' σ4 Dd → Reps K mg Hx acc' ws' → wipeE e' vs = some e4 →
              GE K mg W true false Hf H env σ Q ((compL vs e1 t mc me (ds.drop (i + 1)) e4 acc').bind fun rs e3 => .ok (.lst rs) true (backE e1 e3 vs)) →
              ∃ Hf' e acc ws, ER K mg Hf' Hy e (wipe σ vs) ∧ TrS Hf1 H1 e1 σ Hf' Hy e (wipe σ vs) ∧ (∀ j, Mt e j → Mt e1 j) ∧ Hy Dd = some (.lst ws) ∧ Reps K mg Hf' acc ws ∧ Hf' Dd = none ∧ ¬ OwnAt e (wipe σ vs) Dd ∧
                GE K mg W true false Hf H env σ Q ((compL vs e1 t mc me (ds.drop (i + 1)) e acc).bind fun rs e3 => .ok (.lst rs) true (backE e1 e3 vs)) := fun {Hx Hy e' e4 acc' ws'} r tr mm a1 a2 a3 a4 w g => by
            obtain ⟨R5, t5, m5, _, _⟩ := wipeE_ok w r
            rw [hl4] at R5 t5
            refine ⟨Hx, e4, acc', ws', R5, tr.trans t5, fun j h => mm j (m5 j h).1, a1, a4, a2, fun z => ?_, g⟩
            rcases t5.own Dd z with y | y
            · exact a3 y
            · rw [a1] at y; cases y
          cases qc : mc e3 with
          | no => simp only [qc] at g; exact g.elim
          | ex x e4 => simp only [qc] at g; exact g.elim
          | ok c fc e4 =>
            simp only [qc] at g
            cases c <;> try exact g.elim
            rename_i b
            refine fun H4 Hf4 R5 t5 => ?_
            obtain ⟨a1, a2, a3, a4, a5⟩ := stp t5 R5
            cases b with
            | false =>
              rw [if_neg Bool.false_ne_true]
              cases qw : wipeE e4 vs with
              | none => simp only [qw] at g; exact g.elim
              | some e5 =>
                simp only [qw] at g
                exact endT R5 a1 a2 a3 a4 a5 ((ra.up t3.up).up t5.up) qw g
            | true =>
              rw [if_pos rfl]
              refine ⟨Hf4, e4, R5, ?_⟩
              cases qe : me e4 with
              | no => simp only [qe] at g; exact g.elim
              | ex x e4 => simp only [qe] at g; exact g.elim
              | ok dy fy e5 =>
                simp only [qe] at g
                refine fun y H5 Hf5 R6 t6 z6 => ?_
                obtain ⟨Hf6, R6, t6, z6⟩ := stab R5 R6 t6 z6
                obtain ⟨b1, b2, b3, b4, b5⟩ := stp (t5.trans t6) R6
                by_cases hac : acc.length < lim
                · simp only [hac, if_true] at g
                  have ra6 : Reps K mg Hf6 acc ws := ((ra.up t3.up).up t5.up).up t6.up
                  cases qw : wipeE e5 vs with
                  | none => simp only [qw] at g; exact g.elim
                  | some e6 =>
                    simp only [qw] at g
                    refine ⟨ws, b3, by rw [← ra.length]; exact Nat.lt_of_lt_of_le hac (lim_line (Nat.le_refl _)), ?_⟩
                    refine endT (R6.updN b4 b5) ⟨b1.up, b1.len, b1.own, b1.io, fun a o h n => ?_, b1.new, fun a h => ?_⟩ b2 upd_same b4 b5 (ra6.app (Reps.one z6)) qw g
                    · have ha : a ≠ Dd := fun z => by rw [z, hD] at h; cases h
                      rw [upd_ne ha]; exact b1.fr a o h n
                    · by_cases ha : a = Dd
                      · rw [ha, upd_same]; simp
                      · rw [upd_ne ha]; exact b1.there a h
                · simp only [hac, if_false] at g; exact g.elim
      · rintro H3 ⟨Hf2, e, acc, ws, Re, te, me1, hDe, ra, hFe, nDe, g⟩
        rw [List.drop_length] at g
        have g : GE K mg W true false Hf H env σ Q (.ok (.lst acc) true (backE e1 e vs)) := g
        obtain ⟨Rb, tb⟩ := back_ok R1 nm Re te me1
        refine g _ _ _ Rb (t1.trans tb |>.weak fun h => nomatch h) ?_
        unfold VR
        rw [if_pos rfl]
        refine ⟨Dd, rfl, ?_, hFe, .lst hDe ra⟩
        cases y : H Dd with
        | none => rfl
        | some o => exact absurd hD (t1.there Dd (by rw [y]; simp))
theorem s_comp {tg iter elt : Expr} {ifs : List Expr} {scope : Scope} {own : List (Str × Nat)} {t : TG} {pi pe : Bool} {mi : Env → REs} {mc me : Env → RE} (hc : X.calm = true) (hN : X.N.Nodup) (hi : PI X tg iter (tJ X.K X.mg W pi mi)) (ok : BlkOk X.N X.env.scope scope own) (hix : ∀ j ∈ t.ix, j ∈ own.map (·.2))
    (hg : ∀ (s : Shared) (H : Hp) (C : Addr) (cl : List (Str × Addr)) (fp : List Addr), PG (X.blk s H scope (compEnvC scope cl C X.env) fp) tg (tG X.K X.mg t)) (ht : ∀ (s : Shared) (H : Hp) (C : Addr) (cl : List (Str × Addr)) (fp : List Addr), PTs (X.blk s H scope (compEnvC scope cl C X.env) fp) ifs (tTI X.K X.mg WF mc))
    (he : ∀ (s : Shared) (H : Hp) (C : Addr) (cl : List (Str × Addr)) (fp : List Addr), PE (X.blk s H scope (compEnvC scope cl C X.env) fp) elt (tI X.K X.mg WF true pe me)) (hs : ∀ x, foldedSetIterable iter X.env x = pure x) :
    PE X (.ListComp elt [⟨tg, iter, ifs, 0⟩] scope pos) (tI X.K X.mg W true false fun env => (mi env).bind fun ds e1 => match wipeE e1 (own.map (·.2)) with
      | none => .no
      | some e2 => (compL (own.map (·.2)) e1 t mc me ds e2 []).bind fun rs e3 => .ok (.lst rs) true (backE e1 e3 (own.map (·.2)))) :=
  PE.imp (pe_lc hc hN hi ok hg ht he hs) fun σ H Q h => lc_ok hix h
end
end Cor
set_option Elab.async false
set_option linter.all false
set_option maxRecDepth 100000
set_option maxHeartbeats 2000000
/-! Cor9: statements. -/
namespace Cor
open PySem PySem.Spec L2

section
variable (K : PySem.W.Frag) (mg : Str → Option Value) (W : WX)
/-- what is handed back: new, or owned so far and let go -/
def RV (fr : Bool) (d : D) (v : V) (H : Hp) (env : Env) (σ : St) (Hf' H' : Hp) (env' : Env) (σ' : St) : Prop :=
  if fr = true then ∃ p, v = .ref p ∧ (H p = none ∨ OwnAt env σ p) ∧ ¬ OwnAt env' σ' p ∧ Hf' p = none ∧ Cont K mg Hf' H' d p else Rep K mg Hf' d v
def GS (Hf H : Hp) (env : Env) (σ : St) (D : Ends) : RS → Prop
  | .nx e => ∀ σ' H' Hf', ER K mg Hf' H' e σ' → TrS Hf H env σ Hf' H' e σ' → D.nx σ' H'
  | .rt d fr e => ∀ v σ' H' Hf', ER K mg Hf' H' e σ' → TrS Hf H env σ Hf' H' e σ' → RV K mg fr d v H env σ Hf' H' e σ' → D.rt v H'
  | .bk e => ∀ σ' H' Hf', ER K mg Hf' H' e σ' → TrS Hf H env σ Hf' H' e σ' → D.bk σ' H'
  | .ct e => ∀ σ' H' Hf', ER K mg Hf' H' e σ' → TrS Hf H env σ Hf' H' e σ' → D.ct σ' H'
  | .ex c e => ∀ C σ' H' Hf', mg c.cls = some (.ref C) → ER K mg Hf' H' e σ' → TrS Hf H env σ Hf' H' e σ' → W (.ref C) none σ' H'
  | .no => False
def tS (m : Env → RS) : TS := fun D σ H => ∃ Hf env, ER K mg Hf H env σ ∧ GS K mg W Hf H env σ D (m env)
end
theorem PSs.imp {X : Cx} {e : List Stmt} {t t' : TS} (h : PSs X e t) (i : ∀ D σ H, t' D σ H → t D σ H) : PSs X e t' := ⟨fun pins s σ H D I q => h.run pins s σ H D I (i D σ H q)⟩

section
variable {K : PySem.W.Frag} {mg : Str → Option Value} {W : WX} {H H1 H2 H' Hf Hf1 Hf2 Hf' : Hp} {env e1 e2 env' : Env} {σ σ1 σ' : St} {d : D} {v : V} {pu p1 fr st st1 : Bool} {Q : VK} {D : Ends} {i : Nat}
theorem RV.back {H0 Hf0 : Hp} {env0 : Env} {σ0 : St} (t : TrS Hf0 H0 env0 σ0 Hf H env σ) (h : RV K mg fr d v H env σ Hf' H' env' σ') : RV K mg fr d v H0 env0 σ0 Hf' H' env' σ' := by
  unfold RV at h ⊢
  cases fr with
  | false => exact h
  | true =>
    rw [if_pos rfl] at h ⊢
    obtain ⟨p, e, hp, r⟩ := h
    refine ⟨p, e, ?_, r⟩
    rcases hp with hp | hp
    · refine .inl ?_
      cases q : H0 p with
      | none => rfl
      | some o => exact absurd hp (t.there p (by rw [q]; simp))
    · exact (t.own p hp).symm
theorem GS.chain {r : RS} (g : GS K mg W Hf H env σ D r) (t : TrS Hf H env σ Hf1 H1 e1 σ1) : GS K mg W Hf1 H1 e1 σ1 D r := by
  cases r with
  | nx e => exact fun σ' H' Hf' a b => g σ' H' Hf' a (t.trans b)
  | rt d fr e => exact fun v σ' H' Hf' a b c => g v σ' H' Hf' a (t.trans b) (c.back t)
  | bk e => exact fun σ' H' Hf' a b => g σ' H' Hf' a (t.trans b)
  | ct e => exact fun σ' H' Hf' a b => g σ' H' Hf' a (t.trans b)
  | ex c e => exact fun C σ' H' Hf' h a b => g C σ' H' Hf' h a (t.trans b)
  | no => exact g
/-- an expression ahead -/
theorem GS.first {r : RE} {k : Cor.D → Bool → Env → RS} {Q1 : VK} (g : GS K mg W Hf H env σ D (r.bindS k))
    (c : ∀ d fr e2 v H2 Hf2, r = .ok d fr e2 → ER K mg Hf2 H2 e2 σ → Tr p1 Hf H env Hf2 H2 e2 σ → VR K mg fr st1 d v H Hf2 H2 → GS K mg W Hf H env σ D (k d fr e2) → Q1 v H2) : GE K mg W st1 p1 Hf H env σ Q1 r := by
  cases r with
  | ok d fr e2 => exact fun v H2 Hf2 a b z => c d fr e2 v H2 Hf2 rfl a b z g
  | ex x e2 => exact fun C H2 Hf2 hC a b => g C σ H2 Hf2 hC a b.s
  | no => exact g.elim
/-- .. not the first -/
theorem GS.next {r : RE} {k : Cor.D → Bool → Env → RS} {Q1 : VK} (g : GS K mg W Hf H env σ D (r.bindS k)) (t : TrS Hf H env σ Hf1 H1 e1 σ1)
    (c : ∀ d fr e2 v H2 Hf2, r = .ok d fr e2 → ER K mg Hf2 H2 e2 σ1 → Tr p1 Hf1 H1 e1 Hf2 H2 e2 σ1 → VR K mg fr st1 d v H1 Hf2 H2 → GS K mg W Hf1 H1 e1 σ1 D (k d fr e2) → Q1 v H2) : GE K mg W st1 p1 Hf1 H1 e1 σ1 Q1 r :=
  (g.chain t).first c
theorem GS.test {r : RE} {k : Cor.D → Bool → Env → RS} {Q1 : Bool → Hp → Prop} (g : GS K mg W Hf H env σ D (r.bindS k)) (hb : ∀ d fr e2, r = .ok d fr e2 → (∃ b, d = .bl b) ∨ k d fr e2 = .no)
    (c : ∀ b fr e2 H2 Hf2, r = .ok (.bl b) fr e2 → ER K mg Hf2 H2 e2 σ → Tr false Hf H env Hf2 H2 e2 σ → GS K mg W Hf H env σ D (k (.bl b) fr e2) → Q1 b H2) : GT K mg W Hf H env σ Q1 r := by
  cases r with
  | no => exact g.elim
  | ex x e2 => exact fun C H2 Hf2 hC a b => g C σ H2 Hf2 hC a b.s
  | ok d fr e2 =>
    rcases hb d fr e2 rfl with ⟨b, rfl⟩ | q
    · exact fun H2 Hf2 R2 t2 => c b fr e2 H2 Hf2 rfl R2 t2 g
    · have g : GS K mg W Hf H env σ D (k d fr e2) := g
      rw [q] at g; exact g.elim
theorem putS_inv {i : Nat} {d : Cor.D} {fr : Bool} {r : RS} (h : putS env i d fr = r) : r = .no ∨ noIo env i ∧ r = .nx (env.set i (if fr = true then .own d else .val d)) := by
  unfold putS at h
  cases q : getS env i <;> rw [q] at h <;> first
    | exact .inl h.symm
    | exact .inr ⟨noIo_of q (by intro d; simp), h.symm⟩
/-- a slot is set -/
theorem GS.put {Hs H0 : Hp} {env0 : Env} {σ0 : St} (g : GS K mg W Hs H0 env0 σ0 D (putS env i d fr)) (t : TrS Hs H0 env0 σ0 Hf H env σ) (R : ER K mg Hf H env σ) (no : ∀ p, H0 p = none → fr = true → v = .ref p → ¬ OwnAt env σ p) (z : VR K mg fr true d v H0 Hf H) : D.nx (σ.set i (some v)) H := by
  rcases putS_inv (rfl : putS env i d fr = _) with q | ⟨hio, q⟩
  · rw [q] at g; exact g.elim
  · rw [q] at g
    unfold VR at z
    cases fr with
    | false =>
      rw [if_neg Bool.false_ne_true] at g z
      obtain ⟨R', t', _⟩ := R.setS (s := .val d) (o := some v) (i := i) (.inr ⟨d, v, rfl, rfl, by simpa using z⟩) hio
      exact g _ _ _ R' (t.trans t')
    | true =>
      rw [if_pos rfl] at g z
      obtain ⟨p, rfl, hp, hn, c⟩ := z
      obtain ⟨R', t'⟩ := R.setO hn c (no p hp rfl rfl) hio t hp
      exact g _ _ _ R' t'
theorem set_ok {m : Env → RE} (h : tS K mg W (fun env => (m env).bindS fun d fr e1 => putS e1 i d fr) D σ H) : tI K mg W true false m σ H fun x H1 => D.nx (σ.set i (some x)) H1 := by
  obtain ⟨Hf, env, R, g⟩ := h
  exact ⟨Hf, env, R, g.first fun d fr e2 v H2 Hf2 _ R2 t2 z2 g2 => g2.put t2.s R2 (fun p hp _ _ q => R.fresh hp (q.back t2.mt)) z2⟩
end

section
variable {X : Cx} {W : WX} {a b c e tg : Expr} {es : List Expr} {pos p : Pos} {m ma mb mc : Env → RE} {ms mt : Env → RS} {st sa sb pa pb pc pu : Bool} {i j : Nat}
theorem s_expr (he : PE X e (tI X.K X.mg W sa pa m)) (hs : swapsWith e none pos.line X.env = pure false) : PS X (.Expr e pos) (tS X.K X.mg W fun env => (m env).bindS fun _ _ e1 => .nx e1) :=
  PS.imp (ps_expr he hs) fun D σ H ⟨Hf, env, R, g⟩ => ⟨Hf, env, R, g.first fun d fr e2 v H2 Hf2 _ R2 t2 z2 g2 => g2 σ H2 Hf2 R2 t2.s⟩
theorem s_ret (he : PE X e (tI X.K X.mg W true pa m)) : PS X (.Return (some e) pos) (tS X.K X.mg W fun env => (m env).bindS fun d fr e1 => .rt d fr e1) := by
  refine PS.imp (ps_ret he) fun D σ H ⟨Hf, env, R, g⟩ => ⟨Hf, env, R, g.first fun d fr e2 v H2 Hf2 _ R2 t2 z2 g2 => g2 v σ H2 Hf2 R2 t2.s ?_⟩
  unfold VR at z2
  unfold RV
  cases fr with
  | false => simpa using z2
  | true =>
    rw [if_pos rfl] at z2 ⊢
    obtain ⟨p, e, hp, r⟩ := z2
    exact ⟨p, e, .inl hp, fun q => R.fresh hp (q.back t2.mt), r⟩
theorem s_retN : PS X (.Return none pos) (tS X.K X.mg W fun env => .rt .non false env) :=
  PS.imp ps_retN fun D σ H ⟨Hf, env, R, g⟩ => g .non σ H Hf R TrS.refl (by unfold RV; exact .non)
/-- a slot is let go -/
theorem ER.drop {K : PySem.W.Frag} {mg : Str → Option Value} {H Hf : Hp} {env : Env} {σ : St} (R : ER K mg Hf H env σ) (hio : noIo env i) : ER K mg Hf H (env.set i .no) σ ∧ TrS Hf H env σ Hf H (env.set i .no) σ ∧ ∀ j, Mt (env.set i .no) j → j ≠ i ∧ Mt env j := by
  have ms := fun j => mt_set (env := env) (i := i) (s := .no) (.inl rfl) (j := j)
  have sub : ∀ j w, (env.set i .no)[j]? = some w → w ≠ .no → j ≠ i ∧ env[j]? = some w := fun j w h hw => by
    by_cases hj : i = j
    · subst hj
      by_cases hi : i < env.length
      · rw [List.getElem?_set_self hi] at h; cases h; exact absurd rfl hw
      · rw [List.getElem?_eq_none (by simpa using hi)] at h; cases h
    · rw [List.getElem?_set_ne hj] at h; exact ⟨Ne.symm hj, h⟩
  refine ⟨⟨R.le, by rw [List.length_set]; exact R.len, fun j d h => R.val j d (sub j _ h (by simp)).2, fun j d h => R.mu j d (by rcases h with h | h; exact .inl (sub j _ h (by simp)).2; exact .inr (sub j _ h (by simp)).2), fun j k b hj hk => R.inj j k b (ms j hj).2 (ms k hk).2⟩,
    ⟨Same.refl _, List.length_set, fun a ⟨j, m, e⟩ => .inl ⟨j, (ms j m).2, e⟩, fun j d h => ⟨⟨d, ?_⟩, rfl⟩, fun _ _ q _ => q, fun _ q => .inl q, fun _ q => q⟩, ms⟩
  by_cases hj : i = j
  · subst hj; exact absurd h (hio d)
  · rw [List.getElem?_set_ne hj]; exact h
theorem s_retV {e : Expr} (h : PE X e (tVar i)) : PS X (.Return (some e) pos) (tS X.K X.mg W fun env => match getS env i with
    | .own d => .rt d true (env.set i .no)
    | .val d => .rt d false env
    | _ => .no) := by
  refine PS.imp (ps_ret h) fun D σ H ⟨Hf, env, R, g⟩ => ?_
  dsimp only at g
  cases q : getS env i with
  | no => rw [q] at g; exact g.elim
  | io d => rw [q] at g; exact g.elim
  | val d =>
    rw [q] at g
    obtain ⟨v, e1, r⟩ := R.val i d (getS_lt q (by simp))
    exact ⟨v, e1, g v σ H Hf R TrS.refl (by unfold RV; simpa using r)⟩
  | own d =>
    rw [q] at g
    have hi := getS_lt q (by simp)
    obtain ⟨a, e1, n, c⟩ := R.mu i d (.inl hi)
    obtain ⟨R', t', m'⟩ := R.drop (i := i) (noIo_of q (by intro d; simp))
    refine ⟨_, e1, g _ σ H Hf R' t' ?_⟩
    unfold RV
    rw [if_pos rfl]
    refine ⟨a, rfl, .inr ⟨i, ⟨d, .inl hi⟩, e1⟩, fun ⟨j, m, ej⟩ => ?_, n, c⟩
    obtain ⟨hj, mj⟩ := m' j m
    exact hj (R.inj j i a mj ⟨d, .inl hi⟩ ej e1)
theorem s_pass : PS X (.Pass pos) (tS X.K X.mg W fun env => .nx env) := PS.imp ps_pass fun D σ H ⟨Hf, env, R, g⟩ => g σ H Hf R TrS.refl
theorem s_brk : PS X (.Break pos) (tS X.K X.mg W fun env => .bk env) := PS.imp ps_break fun D σ H ⟨Hf, env, R, g⟩ => g σ H Hf R TrS.refl
theorem s_cnt : PS X (.Continue pos) (tS X.K X.mg W fun env => .ct env) := PS.imp ps_continue fun D σ H ⟨Hf, env, R, g⟩ => g σ H Hf R TrS.refl
/-! ### blocks -/
theorem ss_nil : PSs X [] (tS X.K X.mg W fun env => .nx env) := PSs.imp pss_nil fun D σ H ⟨Hf, env, R, g⟩ => g σ H Hf R TrS.refl
theorem ss_cons {s : Stmt} {ss : List Stmt} (h1 : PS X s (tS X.K X.mg W ms)) (h2 : PSs X ss (tS X.K X.mg W mt)) : PSs X (s :: ss) (tS X.K X.mg W fun env => match ms env with
    | .nx e1 => mt e1
    | r => r) := by
  refine PSs.imp (pss_cons h1 h2) fun D σ H ⟨Hf, env, R, g⟩ => ⟨Hf, env, R, ?_⟩
  dsimp only at g
  cases q : ms env with
  | nx e1 =>
    rw [q] at g
    exact fun σ' H' Hf' R' t' => ⟨Hf', e1, R', g.chain t'⟩
  | rt d fr e => rw [q] at g; exact g
  | bk e => rw [q] at g; exact g
  | ct e => rw [q] at g; exact g
  | ex c e => rw [q] at g; exact g
  | no => rw [q] at g; exact g
theorem s_ifs {A B : List Stmt} (hc : PT X c (tTI X.K X.mg W mc)) (ha : PSs X A (tS X.K X.mg W ms)) (hb : PSs X B (tS X.K X.mg W mt)) : PS X (.If c A B pos) (tS X.K X.mg W fun env => (mc env).bindS fun x _ e1 => match x with
    | .bl true => ms e1
    | .bl false => mt e1
    | _ => .no) := by
  refine PS.imp (ps_if hc ha hb) fun D σ H ⟨Hf, env, R, g⟩ => ⟨Hf, env, R, g.test (fun d fr e2 _ => ?_) fun b fr e2 H2 Hf2 _ R2 t2 g2 => ?_⟩
  · cases d <;> first | exact .inl ⟨_, rfl⟩ | exact .inr rfl
  · cases b with
    | true => exact iteT ⟨Hf2, e2, R2, g2.chain t2.s⟩
    | false => exact iteF ⟨Hf2, e2, R2, g2.chain t2.s⟩
/-! ### stores -/
theorem s_set {x : Str} (hN : X.N.Nodup) (hi : X.N[i]? = some x) (hx : Loc X.env.scope x) (he : PE X e (tI X.K X.mg W true false m)) (hs : swapsWith e (some (.Name x p)) pos.line X.env = pure false) (hf : X.fn x = true ∨ X.env.scope.names.lookup x = some .local) :
    PS X (.Assign [.Name x p] e pos) (tS X.K X.mg W fun env => (m env).bindS fun d fr e1 => putS e1 i d fr) :=
  PS.imp (ps_set hN hi hx he hs hf) fun D σ H h => set_ok h
theorem s_setLc {y : Str} {py : Pos} {tg iter elt : Expr} {ifs : List Expr} {scope : Scope} {own : List (Str × Nat)} {spos : Pos} {t : TG} {pi pe : Bool} {mi : Env → REs} {mc me : Env → RE} (hc : X.calm = true) (hN : X.N.Nodup) (hy : X.N[i]? = some y) (hyl : X.env.scope.names.lookup y = some .local)
    (hsw : swapsWith (.ListComp elt [⟨tg, iter, ifs, 0⟩] scope pos) (some (.Name y py)) spos.line X.env = pure true) (hi : PI X tg iter (tJ X.K X.mg W pi mi)) (ok : BlkOk X.N X.env.scope scope own) (hix : ∀ j ∈ t.ix, j ∈ own.map (·.2))
    (hg : ∀ (s : Shared) (H : Hp) (C : Addr) (cl : List (Str × Addr)) (fp : List Addr), PG (X.blk s H scope (compEnvC scope cl C X.env) fp) tg (tG X.K X.mg t)) (ht : ∀ (s : Shared) (H : Hp) (C : Addr) (cl : List (Str × Addr)) (fp : List Addr), PTs (X.blk s H scope (compEnvC scope cl C X.env) fp) ifs (tTI X.K X.mg WF mc))
    (he : ∀ (s : Shared) (H : Hp) (C : Addr) (cl : List (Str × Addr)) (fp : List Addr), PE (X.blk s H scope (compEnvC scope cl C X.env) fp) elt (tI X.K X.mg WF true pe me)) (hs : ∀ x, foldedSetIterable iter X.env x = pure x) :
    PS X (.Assign [.Name y py] (.ListComp elt [⟨tg, iter, ifs, 0⟩] scope pos) spos) (tS X.K X.mg W fun env => (((mi env).bind fun ds e1 => match wipeE e1 (own.map (·.2)) with
      | none => .no
      | some e2 => (compL (own.map (·.2)) e1 t mc me ds e2 []).bind fun rs e3 => .ok (.lst rs) true (backE e1 e3 (own.map (·.2))))).bindS fun d fr e1 => putS e1 i d fr) :=
  PS.imp (ps_setLc hc hN hy hyl hsw hi ok hg ht he hs) fun D σ H h => lc_ok hix (set_ok (m := fun env => ((mi env).bind fun ds e1 => match wipeE e1 (own.map (·.2)) with
      | none => .no
      | some e2 => (compL (own.map (·.2)) e1 t mc me ds e2 []).bind fun rs e3 => .ok (.lst rs) true (backE e1 e3 (own.map (·.2))))) h)
theorem s_unp {t : TG} (he : PE X e (tI X.K X.mg W true false m)) (hg : PG X tg (tG X.K X.mg t)) (hs : swapsWithSole [tg] e pos.line X.env = pure false) (hw : swappedStores [tg] e X.env = pure none)
    (h1 : (assignEach [tg] X.env).map (·.2) = [assign tg X.env]) : PS X (.Assign [tg] e pos) (tS X.K X.mg W fun env => (m env).bindS fun d _ e1 => nxO (asg t d e1)) := by
  refine PS.imp (ps_asg he hg hs hw h1) fun D σ H ⟨Hf, env, R, g⟩ => ⟨Hf, env, R, g.first fun d fr e2 v H2 Hf2 _ R2 t2 z2 g2 => ?_⟩
  obtain ⟨Hf2, R2, t2, z2⟩ := stab R R2 t2 z2
  cases q : asg t d e2 with
  | none => rw [q] at g2; exact g2.elim
  | some e3 =>
    rw [q] at g2
    exact ⟨Hf2, e2, d, e3, R2, z2, q, fun σ3 R3 t3 _ _ => g2 σ3 H2 Hf2 R3 (t2.s.trans t3)⟩
/-! ### loops -/
theorem forL_cons {f : Cor.D → Env → RS} {x : Cor.D} {xs : List Cor.D} {env : Env} : forL f (x :: xs) env = match f x env with
    | .nx e => forL f xs e
    | .ct e => forL f xs e
    | .bk e => .nx e
    | r => r := rfl
theorem s_for {iter : Expr} {body : List Stmt} {t : TG} {mi : Env → REs} (hp : PassesOwn (model X.prog X.w) X.A X.env X.xe) (hc : X.calm = true) (hi : PI X tg iter (tJ X.K X.mg W pa mi)) (hg : PG X tg (tG X.K X.mg t)) (hb : PSs X body (tS X.K X.mg W ms))
    (hs : ∀ x, foldedSetIterable iter X.env x = pure x) : PS X (.For tg iter body [] pos) (tS X.K X.mg W fun env => (mi env).bindS fun ds e1 => forL (fun x e => match asg t x e with
      | some e2 => ms e2
      | none => .no) ds e1) := by
  refine PS.imp (ps_for hp hc hi hg hb hs) fun D σ H ⟨Hf, env, R, g⟩ => ⟨Hf, env, R, ?_⟩
  dsimp only at g
  cases q : mi env with
  | no => rw [q] at g; exact g.elim
  | ex x e2 => rw [q] at g; exact fun C H2 Hf2 hC R2 t2 => g C σ H2 Hf2 hC R2 t2.s
  | ok ds e1 =>
    rw [q] at g
    refine fun J H1 Hf1 R1 t1 wd => ?_
    have g : GS X.K X.mg W Hf H env σ D (forL (fun x e => match asg t x e with
      | some e2 => ms e2
      | none => .no) ds e1) := g
    refine for_it wd (fun i σ' H' => ∃ Hf' e, ER X.K X.mg Hf' H' e σ' ∧ TrS Hf H env σ Hf' H' e σ' ∧ Same Hf1 Hf' ∧ GS X.K X.mg W Hf H env σ D (forL (fun x e => match asg t x e with
        | some e2 => ms e2
        | none => .no) (ds.drop i) e)) ⟨Hf1, e1, R1, t1.s, Same.refl _, by rw [List.drop_zero]; exact g⟩ (fun i σ' H' _ ⟨Hf', e, Re, te, se, _⟩ => se.trans Re.le) ?_ ?_
    · rintro i x σ2 H2 H3 hi' ⟨Hf2, e, Re, te, se, g⟩ ⟨d, hd, o⟩
      have hdr : ds.drop i = d :: ds.drop (i + 1) := by
        obtain ⟨hlt, e⟩ := List.getElem?_eq_some_iff.mp hd
        rw [List.drop_eq_getElem_cons hlt, e]
      rw [hdr, forL_cons] at g
      obtain ⟨Hf3, R3, t3, z3⟩ := (o.up se).done Re
      have r3 : Rep X.K X.mg Hf3 d x := by
        unfold VR at z3
        simpa using z3
      cases qa : asg t d e with
      | none => rw [qa] at g; exact g.elim
      | some e3 =>
        rw [qa] at g
        refine ⟨Hf3, e, d, e3, R3, r3, qa, fun σ4 R4 t4 m4 n4 => ⟨Hf3, e3, R4, ?_⟩⟩
        have T4 := te.trans (t3.s.trans t4)
        have S4 := se.trans t3.up
        cases qb : ms e3 with
        | nx e4 =>
          simp only [qb] at g
          exact fun σ5 H5 Hf5 R5 t5 => ⟨Hf5, e4, R5, T4.trans t5, S4.trans t5.up, g⟩
        | ct e4 =>
          simp only [qb] at g
          exact fun σ5 H5 Hf5 R5 t5 => ⟨Hf5, e4, R5, T4.trans t5, S4.trans t5.up, g⟩
        | bk e4 => simp only [qb] at g; exact fun σ5 H5 Hf5 R5 t5 => g σ5 H5 Hf5 R5 (T4.trans t5)
        | rt d fr e4 => simp only [qb] at g; exact g.chain T4
        | ex c e4 => simp only [qb] at g; exact g.chain T4
        | no => simp only [qb] at g; exact g.elim
    · rintro σ2 H2 ⟨Hf2, e, Re, te, se, g⟩
      rw [List.drop_length] at g
      exact g σ2 H2 Hf2 Re te
def whlN (c : Env → RE) (f : Env → RS) : Nat → Env → Option RS
  | 0, _ => none
  | n + 1, env => match c env with
    | .ok (.bl true) _ e1 => match f e1 with
      | .nx e => whlN c f n e
      | .ct e => whlN c f n e
      | .bk e => some (.nx e)
      | r => some r
    | .ok (.bl false) _ e1 => some (.nx e1)
    | .ex x e1 => some (.ex x e1)
    | _ => some .no
theorem whl_n {c : Env → RE} {f : Env → RS} : ∀ {env : Env} {r : RS}, whlL c f env = some r → ∃ n, whlN c f n env = some r := by
  refine fun {env r} h => whlL.partial_correctness c f (fun env r => ∃ n, whlN c f n env = some r) ?_ env r h
  clear h r env
  intro L ih env r h
  cases q : c env with
  | no => rw [q] at h; exact ⟨1, by unfold whlN; rw [q]; exact h⟩
  | ex x e1 => rw [q] at h; exact ⟨1, by unfold whlN; rw [q]; exact h⟩
  | ok d fr e1 =>
    rw [q] at h
    cases d with
    | bl b =>
      cases b with
      | false => exact ⟨1, by unfold whlN; rw [q]; exact h⟩
      | true =>
        dsimp only at h
        cases q2 : f e1 with
        | nx e =>
          rw [q2] at h
          obtain ⟨n, hn⟩ := ih _ _ h
          exact ⟨n + 1, by unfold whlN; rw [q]; dsimp only; rw [q2]; exact hn⟩
        | ct e =>
          rw [q2] at h
          obtain ⟨n, hn⟩ := ih _ _ h
          exact ⟨n + 1, by unfold whlN; rw [q]; dsimp only; rw [q2]; exact hn⟩
        | bk e => rw [q2] at h; exact ⟨1, by unfold whlN; rw [q]; dsimp only; rw [q2]; exact h⟩
        | rt _ _ _ => rw [q2] at h; exact ⟨1, by unfold whlN; rw [q]; dsimp only; rw [q2]; exact h⟩
        | ex _ _ => rw [q2] at h; exact ⟨1, by unfold whlN; rw [q]; dsimp only; rw [q2]; exact h⟩
        | no => rw [q2] at h; exact ⟨1, by unfold whlN; rw [q]; dsimp only; rw [q2]; exact h⟩
    | _ => exact ⟨1, by unfold whlN; rw [q]; exact h⟩
theorem s_whl {body : List Stmt} (hp : PassesOwn (model X.prog X.w) X.A X.env X.xe) (hc : PT X c (tTI X.K X.mg W mc)) (hb : PSs X body (tS X.K X.mg W ms)) : PS X (.While c body [] pos) (tS X.K X.mg W fun env => (whlL mc ms env).getD .no) := by
  refine PS.imp (ps_while hp hc hb) fun D σ H ⟨Hf, env, R, g⟩ => ?_
  dsimp only at g
  cases q : whlL mc ms env with
  | none => rw [q] at g; exact g.elim
  | some r =>
    rw [q] at g
    obtain ⟨n, hn⟩ := whl_n q
    have g : GS X.K X.mg W Hf H env σ D r := g
    refine ⟨fun m σ' H' => ∃ Hf' e, ER X.K X.mg Hf' H' e σ' ∧ TrS Hf H env σ Hf' H' e σ' ∧ whlN mc ms m e = some r, ⟨n, Hf, env, R, TrS.refl, hn⟩, ?_⟩
    rintro m σ' H' ⟨Hf', e, Re, te, hm⟩
    cases m with
    | zero => cases hm
    | succ m =>
      unfold whlN at hm
      refine ⟨Hf', e, Re, ?_⟩
      cases qc : mc e with
      | no =>
        simp only [qc] at hm
        cases hm; exact g.elim
      | ex x e1 =>
        simp only [qc] at hm
        cases hm
        exact fun C H2 Hf2 hC R2 t2 => g C σ' H2 Hf2 hC R2 (te.trans t2.s)
      | ok d fr e1 =>
        simp only [qc] at hm
        cases d with
        | bl b =>
          refine fun H2 Hf2 R2 t2 => ?_
          cases b with
          | false =>
            rw [if_neg Bool.false_ne_true]
            dsimp only at hm
            cases hm
            exact g σ' H2 Hf2 R2 (te.trans t2.s)
          | true =>
            rw [if_pos rfl]
            dsimp only at hm
            refine ⟨fun σ'' H'' => ∃ Hf'' e', ER X.K X.mg Hf'' H'' e' σ'' ∧ TrS Hf H env σ Hf'' H'' e' σ'' ∧ whlN mc ms m e' = some r, fun σ'' H'' z => ⟨m, Nat.lt_succ_self _, z⟩, Hf2, e1, R2, ?_⟩
            have T := te.trans t2.s
            cases qb : ms e1 with
            | nx e2 => rw [qb] at hm; exact fun σ5 H5 Hf5 R5 t5 => ⟨Hf5, e2, R5, T.trans t5, hm⟩
            | ct e2 => rw [qb] at hm; exact fun σ5 H5 Hf5 R5 t5 => ⟨Hf5, e2, R5, T.trans t5, hm⟩
            | bk e2 => rw [qb] at hm; cases hm; exact fun σ5 H5 Hf5 R5 t5 => g σ5 H5 Hf5 R5 (T.trans t5)
            | rt d fr e2 => rw [qb] at hm; cases hm; exact g.chain T
            | ex x e2 => rw [qb] at hm; cases hm; exact g.chain T
            | no => rw [qb] at hm; cases hm; exact g.elim
        | _ => dsimp only at hm; cases hm; exact g.elim
end
end Cor
set_option Elab.async false
set_option linter.all false
set_option maxRecDepth 100000
set_option maxHeartbeats 2000000
/-! Cor10: stores to two names, changes in place, a def's promise. -/
namespace Cor
open PySem PySem.Spec L2

section
variable {K : PySem.W.Frag} {mg : Str → Option Value} {W : WX} {H H0 H1 H2 H' Hf Hf0 Hf1 Hf2 Hf' : Hp} {env env0 e1 e2 e3 env' : Env} {σ σ0 σ1 σ' : St} {d : D} {v : V} {pu p1 p2 fr st st1 : Bool} {Q : VK} {D : Ends} {i : Nat}
/-- a value that is held while more is evaluated -/
def Hld (K : PySem.W.Frag) (mg : Str → Option Value) (fr : Bool) (d : Cor.D) (v : V) (H0 Hf H : Hp) (env : Env) (σ : St) : Prop := VR K mg fr true d v H0 Hf H ∧ ∀ p, fr = true → v = .ref p → ¬ OwnAt env σ p ∧ H p ≠ none
theorem Hld.of (R0 : ER K mg Hf0 H0 env0 σ) (t : Tr pu Hf0 H0 env0 Hf H env σ) (z : VR K mg fr true d v H0 Hf H) : Hld K mg fr d v H0 Hf H env σ := by
  refine ⟨z, fun p hf hv => ?_⟩
  unfold VR at z
  rw [if_pos hf] at z
  obtain ⟨q, e, hq, _, c⟩ := z
  rw [hv] at e
  cases e
  obtain ⟨o, ho⟩ := c.there
  exact ⟨fun z => R0.fresh hq (z.back t.mt), by rw [ho]; simp⟩
theorem Hld.keep (h : Hld K mg fr d v H0 Hf H env σ) (t : Tr pu Hf H env Hf' H' env' σ) : Hld K mg fr d v H0 Hf' H' env' σ := by
  obtain ⟨z, n⟩ := h
  unfold VR at z
  cases fr with
  | false =>
    rw [if_neg Bool.false_ne_true, if_pos rfl] at z
    exact ⟨VR.old (z.up t.up), fun p h => nomatch h⟩
  | true =>
    rw [if_pos rfl] at z
    obtain ⟨p, rfl, hq, hn, c⟩ := z
    obtain ⟨no, _⟩ := n p rfl rfl
    obtain ⟨o, ho⟩ := c.there
    have ho' := t.fr p o ho no
    have hn' : Hf' p = none := by
      cases y : Hf' p with
      | none => rfl
      | some o' =>
        rcases t.new p (by rw [y]; simp) with z | z | z
        · exact absurd hn z
        · rw [ho] at z; cases z
        · exact absurd z no
    refine ⟨?_, fun q _ e => ?_⟩
    · unfold VR
      rw [if_pos rfl]
      exact ⟨p, rfl, hq, hn', c.move t.up fun o' q => by rw [ho] at q; cases q; exact ho'⟩
    · cases e
      exact ⟨fun z => no (z.back t.mt), by rw [ho']; simp⟩
theorem Hld.back (h : Hld K mg fr d v H1 Hf H env σ) (t : ∀ a, H0 a ≠ none → H1 a ≠ none) : Hld K mg fr d v H0 Hf H env σ := ⟨h.1.back t, h.2⟩
/-- two held values are apart where the second came later -/
theorem put1 {e3 : Env} (he : putS env i d fr = .nx e3) (t : TrS Hf0 H0 env0 σ0 Hf H env σ) (R : ER K mg Hf H env σ) (z : Hld K mg fr d v H0 Hf H env σ) :
    ER K mg Hf H e3 (σ.set i (some v)) ∧ TrS Hf0 H0 env0 σ0 Hf H e3 (σ.set i (some v)) ∧ ∀ q, OwnAt e3 (σ.set i (some v)) q → (fr = true ∧ v = .ref q) ∨ OwnAt env σ q := by
  obtain ⟨z, n⟩ := z
  rcases putS_inv he with q | ⟨hio, q⟩
  · cases q
  · cases q
    unfold VR at z
    cases fr with
    | false =>
      rw [if_neg Bool.false_ne_true] at z ⊢
      obtain ⟨R', t', m'⟩ := R.setS (s := .val d) (o := some v) (i := i) (.inr ⟨d, v, rfl, rfl, by simpa using z⟩) hio
      refine ⟨R', t.trans t', fun q ⟨j, m, e⟩ => .inr ?_⟩
      obtain ⟨hj, mj⟩ := mt_set (.inr ⟨d, rfl⟩) m
      rw [List.getElem?_set_ne (Ne.symm hj)] at e
      exact ⟨j, mj, e⟩
    | true =>
      rw [if_pos rfl] at z ⊢
      obtain ⟨p, rfl, hp, hn, c⟩ := z
      obtain ⟨R', t'⟩ := R.setO hn c (n p rfl rfl).1 hio t hp
      refine ⟨R', t', fun q ⟨j, ⟨w, m⟩, e⟩ => ?_⟩
      by_cases hj : i = j
      · subst hj
        by_cases hi : i < σ.length
        · rw [List.getElem?_set_self hi] at e
          cases e
          exact .inl ⟨rfl, rfl⟩
        · rw [List.getElem?_eq_none (by simpa using hi)] at e; cases e
      · rw [List.getElem?_set_ne hj] at m e
        exact .inr ⟨j, ⟨w, m⟩, e⟩
theorem Hld.after {v1 : V} {fr1 : Bool} (h : Hld K mg fr d v H0 Hf H env σ) (o : ∀ q, OwnAt e3 σ' q → (fr1 = true ∧ v1 = .ref q) ∨ OwnAt env σ q) (ap : ∀ q, fr1 = true → v1 = .ref q → fr = true → v ≠ .ref q) : Hld K mg fr d v H0 Hf H e3 σ' := by
  obtain ⟨z, n⟩ := h
  refine ⟨z, fun p hf hv => ⟨fun q => ?_, (n p hf hv).2⟩⟩
  rcases o p q with ⟨a, b⟩ | y
  · exact ap p a b hf hv
  · exact (n p hf hv).1 y
theorem Hld.apart {v1 v2 : V} {d1 d2 : Cor.D} {fr1 fr2 : Bool} (h1 : Hld K mg fr1 d1 v1 H0 Hf1 H1 e1 σ) (h2 : VR K mg fr2 true d2 v2 H1 Hf2 H2) : ∀ q, fr1 = true → v1 = .ref q → fr2 = true → v2 ≠ .ref q := fun q a b c e => by
  have := (h1.2 q a b).2
  unfold VR at h2
  rw [if_pos c] at h2
  obtain ⟨p, e', hp, _⟩ := h2
  rw [e] at e'
  cases e'
  exact this hp
end

section
variable {K : PySem.W.Frag} {mg : Str → Option Value} {W : WX} {H H1 Hf Hf1 : Hp} {env e1 : Env} {σ σ1 : St} {p1 st1 : Bool} {D : Ends}
/-- an expression that is not the first: what is wanted is told from the start -/
theorem GS.nextK {r : RE} {k : Cor.D → Bool → Env → RS} {Q1 : VK} (g : GS K mg W Hf H env σ D (r.bindS k)) (t : TrS Hf H env σ Hf1 H1 e1 σ1)
    (c : ∀ d fr e2 v H2 Hf2, r = .ok d fr e2 → ER K mg Hf2 H2 e2 σ1 → Tr p1 Hf1 H1 e1 Hf2 H2 e2 σ1 → VR K mg fr st1 d v H1 Hf2 H2 → GS K mg W Hf H env σ D (k d fr e2) → Q1 v H2) : GE K mg W st1 p1 Hf1 H1 e1 σ1 Q1 r := by
  cases r with
  | ok d fr e2 => exact fun v H2 Hf2 a b z => c d fr e2 v H2 Hf2 rfl a b z g
  | ex x e2 => exact fun C H2 Hf2 hC a b => g C σ1 H2 Hf2 hC a (t.trans b.s)
  | no => exact g.elim
end
section
variable {X : Cx} {W : WX} {a b c e tg : Expr} {es : List Expr} {pos p : Pos} {m ma mb mc : Env → RE} {ms mt : Env → RS} {st sa sb pa pb pc pu : Bool} {i j l : Nat}
theorem s_par {x y : Str} {px py pt : Pos} {kt k2 pt2} (hc : X.calm = true) (hN : X.N.Nodup) (hi : X.N[i]? = some x) (hj : X.N[j]? = some y) (hij : i ≠ j) (hx : X.env.scope.names.lookup x = some .local) (hy : X.env.scope.names.lookup y = some .local)
    (ha : PE X a (tI X.K X.mg W true pa ma)) (hb : PE X b (tI X.K X.mg W true pb mb)) (hse : starEach [a, b] X.env = (false, eval a X.env) :: starEach [b] X.env) (hse2 : starEach [b] X.env = (false, eval b X.env) :: starEach [] X.env)
    (hw : swappedStores [.Tuple [.Name x px, .Name y py] kt pt] (.Tuple [a, b] k2 pt2) X.env = pure (some [x, y]))
    (hs : swapsWithSole [.Tuple [.Name x px, .Name y py] kt pt] (.Tuple [a, b] k2 pt2) pos.line X.env = pure false) :
    PS X (.Assign [.Tuple [.Name x px, .Name y py] kt pt] (.Tuple [a, b] k2 pt2) pos) (tS X.K X.mg W fun env => (ma env).bindS fun x fx e1 => (mb e1).bindS fun y fy e2 => match putS e2 i x fx with
    | .nx e3 => putS e3 j y fy
    | _ => .no) := by
  refine PS.imp (ps_par hc hN hi hj hij hx hy (pa_cons ha (pa_cons hb pa_nil hse2) hse) hw hs) fun D σ H ⟨Hf, env, R, g⟩ => ⟨Hf, env, R, g.first fun d1 f1 e1 v1 H1 Hf1 _ R1 t1 z1 g1 => ?_⟩
  refine ⟨Hf1, e1, R1, g1.nextK t1.s fun d2 f2 e2 v2 H2 Hf2 _ R2 t2 z2 g2 => ⟨v1, v2, rfl, ?_⟩⟩
  have h1 := Hld.of R t1 z1
  have h2 := Hld.of R1 t2 z2
  have ap := h1.apart z2
  cases q : putS e2 i d1 f1 with
  | nx e3 =>
    simp only [q] at g2
    obtain ⟨R3, t3, o3⟩ := put1 q (t1.trans t2).s R2 (h1.keep t2)
    have h2' := (h2.after o3 ap).back t1.there
    exact g2.put t3 R3 (fun p _ hf hv => (h2'.2 p hf hv).1) h2'.1
  | _ => simp only [q] at g2; exact g2.elim
theorem s_par3 {x y z : Str} {px py pz pt : Pos} {kt k2 pt2} (hc : X.calm = true) (hN : X.N.Nodup) (hi : X.N[i]? = some x) (hj : X.N[j]? = some y) (hl : X.N[l]? = some z) (hij : i ≠ j) (hil : i ≠ l) (hjl : j ≠ l)
    (hx : X.env.scope.names.lookup x = some .local) (hy : X.env.scope.names.lookup y = some .local) (hz : X.env.scope.names.lookup z = some .local)
    (ha : PE X a (tI X.K X.mg W true pa ma)) (hb : PE X b (tI X.K X.mg W true pb mb)) (hcc : PE X c (tI X.K X.mg W true pc mc)) (hse : starEach [a, b, c] X.env = (false, eval a X.env) :: starEach [b, c] X.env) (hse2 : starEach [b, c] X.env = (false, eval b X.env) :: starEach [c] X.env) (hse3 : starEach [c] X.env = (false, eval c X.env) :: starEach [] X.env)
    (hw : swappedStores [.Tuple [.Name x px, .Name y py, .Name z pz] kt pt] (.Tuple [a, b, c] k2 pt2) X.env = pure (some [x, y, z]))
    (hs : swapsWithSole [.Tuple [.Name x px, .Name y py, .Name z pz] kt pt] (.Tuple [a, b, c] k2 pt2) pos.line X.env = pure false) :
    PS X (.Assign [.Tuple [.Name x px, .Name y py, .Name z pz] kt pt] (.Tuple [a, b, c] k2 pt2) pos) (tS X.K X.mg W fun env => (ma env).bindS fun x fx e1 => (mb e1).bindS fun y fy e2 => (mc e2).bindS fun z fz e3 => match putS e3 i x fx with
    | .nx e4 => match putS e4 j y fy with
      | .nx e5 => putS e5 l z fz
      | _ => .no
    | _ => .no) := by
  refine PS.imp (ps_par3 hc hN hi hj hl hij hil hjl hx hy hz (pa_cons ha (pa_cons hb (pa_cons hcc pa_nil hse3) hse2) hse) hw hs) fun D σ H ⟨Hf, env, R, g⟩ => ⟨Hf, env, R, g.first fun d1 f1 e1 v1 H1 Hf1 _ R1 t1 z1 g1 => ?_⟩
  refine ⟨Hf1, e1, R1, g1.nextK t1.s fun d2 f2 e2 v2 H2 Hf2 _ R2 t2 z2 g2 => ?_⟩
  refine ⟨Hf2, e2, R2, g2.nextK (t1.trans t2).s fun d3 f3 e3 v3 H3 Hf3 _ R3 t3 z3 g3 => ⟨v1, v2, v3, rfl, ?_⟩⟩
  have h1 := Hld.of R t1 z1
  have h2 := Hld.of R1 t2 z2
  have h3 := Hld.of R2 t3 z3
  have a12 := h1.apart z2
  have a13 := (h1.keep t2).apart z3
  have a23 := h2.apart z3
  cases q : putS e3 i d1 f1 with
  | nx e4 =>
    simp only [q] at g3
    obtain ⟨R4, t4, o4⟩ := put1 q ((t1.trans t2).trans t3).s R3 ((h1.keep t2).keep t3)
    have h2' := ((h2.keep t3).after o4 a12).back t1.there
    have h3' := (h3.after o4 a13).back (t1.trans t2).there
    cases q2 : putS e4 j d2 f2 with
    | nx e5 =>
      simp only [q2] at g3
      obtain ⟨R5, t5, o5⟩ := put1 q2 t4 R4 h2'
      have h3'' := h3'.after o5 a23
      exact g3.put t5 R5 (fun p _ hf hv => (h3''.2 p hf hv).1) h3''.1
    | _ => simp only [q2] at g3; exact g3.elim
  | _ => simp only [q] at g3; exact g3.elim
/-- an owned list is rewritten -/
theorem ER.wr {K : PySem.W.Frag} {mg : Str → Option Value} {H Hf : Hp} {env : Env} {σ : St} {d : Cor.D} {pp : Addr} {ws : List V} {ds : List Cor.D} (R : ER K mg Hf H env σ) (hi : env[i]? = some (Slot.own d) ∨ env[i]? = some (Slot.io d)) (ha : σ[i]? = some (some (.ref pp))) (rs : Reps K mg Hf ds ws) :
    ER K mg Hf (upd H pp (.lst ws)) (env.set i (putBack (getS env i) (.lst ds))) σ ∧ Tr false Hf H env Hf (upd H pp (.lst ws)) (env.set i (putBack (getS env i) (.lst ds))) σ := by
  obtain ⟨p', e', n', c'⟩ := R.mu i d hi
  rw [ha] at e'
  cases e'
  obtain ⟨o', ho'⟩ := c'.there
  have nl : ∀ b, Hf b ≠ none → b ≠ pp := fun b h e => h (e ▸ n')
  refine lift1 R hi ha ⟨fun b o q => ?_, rfl, fun j w h => ?_, fun j w h => ?_, fun j l b hj hl _ _ => ?_⟩ ⟨Same.refl _, rfl, fun j ⟨w, h⟩ => ?_, fun j w h => ?_, fun b o q no => ?_, fun _ q => .inl q, (fun h => nomatch h), fun b q => ?_⟩
  · rw [upd_ne (nl b (by rw [q]; simp))]; exact R.le b o q
  · cases j with
    | zero => simp at h
    | succ j => simp at h
  · cases j with
    | zero =>
      simp at h
      subst h
      exact ⟨pp, rfl, n', .lst upd_same rs⟩
    | succ j => simp at h
  · obtain ⟨w, hw⟩ := hj
    obtain ⟨w', hw'⟩ := hl
    cases j with
    | zero => cases l with
      | zero => rfl
      | succ l => simp at hw'
    | succ j => simp at hw
  · cases j with
    | zero => exact ⟨d, .inr rfl⟩
    | succ j => simp at h
  · cases j with
    | zero => exact ⟨_, rfl⟩
    | succ j => simp at h
  · have hb : b ≠ pp := fun e => no ⟨0, ⟨d, .inr rfl⟩, by rw [e]; rfl⟩
    rw [upd_ne hb]; exact q
  · by_cases hb : b = pp
    · rw [hb, upd_same]; simp
    · rw [upd_ne hb]; exact q
theorem Cont.lstInv {K : PySem.W.Frag} {mg : Str → Option Value} {H Hf : Hp} {ds : List Cor.D} {pp : Addr} (c : Cont K mg Hf H (.lst ds) pp) : ∃ ws, H pp = some (.lst ws) ∧ Reps K mg Hf ds ws := by
  cases c with
  | lst h r => exact ⟨_, h, r⟩
theorem Mt_at {env : Env} {i : Nat} {d : Cor.D} (h : ioGet env i = some d) : env[i]? = some (Slot.own d) ∨ env[i]? = some (Slot.io d) := ioGet_at h
theorem s_app {apos cpos : Pos} {o e : Expr} (ho : PE X o (tVar i)) (he : PE X e (tI X.K X.mg W true pa m)) (hbase : attributeBase o "append" X.env (eval o X.env) = eval o X.env)
    (hfew : ((backTo cpos (starEach [e] X.env)).all (fun x => !x.1) && (backToKw cpos (keywordEach [] X.env)).all (fun x => x.1.isSome) && decide (([e] : List Expr).length + ([] : List Keyword).length + (if ([] : List Keyword).isEmpty then 0 else 1) < 30)) = true)
    (hline : (apos.endLine == cpos.line) = true) (hse : starEach [e] X.env = (false, eval e X.env) :: starEach [] X.env) (hplain : (backTo cpos (starEach [] X.env)).any (·.1) = false)
    (hs : swapsWith (.Call (.Attribute o "append" apos) [e] [] cpos) none pos.line X.env = pure false) :
    PS X (.Expr (.Call (.Attribute o "append" apos) [e] [] cpos) pos) (tS X.K X.mg W fun env => match ioGet env i with
    | none => .no
    | some _ => (m env).bindS fun d _ e1 => match ioGet e1 i with
      | some (.lst xs) => if xs.length < lim then .nx (e1.set i (putBack (getS e1 i) (.lst (xs ++ [d])))) else .no
      | _ => .no) := by
  refine PS.imp (ps_expr (pe_bm PySem.F.plainAttrs_list PySem.F.slot_list_append PySem.F.type_list_append mt_append ho (pa_cons he pa_nil hse) hbase hfew hline hse hplain) hs) fun D σ H ⟨Hf, env, R, g⟩ => ?_
  dsimp only at g
  cases q0 : ioGet env i with
  | none => rw [q0] at g; exact g.elim
  | some d0 =>
    rw [q0] at g
    obtain ⟨pp, ep, n0, c0⟩ := R.mu i d0 (ioGet_at q0)
    have g : GS X.K X.mg W Hf H env σ D ((m env).bindS fun d _ e1 => match ioGet e1 i with
      | some (.lst xs) => if xs.length < lim then .nx (e1.set i (putBack (getS e1 i) (.lst (xs ++ [d])))) else .no
      | _ => .no) := g
    refine ⟨_, ep, ?_, Hf, env, R, g.first fun d1 f1 e1 v1 H1 Hf1 _ R1 t1 z1 g1 => ?_⟩
    · cases c0 with
      | lst h r => exact .inl ⟨rfl, _, SqL.of h⟩
    · obtain ⟨Hf1, R1, t1, z1⟩ := stab R R1 t1 z1
      cases q1 : ioGet e1 i with
      | none => rw [q1] at g1; exact g1.elim
      | some d =>
        rw [q1] at g1
        cases d <;> try exact g1.elim
        rename_i xs
        obtain ⟨p2, e2, n2, c2⟩ := R1.mu i _ (ioGet_at q1)
        rw [ep] at e2
        cases e2
        obtain ⟨ws, hH, rs⟩ := c2.lstInv
        by_cases hz : xs.length < lim
        · simp only [hz, if_true] at g1
          obtain ⟨R2, t2⟩ := R1.wr (ioGet_at q1) ep (rs.app (Reps.one z1))
          exact ⟨pp, ws, v1, rfl, rfl, hH, by rw [← rs.length]; exact Nat.lt_of_lt_of_le hz (lim_line (Nat.le_refl _)), g1 σ _ Hf1 R2 (t1.trans t2).s⟩
        · simp only [hz, if_false] at g1; exact g1.elim
theorem s_stI {o k v : Expr} {spos : Pos} (ho : PE X o (tVar i)) (hk : PE X k (tI X.K X.mg W sb pb mb)) (hv : PE X v (tI X.K X.mg W true pa ma))
    (has : ∀ u, assign (.Subscript o k spos) X.env u = (do
      let ov ← holding [u] (eval o X.env)
      let iv ← holding [u, ov] (eval k X.env)
      standAt spos
      holding [u, ov, iv] (setItem ov iv u)
      release [u, ov, iv] []))
    (hs : swapsWithSole [.Subscript o k spos] v pos.line X.env = pure false) (hw : swappedStores [.Subscript o k spos] v X.env = pure none)
    (h1 : (assignEach [.Subscript o k spos] X.env).map (·.2) = [assign (.Subscript o k spos) X.env]) :
    PS X (.Assign [.Subscript o k spos] v pos) (tS X.K X.mg W fun env => (ma env).bindS fun d _ e1 => match ioGet e1 i with
    | none => .no
    | some _ => (mb e1).bindS fun z _ e2 => match ioGet e2 i, z with
      | some (.lst xs), .int n => match ixN xs.length n with
        | some j => .nx (e2.set i (putBack (getS e2 i) (.lst (xs.set j d))))
        | none => .no
      | _, _ => .no) := by
  refine PS.imp (ps_asg hv (pg_sub ho hk set_list has) hs hw h1) fun D σ H ⟨Hf, env, R, g⟩ => ⟨Hf, env, R, g.first fun d1 f1 e1 v1 H1 Hf1 _ R1 t1 z1 g1 => ?_⟩
  obtain ⟨Hf1, R1, t1, z1⟩ := stab R R1 t1 z1
  cases q0 : ioGet e1 i with
  | none => rw [q0] at g1; exact g1.elim
  | some d0 =>
    rw [q0] at g1
    obtain ⟨pp, ep, n0, c0⟩ := R1.mu i d0 (ioGet_at q0)
    have g1 : GS X.K X.mg W Hf H env σ D ((mb e1).bindS fun z _ e2 => match ioGet e2 i, z with
      | some (.lst xs), .int n => match ixN xs.length n with
        | some j => .nx (e2.set i (putBack (getS e2 i) (.lst (xs.set j d1))))
        | none => .no
      | _, _ => .no) := g1
    refine ⟨_, ep, Hf1, e1, R1, g1.nextK t1.s fun d2 f2 e2 v2 H2 Hf2 _ R2 t2 z2 g2 => ?_⟩
    cases q1 : ioGet e2 i with
    | none => simp only [q1] at g2; exact g2.elim
    | some d =>
      simp only [q1] at g2
      cases d <;> try exact g2.elim
      cases d2 <;> try exact g2.elim
      rename_i xs n _
      obtain rfl := (z2.now R2.le).intInv
      obtain ⟨p2, e2', n2, c2⟩ := R2.mu i _ (ioGet_at q1)
      rw [ep] at e2'
      cases e2'
      obtain ⟨ws, hH, rs⟩ := c2.lstInv
      dsimp only at g2
      cases q2 : ixN xs.length n with
      | none => rw [q2] at g2; exact g2.elim
      | some j =>
        rw [q2] at g2
        obtain ⟨R3, t3⟩ := R2.wr (ioGet_at q1) ep (rs.set j (z1.up t2.up))
        exact ⟨pp, ws, n, j, rfl, rfl, hH, by rw [← rs.length]; exact q2, g2 σ _ Hf2 R3 ((t1.trans t2).trans t3).s⟩
theorem s_aug {x : Str} {op : Operator} (hop : op = .Add ∨ op = .Sub) (hN : X.N.Nodup) (hi : X.N[i]? = some x) (hx : Loc X.env.scope x) (he : PE X e (tI X.K X.mg W sa pa m)) (hf : X.fn x = true ∨ X.env.scope.names.lookup x = some .local) :
    PS X (.AugAssign (.Name x p) op e pos) (tS X.K X.mg W fun env => match getS env i with
    | .val (.int x) => (m env).bindS fun y _ e1 => match y with
      | .int y => (match binD op (.int x) (.int y) with
        | some (z, _) => .nx (e1.set i (.val z))
        | none => .no)
      | _ => .no
    | _ => .no) := by
  have key : ∀ (f : Int → Int → Int) (ip : PIp X op (ipI f)) (hb : ∀ x y, binD op (.int x) (.int y) = some (.int (f x y), false)), PS X (.AugAssign (.Name x p) op e pos) (tS X.K X.mg W fun env => match getS env i with
    | .val (.int x) => (m env).bindS fun y _ e1 => match y with
      | .int y => (match binD op (.int x) (.int y) with
        | some (z, _) => .nx (e1.set i (.val z))
        | none => .no)
      | _ => .no
    | _ => .no) := fun f ip hb => by
    refine PS.imp (ps_aug hN hi hx he ip hf) fun D σ H ⟨Hf, env, R, g⟩ => ?_
    dsimp only at g
    cases q : getS env i with
    | val d =>
      rw [q] at g
      cases d <;> try exact g.elim
      rename_i n
      obtain ⟨v, ev, r⟩ := R.val i _ (getS_lt q (by simp))
      obtain rfl := r.intInv
      refine ⟨_, ev, Hf, env, R, GS.first (p1 := pa) g fun d1 f1 e1 v1 H1 Hf1 _ R1 t1 z1 g1 => ?_⟩
      cases d1 <;> try exact g1.elim
      rename_i k _
      obtain rfl := (z1.now R1.le).intInv
      simp only [hb] at g1
      have hio : noIo e1 i := fun d hd => by
        obtain ⟨w, hw⟩ := t1.mt i ⟨d, .inr hd⟩
        have := getS_lt q (by simp)
        rw [this] at hw
        rcases hw with hw | hw <;> cases hw
      obtain ⟨R2, t2, _⟩ := R1.setS (i := i) (s := .val (.int (f n k))) (o := some (.int (f n k))) (.inr ⟨_, _, rfl, rfl, .int _⟩) hio
      exact ⟨n, k, rfl, rfl, g1 _ _ _ R2 (t1.s.trans t2)⟩
    | _ => rw [q] at g; exact g.elim
  rcases hop with rfl | rfl
  · exact key (fun x y => x + y) ip_add fun _ _ => rfl
  · exact key (fun x y => x - y) ip_sub fun _ _ => rfl
end
end Cor
set_option Elab.async false
set_option linter.all false
set_option maxRecDepth 100000
set_option maxHeartbeats 2000000
/-! Cor11: a def's promise from its body. -/
namespace Cor
open PySem PySem.Spec L2
open PyProof.Rows (envOfC)

/-- what a def is worth: n names, io: the first argument is handed in to be changed, m its body -/
def semS (n : Nat) (io : Bool) (m : Env → RS) : Sem := fun ds =>
  let z := fun (env : Env) => if io then (match getS env 0 with
    | .io d => some (some d)
    | _ => none) else some none
  match m (startE n io ds) with
  | .rt d fr env => match z env with
    | some o => .ret d fr o
    | none => .no
  | .nx env => match z env with
    | some o => .ret .non false o
    | none => .no
  | .ex c env => match z env with
    | some o => .exc c o
    | none => .no
  | _ => .no
/-- what a context must have -/
structure Gd (k : Nat) (X : Cx) (W : WX) : Prop where
  calm : X.calm = true
  nd : X.N.Nodup
  room : Room k X.A
  tk : Takes X W
theorem Gd.hu {k : Nat} {X : Cx} {W : WX} (g : Gd k X W) : X.A.units + 65 < cLine := by
  have := g.room.un
  omega
theorem Gd.blk {k : Nat} {X : Cx} {W : WX} (g : Gd k X W) (s : Shared) (H : Hp) (scope : Scope) (cenv : PySem.Env) (fp : List Addr) : Gd k (X.blk s H scope cenv fp) WF := ⟨g.calm, g.nd, g.room, takes0⟩
abbrev WE (E : XK) : WX := fun cls d _ H => E cls d H
/-- a body that is read so, wherever it runs -/
def BodyOk (P : Program) (w : World) (K : PySem.W.Frag) (mg : Str → Option Value) (base : Heap) (k : Nat) (N : List Str) (qual : Str) (scope : Scope) (f : Addr) (body : List Stmt) (m : Env → RS) : Prop :=
  ∀ (cdv : Value) (A : Around) (outer : List PySem.Env) (s : Shared) (H : Hp) (E : XK), Gd k (cxOf (L2.CX P w) P w K mg base N qual scope f cdv A outer s H E) (WE E) →
    PassesOwn (model P w) (A.deeper (envOfC qual scope s.heap.objs.size f cdv)) (envOfC qual scope s.heap.objs.size f cdv) (cxOf (L2.CX P w) P w K mg base N qual scope f cdv A outer s H E).xe →
    PSs (cxOf (L2.CX P w) P w K mg base N qual scope f cdv A outer s H E) body (tS K mg (WE E) m)

section
variable {P : Program} {w : World} {K : PySem.W.Frag} {mg : Str → Option Value} {base : Heap} {H Hf H' Hf' : Hp} {σ σ' : L2.St} {env env' : Env}
theorem getS_at {i : Nat} {s : Slot} (h : env[i]? = some s) : getS env i = s := by
  unfold getS
  rw [List.getD_eq_getElem?_getD, h]; rfl
theorem start0 {n : Nat} {ds : List D} {vs : List V} (le : Same Hf H) (rs : Reps K mg Hf ds vs) : ER K mg Hf H (ds.map Slot.val ++ List.replicate (n - ds.length) .no) (vs.map some ++ List.replicate (n - vs.length) none) ∧ ∀ i, ¬ Mt (ds.map Slot.val ++ List.replicate (n - ds.length) .no) i := by
  have hl := rs.length
  have no : ∀ i, ¬ Mt (ds.map Slot.val ++ List.replicate (n - ds.length) .no) i := fun i ⟨d, h⟩ => by
    by_cases hi : i < ds.length
    · rw [List.getElem?_append_left (by simpa using hi), List.getElem?_map, List.getElem?_eq_getElem hi] at h
      rcases h with h | h <;> cases h
    · rw [List.getElem?_append_right (by simpa using hi), List.getElem?_replicate] at h
      split at h <;> rcases h with h | h <;> cases h
  refine ⟨⟨le, by simp [hl], fun i d h => ?_, fun i d h => absurd ⟨d, h⟩ (no i), fun i j a hi => absurd hi (no i)⟩, no⟩
  by_cases hi : i < ds.length
  · rw [List.getElem?_append_left (by simpa using hi), List.getElem?_map, List.getElem?_eq_getElem hi] at h
    cases h
    obtain ⟨v, e, r⟩ := rs.get (List.getElem?_eq_getElem hi)
    refine ⟨v, ?_, r⟩
    rw [List.getElem?_append_left (by simpa [← hl] using hi), List.getElem?_map, e]
    rfl
  · rw [List.getElem?_append_right (by simpa using hi), List.getElem?_replicate] at h
    split at h <;> cases h
theorem start1 {n : Nat} {d : D} {ds : List D} {a : Addr} {vs : List V} (R : ER K mg Hf H [.io d] [some (.ref a)]) (rs : Reps K mg Hf ds vs) :
    ER K mg Hf H (.io d :: (ds.map Slot.val ++ List.replicate (n - ds.length) .no)) (some (.ref a) :: (vs.map some ++ List.replicate (n - vs.length) none)) ∧ ∀ i, Mt (.io d :: (ds.map Slot.val ++ List.replicate (n - ds.length) .no)) i → i = 0 := by
  obtain ⟨R0, no⟩ := start0 (n := n) (H := H) R.le rs
  have no' : ∀ i, Mt (.io d :: (ds.map Slot.val ++ List.replicate (n - ds.length) .no)) i → i = 0 := fun i ⟨w, h⟩ => by
    cases i with
    | zero => rfl
    | succ i => exact absurd ⟨w, by simpa using h⟩ (no i)
  obtain ⟨a', e', n', c'⟩ := R.mu 0 d (.inr rfl)
  simp at e'
  subst e'
  refine ⟨⟨R.le, by simpa using R0.len, fun i w h => ?_, fun i w h => ?_, fun i j b hi hj _ _ => by rw [no' i hi, no' j hj]⟩, no'⟩
  · cases i with
    | zero => simp at h
    | succ i => exact R0.val i w (by simpa using h)
  · have := no' i ⟨w, h⟩
    subst this
    simp at h
    subst h
    exact ⟨a, rfl, n', c'⟩
theorem entry {N : List Str} {n : Nat} {io : Bool} {m : Env → RS} {vs : List V} {Q : VK} {E : XK} (hn : n ≤ N.length) (h : spOf K mg n io (semS N.length io m) vs H Q E) :
    tS K mg (WE E) m { nx := fun _ H' => Q .non H', rt := Q } (L2.start N vs) H := by
  obtain ⟨hl, ds0, ds, Hf, h0, hne, R, rs, g⟩ := h
  unfold L2.start
  cases io with
  | false =>
    obtain rfl := isSome_none h0
    have rs : Reps K mg Hf ds vs := by simpa using rs
    obtain ⟨R0, no⟩ := start0 (n := N.length) (H := H) R.le rs
    have nown : ∀ a, ¬ OwnAt (ds.map Slot.val ++ List.replicate (N.length - ds.length) .no) (vs.map some ++ List.replicate (N.length - vs.length) none) a := fun a ⟨i, hm, _⟩ => no i hm
    refine ⟨Hf, _, R0, ?_⟩
    have conv : ∀ {σ' H' Hf' e}, ER K mg Hf' H' e σ' → TrS Hf H (ds.map Slot.val ++ List.replicate (N.length - ds.length) .no) (vs.map some ++ List.replicate (N.length - vs.length) none) Hf' H' e σ' → ER K mg Hf' H' [] [] ∧ Tr true Hf H [] Hf' H' [] [] := fun {σ' H' Hf' e} r t =>
      ⟨ER.nil r.le, ⟨t.up, rfl, fun _ h => h, fun i d h => by simp at h, fun a o q _ => t.fr a o q (nown a), fun a q => by
        rcases t.new a q with z | z | z
        · exact .inl z
        · exact .inr (.inl z)
        · exact absurd z (nown a), fun _ a o q => t.fr a o q (nown a), t.there⟩⟩
    unfold semS at g
    simp only [Option.toList_none, List.nil_append] at g
    have hst : startE N.length false ds = ds.map Slot.val ++ List.replicate (N.length - ds.length) .no := rfl
    rw [hst] at g
    cases q : m (ds.map Slot.val ++ List.replicate (N.length - ds.length) .no) with
    | no => rw [q] at g; exact g.elim
    | bk e => rw [q] at g; exact g.elim
    | ct e => rw [q] at g; exact g.elim
    | nx e =>
      rw [q] at g
      intro σ' H' Hf' r t
      obtain ⟨r1, t1⟩ := conv r t
      exact g.2 _ _ _ r1 t1 (VR.old .non)
    | ex c e =>
      rw [q] at g
      intro C σ' H' Hf' hC r t
      obtain ⟨r1, t1⟩ := conv r t
      exact g.2 _ _ _ hC r1 t1
    | rt d fr e =>
      rw [q] at g
      intro v σ' H' Hf' r t z
      obtain ⟨r1, t1⟩ := conv r t
      refine g.2 _ _ _ r1 t1 ?_
      unfold RV at z
      unfold VR
      cases fr with
      | false => simpa using z
      | true =>
        rw [if_pos rfl] at z ⊢
        obtain ⟨p, e, hp, _, r⟩ := z
        exact ⟨p, e, hp.resolve_right (nown p), r⟩
  | true =>
    cases ds0 with
    | none => simp at h0
    | some d0 =>
      cases vs with
      | nil => exact absurd rfl (hne rfl)
      | cons v0 vs =>
        have rs : Reps K mg Hf ds vs := by simpa using rs
        have R : ER K mg Hf H [.io d0] [some v0] := by simpa [ioE, ioS] using R
        obtain ⟨a, ea, na, ca⟩ := R.mu 0 d0 (.inr rfl)
        simp at ea
        subst ea
        obtain ⟨R0, no⟩ := start1 (n := N.length - 1) R rs
        have hst : startE N.length true (d0 :: ds) = .io d0 :: (ds.map Slot.val ++ List.replicate (N.length - 1 - ds.length) .no) := by
          unfold startE
          simp only [List.length_cons, List.cons_append]
          rw [show N.length - (ds.length + 1) = N.length - 1 - ds.length by omega]
        have hst' : (V.ref a :: vs).map some ++ List.replicate (N.length - (V.ref a :: vs).length) none = some (.ref a) :: (vs.map some ++ List.replicate (N.length - 1 - vs.length) none) := by
          simp only [List.length_cons, List.map_cons, List.cons_append]
          rw [show N.length - (vs.length + 1) = N.length - 1 - vs.length by omega]
        rw [hst']
        refine ⟨Hf, _, R0, ?_⟩
        have own1 : ∀ b, OwnAt (.io d0 :: (ds.map Slot.val ++ List.replicate (N.length - 1 - ds.length) .no)) (some (.ref a) :: (vs.map some ++ List.replicate (N.length - 1 - vs.length) none)) b → b = a := fun b ⟨i, hm, e⟩ => by
          have := no i hm
          subst this
          simpa using e.symm
        have own2 : OwnAt [.io d0] [some (.ref a)] a := ⟨0, ⟨d0, .inr rfl⟩, rfl⟩
        have conv : ∀ {σ' H' Hf' e}, ER K mg Hf' H' e σ' → TrS Hf H (.io d0 :: (ds.map Slot.val ++ List.replicate (N.length - 1 - ds.length) .no)) (some (.ref a) :: (vs.map some ++ List.replicate (N.length - 1 - vs.length) none)) Hf' H' e σ' →
            ∃ z, getS e 0 = .io z ∧ ER K mg Hf' H' [.io z] [some (.ref a)] ∧ Tr false Hf H [.io d0] Hf' H' [.io z] [some (.ref a)] ∧ OwnAt e σ' a := fun {σ' H' Hf' e} r t => by
          obtain ⟨⟨z, hz⟩, hs⟩ := t.io 0 d0 rfl
          have hs : σ'[0]? = some (some (.ref a)) := hs
          obtain ⟨a', e', n', c'⟩ := r.mu 0 z (.inr hz)
          rw [hs] at e'
          cases e'
          refine ⟨z, getS_at hz, ⟨r.le, rfl, fun i w h => ?_, fun i w h => ?_, fun i j b hi hj _ _ => ?_⟩, ⟨t.up, rfl, fun i ⟨w, h⟩ => ?_, fun i w h => ?_, fun b o q n => t.fr b o q fun y => n (own1 b y ▸ own2), fun b q => ?_, (fun h => nomatch h), t.there⟩, ⟨0, ⟨z, .inr hz⟩, hs⟩⟩
          · cases i with
            | zero => simp at h
            | succ i => simp at h
          · cases i with
            | zero =>
              simp at h
              subst h
              exact ⟨a, rfl, n', c'⟩
            | succ i => simp at h
          · obtain ⟨w, hw⟩ := hi
            obtain ⟨w', hw'⟩ := hj
            cases i with
            | zero => cases j with
              | zero => rfl
              | succ j => simp at hw'
            | succ i => simp at hw
          · cases i with
            | zero => exact ⟨d0, .inr rfl⟩
            | succ i => simp at h
          · cases i with
            | zero => exact ⟨z, rfl⟩
            | succ i => simp at h
          · rcases t.new b q with y | y | y
            · exact .inl y
            · exact .inr (.inl y)
            · exact .inr (.inr (own1 b y ▸ own2))
        unfold semS at g
        simp only [Option.toList_some, List.singleton_append, hst] at g
        cases q : m (.io d0 :: (ds.map Slot.val ++ List.replicate (N.length - 1 - ds.length) .no)) with
        | no => rw [q] at g; exact g.elim
        | bk e => rw [q] at g; exact g.elim
        | ct e => rw [q] at g; exact g.elim
        | nx e =>
          rw [q] at g
          intro σ' H' Hf' r t
          obtain ⟨z, hz, r1, t1, _⟩ := conv r t
          simp only [hz, if_true] at g
          exact g.2 _ _ _ r1 t1 (VR.old .non)
        | ex c e =>
          rw [q] at g
          intro C σ' H' Hf' hC r t
          obtain ⟨z, hz, r1, t1, _⟩ := conv r t
          simp only [hz, if_true] at g
          exact g.2 _ _ _ hC r1 t1
        | rt d fr e =>
          rw [q] at g
          intro v σ' H' Hf' r t y
          obtain ⟨z, hz, r1, t1, ow⟩ := conv r t
          simp only [hz, if_true] at g
          refine g.2 _ _ _ r1 t1 ?_
          unfold RV at y
          unfold VR
          cases fr with
          | false => simpa using y
          | true =>
            rw [if_pos rfl] at y ⊢
            obtain ⟨p, e, hp, hno, r⟩ := y
            refine ⟨p, e, hp.resolve_right fun x => ?_, r⟩
            rw [own1 p x] at hno
            exact hno ow
/-- THE RULE: a def of the module -/
theorem fnS_of {k n : Nat} {x qual : Str} {params : Arguments} {body : List Stmt} {scope : Scope} {f : Addr} {fd : FuncData} {N ps : List Str} {io : Bool} {m : Env → RS} (hg : mg x = some (.ref f)) (F : FunD K x qual params body scope [] [] f fd) (b : Binds K fd ps []) (S : FnScope N ps scope)
    (hn : ps.length = n) (hb : BodyOk P w K mg base k N qual scope f body m) : FnS P w K mg base (k + 1) x n io (semS N.length io m) := by
  subst hn
  have hle : ps.length ≤ N.length := by have := congrArg List.length S.pre; rw [List.length_take] at this; omega
  refine ⟨f, fd, ps, hg, F.kp, b, F.ok S (fun vs H Q E h => h.1) fun cdv A outer s H vs Q E hr h => ⟨_, hb cdv A outer s H E ⟨rfl, S.nd, hr, takes_of rfl rfl rfl rfl⟩ (passes_of rfl), entry hle h⟩⟩
end
end Cor
set_option Elab.async false
set_option linter.all false
set_option maxRecDepth 100000
set_option maxHeartbeats 2000000
/-! Cor12: the words in which bodies are read, and the rule of each. -/
namespace Cor
open PySem PySem.Spec L2
open PyProof.Rows (envOfC)

/-! ### expressions -/
def eLit (d : D) : Env → RE := fun env => .ok d false env
def eVar (i : Nat) : Env → RE := fun env => varE env i
def eRd (i : Nat) : Env → RE := fun env => rdE env i
def eBin (op : Operator) (ma mb : Env → RE) : Env → RE := fun env => (ma env).bind fun x _ e1 => (mb e1).bind fun y _ e2 => outE (binD op x y) e2
def eNeg (ma : Env → RE) : Env → RE := fun env => (ma env).bind fun x _ e1 => match x with
  | .int i => .ok (.int (-i)) false e1
  | _ => .no
def eNot (ma : Env → RE) : Env → RE := fun env => (ma env).bind fun x _ e1 => match x with
  | .bl b => .ok (.bl (!b)) false e1
  | _ => .no
def eCmp (op : CmpOp) (ma mb : Env → RE) : Env → RE := fun env => (ma env).bind fun x _ e1 => (mb e1).bind fun y _ e2 => outB (cmpD op x y) e2
def eChain (o1 o2 : CmpOp) (ma mb mc : Env → RE) : Env → RE := fun env => (ma env).bind fun x _ e1 => (mb e1).bind fun y _ e2 => match cmpD o1 x y with
  | some true => (mc e2).bind fun z _ e3 => outB (cmpD o2 y z) e3
  | some false => .ok (.bl false) false e2
  | none => .no
def eAnd (ma mb : Env → RE) : Env → RE := fun env => (ma env).bind fun x _ e1 => match x with
  | .bl true => mb e1
  | .bl false => .ok (.bl false) false e1
  | _ => .no
def eOr (ma mb : Env → RE) : Env → RE := fun env => (ma env).bind fun x _ e1 => match x with
  | .bl true => .ok (.bl true) false e1
  | .bl false => mb e1
  | _ => .no
def eIfe (mc ma mb : Env → RE) : Env → RE := fun env => (mc env).bind fun x _ e1 => match x with
  | .bl true => ma e1
  | .bl false => mb e1
  | _ => .no
def aNil : Env → REs := fun env => .ok [] env
def aCons (ma : Env → RE) (ms : Env → REs) : Env → REs := fun env => (ma env).bindI fun x _ e1 => match ms e1 with
  | .ok ds e2 => .ok (x :: ds) e2
  | .ex c e2 => .ex c e2
  | .no => .no
def eTup (ms : Env → REs) : Env → RE := fun env => (ms env).bind fun ds e1 => if ds.length ≤ lim then .ok (.tup ds) false e1 else .no
def eLst (ms : Env → REs) : Env → RE := fun env => (ms env).bind fun ds e1 => if ds.length ≤ lim then .ok (.lst ds) true e1 else .no
def eSub (ma mb : Env → RE) : Env → RE := fun env => (ma env).bind fun x _ e1 => (mb e1).bind fun y _ e2 => outD (subD x y) e2
def eSubR (i : Nat) (mb : Env → RE) : Env → RE := fun env => match (getS env i).get with
  | none => .no
  | some _ => (mb env).bind fun y _ e1 => match (getS e1 i).get with
    | some x => outD (subD x y) e1
    | none => .no
def oNone : Env → REs := fun env => .ok [] env
def oSome (ma : Env → RE) : Env → REs := fun env => (ma env).bindI fun x _ e1 => match x with
  | .int i => .ok [.int i] e1
  | _ => .no
def eSlc (ma : Env → RE) (ml mh : Env → REs) : Env → RE := fun env => (ma env).bind fun x _ e1 => (ml e1).bind fun l e2 => (mh e2).bind fun h e3 => match intO l.head?, intO h.head? with
  | some l', some h' => outE (slcD x l' h') e3
  | _, _ => .no
def eCall (f : Sem) (ms : Env → REs) : Env → RE := fun env => (ms env).bind fun ds e1 => callR false (f ds) e1
def eCallB (f : Sem) (ms : Env → REs) : Env → RE := fun env => (ms env).bind fun ds e1 => callR true (f ds) e1
def eCallIo (f : Sem) (i : Nat) (ms : Env → REs) : Env → RE := fun env => match ioGet env i with
  | none => .no
  | some _ => (ms env).bind fun ds e1 => match ioGet e1 i with
    | some d => callRio i (f (d :: ds)) e1
    | none => .no
def eB1 (f : BF) (ma : Env → RE) : Env → RE := fun env => (ma env).bind fun x _ e1 => outE (b1D f x) e1
def eM1 (mf : MF) (ma mb : Env → RE) : Env → RE := fun env => (ma env).bind fun x _ e1 => match x with
  | .str z => (mb e1).bind fun y _ e2 => outD (m1D mf (.str z) y) e2
  | _ => .no
def eComp (vs : List Nat) (mi : Env → REs) (t : TG) (mc me : Env → RE) : Env → RE := fun env => (mi env).bind fun ds e1 => match wipeE e1 vs with
  | none => .no
  | some e2 => (compL vs e1 t mc me ds e2 []).bind fun rs e3 => .ok (.lst rs) true (backE e1 e3 vs)
def eYes : Env → RE := fun env => .ok (.bl true) false env
/-! ### what is walked -/
def iLst (ma : Env → RE) : Env → REs := fun env => (ma env).bindI fun x _ e1 => match x with
  | .lst xs => .ok xs e1
  | _ => .no
def iTup (ma : Env → RE) : Env → REs := fun env => (ma env).bindI fun x _ e1 => match x with
  | .tup xs => .ok xs e1
  | _ => .no
def iStr (ma : Env → RE) : Env → REs := fun env => (ma env).bindI fun x _ e1 => match x with
  | .str xs => if xs.length ≤ lim then .ok (xs.map fun c => .str [c]) e1 else .no
  | _ => .no
def iRng1 (ma : Env → RE) : Env → REs := fun env => (ma env).bindI fun x _ e1 => match x with
  | .int n => outI (rngD 0 n) e1
  | _ => .no
def iRng2 (ma mb : Env → RE) : Env → REs := fun env => (ma env).bindI fun x _ e1 => (mb e1).bindI fun y _ e2 => match x, y with
  | .int n, .int m => outI (rngD n m) e2
  | _, _ => .no
/-! ### statements -/
def bNil : Env → RS := fun env => .nx env
def bCons (ms mt : Env → RS) : Env → RS := fun env => match ms env with
  | .nx e1 => mt e1
  | r => r
def sExpr (m : Env → RE) : Env → RS := fun env => (m env).bindS fun _ _ e1 => .nx e1
def sSet (i : Nat) (m : Env → RE) : Env → RS := fun env => (m env).bindS fun d fr e1 => putS e1 i d fr
def sUnp (t : TG) (m : Env → RE) : Env → RS := fun env => (m env).bindS fun d _ e1 => nxO (asg t d e1)
def sPar (i j : Nat) (ma mb : Env → RE) : Env → RS := fun env => (ma env).bindS fun x fx e1 => (mb e1).bindS fun y fy e2 => match putS e2 i x fx with
  | .nx e3 => putS e3 j y fy
  | _ => .no
def sPar3 (i j l : Nat) (ma mb mc : Env → RE) : Env → RS := fun env => (ma env).bindS fun x fx e1 => (mb e1).bindS fun y fy e2 => (mc e2).bindS fun z fz e3 => match putS e3 i x fx with
  | .nx e4 => match putS e4 j y fy with
    | .nx e5 => putS e5 l z fz
    | _ => .no
  | _ => .no
def sApp (i : Nat) (m : Env → RE) : Env → RS := fun env => match ioGet env i with
  | none => .no
  | some _ => (m env).bindS fun d _ e1 => match ioGet e1 i with
    | some (.lst xs) => if xs.length < lim then .nx (e1.set i (putBack (getS e1 i) (.lst (xs ++ [d])))) else .no
    | _ => .no
def sStI (i : Nat) (mb ma : Env → RE) : Env → RS := fun env => (ma env).bindS fun d _ e1 => match ioGet e1 i with
  | none => .no
  | some _ => (mb e1).bindS fun z _ e2 => match ioGet e2 i, z with
    | some (.lst xs), .int n => match ixN xs.length n with
      | some j => .nx (e2.set i (putBack (getS e2 i) (.lst (xs.set j d))))
      | none => .no
    | _, _ => .no
def sRet (m : Env → RE) : Env → RS := fun env => (m env).bindS fun d fr e1 => .rt d fr e1
def sRetN : Env → RS := fun env => .rt .non false env
def sRetV (i : Nat) : Env → RS := fun env => match getS env i with
  | .own d => .rt d true (env.set i .no)
  | .val d => .rt d false env
  | _ => .no
def sIf (mc : Env → RE) (ms mt : Env → RS) : Env → RS := fun env => (mc env).bindS fun x _ e1 => match x with
  | .bl true => ms e1
  | .bl false => mt e1
  | _ => .no
def sFor (mi : Env → REs) (t : TG) (ms : Env → RS) : Env → RS := fun env => (mi env).bindS fun ds e1 => forL (fun x e => match asg t x e with
  | some e2 => ms e2
  | none => .no) ds e1
def sWhl (mc : Env → RE) (ms : Env → RS) : Env → RS := fun env => (whlL mc ms env).getD .no
def sBrk : Env → RS := fun env => .bk env
def sCnt : Env → RS := fun env => .ct env
def sAug (i : Nat) (op : Operator) (m : Env → RE) : Env → RS := fun env => match getS env i with
  | .val (.int x) => (m env).bindS fun y _ e1 => match y with
    | .int y => (match binD op (.int x) (.int y) with
      | some (z, _) => .nx (e1.set i (.val z))
      | none => .no)
    | _ => .no
  | _ => .no

/-! ### the rules -/
section
variable {X : Cx} {W : WX} {k : Nat} {a b c e : Expr} {es : List Expr} {pos p : Pos} {m ma mb mc : Env → RE} {ms mt : Env → REs} {st sa sb sc pa pb pc pu ps pt : Bool} {n i j l : Nat}
theorem pI {i : Int} {j : Nat} : PE X (.Constant (.int i) j pos) (tI X.K X.mg W true true (eLit (.int i))) := s_lit pe_int fun _ => .int i
theorem pB {b : Bool} {j : Nat} : PE X (.Constant (.bool b) j pos) (tI X.K X.mg W true true (eLit (.bl b))) := s_lit pe_bl fun _ => .bl b
theorem pN {j : Nat} : PE X (.Constant .none j pos) (tI X.K X.mg W true true (eLit .non)) := s_lit pe_non fun _ => .non
theorem pS {x : Str} {j : Nat} (xs : List Nat) (h : x = ⟨xs.toArray⟩ := by kernel_rfl) : PE X (.Constant (.str x) j pos) (tI X.K X.mg W true true (eLit (.str xs))) := s_lit pe_str fun _ => h ▸ .str xs
theorem pGI {x : Str} {i : Int} (hm : ∃ t, X.mg x = some (.int i t)) (hg : X.env.kindOf x = some .globalImplicit := by kernel_rfl) (hd : (x == ("__debug__" : Str)) = false := by kernel_rfl) : PE X (.Name x pos) (tI X.K X.mg W true true (eLit (.int i))) :=
  let ⟨t, h⟩ := hm; s_lit (pe_glob (v := .int i) hg h ⟨t, rfl⟩ hd) fun _ => .int i
theorem pGS {x z : Str} (xs : List Nat) (hm : ∃ t, X.mg x = some (.str z t)) (h : z = ⟨xs.toArray⟩ := by kernel_rfl) (hg : X.env.kindOf x = some .globalImplicit := by kernel_rfl) (hd : (x == ("__debug__" : Str)) = false := by kernel_rfl) : PE X (.Name x pos) (tI X.K X.mg W true true (eLit (.str xs))) :=
  let ⟨t, q⟩ := hm; s_lit (pe_glob (v := .str z) hg q ⟨t, rfl⟩ hd) fun _ => h ▸ .str xs
/-- a name that can be seen, as a test that computes -/
def visB (sc : Scope) (x : Str) : Bool := match sc.names.lookup x with
  | some .local => true
  | some .cell => true
  | some .free => true
  | _ => false
def locB (sc : Scope) (x : Str) : Bool := match sc.names.lookup x with
  | some .local => true
  | some .cell => true
  | _ => false
theorem vis_of {sc : Scope} {x : Str} (h : visB sc x = true) : Vis sc x := by
  unfold visB at h
  split at h
  · exact .inl (by assumption)
  · exact .inr (.inl (by assumption))
  · exact .inr (.inr (by assumption))
  · cases h
theorem loc_of {sc : Scope} {x : Str} (h : locB sc x = true) : Loc sc x := by
  unfold locB at h
  split at h
  · exact .inl (by assumption)
  · exact .inr (by assumption)
  · cases h
theorem pv0 (i : Nat) {x : Str} (hN : X.N[i]? = some x := by kernel_rfl) (hv : visB X.env.scope x = true := by kernel_rfl) (hd : (x == ("__debug__" : Str)) = false := by kernel_rfl) (hcd : (x == ("__classdict__" : Str)) = false := by kernel_rfl) : PE X (.Name x pos) (tVar i) := pe_var hN (vis_of hv) hd hcd
theorem pVar (h : PE X e (tVar i)) : PE X e (tI X.K X.mg W true true (eVar i)) := s_var h
theorem pRd (h : PE X e (tVar i)) : PE X e (tI X.K X.mg W false true (eRd i)) := s_rd h
theorem pBin {op : Operator} (ha : PE X a (tI X.K X.mg W true pa ma)) (hb : PE X b (tI X.K X.mg W true pb mb)) : PE X (.BinOp a op b pos) (tI X.K X.mg W true (pa && pb) (eBin op ma mb)) := s_bin ha hb
theorem pNeg (ha : PE X a (tI X.K X.mg W sa pa ma)) : PE X (.UnaryOp .USub a pos) (tI X.K X.mg W true pa (eNeg ma)) := s_neg ha
theorem pNot (ha : PE X a (tI X.K X.mg W sa pa ma)) : PE X (.UnaryOp .Not a pos) (tI X.K X.mg W true pa (eNot ma)) := s_not ha
theorem pCmp {op : CmpOp} (g : Gd k X W) (ha : PE X a (tI X.K X.mg W sa pa ma)) (hb : PE X b (tI X.K X.mg W sb pb mb)) (hs : (sa || pb) = true := by rfl) (hm : behindInMarks op b = false := by rfl) : PE X (.Compare a [op] [b] pos) (tI X.K X.mg W true (pa && pb) (eCmp op ma mb)) := s_cmp g.hu hm ha hb hs
theorem pChain {o1 o2 : CmpOp} (g : Gd k X W) (ha : PE X a (tI X.K X.mg W true pa ma)) (hb : PE X b (tI X.K X.mg W true pb mb)) (hc : PE X c (tI X.K X.mg W sc pc mc)) (hm : lastMarks [o1, o2] [b, c] = false := by rfl) : PE X (.Compare a [o1, o2] [b, c] pos) (tI X.K X.mg W true (pa && pb && pc) (eChain o1 o2 ma mb mc)) := s_chain g.hu hm ha hb hc
theorem pAnd {rest : List Expr} (ha : PE X a (tI X.K X.mg W sa pa ma)) (hb : PE X (.BoolOp .And (b :: rest) pos) (tI X.K X.mg W true pb mb)) : PE X (.BoolOp .And (a :: b :: rest) pos) (tI X.K X.mg W true (pa && pb) (eAnd ma mb)) := s_and ha hb
theorem pOr {rest : List Expr} (ha : PE X a (tI X.K X.mg W sa pa ma)) (hb : PE X (.BoolOp .Or (b :: rest) pos) (tI X.K X.mg W true pb mb)) : PE X (.BoolOp .Or (a :: b :: rest) pos) (tI X.K X.mg W true (pa && pb) (eOr ma mb)) := s_or ha hb
theorem pOne {op : BoolOp} {t : TE} (h : PE X a t) : PE X (.BoolOp op [a] pos) t := pe_one h
theorem pIfe (hc : PT X c (tTI X.K X.mg W mc)) (ha : PE X a (tI X.K X.mg W true pa ma)) (hb : PE X b (tI X.K X.mg W true pb mb)) : PE X (.IfExp c a b pos) (tI X.K X.mg W true false (eIfe mc ma mb)) := s_ife hc (PE.weak ha (fun h => nomatch h)) (PE.weak hb (fun h => nomatch h))
/-- arguments -/
structure QA (X : Cx) (W : WX) (es : List Expr) (n : Nat) (st ps : Bool) (ms : Env → REs) : Prop where
  pa : PA X es (tIs X.K X.mg W st ps ms)
  len : ∀ env ds e1, ms env = .ok ds e1 → ds.length = n
  star : starEach es X.env = es.map fun a => (false, eval a X.env)
theorem qNil : QA X W [] 0 st true aNil := ⟨s_anil, fun _ _ _ h => by cases h; rfl, rfl⟩
theorem qCons (ha : PE X a (tI X.K X.mg W sa pa ma)) (hr : QA X W es n st ps ms) (h1 : (!st || sa) = true := by rfl) (h2 : (st || ps) = true := by rfl) (hs : starEach (a :: es) X.env = (false, eval a X.env) :: starEach es X.env := by rfl) : QA X W (a :: es) (n + 1) st (pa && ps) (aCons ma ms) :=
  ⟨s_acons (fun h => by rw [h] at h1; simpa using h1) (fun h => by rw [h] at h2; simpa using h2) ha hr.pa hs, fun env ds e1 h => by
    unfold aCons at h
    cases q : ma env with
    | no => rw [q] at h; cases h
    | ex x e2 => rw [q] at h; cases h
    | ok d fr e2 =>
      rw [q] at h
      simp only [RE.bindI] at h
      cases q2 : ms e2 with
      | no => rw [q2] at h; cases h
      | ex x e3 => rw [q2] at h; cases h
      | ok ds2 e3 =>
        rw [q2] at h
        cases h
        simp [hr.len _ _ _ q2], by rw [hs, hr.star]; rfl⟩
theorem QA.any (h : QA X W es n st ps ms) : (backTo pos (starEach es X.env)).any (·.1) = false := by
  rw [h.star]
  have key : ∀ l : List Expr, (backTo pos (l.map fun a => (false, eval a X.env))).any (·.1) = false := fun l => by
    induction l with
    | nil => rfl
    | cons a l ih => exact ih
  exact key es
theorem pTup {x1 : Nat} (h : QA X W es n true ps ms) : PE X (.Tuple es x1 pos) (tI X.K X.mg W true ps (eTup ms)) := s_tup h.pa
theorem pLst (h : QA X W es n true ps ms) : PE X (.List es pos) (tI X.K X.mg W true ps (eLst ms)) := s_lst h.pa
theorem pSub (ha : PE X a (tI X.K X.mg W true pa ma)) (hb : PE X b (tI X.K X.mg W sb pb mb)) (hs : PlainIx b := by intro _ _; rfl) : PE X (.Subscript a b pos) (tI X.K X.mg W true (pa && pb) (eSub ma mb)) := s_sub hs ha hb
theorem pSubR (ha : PE X a (tVar i)) (hb : PE X b (tI X.K X.mg W sb pb mb)) (hs : PlainIx b := by intro _ _; rfl) : PE X (.Subscript a b pos) (tI X.K X.mg W true pb (eSubR i mb)) := s_subR hs ha hb
/-- a part of a slice -/
structure QO (X : Cx) (W : WX) (o : Option Expr) (pu : Bool) (mo : Env → REs) : Prop where
  po : PO X o (tOI X.K X.mg W pu mo)
  int : IntP mo
theorem qN : QO X W none true oNone := ⟨s_ono, intP_none⟩
theorem qS (ha : PE X a (tI X.K X.mg W sa pa ma)) : QO X W (some a) pa (oSome ma) := ⟨s_oso ha, intP_some⟩
theorem pSlc {lo hi : Option Expr} {ml mh : Env → REs} {pl ph : Bool} {p2' : Pos} (ha : PE X a (tI X.K X.mg W true pa ma)) (hl : QO X W lo pl ml) (hh : QO X W hi ph mh) : PE X (.Subscript a (.Slice lo hi none p2') pos) (tI X.K X.mg W true (pa && pl && ph) (eSlc ma ml mh)) := s_slc hl.int hh.int ha hl.po hh.po
theorem pCall {j : Nat} {x : Str} {f : Sem} (g : Gd k X W) (F : FnS X.prog X.w X.K X.mg X.base j x n false f) (ha : QA X W (a :: es) n true ps ms) (hj : j ≤ k := by decide) (hg : X.env.kindOf x = some .globalImplicit := by kernel_rfl) (hd : (x == ("__debug__" : Str)) = false := by kernel_rfl)
    (hn : (a :: es).length = n := by rfl) (he : starEach (a :: es) X.env = (false, eval a X.env) :: starEach es X.env := by rfl) (hpl : (backTo pos (starEach es X.env)).any (·.1) = false := by rfl) : PE X (.Call (.Name x p) (a :: es) [] pos) (tI X.K X.mg W true ps (eCall f ms)) :=
  s_call (F.mono hj) g.room hg g.tk hd hn ha.pa ha.len he hpl
theorem pCallB {j : Nat} {x : Str} {f : Sem} (g : Gd k X W) (F : FnS X.prog X.w X.K X.mg X.base j x n false f) (ha : QA X W (a :: es) n false ps ms) (hj : j ≤ k := by decide) (hg : X.env.kindOf x = some .globalImplicit := by kernel_rfl) (hd : (x == ("__debug__" : Str)) = false := by kernel_rfl)
    (hn : (a :: es).length = n := by rfl) (he : starEach (a :: es) X.env = (false, eval a X.env) :: starEach es X.env := by rfl) (hpl : (backTo pos (starEach es X.env)).any (·.1) = false := by rfl) : PE X (.Call (.Name x p) (a :: es) [] pos) (tI X.K X.mg W true ps (eCallB f ms)) :=
  s_callB (F.mono hj) g.room hg g.tk hd hn ha.pa ha.len he hpl
theorem pCallIo {j : Nat} {x : Str} {f : Sem} (g : Gd k X W) (F : FnS X.prog X.w X.K X.mg X.base j x (n + 1) true f) (ha : PE X a (tVar i)) (hes : QA X W es n true ps ms) (hj : j ≤ k := by decide) (hg : X.env.kindOf x = some .globalImplicit := by kernel_rfl) (hd : (x == ("__debug__" : Str)) = false := by kernel_rfl)
    (hn : (a :: es).length = n + 1 := by rfl) (he : starEach (a :: es) X.env = (false, eval a X.env) :: starEach es X.env := by rfl) (hpl : (backTo pos (starEach es X.env)).any (·.1) = false := by rfl) : PE X (.Call (.Name x p) (a :: es) [] pos) (tI X.K X.mg W true false (eCallIo f i ms)) :=
  s_callIo (F.mono hj) g.room hg g.tk hd hn ha hes.pa (fun env ds e1 h => by rw [hes.len env ds e1 h]) he hpl
theorem pB1 {f : BF} {x : Str} (hb : BCall X f x) (ha : PE X a (tI X.K X.mg W sa pa ma)) (hs : (sa || f.atomic) = true := by rfl) (hg : X.env.kindOf x = some .globalImplicit := by kernel_rfl) (he : starEach [a] X.env = (false, eval a X.env) :: starEach [] X.env := by rfl) : PE X (.Call (.Name x p) [a] [] pos) (tI X.K X.mg W true pa (eB1 f ma)) :=
  s_b1 hb hg (by simpa using hs) ha he
theorem pIsi {f : BF} {T : String} {t : Expr} (h : IsOk X T (b1D f)) (hff : ∀ d q fr, b1D f d = some (q, fr) → fr = false) (hm : X.mg "isinstance" = none) (ht : PE X t (tC (.ty T))) (ha : PE X a (tI X.K X.mg W sa pa ma)) (hf : f.atomic = true := by rfl) (hg : X.env.kindOf "isinstance" = some .globalImplicit := by kernel_rfl)
    (he : starEach [a, t] X.env = (false, eval a X.env) :: starEach [t] X.env := by rfl) (he2 : starEach [t] X.env = (false, eval t X.env) :: starEach [] X.env := by rfl) (hpl : (backTo pos (starEach [t] X.env)).any (·.1) = false := by rfl) : PE X (.Call (.Name "isinstance" p) [a, t] [] pos) (tI X.K X.mg W true pa (eB1 f ma)) :=
  s_isi (p2' := pos) h hf hff hm hg ht ha he he2 hpl
theorem pM1 {mf : MF} {id : String} {name : Str} {o : Expr} {apos : Pos} (h : SmOk X id mf) (slot : PySem.Slot "str" name id) (ty : typeOf (.builtin id) = pure (.type "method_descriptor")) (ho : PE X o (tI X.K X.mg W true pa ma)) (ha : PE X a (tI X.K X.mg W true pb mb))
    (hs : starEach [a] X.env = [(false, eval a X.env)] := by rfl) (hbase : attributeBase o name X.env (eval o X.env) = eval o X.env := by rfl) (hline : (apos.endLine == pos.line) = true := by rfl) : PE X (.Call (.Attribute o name apos) [a] [] pos) (tI X.K X.mg W true (pa && pb) (eM1 mf ma mb)) :=
  s_m1 h slot ty ho ha hs hbase hline
/-! ### tests -/
theorem tVal (h : PE X e (tI X.K X.mg W st pu m)) (he : ∀ whole, isTrue e X.env whole = (do let v ← whole; standAt e.pos; holding [v] (truthy v)) := by intro _; rfl) : PT X e (tTI X.K X.mg W m) := s_test h he
theorem tCmp {op : CmpOp} (g : Gd k X W) (ha : PE X a (tI X.K X.mg W sa pa ma)) (hb : PE X b (tI X.K X.mg W sb pb mb)) (hs : (sa || pb) = true := by rfl) (hm : behindInMarks op b = false := by rfl) : PT X (.Compare a [op] [b] pos) (tTI X.K X.mg W (eCmp op ma mb)) := s_tcmp g.hu hm ha hb hs
theorem tChn {o1 o2 : CmpOp} (g : Gd k X W) (ha : PE X a (tI X.K X.mg W true pa ma)) (hb : PE X b (tI X.K X.mg W true pb mb)) (hc : PE X c (tI X.K X.mg W sc pc mc)) (hm : lastMarks [o1, o2] [b, c] = false := by rfl) : PT X (.Compare a [o1, o2] [b, c] pos) (tTI X.K X.mg W (eChain o1 o2 ma mb mc)) := s_tchain g.hu hm ha hb hc
theorem tNt (ha : PT X a (tTI X.K X.mg W ma)) : PT X (.UnaryOp .Not a pos) (tTI X.K X.mg W (eNot ma)) := s_tnot ha
theorem wAnd (ha : PT X a (tTI X.K X.mg W ma)) {rest : List Expr} (hb : PW X (.BoolOp .And (b :: rest) pos) (tTI X.K X.mg W mb)) : PW X (.BoolOp .And (a :: b :: rest) pos) (tTI X.K X.mg W (eAnd ma mb)) := s_tand ha hb
theorem wOr (ha : PT X a (tTI X.K X.mg W ma)) {rest : List Expr} (hb : PW X (.BoolOp .Or (b :: rest) pos) (tTI X.K X.mg W mb)) : PW X (.BoolOp .Or (a :: b :: rest) pos) (tTI X.K X.mg W (eOr ma mb)) := s_tor ha hb
theorem wAnd1 (ha : PT X a (tTI X.K X.mg W ma)) : PW X (.BoolOp .And [a] pos) (tTI X.K X.mg W ma) := pw_and1 ha
theorem wOr1 (ha : PT X a (tTI X.K X.mg W ma)) : PW X (.BoolOp .Or [a] pos) (tTI X.K X.mg W ma) := pw_or1 ha
theorem tBool {t : TT} (h : PW X e t) : PT X e t := h.pt
/-! ### what is walked, targets, comprehensions -/
theorem jLst {tg : Expr} (ha : PE X a (tI X.K X.mg W true pa ma)) : PI X tg a (tJ X.K X.mg W pa (iLst ma)) := i_lst ha
theorem jTup {tg : Expr} (ha : PE X a (tI X.K X.mg W true pa ma)) : PI X tg a (tJ X.K X.mg W pa (iTup ma)) := i_tup ha
theorem jStr {tg : Expr} (ha : PE X a (tI X.K X.mg W true pa ma)) : PI X tg a (tJ X.K X.mg W pa (iStr ma)) := i_str ha
theorem jRng1 {tg : Expr} (hm : X.mg "range" = none) (ha : PE X a (tI X.K X.mg W sa pa ma)) (hg : X.env.kindOf "range" = some .globalImplicit := by kernel_rfl) (hs : starEach [a] X.env = [(false, eval a X.env)] := by rfl) : PI X tg (.Call (.Name "range" p) [a] [] pos) (tJ X.K X.mg W pa (iRng1 ma)) := i_rng1 hg hm ha hs
theorem jRng2 {tg : Expr} (hm : X.mg "range" = none) (ha : PE X a (tI X.K X.mg W sa pa ma)) (hb : PE X b (tI X.K X.mg W sb pb mb)) (hg : X.env.kindOf "range" = some .globalImplicit := by kernel_rfl) (hs : starEach [a, b] X.env = [(false, eval a X.env), (false, eval b X.env)] := by rfl) (hs2 : starEach [b] X.env = [(false, eval b X.env)] := by rfl) : PI X tg (.Call (.Name "range" p) [a, b] [] pos) (tJ X.K X.mg W (pa && pb) (iRng2 ma mb)) := i_rng2 hg hm ha hb hs hs2
theorem gNm (g : Gd k X W) (i : Nat) {x : Str} (hi : X.N[i]? = some x := by kernel_rfl) (hx : locB X.env.scope x = true := by kernel_rfl) (hf : (X.fn x || match X.env.scope.names.lookup x with
    | some .local => true
    | _ => false) = true := by kernel_rfl) : PG X (.Name x pos) (tG X.K X.mg (.nm i)) :=
  g_nm (pg_name g.nd hi (loc_of hx) (by
    rw [Bool.or_eq_true] at hf
    refine hf.imp id fun h => ?_
    split at h
    · assumption
    · cases h))
theorem gsNil : PGs X [] (tGs X.K X.mg []) := gs_nil
theorem gsCons {t : TG} {ts : List TG} (h1 : PG X e (tG X.K X.mg t)) (h2 : PGs X es (tGs X.K X.mg ts)) (hs : (assignEach (e :: es) X.env).map (·.2) = assign e X.env :: (assignEach es X.env).map (·.2) := by rfl) : PGs X (e :: es) (tGs X.K X.mg (t :: ts)) := gs_cons h1 h2 hs
theorem gTp (g : Gd k X W) {x1 : Nat} {ts : List TG} (h : PGs X es (tGs X.K X.mg ts)) (hn : (assignEach es X.env).length = ts.length := by rfl) (hst : (assignEach es X.env).findIdx? (·.1) = none := by rfl) : PG X (.Tuple es x1 pos) (tG X.K X.mg (.tup ts)) := g_tup g.calm h hn hst
theorem cNil : PTs X [] (tTI X.K X.mg W eYes) := PTs.imp pts_nil fun σ H Q ⟨Hf, env, R, g⟩ => g H Hf R Tr.refl
theorem cOne (h : PT X c (tTI X.K X.mg W mc)) : PTs X [c] (tTI X.K X.mg W mc) := pts_one h
theorem pComp {tg iter elt : Expr} {ifs : List Expr} {scope : Scope} (own : List (Str × Nat)) {t : TG} {pi pe : Bool} {mi : Env → REs} {mc me : Env → RE} (g : Gd k X W) (hi : PI X tg iter (tJ X.K X.mg W pi mi))
    (hg : ∀ (s : Shared) (H : Hp) (C : Addr) (cl : List (Str × Addr)) (fp : List Addr), PG (X.blk s H scope (compEnvC scope cl C X.env) fp) tg (tG X.K X.mg t)) (ht : ∀ (s : Shared) (H : Hp) (C : Addr) (cl : List (Str × Addr)) (fp : List Addr), PTs (X.blk s H scope (compEnvC scope cl C X.env) fp) ifs (tTI X.K X.mg WF mc))
    (he : ∀ (s : Shared) (H : Hp) (C : Addr) (cl : List (Str × Addr)) (fp : List Addr), PE (X.blk s H scope (compEnvC scope cl C X.env) fp) elt (tI X.K X.mg WF true pe me)) (ok : blkC X.N X.env.scope scope own = true := by kernel_rfl) (hix : (t.ix.all fun j => decide (j ∈ own.map (·.2))) = true := by kernel_rfl) (hs : ∀ x, foldedSetIterable iter X.env x = pure x := by intro _; rfl) :
    PE X (.ListComp elt [⟨tg, iter, ifs, 0⟩] scope pos) (tI X.K X.mg W true false (eComp (own.map (·.2)) mi t mc me)) :=
  s_comp g.calm g.nd hi (blkOk_by ok) (fun j hj => by simpa using List.all_eq_true.mp hix j hj) hg ht he hs
end

section
variable {X : Cx} {W : WX} {k : Nat} {a b c e : Expr} {es : List Expr} {pos p : Pos} {m ma mb mc : Env → RE} {ms mt : Env → RS} {st sa sb sc pa pb pc pu ps pt : Bool} {n i j l : Nat}
theorem kNil : PSs X [] (tS X.K X.mg W bNil) := ss_nil
theorem kCons {s : Stmt} {ss : List Stmt} (h1 : PS X s (tS X.K X.mg W ms)) (h2 : PSs X ss (tS X.K X.mg W mt)) : PSs X (s :: ss) (tS X.K X.mg W (bCons ms mt)) := ss_cons h1 h2
theorem kExpr (he : PE X e (tI X.K X.mg W sa pa m)) (hs : swapsWith e none pos.line X.env = pure false := by rfl) : PS X (.Expr e pos) (tS X.K X.mg W (sExpr m)) := s_expr he hs
theorem kSet (g : Gd k X W) (i : Nat) {x : Str} (he : PE X e (tI X.K X.mg W true pa m)) (hi : X.N[i]? = some x := by kernel_rfl) (hx : locB X.env.scope x = true := by kernel_rfl) (hf : X.fn x = true := by rfl) (hs : swapsWith e (some (.Name x p)) pos.line X.env = pure false := by rfl) : PS X (.Assign [.Name x p] e pos) (tS X.K X.mg W (sSet i m)) :=
  s_set g.nd hi (loc_of hx) (PE.weak he (fun h => nomatch h)) hs (.inl hf)
theorem kSetLc {y : Str} {py : Pos} {tg iter elt : Expr} {ifs : List Expr} {scope : Scope} {spos : Pos} {t : TG} {pi pe : Bool} {mi : Env → REs} {mc me : Env → RE} (g : Gd k X W) (i : Nat) (own : List (Str × Nat)) (hi : PI X tg iter (tJ X.K X.mg W pi mi))
    (hg : ∀ (s : Shared) (H : Hp) (C : Addr) (cl : List (Str × Addr)) (fp : List Addr), PG (X.blk s H scope (compEnvC scope cl C X.env) fp) tg (tG X.K X.mg t)) (ht : ∀ (s : Shared) (H : Hp) (C : Addr) (cl : List (Str × Addr)) (fp : List Addr), PTs (X.blk s H scope (compEnvC scope cl C X.env) fp) ifs (tTI X.K X.mg WF mc))
    (he : ∀ (s : Shared) (H : Hp) (C : Addr) (cl : List (Str × Addr)) (fp : List Addr), PE (X.blk s H scope (compEnvC scope cl C X.env) fp) elt (tI X.K X.mg WF true pe me)) (hy : X.N[i]? = some y := by kernel_rfl) (hyl : X.env.scope.names.lookup y = some .local := by kernel_rfl)
    (hk : X.env.scope.kind = .function := by kernel_rfl) (hl : (py.line == pos.line) = true := by rfl) (hna : (scope.names.any fun (n, k) => n == y && (k == .local || k == .cell)) = false := by kernel_rfl)
    (ok : blkC X.N X.env.scope scope own = true := by kernel_rfl) (hix : (t.ix.all fun j => decide (j ∈ own.map (·.2))) = true := by kernel_rfl) (hs : ∀ x, foldedSetIterable iter X.env x = pure x := by intro _; rfl) :
    PS X (.Assign [.Name y py] (.ListComp elt [⟨tg, iter, ifs, 0⟩] scope pos) spos) (tS X.K X.mg W (sSet i (eComp (own.map (·.2)) mi t mc me))) :=
  s_setLc g.calm g.nd hy hyl (sw_true hk hyl hl hna) hi (blkOk_by ok) (fun j hj => by simpa using List.all_eq_true.mp hix j hj) hg ht he hs
theorem kUnp {tg : Expr} {t : TG} (he : PE X e (tI X.K X.mg W true pa m)) (hg : PG X tg (tG X.K X.mg t)) (hs : swapsWithSole [tg] e pos.line X.env = pure false := by rfl) (hw : swappedStores [tg] e X.env = pure none := by rfl) (h1 : (assignEach [tg] X.env).map (·.2) = [assign tg X.env] := by rfl) : PS X (.Assign [tg] e pos) (tS X.K X.mg W (sUnp t m)) :=
  s_unp (PE.weak he (fun h => nomatch h)) hg hs hw h1
theorem kPar {x y : Str} {px py pt : Pos} {kt k2 pt2} (g : Gd k X W) (i j : Nat) (ha : PE X a (tI X.K X.mg W true pa ma)) (hb : PE X b (tI X.K X.mg W true pb mb)) (hi : X.N[i]? = some x := by kernel_rfl) (hj : X.N[j]? = some y := by kernel_rfl) (hij : i ≠ j := by decide)
    (hx : X.env.scope.names.lookup x = some .local := by kernel_rfl) (hy : X.env.scope.names.lookup y = some .local := by kernel_rfl) (hse : starEach [a, b] X.env = (false, eval a X.env) :: starEach [b] X.env := by rfl) (hse2 : starEach [b] X.env = (false, eval b X.env) :: starEach [] X.env := by rfl)
    (hw : swappedStores [.Tuple [.Name x px, .Name y py] kt pt] (.Tuple [a, b] k2 pt2) X.env = pure (some [x, y]) := by rfl) (hs : swapsWithSole [.Tuple [.Name x px, .Name y py] kt pt] (.Tuple [a, b] k2 pt2) pos.line X.env = pure false := by rfl) :
    PS X (.Assign [.Tuple [.Name x px, .Name y py] kt pt] (.Tuple [a, b] k2 pt2) pos) (tS X.K X.mg W (sPar i j ma mb)) := s_par g.calm g.nd hi hj hij hx hy ha hb hse hse2 hw hs
theorem kPar3 {x y z : Str} {px py pz pt : Pos} {kt k2 pt2} (g : Gd k X W) (i j l : Nat) (ha : PE X a (tI X.K X.mg W true pa ma)) (hb : PE X b (tI X.K X.mg W true pb mb)) (hc : PE X c (tI X.K X.mg W true pc mc)) (hi : X.N[i]? = some x := by kernel_rfl) (hj : X.N[j]? = some y := by kernel_rfl) (hl : X.N[l]? = some z := by kernel_rfl) (hij : i ≠ j := by decide) (hil : i ≠ l := by decide) (hjl : j ≠ l := by decide)
    (hx : X.env.scope.names.lookup x = some .local := by kernel_rfl) (hy : X.env.scope.names.lookup y = some .local := by kernel_rfl) (hz : X.env.scope.names.lookup z = some .local := by kernel_rfl)
    (hse : starEach [a, b, c] X.env = (false, eval a X.env) :: starEach [b, c] X.env := by rfl) (hse2 : starEach [b, c] X.env = (false, eval b X.env) :: starEach [c] X.env := by rfl) (hse3 : starEach [c] X.env = (false, eval c X.env) :: starEach [] X.env := by rfl)
    (hw : swappedStores [.Tuple [.Name x px, .Name y py, .Name z pz] kt pt] (.Tuple [a, b, c] k2 pt2) X.env = pure (some [x, y, z]) := by rfl) (hs : swapsWithSole [.Tuple [.Name x px, .Name y py, .Name z pz] kt pt] (.Tuple [a, b, c] k2 pt2) pos.line X.env = pure false := by rfl) :
    PS X (.Assign [.Tuple [.Name x px, .Name y py, .Name z pz] kt pt] (.Tuple [a, b, c] k2 pt2) pos) (tS X.K X.mg W (sPar3 i j l ma mb mc)) := s_par3 g.calm g.nd hi hj hl hij hil hjl hx hy hz ha hb hc hse hse2 hse3 hw hs
theorem kApp {apos cpos : Pos} {o : Expr} (ho : PE X o (tVar i)) (he : PE X e (tI X.K X.mg W true pa m)) (hbase : attributeBase o "append" X.env (eval o X.env) = eval o X.env := by rfl)
    (hfew : ((backTo cpos (starEach [e] X.env)).all (fun x => !x.1) && (backToKw cpos (keywordEach [] X.env)).all (fun x => x.1.isSome) && decide (([e] : List Expr).length + ([] : List Keyword).length + (if ([] : List Keyword).isEmpty then 0 else 1) < 30)) = true := by rfl)
    (hline : (apos.endLine == cpos.line) = true := by rfl) (hse : starEach [e] X.env = (false, eval e X.env) :: starEach [] X.env := by rfl) (hs : swapsWith (.Call (.Attribute o "append" apos) [e] [] cpos) none pos.line X.env = pure false := by rfl) :
    PS X (.Expr (.Call (.Attribute o "append" apos) [e] [] cpos) pos) (tS X.K X.mg W (sApp i m)) := s_app ho he hbase hfew hline hse rfl hs
theorem kStI {o kx v : Expr} {spos : Pos} (ho : PE X o (tVar i)) (hk : PE X kx (tI X.K X.mg W sb pb mb)) (hv : PE X v (tI X.K X.mg W true pa ma))
    (has : ∀ u, assign (.Subscript o kx spos) X.env u = (do
      let ov ← holding [u] (eval o X.env)
      let iv ← holding [u, ov] (eval kx X.env)
      standAt spos
      holding [u, ov, iv] (setItem ov iv u)
      release [u, ov, iv] []) := by intro _; rfl)
    (hs : swapsWithSole [.Subscript o kx spos] v pos.line X.env = pure false := by rfl) (hw : swappedStores [.Subscript o kx spos] v X.env = pure none := by rfl)
    (h1 : (assignEach [.Subscript o kx spos] X.env).map (·.2) = [assign (.Subscript o kx spos) X.env] := by rfl) :
    PS X (.Assign [.Subscript o kx spos] v pos) (tS X.K X.mg W (sStI i mb ma)) := s_stI ho hk hv has hs hw h1
theorem kRet (he : PE X e (tI X.K X.mg W true pa m)) : PS X (.Return (some e) pos) (tS X.K X.mg W (sRet m)) := s_ret he
theorem kRetN : PS X (.Return none pos) (tS X.K X.mg W sRetN) := s_retN
theorem kRetV (h : PE X e (tVar i)) : PS X (.Return (some e) pos) (tS X.K X.mg W (sRetV i)) := s_retV h
theorem kIf {A B : List Stmt} (hc : PT X c (tTI X.K X.mg W mc)) (ha : PSs X A (tS X.K X.mg W ms)) (hb : PSs X B (tS X.K X.mg W mt)) : PS X (.If c A B pos) (tS X.K X.mg W (sIf mc ms mt)) := s_ifs hc ha hb
theorem kFor {tg iter : Expr} {body : List Stmt} {t : TG} {mi : Env → REs} (g : Gd k X W) (hp : PassesOwn (model X.prog X.w) X.A X.env X.xe) (hi : PI X tg iter (tJ X.K X.mg W pa mi)) (hg : PG X tg (tG X.K X.mg t)) (hb : PSs X body (tS X.K X.mg W ms)) (hs : ∀ x, foldedSetIterable iter X.env x = pure x := by intro _; rfl) : PS X (.For tg iter body [] pos) (tS X.K X.mg W (sFor mi t ms)) := s_for hp g.calm hi hg hb hs
theorem kWhl {body : List Stmt} (hp : PassesOwn (model X.prog X.w) X.A X.env X.xe) (hc : PT X c (tTI X.K X.mg W mc)) (hb : PSs X body (tS X.K X.mg W ms)) : PS X (.While c body [] pos) (tS X.K X.mg W (sWhl mc ms)) := s_whl hp hc hb
theorem kBrk : PS X (.Break pos) (tS X.K X.mg W sBrk) := s_brk
theorem kCnt : PS X (.Continue pos) (tS X.K X.mg W sCnt) := s_cnt
theorem kPass : PS X (.Pass pos) (tS X.K X.mg W bNil) := s_pass
theorem kAug {x : Str} {op : Operator} (g : Gd k X W) (i : Nat) (he : PE X e (tI X.K X.mg W sa pa m)) (hop : op = .Add ∨ op = .Sub := by first | exact .inl rfl | exact .inr rfl) (hi : X.N[i]? = some x := by kernel_rfl) (hx : locB X.env.scope x = true := by kernel_rfl) (hf : X.fn x = true := by rfl) : PS X (.AugAssign (.Name x p) op e pos) (tS X.K X.mg W (sAug i op m)) :=
  s_aug hop g.nd hi (loc_of hx) he (.inl hf)
end
end Cor
set_option Elab.async false
set_option linter.all false
set_option maxRecDepth 100000
set_option maxHeartbeats 2000000
/-! Cor13: the built-ins by name; the law's def. -/
namespace Cor
open PySem PySem.Spec L2
open PyProof.Rows (envOfC)
section
variable {X : Cx} {W : WX} {k : Nat} {a o e t : Expr} {pos p p2 apos : Pos} {ma mb : Env → RE} {sa sb pa pb : Bool}
theorem bLen (hm : X.mg "len" = none) : BCall X .len "len" := .fn (cr_len X) hm (by decide +kernel) (by decide) (by decide)
theorem bSum (g : Gd k X W) (hm : X.mg "sum" = none) : BCall X .sum "sum" := .fn (cr_sum' X g.calm) hm (by decide +kernel) (by decide) (by decide)
theorem bMax (g : Gd k X W) (hm : X.mg "max" = none) : BCall X .max "max" := .fn (cr_max' X g.calm) hm (by decide +kernel) (by decide) (by decide)
theorem bMin (g : Gd k X W) (hm : X.mg "min" = none) : BCall X .min "min" := .fn (cr_min' X g.calm) hm (by decide +kernel) (by decide) (by decide)
theorem bAny (g : Gd k X W) (hm : X.mg "any" = none) : BCall X .any "any" := .fn (cr_any' X g.calm) hm (by decide +kernel) (by decide) (by decide)
theorem bAll (g : Gd k X W) (hm : X.mg "all" = none) : BCall X .all "all" := .fn (cr_all' X g.calm) hm (by decide +kernel) (by decide) (by decide)
theorem bAbs (hm : X.mg "abs" = none) : BCall X .abs "abs" := .fn (cr_abs' X) hm (by decide +kernel) (by decide) (by decide)
theorem bTuple (hm : X.mg "tuple" = none) : BCall X .tuple "tuple" := .ty (cr_tuple' X) hm (by decide +kernel) (by decide) (by decide)
theorem bList (hm : X.mg "list" = none) : BCall X .list "list" := .ty (cr_list' X) hm (by decide +kernel) (by decide) (by decide)
theorem bInt (hm : X.mg "int" = none) : BCall X .int "int" := .ty (cr_int' X) hm (by decide +kernel) (by decide) (by decide)
theorem bBool (hm : X.mg "bool" = none) : BCall X .bool "bool" := .ty (cr_bool' X) hm (by decide +kernel) (by decide) (by decide)
theorem bStr (hm : X.mg "str" = none) : BCall X .str "str" := .ty (cr_str' X) hm (by decide +kernel) (by decide) (by decide)
theorem tyN {x : Str} {T : String} (hm : X.mg x = none) (hv : bootBuiltins x = some (.type T)) (hn : x ≠ "__name__") (hd : (x == ("__debug__" : Str)) = false) (hg : X.env.kindOf x = some .globalImplicit := by kernel_rfl) : PE X (.Name x p) (tC (.ty T)) := pe_bltn hg hm hv rfl hn hd
theorem yInt (hm : X.mg "int" = none) (hg : X.env.kindOf "int" = some .globalImplicit := by kernel_rfl) : PE X (.Name "int" p) (tC (.ty "int")) := tyN hm (by decide +kernel) (by decide) (by decide) hg
theorem yBool (hm : X.mg "bool" = none) (hg : X.env.kindOf "bool" = some .globalImplicit := by kernel_rfl) : PE X (.Name "bool" p) (tC (.ty "bool")) := tyN hm (by decide +kernel) (by decide) (by decide) hg
theorem yStr (hm : X.mg "str" = none) (hg : X.env.kindOf "str" = some .globalImplicit := by kernel_rfl) : PE X (.Name "str" p) (tC (.ty "str")) := tyN hm (by decide +kernel) (by decide) (by decide) hg
theorem yTuple (hm : X.mg "tuple" = none) (hg : X.env.kindOf "tuple" = some .globalImplicit := by kernel_rfl) : PE X (.Name "tuple" p) (tC (.ty "tuple")) := tyN hm (by decide +kernel) (by decide) (by decide) hg
theorem yList (hm : X.mg "list" = none) (hg : X.env.kindOf "list" = some .globalImplicit := by kernel_rfl) : PE X (.Name "list" p) (tC (.ty "list")) := tyN hm (by decide +kernel) (by decide) (by decide) hg
theorem isi_fr {f : BF} (hf : f = .isInt ∨ f = .isBool ∨ f = .isStr ∨ f = .isTup ∨ f = .isLst) : ∀ d q fr, b1D f d = some (q, fr) → fr = false := fun d q fr h => by
  rcases hf with rfl | rfl | rfl | rfl | rfl <;> cases d <;> simp only [b1D, reduceCtorEq] at h <;> first | cases h; rfl | cases h
theorem pIsInt (hm : X.mg "isinstance" = none) (ht : PE X t (tC (.ty "int"))) (ha : PE X a (tI X.K X.mg W sa pa ma)) (hg : X.env.kindOf "isinstance" = some .globalImplicit := by kernel_rfl) (he : starEach [a, t] X.env = (false, eval a X.env) :: starEach [t] X.env := by rfl) (he2 : starEach [t] X.env = (false, eval t X.env) :: starEach [] X.env := by rfl) : PE X (.Call (.Name "isinstance" p) [a, t] [] pos) (tI X.K X.mg W true pa (eB1 .isInt ma)) :=
  pIsi (is_int X) (isi_fr (.inl rfl)) hm ht ha rfl hg he he2 (by rw [he2]; rfl)
theorem pIsBool (hm : X.mg "isinstance" = none) (ht : PE X t (tC (.ty "bool"))) (ha : PE X a (tI X.K X.mg W sa pa ma)) (hg : X.env.kindOf "isinstance" = some .globalImplicit := by kernel_rfl) (he : starEach [a, t] X.env = (false, eval a X.env) :: starEach [t] X.env := by rfl) (he2 : starEach [t] X.env = (false, eval t X.env) :: starEach [] X.env := by rfl) : PE X (.Call (.Name "isinstance" p) [a, t] [] pos) (tI X.K X.mg W true pa (eB1 .isBool ma)) :=
  pIsi (is_bool X) (isi_fr (.inr (.inl rfl))) hm ht ha rfl hg he he2 (by rw [he2]; rfl)
theorem pIsStr (hm : X.mg "isinstance" = none) (ht : PE X t (tC (.ty "str"))) (ha : PE X a (tI X.K X.mg W sa pa ma)) (hg : X.env.kindOf "isinstance" = some .globalImplicit := by kernel_rfl) (he : starEach [a, t] X.env = (false, eval a X.env) :: starEach [t] X.env := by rfl) (he2 : starEach [t] X.env = (false, eval t X.env) :: starEach [] X.env := by rfl) : PE X (.Call (.Name "isinstance" p) [a, t] [] pos) (tI X.K X.mg W true pa (eB1 .isStr ma)) :=
  pIsi (is_str X) (isi_fr (.inr (.inr (.inl rfl)))) hm ht ha rfl hg he he2 (by rw [he2]; rfl)
theorem pIsTup (hm : X.mg "isinstance" = none) (ht : PE X t (tC (.ty "tuple"))) (ha : PE X a (tI X.K X.mg W sa pa ma)) (hg : X.env.kindOf "isinstance" = some .globalImplicit := by kernel_rfl) (he : starEach [a, t] X.env = (false, eval a X.env) :: starEach [t] X.env := by rfl) (he2 : starEach [t] X.env = (false, eval t X.env) :: starEach [] X.env := by rfl) : PE X (.Call (.Name "isinstance" p) [a, t] [] pos) (tI X.K X.mg W true pa (eB1 .isTup ma)) :=
  pIsi (is_tup X) (isi_fr (.inr (.inr (.inr (.inl rfl))))) hm ht ha rfl hg he he2 (by rw [he2]; rfl)
theorem pIsLst (hm : X.mg "isinstance" = none) (ht : PE X t (tC (.ty "list"))) (ha : PE X a (tI X.K X.mg W sa pa ma)) (hg : X.env.kindOf "isinstance" = some .globalImplicit := by kernel_rfl) (he : starEach [a, t] X.env = (false, eval a X.env) :: starEach [t] X.env := by rfl) (he2 : starEach [t] X.env = (false, eval t X.env) :: starEach [] X.env := by rfl) : PE X (.Call (.Name "isinstance" p) [a, t] [] pos) (tI X.K X.mg W true pa (eB1 .isLst ma)) :=
  pIsi (is_lst X) (isi_fr (.inr (.inr (.inr (.inr rfl))))) hm ht ha rfl hg he he2 (by rw [he2]; rfl)
theorem pJoin (ho : PE X o (tI X.K X.mg W true pa ma)) (ha : PE X a (tI X.K X.mg W true pb mb)) (hs : starEach [a] X.env = [(false, eval a X.env)] := by rfl) (hbase : attributeBase o "join" X.env (eval o X.env) = eval o X.env := by rfl) (hline : (apos.endLine == pos.line) = true := by rfl) : PE X (.Call (.Attribute o "join" apos) [a] [] pos) (tI X.K X.mg W true (pa && pb) (eM1 .join ma mb)) :=
  pM1 (sm_join X) PySem.F.slot_str_join PySem.F.type_str_join ho ha hs hbase hline
theorem pFind (ho : PE X o (tI X.K X.mg W true pa ma)) (ha : PE X a (tI X.K X.mg W true pb mb)) (hs : starEach [a] X.env = [(false, eval a X.env)] := by rfl) (hbase : attributeBase o "find" X.env (eval o X.env) = eval o X.env := by rfl) (hline : (apos.endLine == pos.line) = true := by rfl) : PE X (.Call (.Attribute o "find" apos) [a] [] pos) (tI X.K X.mg W true (pa && pb) (eM1 .find ma mb)) :=
  pM1 (sm_find X) PySem.F.slot_str_find PySem.F.type_str_find ho ha hs hbase hline
theorem pIndex (ho : PE X o (tI X.K X.mg W true pa ma)) (ha : PE X a (tI X.K X.mg W true pb mb)) (hs : starEach [a] X.env = [(false, eval a X.env)] := by rfl) (hbase : attributeBase o "index" X.env (eval o X.env) = eval o X.env := by rfl) (hline : (apos.endLine == pos.line) = true := by rfl) : PE X (.Call (.Attribute o "index" apos) [a] [] pos) (tI X.K X.mg W true (pa && pb) (eM1 .index ma mb)) :=
  pM1 (sm_index X) PySem.F.slot_str_index PySem.F.type_str_index ho ha hs hbase hline
end
/-- the law's own promise, from its worth -/
theorem Reps.ofInts {K : PySem.W.Frag} {mg : Str → Option Value} {H : Hp} : ∀ ns : List Int, Reps K mg H (ns.map D.int) (ns.map V.int)
  | [] => .nil
  | n :: ns => .cons (.int n) (Reps.ofInts ns)
end Cor
namespace Cor
open PySem PySem.Spec L2
/-- a list, a tuple or a text, item by item -/
def iAny (ma : Env → RE) : Env → REs := fun env => (ma env).bindI fun x _ e1 => match x with
  | .lst xs => .ok xs e1
  | .tup xs => .ok xs e1
  | .str xs => if xs.length ≤ lim then .ok (xs.map fun c => .str [c]) e1 else .no
  | _ => .no
theorem jAny {X : Cx} {W : WX} {a : Expr} {pa : Bool} {ma : Env → RE} {tg : Expr} (ha : PE X a (tI X.K X.mg W true pa ma)) : PI X tg a (tJ X.K X.mg W pa (iAny ma)) := by
  refine ⟨fun pins s σ H R I ⟨Hf, env, R0, g⟩ => ?_⟩
  cases q : ma env with
  | no => unfold iAny at g; rw [q] at g; exact g.elim
  | ex x e1 => exact (jLst ha).run pins s σ H R I ⟨Hf, env, R0, by unfold iAny at g; unfold iLst; rw [q] at g ⊢; exact g⟩
  | ok d fr e1 =>
    cases d with
    | lst xs => exact (jLst ha).run pins s σ H R I ⟨Hf, env, R0, by unfold iAny at g; unfold iLst; rw [q] at g ⊢; exact g⟩
    | tup xs => exact (jTup ha).run pins s σ H R I ⟨Hf, env, R0, by unfold iAny at g; unfold iTup; rw [q] at g ⊢; exact g⟩
    | str xs => exact (jStr ha).run pins s σ H R I ⟨Hf, env, R0, by unfold iAny at g; unfold iStr; rw [q] at g ⊢; exact g⟩
    | _ => unfold iAny at g; rw [q] at g; exact g.elim
end Cor
namespace Cor
open PySem PySem.Spec PyProof.Rows L2
theorem cx_none {P : Program} {w : World} {H : Hp} {s : Shared} {e : Value} {s' : Shared} (h : L2.CX P w [] H s (fun _ _ _ => False) e s') : False :=
  let ⟨_, _, _, _, _, _, _, _, _, _, _, _, z⟩ := h; z
/-- a law's end, the context by the world -/
theorem walk_ofW {l : PySem.W.OpenLaw} {n k : Nat} {q : Program} {loose : List Str} {XP : (Str → Option Value) → Heap → Prop} {YP : World → Heap → Prop} {d : DefRec} {CX : World → CXT} {x : Str}
    (hn : l.most = some n) (hn2 : n ≤ sizeLine) (hdf : d.params.defaults = []) (hr : Room k callerA)
    (F : ∀ (w : World) (mg : Str → Option Value) (fa : Addr) (h : Heap), YP w h → h.Ns mainGlobals mg → mg d.name = some (.ref fa) →
      ∃ (K : PySem.W.Frag) (fd : FuncData) (sp : Sp), K.In h ∧ (∀ (s : Shared) (u : Value), BindsTo s fd ⟨[u], []⟩ [(x, u)]) ∧
        (∀ (H : Hp) (a : Addr) (ns : List Int), ns.length ≤ n → Only H → SqL K H a (ns.map V.int) → sp [.ref a] H (fun v _ => v = .bl true) fun _ _ _ => False) ∧
        ∀ base : Heap, K.In base → base.Ns mainGlobals mg → FnOk l.prog w K mg base (CX w) k fa fd [x] sp)
    (hCX : ∀ (w : World) (H : Hp) (s : Shared) (e : Value) (s' : Shared), CX w [] H s (fun _ _ _ => False) e s' → False) :
    PySem.W.WalkO q loose XP YP l.row.toRowW d [] (fun f vs => PySem.call f vs) := by
  refine Att.attach_call hn hdf fun w s₀ s₁ mg mb fa o pm cd doc a vs ns G Y ho hd hcd hmg hobj hints hlen hg => ?_
  obtain ⟨K, fd, sp, KX, hb, hsp, hF⟩ := F w mg fa _ Y G.T.g hmg
  exact law_call KX G.T.g G.T.b G.T.builtins G.T.nolimit hg hobj hints (Nat.le_trans hlen hn2) hr hF hb (fun H hO hS => hsp H a ns hlen hO hS) fun H e s' => hCX w H s₁ e s'
end Cor
set_option Elab.async false
set_option linter.all false
set_option maxRecDepth 100000
set_option maxHeartbeats 2000000
/-! Cor14: the words computed, step by step (for simp): what comes behind a part is never opened before the part is through. -/
namespace Cor
open PySem L2
section
variable {env e e1 e2 e3 : Env} {m ma mb mc : Env → RE} {ms mt : Env → REs} {ss st : Env → RS} {d x y : D} {f fr b : Bool} {ds : List D} {i j : Nat} {c : XC}
def K1 (r : RE) (g : D → Env → RE) : RE := r.bind fun y _ e => g y e
def K2 (r : RE) (mb : Env → RE) (g : D → D → Env → RE) : RE := r.bind fun x _ e1 => (mb e1).bind fun y _ e2 => g x y e2
@[simp] theorem K1_ok {g : D → Env → RE} : K1 (.ok y f e) g = g y e := rfl
@[simp] theorem K1_ex {g : D → Env → RE} : K1 (.ex c e) g = .ex c e := rfl
@[simp] theorem K1_no {g : D → Env → RE} : K1 .no g = .no := rfl
@[simp] theorem K2_ok {g : D → D → Env → RE} : K2 (.ok x f e) mb g = K1 (mb e) (g x) := rfl
@[simp] theorem K2_ex {g : D → D → Env → RE} : K2 (.ex c e) mb g = .ex c e := rfl
@[simp] theorem K2_no {g : D → D → Env → RE} : K2 .no mb g = .no := rfl
@[simp] theorem x_eLit : eLit d env = .ok d false env := rfl
@[simp] theorem x_eYes : eYes env = .ok (.bl true) false env := rfl
def varK (s : Slot) (env : Env) (i : Nat) : RE := match s with
  | .val d => .ok d false env
  | .own d => .ok d false (env.set i (.val d))
  | _ => .no
@[simp] theorem x_eVar : eVar i env = varK (getS env i) env i := rfl
@[simp] theorem varK_val : varK (.val d) env i = .ok d false env := rfl
@[simp] theorem varK_own : varK (.own d) env i = .ok d false (env.set i (.val d)) := rfl
def rdK (o : Option D) (env : Env) : RE := match o with
  | some d => .ok d false env
  | none => .no
@[simp] theorem x_eRd : eRd i env = rdK (getS env i).get env := rfl
@[simp] theorem rdK_some : rdK (some d) env = .ok d false env := rfl
@[simp] theorem get_val : (Slot.val d).get = some d := rfl
@[simp] theorem get_own : (Slot.own d).get = some d := rfl
@[simp] theorem get_io : (Slot.io d).get = some d := rfl
@[simp] theorem getS_0 {s : Slot} : getS (s :: env) 0 = s := rfl
@[simp] theorem getS_s {s : Slot} : getS (s :: env) (i + 1) = getS env i := rfl
@[simp] theorem outE_some : outE (some (d, fr)) env = .ok d fr env := rfl
@[simp] theorem outB_some : outB (some b) env = .ok (.bl b) false env := rfl
@[simp] theorem outD_some : outD (some d) env = .ok d false env := rfl
@[simp] theorem x_eBin {op : Operator} : eBin op ma mb env = K2 (ma env) mb fun x y e => outE (binD op x y) e := rfl
@[simp] theorem x_eCmp {op : CmpOp} : eCmp op ma mb env = K2 (ma env) mb fun x y e => outB (cmpD op x y) e := rfl
@[simp] theorem x_eSub : eSub ma mb env = K2 (ma env) mb fun x y e => outD (subD x y) e := rfl
def negF (x : D) (e : Env) : RE := match x with
  | .int i => .ok (.int (-i)) false e
  | _ => .no
def notF (x : D) (e : Env) : RE := match x with
  | .bl b => .ok (.bl (!b)) false e
  | _ => .no
@[simp] theorem x_eNeg : eNeg ma env = K1 (ma env) negF := rfl
@[simp] theorem x_eNot : eNot ma env = K1 (ma env) notF := rfl
@[simp] theorem negF_int {i : Int} : negF (.int i) e = .ok (.int (-i)) false e := rfl
@[simp] theorem notF_bl : notF (.bl b) e = .ok (.bl (!b)) false e := rfl
def chK (o1 o2 : CmpOp) (r : RE) (mb mc : Env → RE) : RE := r.bind fun x _ e1 => (mb e1).bind fun y _ e2 => match cmpD o1 x y with
  | some true => (mc e2).bind fun z _ e3 => outB (cmpD o2 y z) e3
  | some false => .ok (.bl false) false e2
  | none => .no
def chK2 (o1 o2 : CmpOp) (x : D) (r : RE) (mc : Env → RE) : RE := r.bind fun y _ e2 => match cmpD o1 x y with
  | some true => (mc e2).bind fun z _ e3 => outB (cmpD o2 y z) e3
  | some false => .ok (.bl false) false e2
  | none => .no
def chK3 (o2 : CmpOp) (o : Option Bool) (y : D) (mc : Env → RE) (e2 : Env) : RE := match o with
  | some true => (mc e2).bind fun z _ e3 => outB (cmpD o2 y z) e3
  | some false => .ok (.bl false) false e2
  | none => .no
@[simp] theorem x_eChain {o1 o2 : CmpOp} : eChain o1 o2 ma mb mc env = chK o1 o2 (ma env) mb mc := rfl
@[simp] theorem chK_ok {o1 o2 : CmpOp} : chK o1 o2 (.ok x f e) mb mc = chK2 o1 o2 x (mb e) mc := rfl
@[simp] theorem chK2_ok {o1 o2 : CmpOp} : chK2 o1 o2 x (.ok y f e) mc = chK3 o2 (cmpD o1 x y) y mc e := rfl
@[simp] theorem chK3_some {o2 : CmpOp} : chK3 o2 (some b) y mc e = if b = true then K1 (mc e) (fun z e3 => outB (cmpD o2 y z) e3) else .ok (.bl false) false e := by cases b <;> rfl
def andK (r : RE) (mb : Env → RE) : RE := r.bind fun x _ e1 => match x with
  | .bl true => mb e1
  | .bl false => .ok (.bl false) false e1
  | _ => .no
def orK (r : RE) (mb : Env → RE) : RE := r.bind fun x _ e1 => match x with
  | .bl true => .ok (.bl true) false e1
  | .bl false => mb e1
  | _ => .no
@[simp] theorem x_eAnd : eAnd ma mb env = andK (ma env) mb := rfl
@[simp] theorem x_eOr : eOr ma mb env = orK (ma env) mb := rfl
@[simp] theorem andK_bl : andK (.ok (.bl b) f e) mb = if b = true then mb e else .ok (.bl false) false e := by cases b <;> rfl
@[simp] theorem orK_bl : orK (.ok (.bl b) f e) mb = if b = true then .ok (.bl true) false e else mb e := by cases b <;> rfl
def ifeK (r : RE) (ma mb : Env → RE) : RE := r.bind fun x _ e1 => match x with
  | .bl true => ma e1
  | .bl false => mb e1
  | _ => .no
@[simp] theorem x_eIfe : eIfe mc ma mb env = ifeK (mc env) ma mb := rfl
@[simp] theorem ifeK_bl : ifeK (.ok (.bl b) f e) ma mb = if b = true then ma e else mb e := by cases b <;> rfl
def aK (r : RE) (ms : Env → REs) : REs := r.bindI fun x _ e1 => match ms e1 with
  | .ok ds e2 => .ok (x :: ds) e2
  | .ex c e2 => .ex c e2
  | .no => .no
def aK2 (x : D) (r : REs) : REs := match r with
  | .ok ds e2 => .ok (x :: ds) e2
  | .ex c e2 => .ex c e2
  | .no => .no
@[simp] theorem x_aNil : aNil env = .ok [] env := rfl
@[simp] theorem x_aCons : aCons ma ms env = aK (ma env) ms := rfl
@[simp] theorem aK_ok : aK (.ok x f e) ms = aK2 x (ms e) := rfl
@[simp] theorem aK_ex : aK (.ex c e) ms = .ex c e := rfl
@[simp] theorem aK2_ok : aK2 x (.ok ds e) = .ok (x :: ds) e := rfl
@[simp] theorem aK2_ex : aK2 x (.ex c e) = .ex c e := rfl
def tupK (r : REs) : RE := r.bind fun ds e1 => if ds.length ≤ lim then .ok (.tup ds) false e1 else .no
def lstK (r : REs) : RE := r.bind fun ds e1 => if ds.length ≤ lim then .ok (.lst ds) true e1 else .no
@[simp] theorem x_eTup : eTup ms env = tupK (ms env) := rfl
@[simp] theorem x_eLst : eLst ms env = lstK (ms env) := rfl
@[simp] theorem tupK_ok : tupK (.ok ds e) = if ds.length ≤ lim then .ok (.tup ds) false e else .no := rfl
@[simp] theorem lstK_ok : lstK (.ok ds e) = if ds.length ≤ lim then .ok (.lst ds) true e else .no := rfl
def subRK (i : Nat) (o : Option D) (r : RE) : RE := match o with
  | none => .no
  | some _ => r.bind fun y _ e1 => match (getS e1 i).get with
    | some x => outD (subD x y) e1
    | none => .no
def subRK2 (o : Option D) (y : D) (e1 : Env) : RE := match o with
  | some x => outD (subD x y) e1
  | none => .no
@[simp] theorem x_eSubR : eSubR i mb env = subRK i (getS env i).get (mb env) := rfl
@[simp] theorem subRK_ok : subRK i (some d) (.ok y f e) = subRK2 (getS e i).get y e := rfl
@[simp] theorem subRK2_ok : subRK2 (some x) y e = outD (subD x y) e := rfl
@[simp] theorem x_oNone : oNone env = .ok [] env := rfl
def oK (r : RE) : REs := r.bindI fun x _ e1 => match x with
  | .int i => .ok [.int i] e1
  | _ => .no
@[simp] theorem x_oSome : oSome ma env = oK (ma env) := rfl
@[simp] theorem oK_int {i : Int} : oK (.ok (.int i) f e) = .ok [.int i] e := rfl
def slK (r : RE) (ml mh : Env → REs) : RE := r.bind fun x _ e1 => (ml e1).bind fun l e2 => (mh e2).bind fun h e3 => match intO l.head?, intO h.head? with
  | some l', some h' => outE (slcD x l' h') e3
  | _, _ => .no
def slK2 (x : D) (r : REs) (mh : Env → REs) : RE := r.bind fun l e2 => (mh e2).bind fun h e3 => match intO l.head?, intO h.head? with
  | some l', some h' => outE (slcD x l' h') e3
  | _, _ => .no
def slK3 (x : D) (l : List D) (r : REs) : RE := r.bind fun h e3 => match intO l.head?, intO h.head? with
  | some l', some h' => outE (slcD x l' h') e3
  | _, _ => .no
@[simp] theorem x_eSlc {ml mh : Env → REs} : eSlc ma ml mh env = slK (ma env) ml mh := rfl
@[simp] theorem slK_ok {ml mh : Env → REs} : slK (.ok x f e) ml mh = slK2 x (ml e) mh := rfl
@[simp] theorem slK2_ok {mh : Env → REs} : slK2 x (.ok ds e) mh = slK3 x ds (mh e) := rfl
@[simp] theorem slK3_nn : slK3 x [] (.ok [] e) = outE (slcD x none none) e := rfl
@[simp] theorem slK3_ni {k : Int} : slK3 x [] (.ok [.int k] e) = outE (slcD x none (some k)) e := rfl
@[simp] theorem slK3_in {k : Int} : slK3 x [.int k] (.ok [] e) = outE (slcD x (some k) none) e := rfl
@[simp] theorem slK3_ii {k l : Int} : slK3 x [.int k] (.ok [.int l] e) = outE (slcD x (some k) (some l)) e := rfl
def calK (brw : Bool) (g : Sem) (r : REs) : RE := r.bind fun ds e1 => callR brw (g ds) e1
@[simp] theorem x_eCall {g : Sem} : eCall g ms env = calK false g (ms env) := rfl
@[simp] theorem x_eCallB {g : Sem} : eCallB g ms env = calK true g (ms env) := rfl
@[simp] theorem calK_ok {g : Sem} : calK b g (.ok ds e) = callR b (g ds) e := rfl
@[simp] theorem callR_ret : callR false (.ret d fr none) e = .ok d fr e := rfl
@[simp] theorem callR_retB : callR true (.ret d fr none) e = if d.isAtom = true then .ok d fr e else .no := by cases h : d.isAtom <;> simp [callR, h]
@[simp] theorem callR_exc : callR b (.exc c none) e = .ex c e := rfl
def ioK (g : Sem) (i : Nat) (o : Option D) (r : REs) : RE := match o with
  | none => .no
  | some _ => r.bind fun ds e1 => match ioGet e1 i with
    | some d => callRio i (g (d :: ds)) e1
    | none => .no
def ioK2 (g : Sem) (i : Nat) (ds : List D) (o : Option D) (e1 : Env) : RE := match o with
  | some d => callRio i (g (d :: ds)) e1
  | none => .no
@[simp] theorem x_eCallIo {g : Sem} : eCallIo g i ms env = ioK g i (ioGet env i) (ms env) := rfl
@[simp] theorem ioK_ok {g : Sem} : ioK g i (some d) (.ok ds e) = ioK2 g i ds (ioGet e i) e := rfl
@[simp] theorem ioK2_ok {g : Sem} : ioK2 g i ds (some d) e = callRio i (g (d :: ds)) e := rfl
@[simp] theorem callRio_ret {z : D} : callRio i (.ret d fr (some z)) e = .ok d fr (e.set i (putBack (getS e i) z)) := rfl
@[simp] theorem callRio_exc {z : D} : callRio i (.exc c (some z)) e = .ex c (e.set i (putBack (getS e i) z)) := rfl
@[simp] theorem putBack_own {z : D} : putBack (.own d) z = .own z := rfl
@[simp] theorem putBack_io {z : D} : putBack (.io d) z = .io z := rfl
def ioS2 (s : Slot) : Option D := match s with
  | .own d => some d
  | .io d => some d
  | _ => none
@[simp] theorem x_ioGet : ioGet env i = ioS2 (getS env i) := by unfold ioGet ioS2; cases getS env i <;> rfl
@[simp] theorem ioS2_own : ioS2 (.own d) = some d := rfl
@[simp] theorem ioS2_io : ioS2 (.io d) = some d := rfl
@[simp] theorem x_eB1 {g : BF} : eB1 g ma env = K1 (ma env) fun x e => outE (b1D g x) e := rfl
def m1K (mf : MF) (r : RE) (mb : Env → RE) : RE := r.bind fun x _ e1 => match x with
  | .str z => (mb e1).bind fun y _ e2 => outD (m1D mf (.str z) y) e2
  | _ => .no
@[simp] theorem x_eM1 {mf : MF} : eM1 mf ma mb env = m1K mf (ma env) mb := rfl
@[simp] theorem m1K_ok {mf : MF} {z : List Nat} : m1K mf (.ok (.str z) f e) mb = K1 (mb e) fun y e2 => outD (m1D mf (.str z) y) e2 := rfl
/-! comprehensions -/
def cK (vs : List Nat) (t : TG) (mc me : Env → RE) (r : REs) : RE := r.bind fun ds e1 => match wipeE e1 vs with
  | none => .no
  | some e2 => (compL vs e1 t mc me ds e2 []).bind fun rs e3 => .ok (.lst rs) true (backE e1 e3 vs)
def cK2 (vs : List Nat) (t : TG) (mc me : Env → RE) (ds : List D) (e1 : Env) (o : Option Env) : RE := match o with
  | none => .no
  | some e2 => (compL vs e1 t mc me ds e2 []).bind fun rs e3 => .ok (.lst rs) true (backE e1 e3 vs)
def cK3 (vs : List Nat) (e1 : Env) (r : REs) : RE := r.bind fun rs e3 => .ok (.lst rs) true (backE e1 e3 vs)
@[simp] theorem x_eComp {vs : List Nat} {mi : Env → REs} {t : TG} : eComp vs mi t mc me env = cK vs t mc me (mi env) := rfl
@[simp] theorem cK_ok {vs : List Nat} {t : TG} : cK vs t mc me (.ok ds e) = cK2 vs t mc me ds e (wipeE e vs) := rfl
@[simp] theorem cK2_ok {vs : List Nat} {t : TG} : cK2 vs t mc me ds e1 (some e2) = cK3 vs e1 (compL vs e1 t mc me ds e2 []) := rfl
@[simp] theorem cK3_ok {vs : List Nat} : cK3 vs e1 (.ok ds e) = .ok (.lst ds) true (backE e1 e vs) := rfl
def cL1 (vs : List Nat) (base : Env) (t : TG) (mc me : Env → RE) (xs acc : List D) (o : Option Env) : REs := match o with
  | none => .no
  | some e1 => match mc e1 with
    | .ok (.bl true) _ e2 => match me e2 with
      | .ok d _ e3 => if acc.length < lim then (match wipeE e3 vs with
        | some e4 => compL vs base t mc me xs e4 (acc ++ [d])
        | none => .no) else .no
      | _ => .no
    | .ok (.bl false) _ e2 => (match wipeE e2 vs with
      | some e4 => compL vs base t mc me xs e4 acc
      | none => .no)
    | _ => .no
def cL2 (vs : List Nat) (base : Env) (t : TG) (mc me : Env → RE) (xs acc : List D) (r : RE) : REs := match r with
    | .ok (.bl true) _ e2 => match me e2 with
      | .ok d _ e3 => if acc.length < lim then (match wipeE e3 vs with
        | some e4 => compL vs base t mc me xs e4 (acc ++ [d])
        | none => .no) else .no
      | _ => .no
    | .ok (.bl false) _ e2 => (match wipeE e2 vs with
      | some e4 => compL vs base t mc me xs e4 acc
      | none => .no)
    | _ => .no
def cL3 (vs : List Nat) (base : Env) (t : TG) (mc me : Env → RE) (xs acc : List D) (r : RE) : REs := match r with
  | .ok d _ e3 => if acc.length < lim then (match wipeE e3 vs with
    | some e4 => compL vs base t mc me xs e4 (acc ++ [d])
    | none => .no) else .no
  | _ => .no
def cL4 (vs : List Nat) (base : Env) (t : TG) (mc me : Env → RE) (xs acc : List D) (o : Option Env) : REs := match o with
  | some e4 => compL vs base t mc me xs e4 acc
  | none => .no
@[simp] theorem compL_nil {vs : List Nat} {base : Env} {t : TG} {acc : List D} : compL vs base t mc me [] e acc = .ok acc e := rfl
@[simp] theorem compL_cons {vs : List Nat} {base : Env} {t : TG} {xs acc : List D} : compL vs base t mc me (x :: xs) e acc = cL1 vs base t mc me xs acc (asg t x e) := rfl
@[simp] theorem cL1_ok {vs : List Nat} {base : Env} {t : TG} {xs acc : List D} : cL1 vs base t mc me xs acc (some e) = cL2 vs base t mc me xs acc (mc e) := rfl
@[simp] theorem cL2_ok {vs : List Nat} {base : Env} {t : TG} {xs acc : List D} : cL2 vs base t mc me xs acc (.ok (.bl b) f e) = if b = true then cL3 vs base t mc me xs acc (me e) else cL4 vs base t mc me xs acc (wipeE e vs) := by cases b <;> rfl
@[simp] theorem cL3_ok {vs : List Nat} {base : Env} {t : TG} {xs acc : List D} : cL3 vs base t mc me xs acc (.ok d f e) = if acc.length < lim then cL4 vs base t mc me xs (acc ++ [d]) (wipeE e vs) else .no := rfl
@[simp] theorem cL4_ok {vs : List Nat} {base : Env} {t : TG} {xs acc : List D} : cL4 vs base t mc me xs acc (some e) = compL vs base t mc me xs e acc := rfl
@[simp] theorem wipeE_nil : wipeE env [] = some env := rfl
def wK (s : Slot) (v : Nat) (o : Option Env) : Option Env := match s with
  | .own _ => none
  | .io _ => none
  | _ => o.map fun e => e.set v .no
@[simp] theorem wipeE_cons {v : Nat} {vs : List Nat} : wipeE env (v :: vs) = wK (getS env v) v (wipeE env vs) := by
  rw [wipeE]
  unfold wK
  cases getS env v <;> rfl
@[simp] theorem wK_no {v : Nat} : wK .no v (some e) = some (e.set v .no) := rfl
@[simp] theorem wK_val {v : Nat} : wK (.val d) v (some e) = some (e.set v .no) := rfl
@[simp] theorem backE_nil {old : Env} : backE old env [] = env := rfl
@[simp] theorem backE_cons {old : Env} {v : Nat} {vs : List Nat} : backE old env (v :: vs) = (backE old env vs).set v (getS old v) := rfl
def asK (s : Slot) (i : Nat) (d : D) (env : Env) : Option Env := match s with
  | .io _ => none
  | _ => some (env.set i (.val d))
@[simp] theorem asg_nm : asg (.nm i) d env = asK (getS env i) i d env := by
  rw [asg]
  unfold asK
  cases getS env i <;> rfl
@[simp] theorem asK_no : asK .no i d env = some (env.set i (.val d)) := rfl
@[simp] theorem asK_val : asK (.val x) i d env = some (env.set i (.val d)) := rfl
@[simp] theorem asK_own : asK (.own x) i d env = some (env.set i (.val d)) := rfl
@[simp] theorem asg_tup {ts : List TG} : asg (.tup ts) (.tup ds) env = asgs ts ds env := by rw [asg]
@[simp] theorem asgs_nil : asgs [] [] env = some env := by rw [asgs]
@[simp] theorem asgs_cons {t : TG} {ts : List TG} : asgs (t :: ts) (d :: ds) env = (asg t d env).bind fun e => asgs ts ds e := by
  rw [asgs]
  cases asg t d env <;> rfl
/-! what is walked -/
def iK (r : RE) (g : D → Env → REs) : REs := r.bindI fun x _ e => g x e
@[simp] theorem iK_ok {g : D → Env → REs} : iK (.ok x f e) g = g x e := rfl
@[simp] theorem iK_ex {g : D → Env → REs} : iK (.ex c e) g = .ex c e := rfl
def rg1 (x : D) (e : Env) : REs := match x with
  | .int n => outI (rngD 0 n) e
  | _ => .no
def rg2 (mb : Env → RE) (x : D) (e : Env) : REs := (mb e).bindI fun y _ e2 => match x, y with
  | .int n, .int m => outI (rngD n m) e2
  | _, _ => .no
def rg3 (x y : D) (e : Env) : REs := match x, y with
  | .int n, .int m => outI (rngD n m) e
  | _, _ => .no
def anyI (x : D) (e : Env) : REs := match x with
  | .lst xs => .ok xs e
  | .tup xs => .ok xs e
  | .str xs => if xs.length ≤ lim then .ok (xs.map fun c => .str [c]) e else .no
  | _ => .no
@[simp] theorem x_iAny : iAny ma env = iK (ma env) anyI := rfl
@[simp] theorem anyI_lst : anyI (.lst ds) e = .ok ds e := rfl
@[simp] theorem anyI_tup : anyI (.tup ds) e = .ok ds e := rfl
@[simp] theorem anyI_str {z : List Nat} : anyI (.str z) e = if z.length ≤ lim then .ok (z.map fun c => .str [c]) e else .no := rfl
@[simp] theorem x_iRng1 : iRng1 ma env = iK (ma env) rg1 := rfl
@[simp] theorem x_iRng2 : iRng2 ma mb env = iK (ma env) (rg2 mb) := rfl
@[simp] theorem rg1_int {n : Int} : rg1 (.int n) e = outI (rngD 0 n) e := rfl
@[simp] theorem rg2_int : rg2 mb x e = iK (mb e) (rg3 x) := rfl
@[simp] theorem rg3_int {n m : Int} : rg3 (.int n) (.int m) e = outI (rngD n m) e := rfl
@[simp] theorem outI_some : outI (some ds) e = .ok ds e := rfl
/-! statements -/
def bK (r : RS) (mt : Env → RS) : RS := match r with
  | .nx e1 => mt e1
  | r => r
@[simp] theorem x_bNil : bNil env = .nx env := rfl
@[simp] theorem x_bCons : bCons ss st env = bK (ss env) st := rfl
@[simp] theorem bK_nx : bK (.nx e) st = st e := rfl
@[simp] theorem bK_rt : bK (.rt d fr e) st = .rt d fr e := rfl
@[simp] theorem bK_bk : bK (.bk e) st = .bk e := rfl
@[simp] theorem bK_ct : bK (.ct e) st = .ct e := rfl
@[simp] theorem bK_ex : bK (.ex c e) st = .ex c e := rfl
def sK (r : RE) (g : D → Bool → Env → RS) : RS := r.bindS g
@[simp] theorem sK_ok {g : D → Bool → Env → RS} : sK (.ok d fr e) g = g d fr e := rfl
@[simp] theorem sK_ex {g : D → Bool → Env → RS} : sK (.ex c e) g = .ex c e := rfl
@[simp] theorem x_sExpr : sExpr m env = sK (m env) fun _ _ e1 => .nx e1 := rfl
@[simp] theorem x_sSet : sSet i m env = sK (m env) fun d fr e1 => putS e1 i d fr := rfl
@[simp] theorem x_sUnp {t : TG} : sUnp t m env = sK (m env) fun d _ e1 => nxO (asg t d e1) := rfl
@[simp] theorem nxO_some : nxO (some e) = .nx e := rfl
@[simp] theorem x_sRet : sRet m env = sK (m env) fun d fr e1 => .rt d fr e1 := rfl
@[simp] theorem x_sRetN : sRetN env = .rt .non false env := rfl
@[simp] theorem x_sBrk : sBrk env = .bk env := rfl
@[simp] theorem x_sCnt : sCnt env = .ct env := rfl
def putK (s : Slot) (env : Env) (i : Nat) (d : D) (fr : Bool) : RS := match s with
  | .io _ => .no
  | _ => .nx (env.set i (if fr then .own d else .val d))
@[simp] theorem x_putS : putS env i d fr = putK (getS env i) env i d fr := by unfold putS putK; cases getS env i <;> rfl
@[simp] theorem putK_no : putK .no env i d fr = .nx (env.set i (if fr then .own d else .val d)) := rfl
@[simp] theorem putK_val : putK (.val x) env i d fr = .nx (env.set i (if fr then .own d else .val d)) := rfl
@[simp] theorem putK_own : putK (.own x) env i d fr = .nx (env.set i (if fr then .own d else .val d)) := rfl
def rvK (s : Slot) (env : Env) (i : Nat) : RS := match s with
  | .own d => .rt d true (env.set i .no)
  | .val d => .rt d false env
  | _ => .no
@[simp] theorem x_sRetV : sRetV i env = rvK (getS env i) env i := rfl
@[simp] theorem rvK_own : rvK (.own d) env i = .rt d true (env.set i .no) := rfl
@[simp] theorem rvK_val : rvK (.val d) env i = .rt d false env := rfl
def ifK (r : RE) (ss st : Env → RS) : RS := r.bindS fun x _ e1 => match x with
  | .bl true => ss e1
  | .bl false => st e1
  | _ => .no
@[simp] theorem x_sIf : sIf mc ss st env = ifK (mc env) ss st := rfl
@[simp] theorem ifK_bl : ifK (.ok (.bl b) f e) ss st = if b = true then ss e else st e := by cases b <;> rfl
@[simp] theorem ifK_ex : ifK (.ex c e) ss st = .ex c e := rfl
def parK (i j : Nat) (r : RE) (mb : Env → RE) : RS := r.bindS fun x fx e1 => (mb e1).bindS fun y fy e2 => match putS e2 i x fx with
  | .nx e3 => putS e3 j y fy
  | _ => .no
def parK2 (i j : Nat) (x : D) (fx : Bool) (r : RE) : RS := r.bindS fun y fy e2 => match putS e2 i x fx with
  | .nx e3 => putS e3 j y fy
  | _ => .no
def parK3 (j : Nat) (y : D) (fy : Bool) (r : RS) : RS := match r with
  | .nx e3 => putS e3 j y fy
  | _ => .no
@[simp] theorem x_sPar : sPar i j ma mb env = parK i j (ma env) mb := rfl
@[simp] theorem parK_ok : parK i j (.ok x fr e) mb = parK2 i j x fr (mb e) := rfl
@[simp] theorem parK2_ok {fx : Bool} : parK2 i j x fx (.ok y fr e) = parK3 j y fr (putS e i x fx) := rfl
@[simp] theorem parK3_ok : parK3 j y fr (.nx e) = putS e j y fr := rfl
def par3K (i j l : Nat) (r : RE) (mb mc : Env → RE) : RS := r.bindS fun x fx e1 => (mb e1).bindS fun y fy e2 => (mc e2).bindS fun z fz e3 => match putS e3 i x fx with
  | .nx e4 => match putS e4 j y fy with
    | .nx e5 => putS e5 l z fz
    | _ => .no
  | _ => .no
def par3K2 (i j l : Nat) (x : D) (fx : Bool) (r : RE) (mc : Env → RE) : RS := r.bindS fun y fy e2 => (mc e2).bindS fun z fz e3 => match putS e3 i x fx with
  | .nx e4 => match putS e4 j y fy with
    | .nx e5 => putS e5 l z fz
    | _ => .no
  | _ => .no
def par3K3 (i j l : Nat) (x : D) (fx : Bool) (y : D) (fy : Bool) (r : RE) : RS := r.bindS fun z fz e3 => parK3 l z fz (parK3 j y fy (putS e3 i x fx))
@[simp] theorem x_sPar3 {l : Nat} : sPar3 i j l ma mb mc env = par3K i j l (ma env) mb mc := rfl
@[simp] theorem par3K_ok {l : Nat} : par3K i j l (.ok x fr e) mb mc = par3K2 i j l x fr (mb e) mc := rfl
@[simp] theorem par3K2_ok {l : Nat} {fx : Bool} : par3K2 i j l x fx (.ok y fr e) mc = par3K3 i j l x fx y fr (mc e) := by
  unfold par3K2 par3K3
  cases q : mc e with
  | ok z fz e3 =>
    simp only [RE.bindS, q]
    cases q2 : putS e3 i x fx <;> rfl
  | _ => simp only [RE.bindS, q]
@[simp] theorem par3K3_ok {l : Nat} {fx fy : Bool} {z : D} : par3K3 i j l x fx y fy (.ok z fr e) = parK3 l z fr (parK3 j y fy (putS e i x fx)) := rfl
def apK (i : Nat) (o : Option D) (r : RE) : RS := match o with
  | none => .no
  | some _ => r.bindS fun d _ e1 => match ioGet e1 i with
    | some (.lst xs) => if xs.length < lim then .nx (e1.set i (putBack (getS e1 i) (.lst (xs ++ [d])))) else .no
    | _ => .no
def apK2 (i : Nat) (o : Option D) (d : D) (e1 : Env) : RS := match o with
    | some (.lst xs) => if xs.length < lim then .nx (e1.set i (putBack (getS e1 i) (.lst (xs ++ [d])))) else .no
    | _ => .no
@[simp] theorem x_sApp : sApp i m env = apK i (ioGet env i) (m env) := rfl
@[simp] theorem apK_ok : apK i (some x) (.ok d fr e) = apK2 i (ioGet e i) d e := rfl
@[simp] theorem apK2_ok : apK2 i (some (.lst ds)) d e = if ds.length < lim then .nx (e.set i (putBack (getS e i) (.lst (ds ++ [d])))) else .no := rfl
def stK (i : Nat) (mb : Env → RE) (r : RE) : RS := r.bindS fun d _ e1 => match ioGet e1 i with
  | none => .no
  | some _ => (mb e1).bindS fun z _ e2 => match ioGet e2 i, z with
    | some (.lst xs), .int n => match ixN xs.length n with
      | some j => .nx (e2.set i (putBack (getS e2 i) (.lst (xs.set j d))))
      | none => .no
    | _, _ => .no
def stK2 (i : Nat) (d : D) (o : Option D) (r : RE) : RS := match o with
  | none => .no
  | some _ => r.bindS fun z _ e2 => match ioGet e2 i, z with
    | some (.lst xs), .int n => match ixN xs.length n with
      | some j => .nx (e2.set i (putBack (getS e2 i) (.lst (xs.set j d))))
      | none => .no
    | _, _ => .no
def stK3 (i : Nat) (d : D) (o : Option D) (z : D) (e2 : Env) : RS := match o, z with
    | some (.lst xs), .int n => match ixN xs.length n with
      | some j => .nx (e2.set i (putBack (getS e2 i) (.lst (xs.set j d))))
      | none => .no
    | _, _ => .no
def stK4 (i : Nat) (d : D) (xs : List D) (o : Option Nat) (e2 : Env) : RS := match o with
      | some j => .nx (e2.set i (putBack (getS e2 i) (.lst (xs.set j d))))
      | none => .no
@[simp] theorem x_sStI : sStI i mb ma env = stK i mb (ma env) := rfl
@[simp] theorem stK_ok : stK i mb (.ok d fr e) = stK2 i d (ioGet e i) (mb e) := rfl
@[simp] theorem stK2_ok : stK2 i d (some x) (.ok y fr e) = stK3 i d (ioGet e i) y e := rfl
@[simp] theorem stK3_ok {n : Int} : stK3 i d (some (.lst ds)) (.int n) e = stK4 i d ds (ixN ds.length n) e := rfl
@[simp] theorem stK4_ok : stK4 i d ds (some j) e = .nx (e.set i (putBack (getS e i) (.lst (ds.set j d)))) := rfl
def agK (i : Nat) (op : Operator) (s : Slot) (r : RE) : RS := match s with
  | .val (.int x) => r.bindS fun y _ e1 => match y with
    | .int y => (match binD op (.int x) (.int y) with
      | some (z, _) => .nx (e1.set i (.val z))
      | none => .no)
    | _ => .no
  | _ => .no
@[simp] theorem x_sAug {op : Operator} : sAug i op m env = agK i op (getS env i) (m env) := rfl
@[simp] theorem agK_add {x y : Int} : agK i .Add (.val (.int x)) (.ok (.int y) f e) = .nx (e.set i (.val (.int (x + y)))) := rfl
@[simp] theorem agK_sub {x y : Int} : agK i .Sub (.val (.int x)) (.ok (.int y) f e) = .nx (e.set i (.val (.int (x - y)))) := rfl
/-! loops -/
def stepF (t : TG) (ss : Env → RS) (x : D) (e : Env) : RS := match asg t x e with
  | some e2 => ss e2
  | none => .no
def foK (t : TG) (ss : Env → RS) (r : REs) : RS := r.bindS fun ds e1 => forL (stepF t ss) ds e1
@[simp] theorem x_sFor {mi : Env → REs} {t : TG} : sFor mi t ss env = foK t ss (mi env) := rfl
@[simp] theorem foK_ok {t : TG} : foK t ss (.ok ds e) = forL (stepF t ss) ds e := rfl
def feK (t : TG) (ss : Env → RS) (ds : List D) (r : RS) : RS := match r with
    | .nx e => forL (stepF t ss) ds e
    | .ct e => forL (stepF t ss) ds e
    | .bk e => .nx e
    | r => r
def seK (ss : Env → RS) (o : Option Env) : RS := match o with
  | some e2 => ss e2
  | none => .no
@[simp] theorem forL_nil {g : D → Env → RS} : forL g [] e = .nx e := rfl
@[simp] theorem forL_step {t : TG} : forL (stepF t ss) (x :: ds) e = feK t ss ds (seK ss (asg t x e)) := rfl
@[simp] theorem seK_ok : seK ss (some e) = ss e := rfl
@[simp] theorem feK_nx {t : TG} : feK t ss ds (.nx e) = forL (stepF t ss) ds e := rfl
@[simp] theorem feK_ct {t : TG} : feK t ss ds (.ct e) = forL (stepF t ss) ds e := rfl
@[simp] theorem feK_bk {t : TG} : feK t ss ds (.bk e) = .nx e := rfl
@[simp] theorem feK_rt {t : TG} : feK t ss ds (.rt d fr e) = .rt d fr e := rfl
@[simp] theorem feK_ex {t : TG} : feK t ss ds (.ex c e) = .ex c e := rfl
/-- a loop that goes through, with what stays true -/
theorem forL_inv {g : D → Env → RS} {P : Nat → Env → Prop} : ∀ {ds : List D} {e : Env} (n : Nat), P n e → (∀ i x e, ds[i]? = some x → P (n + i) e → ∃ e', (g x e = .nx e' ∨ g x e = .ct e') ∧ P (n + i + 1) e') → ∃ e', forL g ds e = .nx e' ∧ P (n + ds.length) e'
  | [], e, n, h, _ => ⟨e, rfl, h⟩
  | x :: ds, e, n, h, s => by
    obtain ⟨e1, h1, p1⟩ := s 0 x e rfl h
    obtain ⟨e2, h2, p2⟩ := forL_inv (g := g) (P := P) (ds := ds) (e := e1) (n + 1) p1 fun i y e hy p => by
      have := s (i + 1) y e (by simpa using hy) (by rw [show n + (i + 1) = n + 1 + i by omega]; exact p)
      rw [show n + (i + 1) + 1 = n + 1 + i + 1 by omega] at this
      exact this
    refine ⟨e2, ?_, by rw [List.length_cons, show n + (ds.length + 1) = n + 1 + ds.length by omega]; exact p2⟩
    rcases h1 with h1 | h1 <;> simp only [forL, h1] <;> exact h2
/-! a def's worth -/
def fin0 (r : RS) : FR := match r with
  | .rt d fr _ => .ret d fr none
  | .nx _ => .ret .non false none
  | .ex c _ => .exc c none
  | _ => .no
def io0 (s : Slot) : Option (Option D) := match s with
  | .io d => some (some d)
  | _ => none
def fin1 (r : RS) : FR := match r with
  | .rt d fr env => match io0 (getS env 0) with
    | some o => .ret d fr o
    | none => .no
  | .nx env => match io0 (getS env 0) with
    | some o => .ret .non false o
    | none => .no
  | .ex c env => match io0 (getS env 0) with
    | some o => .exc c o
    | none => .no
  | _ => .no
theorem x_sem0 {n : Nat} {mm : Env → RS} : semS n false mm ds = fin0 (mm (startE n false ds)) := by
  unfold semS fin0
  cases mm (startE n false ds) <;> rfl
theorem x_sem1 {n : Nat} {mm : Env → RS} : semS n true mm ds = fin1 (mm (startE n true ds)) := by
  unfold semS fin1
  cases mm (startE n true ds) with
  | rt d fr e => first | (simp only [io0, if_true]; done) | (simp only [io0, if_true]; cases q : getS e 0 <;> simp)
  | nx e => first | (simp only [io0, if_true]; done) | (simp only [io0, if_true]; cases q : getS e 0 <;> simp)
  | ex c e => first | (simp only [io0, if_true]; done) | (simp only [io0, if_true]; cases q : getS e 0 <;> simp)
  | _ => rfl
@[simp] theorem fin0_rt : fin0 (.rt d fr e) = .ret d fr none := rfl
@[simp] theorem fin0_nx : fin0 (.nx e) = .ret .non false none := rfl
@[simp] theorem fin0_ex : fin0 (.ex c e) = .exc c none := rfl
def fiK (d : D) (fr : Bool) (s : Slot) : FR := match io0 s with
    | some o => .ret d fr o
    | none => .no
@[simp] theorem fin1_rt : fin1 (.rt d fr e) = fiK d fr (getS e 0) := rfl
@[simp] theorem fin1_nx : fin1 (.nx e) = fiK .non false (getS e 0) := rfl
@[simp] theorem fiK_io {z : D} : fiK d fr (.io z) = .ret d fr (some z) := rfl
end
end Cor
set_option Elab.async false
set_option linter.all false
set_option maxRecDepth 100000
set_option maxHeartbeats 2000000
/-! Cor15: the operations on known values (for simp). -/
namespace Cor
open PySem L2
section
variable {i j k : Int} {a b : Bool} {xs ys : List D} {s t : List Nat} {d x y : D}
@[simp] theorem lim_eq : lim = 1000000 := rfl
@[simp] theorem binD_addI : binD .Add (.int i) (.int j) = some (.int (i + j), false) := rfl
@[simp] theorem binD_addS : binD .Add (.str s) (.str t) = if s.length + t.length ≤ 1000000 then some (.str (s ++ t), false) else none := rfl
@[simp] theorem binD_addT : binD .Add (.tup xs) (.tup ys) = if xs.length + ys.length ≤ 1000000 then some (.tup (xs ++ ys), false) else none := rfl
@[simp] theorem binD_addL : binD .Add (.lst xs) (.lst ys) = if xs.length + ys.length ≤ 1000000 then some (.lst (xs ++ ys), true) else none := rfl
@[simp] theorem binD_sub : binD .Sub (.int i) (.int j) = some (.int (i - j), false) := rfl
@[simp] theorem binD_mul : binD .Mult (.int i) (.int j) = if i.natAbs < 18446744073709551616 ∨ j.natAbs < 18446744073709551616 then some (.int (i * j), false) else none := by
  have : (2 : Nat) ^ 64 = 18446744073709551616 := by decide
  rw [binD, this]
@[simp] theorem binD_mulL : binD .Mult (.lst xs) (.int j) = if xs.length * j.toNat ≤ 1000000 ∧ j < 1000000 ∧ -1000000 < j then some (.lst (List.replicate j.toNat xs).flatten, true) else none := rfl
theorem binD_mod (h : j ≠ 0) : binD .Mod (.int i) (.int j) = some (.int (i.fmod j), false) := by rw [binD, if_pos h]
@[simp] theorem binD_modP (h : 0 < j) : binD .Mod (.int i) (.int j) = some (.int (i % j), false) := by rw [binD, if_pos (by omega), Int.fmod_eq_emod_of_nonneg _ (by omega)]
@[simp] theorem binD_divP (h : 0 < j) (h2 : j < 1073741824) : binD .FloorDiv (.int i) (.int j) = some (.int (i / j), false) := by
  rw [binD, if_pos (by omega), Int.fdiv_eq_ediv_of_nonneg _ (by omega)]
@[simp] theorem binD_pow : binD .Pow (.int i) (.int j) = if 0 ≤ j ∧ j ≤ 1000000 ∧ i.natAbs < 18446744073709551616 then some (.int (i ^ j.toNat), false) else none := by
  have : (2 : Nat) ^ 64 = 18446744073709551616 := by decide
  rw [binD, this]
@[simp] theorem eqv_int : D.eqv (.int i) (.int j) = (i == j) := by rw [D.eqv]
@[simp] theorem eqv_bl : D.eqv (.bl a) (.bl b) = (a == b) := by rw [D.eqv]
@[simp] theorem eqv_str : D.eqv (.str s) (.str t) = decide (s = t) := by rw [D.eqv]
@[simp] theorem eqv_tup : D.eqv (.tup xs) (.tup ys) = eqvs xs ys := by rw [D.eqv]
@[simp] theorem eqv_lst : D.eqv (.lst xs) (.lst ys) = eqvs xs ys := by rw [D.eqv]
@[simp] theorem eqvs_nil : eqvs [] [] = true := by rw [eqvs]
@[simp] theorem eqvs_cons : eqvs (x :: xs) (y :: ys) = (D.eqv x y && eqvs xs ys) := by rw [eqvs]
@[simp] theorem eqvs_cn : eqvs (x :: xs) [] = false := by rw [eqvs]; simp; simp
@[simp] theorem eqvs_nc : eqvs [] (x :: xs) = false := by rw [eqvs]; simp; simp
@[simp] theorem okN_int {n : Nat} : D.okN n (.int i) = true := by cases n <;> rfl
@[simp] theorem okN_bl {n : Nat} : D.okN n (.bl a) = true := by cases n <;> rfl
@[simp] theorem okN_non {n : Nat} : D.okN n .non = true := by cases n <;> rfl
@[simp] theorem okN_str {n : Nat} : D.okN n (.str s) = s.all fun c => decide (c < 1114112) := by cases n <;> rfl
@[simp] theorem okN_tup {n : Nat} : D.okN (n + 1) (.tup xs) = xs.all (D.okN n) := by rw [D.okN]
@[simp] theorem okN_lst {n : Nat} : D.okN (n + 1) (.lst xs) = xs.all (D.okN n) := by rw [D.okN]
@[simp] theorem cmpD_eq : cmpD .Eq x y = if (D.okN 8 x && D.okN 8 y) = true then some (D.eqv x y) else none := rfl
@[simp] theorem cmpD_ne : cmpD .NotEq x y = if (D.okN 8 x && D.okN 8 y) = true then some (!D.eqv x y) else none := rfl
@[simp] theorem cmpD_lt : cmpD .Lt (.int i) (.int j) = some (decide (i < j)) := rfl
@[simp] theorem cmpD_le : cmpD .LtE (.int i) (.int j) = some (decide (i ≤ j)) := rfl
@[simp] theorem cmpD_gt : cmpD .Gt (.int i) (.int j) = some (decide (j < i)) := rfl
@[simp] theorem cmpD_ge : cmpD .GtE (.int i) (.int j) = some (decide (j ≤ i)) := rfl
@[simp] theorem cmpD_is : cmpD .Is x .non = some (isNon x) := by cases x <;> rfl
@[simp] theorem cmpD_isnt : cmpD .IsNot x .non = some (!isNon x) := by cases x <;> rfl
@[simp] theorem cmpD_isB : cmpD .Is (.bl a) (.bl b) = some (a == b) := rfl
@[simp] theorem cmpD_isntB : cmpD .IsNot (.bl a) (.bl b) = some (!(a == b)) := rfl
@[simp] theorem isNon_non : isNon .non = true := rfl
@[simp] theorem isNon_int : isNon (.int i) = false := rfl
@[simp] theorem isNon_bl : isNon (.bl a) = false := rfl
@[simp] theorem isNon_str : isNon (.str s) = false := rfl
@[simp] theorem isNon_tup : isNon (.tup xs) = false := rfl
@[simp] theorem isNon_lst : isNon (.lst xs) = false := rfl
@[simp] theorem sub_tup : subD (.tup xs) (.int i) = atI xs i := rfl
@[simp] theorem sub_lst : subD (.lst xs) (.int i) = atI xs i := rfl
@[simp] theorem sub_str : subD (.str s) (.int i) = if s.length ≤ 1000000 then (atI s i).map fun c => .str [c] else none := rfl
end
theorem ixN_nat {n k : Nat} : ixN n (k : Int) = if k < n then some k else none := by
  unfold ixN
  rw [if_pos (by omega)]
  by_cases h : k < n
  · rw [if_pos (by omega), if_pos h]; rfl
  · rw [if_neg (by omega), if_neg h]
theorem atI_nat {α : Type} {xs : List α} {k : Nat} : atI xs (k : Int) = xs[k]? := by
  unfold atI
  rw [ixN_nat]
  by_cases h : k < xs.length
  · rw [if_pos h]; rfl
  · rw [if_neg h, List.getElem?_eq_none (by omega)]; rfl
section
variable {α : Type} {xs : List α} {n : Nat}
@[simp] theorem ixN_0 : ixN n 0 = if 0 < n then some 0 else none := ixN_nat (k := 0)
@[simp] theorem ixN_1 : ixN n 1 = if 1 < n then some 1 else none := ixN_nat (k := 1)
@[simp] theorem ixN_2 : ixN n 2 = if 2 < n then some 2 else none := ixN_nat (k := 2)
@[simp] theorem atI_0 : atI xs 0 = xs[0]? := atI_nat (k := 0)
@[simp] theorem atI_1 : atI xs 1 = xs[1]? := atI_nat (k := 1)
@[simp] theorem atI_2 : atI xs 2 = xs[2]? := atI_nat (k := 2)
@[simp] theorem atI_3 : atI xs 3 = xs[3]? := atI_nat (k := 3)
@[simp] theorem atI_4 : atI xs 4 = xs[4]? := atI_nat (k := 4)
@[simp] theorem atI_5 : atI xs 5 = xs[5]? := atI_nat (k := 5)
@[simp] theorem atI_6 : atI xs 6 = xs[6]? := atI_nat (k := 6)
theorem atI_last : atI xs (-1) = xs.getLast? := by
  unfold atI ixN
  cases xs with
  | nil => simp
  | cons x xs =>
    rw [if_neg (by omega), if_pos (by simp only [List.length_cons]; omega)]
    have : ((-1 : Int) + ((x :: xs).length : Nat)).toNat = xs.length := by simp only [List.length_cons]; omega
    rw [Option.bind_some, this, List.getLast?_eq_getElem?]
    simp
end
section
variable {i j k : Int} {a b : Bool} {xs ys : List D} {s t : List Nat} {d x y : D}
@[simp] theorem b1_lenT : b1D .len (.tup xs) = some (.int xs.length, false) := rfl
@[simp] theorem b1_lenL : b1D .len (.lst xs) = some (.int xs.length, false) := rfl
@[simp] theorem b1_lenS : b1D .len (.str s) = if s.length ≤ 1000000 then some (.int s.length, false) else none := rfl
@[simp] theorem b1_sumL : b1D .sum (.lst xs) = (intsOf xs).map fun is => (.int is.sum, false) := rfl
@[simp] theorem b1_sumT : b1D .sum (.tup xs) = (intsOf xs).map fun is => (.int is.sum, false) := rfl
@[simp] theorem b1_maxL : b1D .max (.lst xs) = ((intsOf xs).bind maxI).map fun i => (.int i, false) := rfl
@[simp] theorem b1_minL : b1D .min (.lst xs) = ((intsOf xs).bind minI).map fun i => (.int i, false) := rfl
@[simp] theorem b1_anyL : b1D .any (.lst xs) = (blsOf xs).map fun bs => (.bl (bs.any id), false) := rfl
@[simp] theorem b1_allL : b1D .all (.lst xs) = (blsOf xs).map fun bs => (.bl (bs.all id), false) := rfl
@[simp] theorem b1_tupL : b1D .tuple (.lst xs) = some (.tup xs, false) := rfl
@[simp] theorem b1_tupT : b1D .tuple (.tup xs) = some (.tup xs, false) := rfl
@[simp] theorem b1_lstL : b1D .list (.lst xs) = some (.lst xs, true) := rfl
@[simp] theorem b1_lstT : b1D .list (.tup xs) = some (.lst xs, true) := rfl
@[simp] theorem b1_int : b1D .int (.int i) = some (.int i, false) := rfl
@[simp] theorem b1_intB : b1D .int (.bl a) = some (.int (if a then 1 else 0), false) := rfl
@[simp] theorem b1_boolB : b1D .bool (.bl a) = some (.bl a, false) := rfl
@[simp] theorem b1_abs : b1D .abs (.int i) = some (.int (if i < 0 then -i else i), false) := rfl
/-- no dict, no def -/
def D.plain : D → Bool
  | .dct _ => false
  | .fn _ => false
  | _ => true
def D.isI : D → Bool
  | .int _ => true
  | .bl _ => true
  | _ => false
def D.isB : D → Bool
  | .bl _ => true
  | _ => false
def D.isS : D → Bool
  | .str _ => true
  | _ => false
def D.isT : D → Bool
  | .tup _ => true
  | _ => false
def D.isL : D → Bool
  | .lst _ => true
  | _ => false
theorem b1_isI (h : d.plain = true) : b1D .isInt d = some (.bl d.isI, false) := by cases d <;> first | rfl | cases h
theorem b1_isB (h : d.plain = true) : b1D .isBool d = some (.bl d.isB, false) := by cases d <;> first | rfl | cases h
theorem b1_isS (h : d.plain = true) : b1D .isStr d = some (.bl d.isS, false) := by cases d <;> first | rfl | cases h
theorem b1_isT (h : d.plain = true) : b1D .isTup d = some (.bl d.isT, false) := by cases d <;> first | rfl | cases h
theorem b1_isL (h : d.plain = true) : b1D .isLst d = some (.bl d.isL, false) := by cases d <;> first | rfl | cases h
@[simp] theorem intsOf_nil : intsOf [] = some [] := rfl
@[simp] theorem intsOf_cons : intsOf (.int i :: xs) = (intsOf xs).map (i :: ·) := rfl
@[simp] theorem blsOf_nil : blsOf [] = some [] := rfl
@[simp] theorem blsOf_cons : blsOf (.bl a :: xs) = (blsOf xs).map (a :: ·) := rfl
@[simp] theorem strsOf_nil : strsOf [] = some [] := rfl
@[simp] theorem strsOf_cons : strsOf (.str s :: xs) = (strsOf xs).map (s :: ·) := rfl
@[simp] theorem intsOf_map {is : List Int} : intsOf (is.map D.int) = some is := by
  induction is with
  | nil => rfl
  | cons i is ih => simp [ih]
@[simp] theorem blsOf_map {is : List Bool} : blsOf (is.map D.bl) = some is := by
  induction is with
  | nil => rfl
  | cons i is ih => simp [ih]
@[simp] theorem strsOf_map {is : List (List Nat)} : strsOf (is.map D.str) = some is := by
  induction is with
  | nil => rfl
  | cons i is ih => simp [ih]
end
section
variable {α : Type} {xs : List α} {k l : Int}
theorem sIx_none {n d : Nat} : HT.sIx n d none = d := rfl
theorem sIx_pos {n d : Nat} (h : 0 ≤ k) : HT.sIx n d (some k) = min k.toNat n := by
  unfold HT.sIx
  simp only
  split <;> omega
@[simp] theorem cut_nn : cutD xs none none = xs := by simp [cutD, sIx_none]
@[simp] theorem cut_pn (h : 0 ≤ k) : cutD xs (some k) none = xs.drop k.toNat := by
  unfold cutD
  rw [sIx_pos h, sIx_none]
  by_cases hk : k.toNat ≤ xs.length
  · rw [Nat.min_eq_left hk, List.take_of_length_le (by simp)]
  · rw [Nat.min_eq_right (by omega), List.drop_eq_nil_of_le (by omega), List.drop_eq_nil_of_le (by omega)]
    simp
@[simp] theorem cut_np (h : 0 ≤ k) : cutD xs none (some k) = xs.take k.toNat := by
  unfold cutD
  rw [sIx_pos h, sIx_none]
  by_cases hk : k.toNat ≤ xs.length
  · simp [Nat.min_eq_left hk]
  · rw [Nat.min_eq_right (by omega), List.take_of_length_le (by simp), List.take_of_length_le (by omega)]
    simp
theorem cut_pp (h : 0 ≤ k) (h2 : 0 ≤ l) : cutD xs (some k) (some l) = (xs.drop k.toNat).take (l.toNat - k.toNat) := by
  unfold cutD
  rw [sIx_pos h, sIx_pos h2]
  by_cases hk : k.toNat ≤ xs.length
  · rw [Nat.min_eq_left hk]
    by_cases hl : l.toNat ≤ xs.length
    · rw [Nat.min_eq_left hl]
    · rw [Nat.min_eq_right (by omega), List.take_of_length_le (by simp), List.take_of_length_le (by simp; omega)]
  · rw [List.drop_eq_nil_of_le (by omega), List.drop_eq_nil_of_le (by omega)]
    simp
@[simp] theorem slc_tup {xs : List D} {lo hi : Option Int} : slcD (.tup xs) lo hi = some (.tup (cutD xs lo hi), false) := rfl
@[simp] theorem slc_lst {xs : List D} {lo hi : Option Int} : slcD (.lst xs) lo hi = some (.lst (cutD xs lo hi), true) := rfl
@[simp] theorem slc_str {s : List Nat} {lo hi : Option Int} : slcD (.str s) lo hi = if s.length ≤ 1000000 then some (.str (cutD s lo hi), false) else none := rfl
end
theorem rngD_nat {n : Nat} (h : n ≤ 1000000) : rngD 0 (n : Int) = some ((List.range n).map fun k => .int (k : Nat)) := by
  unfold rngD
  rw [if_pos (by omega)]
  simp
end Cor
namespace Cor
open PySem L2
def Slot.nio : Slot → Bool
  | .io _ => false
  | _ => true
@[simp] theorem nio_no : Slot.nio .no = true := rfl
@[simp] theorem nio_val {d : D} : Slot.nio (.val d) = true := rfl
@[simp] theorem nio_own {d : D} : Slot.nio (.own d) = true := rfl
theorem nio_ite {d : D} {fr : Bool} : Slot.nio (if fr = true then .own d else .val d) = true := by cases fr <;> rfl
@[simp] theorem putK_nio {s : Slot} {env : Env} {i : Nat} {d : D} {fr : Bool} (h : s.nio = true) : putK s env i d fr = .nx (env.set i (if fr then .own d else .val d)) := by
  cases s <;> first | rfl | cases h
@[simp] theorem asK_nio {s : Slot} {env : Env} {i : Nat} {d : D} (h : s.nio = true) : asK s i d env = some (env.set i (.val d)) := by
  cases s <;> first | rfl | cases h
@[simp] theorem plain_int {i : Int} : (D.int i).plain = true := rfl
@[simp] theorem plain_bl {i : Bool} : (D.bl i).plain = true := rfl
@[simp] theorem plain_str {i : List Nat} : (D.str i).plain = true := rfl
@[simp] theorem plain_tup {i : List D} : (D.tup i).plain = true := rfl
@[simp] theorem plain_lst {i : List D} : (D.lst i).plain = true := rfl
@[simp] theorem plain_non : D.non.plain = true := rfl
@[simp] theorem isI_int {i : Int} : (D.int i).isI = true := rfl
@[simp] theorem isI_bl {i : Bool} : (D.bl i).isI = true := rfl
@[simp] theorem isI_str {i : List Nat} : (D.str i).isI = false := rfl
@[simp] theorem isI_tup {i : List D} : (D.tup i).isI = false := rfl
@[simp] theorem isI_lst {i : List D} : (D.lst i).isI = false := rfl
@[simp] theorem isI_non : D.non.isI = false := rfl
@[simp] theorem isB_int {i : Int} : (D.int i).isB = false := rfl
@[simp] theorem isB_bl {i : Bool} : (D.bl i).isB = true := rfl
@[simp] theorem isB_str {i : List Nat} : (D.str i).isB = false := rfl
@[simp] theorem isB_tup {i : List D} : (D.tup i).isB = false := rfl
@[simp] theorem isB_lst {i : List D} : (D.lst i).isB = false := rfl
@[simp] theorem isB_non : D.non.isB = false := rfl
@[simp] theorem isS_int {i : Int} : (D.int i).isS = false := rfl
@[simp] theorem isS_bl {i : Bool} : (D.bl i).isS = false := rfl
@[simp] theorem isS_str {i : List Nat} : (D.str i).isS = true := rfl
@[simp] theorem isS_tup {i : List D} : (D.tup i).isS = false := rfl
@[simp] theorem isS_lst {i : List D} : (D.lst i).isS = false := rfl
@[simp] theorem isS_non : D.non.isS = false := rfl
@[simp] theorem isT_int {i : Int} : (D.int i).isT = false := rfl
@[simp] theorem isT_bl {i : Bool} : (D.bl i).isT = false := rfl
@[simp] theorem isT_str {i : List Nat} : (D.str i).isT = false := rfl
@[simp] theorem isT_tup {i : List D} : (D.tup i).isT = true := rfl
@[simp] theorem isT_lst {i : List D} : (D.lst i).isT = false := rfl
@[simp] theorem isT_non : D.non.isT = false := rfl
@[simp] theorem isL_int {i : Int} : (D.int i).isL = false := rfl
@[simp] theorem isL_bl {i : Bool} : (D.bl i).isL = false := rfl
@[simp] theorem isL_str {i : List Nat} : (D.str i).isL = false := rfl
@[simp] theorem isL_tup {i : List D} : (D.tup i).isL = false := rfl
@[simp] theorem isL_lst {i : List D} : (D.lst i).isL = true := rfl
@[simp] theorem isL_non : D.non.isL = false := rfl
end Cor
namespace Cor
open PySem L2
section
variable {i : Int} {b : Bool} {s : List Nat} {xs : List D}
@[simp] theorem b1_isI_non : b1D .isInt (D.non) = some (.bl false, false) := rfl
@[simp] theorem b1_isI_int : b1D .isInt (D.int i) = some (.bl true, false) := rfl
@[simp] theorem b1_isI_bl : b1D .isInt (D.bl b) = some (.bl true, false) := rfl
@[simp] theorem b1_isI_str : b1D .isInt (D.str s) = some (.bl false, false) := rfl
@[simp] theorem b1_isI_tup : b1D .isInt (D.tup xs) = some (.bl false, false) := rfl
@[simp] theorem b1_isI_lst : b1D .isInt (D.lst xs) = some (.bl false, false) := rfl
@[simp] theorem b1_isB_non : b1D .isBool (D.non) = some (.bl false, false) := rfl
@[simp] theorem b1_isB_int : b1D .isBool (D.int i) = some (.bl false, false) := rfl
@[simp] theorem b1_isB_bl : b1D .isBool (D.bl b) = some (.bl true, false) := rfl
@[simp] theorem b1_isB_str : b1D .isBool (D.str s) = some (.bl false, false) := rfl
@[simp] theorem b1_isB_tup : b1D .isBool (D.tup xs) = some (.bl false, false) := rfl
@[simp] theorem b1_isB_lst : b1D .isBool (D.lst xs) = some (.bl false, false) := rfl
@[simp] theorem b1_isS_non : b1D .isStr (D.non) = some (.bl false, false) := rfl
@[simp] theorem b1_isS_int : b1D .isStr (D.int i) = some (.bl false, false) := rfl
@[simp] theorem b1_isS_bl : b1D .isStr (D.bl b) = some (.bl false, false) := rfl
@[simp] theorem b1_isS_str : b1D .isStr (D.str s) = some (.bl true, false) := rfl
@[simp] theorem b1_isS_tup : b1D .isStr (D.tup xs) = some (.bl false, false) := rfl
@[simp] theorem b1_isS_lst : b1D .isStr (D.lst xs) = some (.bl false, false) := rfl
@[simp] theorem b1_isT_non : b1D .isTup (D.non) = some (.bl false, false) := rfl
@[simp] theorem b1_isT_int : b1D .isTup (D.int i) = some (.bl false, false) := rfl
@[simp] theorem b1_isT_bl : b1D .isTup (D.bl b) = some (.bl false, false) := rfl
@[simp] theorem b1_isT_str : b1D .isTup (D.str s) = some (.bl false, false) := rfl
@[simp] theorem b1_isT_tup : b1D .isTup (D.tup xs) = some (.bl true, false) := rfl
@[simp] theorem b1_isT_lst : b1D .isTup (D.lst xs) = some (.bl false, false) := rfl
@[simp] theorem b1_isL_non : b1D .isLst (D.non) = some (.bl false, false) := rfl
@[simp] theorem b1_isL_int : b1D .isLst (D.int i) = some (.bl false, false) := rfl
@[simp] theorem b1_isL_bl : b1D .isLst (D.bl b) = some (.bl false, false) := rfl
@[simp] theorem b1_isL_str : b1D .isLst (D.str s) = some (.bl false, false) := rfl
@[simp] theorem b1_isL_tup : b1D .isLst (D.tup xs) = some (.bl false, false) := rfl
@[simp] theorem b1_isL_lst : b1D .isLst (D.lst xs) = some (.bl true, false) := rfl
end
end Cor
namespace Cor
open PySem L2
/-- a part goes through to a state with Q -/
def Goes (r : RS) (Q : Env → Prop) : Prop := ∃ e, r = .nx e ∧ Q e
section
variable {r : RS} {Q P : Env → Prop} {e : Env} {st ss : Env → RS} {R : FR}
theorem goes_nx (h : Q e) : Goes (.nx e) Q := ⟨e, rfl, h⟩
theorem goes_bK (h : Goes r P) (h2 : ∀ e, P e → Goes (st e) Q) : Goes (bK r st) Q := by
  obtain ⟨e, rfl, p⟩ := h
  exact h2 e p
theorem fin_bK (h : Goes r P) (h2 : ∀ e, P e → fin0 (st e) = R) : fin0 (bK r st) = R := by
  obtain ⟨e, rfl, p⟩ := h
  exact h2 e p
theorem fin1_bK (h : Goes r P) (h2 : ∀ e, P e → fin1 (st e) = R) : fin1 (bK r st) = R := by
  obtain ⟨e, rfl, p⟩ := h
  exact h2 e p
theorem Goes.mono (h : Goes r P) (h2 : ∀ e, P e → Q e) : Goes r Q := by
  obtain ⟨e, rfl, p⟩ := h
  exact ⟨e, rfl, h2 e p⟩
/-- a for: what stays true by the turn -/
theorem goes_for {t : TG} {ds : List D} (I : Nat → Env → Prop) (h0 : I 0 e) (hs : ∀ i x e, ds[i]? = some x → I i e → ∃ e2, asg t x e = some e2 ∧ (Goes (ss e2) (I (i + 1)) ∨ ∃ e', ss e2 = .ct e' ∧ I (i + 1) e')) (hd : ∀ e, I ds.length e → Q e) : Goes (forL (stepF t ss) ds e) Q := by
  obtain ⟨e', h, p⟩ := forL_inv (g := stepF t ss) (P := I) (ds := ds) (e := e) 0 h0 fun i x e hx p => by
    rw [Nat.zero_add] at p ⊢
    obtain ⟨e2, h1, h2⟩ := hs i x e hx p
    rcases h2 with ⟨e', h2, p'⟩ | ⟨e', h2, p'⟩
    · exact ⟨e', .inl (by simp [stepF, h1, h2]), p'⟩
    · exact ⟨e', .inr (by simp [stepF, h1, h2]), p'⟩
  rw [Nat.zero_add] at p
  exact ⟨e', h, hd e' p⟩
/-- range(n), item by item -/
theorem rng_get (n : Nat) (h : n ≤ 1000000) : ∃ ds, rngD 0 (n : Int) = some ds ∧ ds.length = n ∧ ∀ (i : Nat) (x : D), ds[i]? = some x → x = .int i ∧ i < n := by
  refine ⟨_, rngD_nat h, by simp, fun i x hx => ?_⟩
  rw [List.getElem?_map] at hx
  by_cases hi : i < n
  · rw [List.getElem?_range hi] at hx
    cases hx
    exact ⟨rfl, hi⟩
  · rw [List.getElem?_eq_none (by simpa using hi)] at hx
    cases hx
end
end Cor
set_option Elab.async false
set_option linter.all false
set_option maxRecDepth 100000
set_option maxHeartbeats 2000000
/-! Cor16: enumerate over a tuple or a text. -/
namespace PySem
set_option maxHeartbeats 1000000 in
theorem cor_meetsEnum {v : Value} {o : Obj} {G : Heap → Prop} (B : Begins v o G) :
    Meets (Builtin.«enumerate.__new__» ⟨[.type "enumerate", v], []⟩) (fun _ R s => G s.heap ∧
      R (.ok (.ret (.ref (s.heap.push o).objs.size))) { s with heap := (s.heap.push o).push { cls := .type "enumerate", data := .fields #[.none, .bool false, .ref s.heap.objs.size, rawInt 0, .none, .none] } }) :=
  .of_wp fun prog w A R s hyp => by
    obtain ⟨hp, gg, dd, tt, oo⟩ := s; obtain ⟨hG, hyp⟩ := hyp
    have hsubT := sub_enumerate
    have go1 : ∀ {A' : Around} {E' : Value → Shared → Prop} {Q' : Value → Shared → Prop}, Q' (.ref hp.objs.size) ⟨hp.push o, gg, dd, tt, oo⟩ → wpAny (model prog w) A' (pyIter v) Q' E' ⟨hp, gg, dd, tt, oo⟩ := fun qq => B.iter prog w _ _ ⟨hp, gg, dd, tt, oo⟩ _ hG qq
    wp_walk using go1
    refine wpAny_stack_any fun stk => wpAny_pure ?_
    split
    · rename_i c _ _ _ _ _
      cases (c == Value.type "enumerate") <;> (wp_walk using go1; exact ⟨_, rfl, hyp⟩)
    · wp_walk using go1
      exact ⟨_, rfl, hyp⟩
theorem cor_callEnum {prog : Program} {w : World} {A : Around} {E : Value → Shared → Prop} {s : Shared} {v : Value} {o : Obj} {G : Heap → Prop} {Q : Value → Shared → Prop} (B : Begins v o G) (hG : G s.heap)
    (hyp : ∀ h', IsEnum h' (s.heap.objs.size + 1) s.heap.objs.size 0 .none → h'.get? s.heap.objs.size = some o → h'.objs.size = s.heap.objs.size + 2 → (∀ b o, s.heap.get? b = some o → h'.get? b = some o) → Q (.ref (s.heap.objs.size + 1)) { s with heap := h' }) :
    wpAny (model prog w) A (call (.type "enumerate") [v]) Q E s := by
  refine callType_new F.called_enumerate (by decide) (F.typeCall_enumerate_1 _) (F.newCall_enumerate_1 _) (fun ob => F.args_object_init_2 ob _)
    F.entry_enumerate_new (cor_meetsEnum B) ⟨hG, ?_⟩
  have sz : (s.heap.push o).objs.size = s.heap.objs.size + 1 := Heap.size_push ..
  show _ ∧ _
  rw [sz]
  have en : IsEnum ((s.heap.push o).push { cls := .type "enumerate", data := .fields #[.none, .bool false, .ref s.heap.objs.size, rawInt 0, .none, .none] }) (s.heap.objs.size + 1) s.heap.objs.size 0 .none := by
    have q := Heap.get?_push_size (s.heap.push o) (o := { cls := .type "enumerate", data := .fields #[.none, .bool false, .ref s.heap.objs.size, rawInt 0, .none, .none] }) rfl
    rw [sz] at q
    exact q
  exact ⟨⟨_, en, rfl⟩, hyp _ en (Heap.get?_push_of_some _ (Heap.get?_push_size _ B.free)) (by rw [Heap.size_push, sz]) fun b o x => Heap.get?_push_of_some _ (Heap.get?_push_of_some _ x)⟩
end PySem
namespace Cor
open PySem PySem.Spec L2
/-- what draws vs, one behind another, under enumerate -/
def ItE (G : Hp → Prop) (n : Nat) (Y : Nat → V → Prop) : It :=
  ⟨fun i H => i < n ∧ G H, fun i H v H' => ∃ T x, v = .ref T ∧ H T = none ∧ H' = upd H T (.tup [.int (i : Nat), x]) ∧ Y i x, fun i H => n ≤ i ∧ G H⟩
theorem turn_enumT {P : Program} {w : World} {K : PySem.W.Frag} {elts : List Expr} {kk : Nat} {tpos : Pos} (a e it : Addr) (xs : List V) :
    Turn P w K (.Tuple elts kk tpos) (ItE (fun H => SqT K H a xs) xs.length (fun i x => xs[i]? = some x)) [e, it] e (fun i h => i ≤ xs.length ∧ (∃ old, IsEnum h e it ((i : Nat) : Int) old) ∧ h.IsTupleIter it a i ∧ e ≠ it) where
  mem := by simp
  obj := fun i h ⟨_, ⟨old, he⟩, ⟨o, ho, hc, hd⟩, _⟩ b hb => by
    have hb : b = e ∨ b = it := by simpa using hb
    rcases hb with rfl | rfl
    · exact ⟨_, he, fun v q => nomatch q⟩
    · exact ⟨o, ho, fun v q => by rw [hd] at q; cases q⟩
  keep := fun i h h' ⟨hi, ⟨old, he⟩, ht, hne⟩ k => ⟨hi, ⟨old, k e (by simp) _ he⟩, ht.at fun o q => k it (by simp) o q, hne⟩
  item := by
    intro X hP hw hK hc i pins s σ H E I hf ⟨hin, ⟨old, he⟩, hit, hne⟩ ⟨hlt, hq⟩
    subst hP hw hK
    obtain ⟨its, rv, p, hz⟩ := I.tuple hq
    have hl := rv.length
    have hel : e < s.heap.objs.size := Heap.lt_size he
    have hil : it < s.heap.objs.size := by obtain ⟨_, q, _⟩ := hit; exact Heap.lt_size q
    have hti : a ≠ it := fun z => by
      obtain ⟨o1, g1, c1, _⟩ := p
      obtain ⟨o2, g2, c2, _⟩ := hit
      rw [z, g2] at g1; cases g1; rw [c2] at c1; simp at c1
    have hte : e ≠ a := fun z => by
      obtain ⟨o1, g1, c1, _⟩ := p
      rw [← z] at g1
      have he' : s.heap.get? e = _ := he
      rw [he'] at g1; cases g1; simp at c1
    refine wpAny_pyNext_enum_itemD (Draws.tuple (A := X.A.in1) (I.ok.hd hc) it a hti its.toArray) he ⟨hit, p⟩ (by simpa [← hl] using hlt) hne (by simp [hne, hte]) fun u h' tk hu ho hst hT hsz hk => ?_
    have hu : its[i]? = some u := by simpa using hu
    obtain ⟨x, hx, ru⟩ : ∃ x, xs[i]? = some x ∧ RelV x u := by
      have hx : xs[i]? = some xs[i] := List.getElem?_eq_getElem hlt
      obtain ⟨u', hu', ru⟩ := rv.get hx
      rw [hu] at hu'; cases hu'
      exact ⟨_, hx, ru⟩
    refine ⟨_, rfl, wpAny_letOwnedTupleGo_enum (s := { s with heap := h', toks := tk + 1 }) ho fun h'' he' sb => ?_⟩
    have hT2 : h''.get? s.heap.objs.size = some { cls := .type "tuple", data := .seq #[.int i tk, u] } := (sb.2 _ (Nat.ne_of_gt hel)).trans hT
    have nw : ObjOk X.prog X.w (upd H s.heap.objs.size (.tup [.int (i : Nat), x])) h'' s.heap.objs.size (.tup [.int (i : Nat), x]) :=
      ⟨by show 2 ≤ sizeLine; decide, [.int i tk, u], .cons ⟨_, rfl⟩ (.cons ru .nil), ⟨_, hT2, rfl, _, rfl⟩⟩
    have I1 : Inv X pins σ (upd H s.heap.objs.size (.tup [.int (i : Nat), x])) { s with heap := h'', toks := tk + 1 } :=
      I.turnedNew (ch := [e, it]) (fun b ob hb q => (sb.2 b (fun z => hb (by simp [z]))).trans (hk b ob (fun z => hb (by simp [z])) (fun z => hb (by simp [z])) q)) hf (Nat.le_refl _) nw
    refine ⟨.ref s.heap.objs.size, _, I1, rfl, ⟨_, x, rfl, I.hok.fresh (Nat.le_refl _), rfl, hx⟩, ⟨hlt, ⟨u, ?_⟩, hst.1.at fun o q => (sb.2 it (Ne.symm hne)).trans q, hne⟩, fun b hb => ?_⟩
    · have e1 : ((i + 1 : Nat) : Int) = (i : Int) + 1 := by omega
      rw [e1]; exact he'
    · have hb' : b < s.heap.objs.size := by
        have hb : b = e ∨ b = it := by simpa using hb
        rcases hb with rfl | rfl
        · exact hel
        · exact hil
      rw [upd_ne (Nat.ne_of_lt hb')]
      exact (hf b hb).1
  done := by
    intro X hP hw hK hc i pins s σ H E I hf ⟨hin, ⟨old, he⟩, hit, hne⟩ ⟨hge, hq⟩
    subst hP hw hK
    obtain ⟨its, rv, p, hz⟩ := I.tuple hq
    have hl := rv.length
    have hti : a ≠ it := fun z => by
      obtain ⟨o1, g1, c1, _⟩ := p
      obtain ⟨o2, g2, c2, _⟩ := hit
      rw [z, g2] at g1; cases g1; rw [c2] at c1; simp at c1
    obtain ⟨f0, f1, f2, f3, f4, f5⟩ := hf it (by simp)
    have hi : i = its.toArray.size := by simp [← hl]; omega
    subst hi
    exact wpAny_pyNext_enum_endD (Draws.tuple (A := X.A.in1) (I.ok.hd hc) it a hti its.toArray) he ⟨hit, p⟩ fun h' eb => ⟨rfl, I.turned (t' := s.toks) (fun b o hb q => eb b o hb q) f0 f1 f3 f4 f5⟩
  self := fun A i s Q E ⟨_, ⟨_, he⟩, _⟩ h => wpAny_pyIter_enum he h
theorem turn_enumS {P : Program} {w : World} {K : PySem.W.Frag} {elts : List Expr} {kk : Nat} {tpos : Pos} (z : Str) (t : Tok) (e it : Addr) :
    Turn P w K (.Tuple elts kk tpos) (ItE (fun _ => True) z.cps.size (fun i x => ∃ c, z.cps[i]? = some c ∧ x = .str ⟨#[c]⟩)) [e, it] e (fun i h => i ≤ z.cps.size ∧ (∃ old, IsEnum h e it ((i : Nat) : Int) old) ∧ h.IsStrIter it (strIterType z) z t i ∧ e ≠ it) where
  mem := by simp
  obj := fun i h ⟨_, ⟨old, he⟩, ⟨o, ho, hc, hd⟩, _⟩ b hb => by
    have hb : b = e ∨ b = it := by simpa using hb
    rcases hb with rfl | rfl
    · exact ⟨_, he, fun v q => nomatch q⟩
    · exact ⟨o, ho, fun v q => by rw [hd] at q; cases q⟩
  keep := fun i h h' ⟨hi, ⟨old, he⟩, ht, hne⟩ k => ⟨hi, ⟨old, k e (by simp) _ he⟩, (let ⟨o, h1, h2, h3⟩ := ht; ⟨o, k it (by simp) o h1, h2, h3⟩), hne⟩
  item := by
    intro X hP hw hK hc i pins s σ H E I hf ⟨hin, ⟨old, he⟩, hit, hne⟩ ⟨hlt, _⟩
    subst hP hw hK
    have hel : e < s.heap.objs.size := Heap.lt_size he
    have hil : it < s.heap.objs.size := by obtain ⟨_, q, _⟩ := hit; exact Heap.lt_size q
    refine wpAny_pyNext_enum_itemD (Draws.text (A := X.A.in1) (I.ok.hd hc) it z t) he hit hlt hne (by simp [hne]) fun u h' tk hu ho hst hT hsz hk => ?_
    obtain ⟨c, ut, hc1, rfl⟩ := hu
    refine ⟨_, rfl, wpAny_letOwnedTupleGo_enum (s := { s with heap := h', toks := tk + 1 }) ho fun h'' he' sb => ?_⟩
    have hT2 : h''.get? s.heap.objs.size = some { cls := .type "tuple", data := .seq #[.int i tk, .str ⟨#[c]⟩ ut] } := (sb.2 _ (Nat.ne_of_gt hel)).trans hT
    have nw : ObjOk X.prog X.w (upd H s.heap.objs.size (.tup [.int (i : Nat), .str ⟨#[c]⟩])) h'' s.heap.objs.size (.tup [.int (i : Nat), .str ⟨#[c]⟩]) :=
      ⟨by show 2 ≤ sizeLine; decide, [.int i tk, .str ⟨#[c]⟩ ut], .cons ⟨_, rfl⟩ (.cons ⟨_, rfl⟩ .nil), ⟨_, hT2, rfl, _, rfl⟩⟩
    have I1 : Inv X pins σ (upd H s.heap.objs.size (.tup [.int (i : Nat), .str ⟨#[c]⟩])) { s with heap := h'', toks := tk + 1 } :=
      I.turnedNew (ch := [e, it]) (fun b ob hb q => (sb.2 b (fun z => hb (by simp [z]))).trans (hk b ob (fun z => hb (by simp [z])) (fun z => hb (by simp [z])) q)) hf (Nat.le_refl _) nw
    refine ⟨.ref s.heap.objs.size, _, I1, rfl, ⟨_, .str ⟨#[c]⟩, rfl, I.hok.fresh (Nat.le_refl _), rfl, c, hc1, rfl⟩, ⟨hlt, ⟨.str ⟨#[c]⟩ ut, ?_⟩, (let ⟨o, h1, h2, h3⟩ := hst; ⟨o, (sb.2 it (Ne.symm hne)).trans h1, h2, h3⟩), hne⟩, fun b hb => ?_⟩
    · have e1 : ((i + 1 : Nat) : Int) = (i : Int) + 1 := by omega
      rw [e1]; exact he'
    · have hb' : b < s.heap.objs.size := by
        have hb : b = e ∨ b = it := by simpa using hb
        rcases hb with rfl | rfl
        · exact hel
        · exact hil
      rw [upd_ne (Nat.ne_of_lt hb')]
      exact (hf b hb).1
  done := by
    intro X hP hw hK hc i pins s σ H E I hf ⟨hin, ⟨old, he⟩, hit, hne⟩ ⟨hge, _⟩
    subst hP hw hK
    obtain ⟨f0, f1, f2, f3, f4, f5⟩ := hf it (by simp)
    have hi : i = z.cps.size := by omega
    subst hi
    exact wpAny_pyNext_enum_endD (Draws.text (A := X.A.in1) (I.ok.hd hc) it z t) he hit fun h' eb => ⟨rfl, I.turned (t' := s.toks) (fun b o hb q => eb b o hb q) f0 f1 f3 f4 f5⟩
  self := fun A i s Q E ⟨_, ⟨_, he⟩, _⟩ h => wpAny_pyIter_enum he h
section
variable {X : Cx} {W : WX} {e : Expr} {p pos tpos : Pos} {elts : List Expr} {kk : Nat} {ta : TA}
theorem pi_enumT (hg : Gl X "enumerate") (hm : X.mg "enumerate" = none) (ha : PA X [e] ta) (hs : starEach [e] X.env = [(false, eval e X.env)]) :
    PI X (.Tuple elts kk tpos) (.Call (.Name "enumerate" p) [e] [] pos) (fun σ H R => ta σ H fun vs H1 => ∃ a xs, vs = [.ref a] ∧ SqT X.K H1 a xs ∧ R (ItE (fun H => SqT X.K H a xs) xs.length (fun i x => xs[i]? = some x)) H1) := by
  refine ⟨fun pins s σ H R I h => ?_⟩
  refine PyProof.Rows.Call_ (ld_blt I hg hm PyProof.Rows.boot_enumerate (PyProof.Rows.callWith_type1 (thn (ha.run pos pins s σ H _ I h) fun us s1 ⟨vs, H1, I1, r1, a, xs, ex, hq, q⟩ => ?_) hs rfl))
  subst ex
  cases r1 with
  | cons r rr =>
    cases rr
    cases r
    obtain ⟨its, rv, p', hz⟩ := I1.tuple hq
    refine cor_callEnum (begins_tuple a its.toArray) p' fun h' he hit hsz hk => wpAny_pyIter_enum he ?_
    have I2 : Inv X pins σ H1 { s1 with heap := h' } := I1.kept (t' := s1.toks) hk
    refine ⟨s1.heap.objs.size + 1, [s1.heap.objs.size + 1, s1.heap.objs.size], _, _, H1, rfl, I2, turn_enumT a (s1.heap.objs.size + 1) s1.heap.objs.size xs, ⟨Nat.zero_le _, ⟨.none, he⟩, ⟨_, hit, rfl, rfl⟩, Nat.succ_ne_self _⟩, fun b hb => ?_, q⟩
    have hb : b = s1.heap.objs.size + 1 ∨ b = s1.heap.objs.size := by simpa using hb
    have hle : s1.heap.objs.size ≤ b := by
      rcases hb with z | z <;> rw [z]
      · exact Nat.le_add_right _ _
      · exact Nat.le_refl _
    exact I1.fpOk hle (I1.hok.fresh hle)
theorem pi_enumS (hg : Gl X "enumerate") (hm : X.mg "enumerate" = none) (ha : PA X [e] ta) (hs : starEach [e] X.env = [(false, eval e X.env)]) :
    PI X (.Tuple elts kk tpos) (.Call (.Name "enumerate" p) [e] [] pos) (fun σ H R => ta σ H fun vs H1 => ∃ z, vs = [.str z] ∧ R (ItE (fun _ => True) z.cps.size (fun i x => ∃ c, z.cps[i]? = some c ∧ x = .str ⟨#[c]⟩)) H1) := by
  refine ⟨fun pins s σ H R I h => ?_⟩
  refine PyProof.Rows.Call_ (ld_blt I hg hm PyProof.Rows.boot_enumerate (PyProof.Rows.callWith_type1 (thn (ha.run pos pins s σ H _ I h) fun us s1 ⟨vs, H1, I1, r1, z, ex, q⟩ => ?_) hs rfl))
  subst ex
  cases r1 with
  | cons r rr =>
    cases rr
    obtain ⟨t, rfl⟩ := r
    refine cor_callEnum (begins_text z t) trivial fun h' he hit hsz hk => wpAny_pyIter_enum he ?_
    have I2 : Inv X pins σ H1 { s1 with heap := h' } := I1.kept (t' := s1.toks) hk
    refine ⟨s1.heap.objs.size + 1, [s1.heap.objs.size + 1, s1.heap.objs.size], _, _, H1, rfl, I2, turn_enumS z t (s1.heap.objs.size + 1) s1.heap.objs.size, ⟨Nat.zero_le _, ⟨.none, he⟩, ⟨_, hit, rfl, rfl⟩, Nat.succ_ne_self _⟩, fun b hb => ?_, q⟩
    have hb : b = s1.heap.objs.size + 1 ∨ b = s1.heap.objs.size := by simpa using hb
    have hle : s1.heap.objs.size ≤ b := by
      rcases hb with z | z <;> rw [z]
      · exact Nat.le_add_right _ _
      · exact Nat.le_refl _
    exact I1.fpOk hle (I1.hok.fresh hle)
end
section
variable {K : PySem.W.Frag} {mg : Str → Option Value} {Hf : Hp}
theorem walkE {ds : List D} {G : Hp → Prop} {n : Nat} {Y : Nat → V → Prop} (hn : ds.length = n) (hG : ∀ H, Same Hf H → G H) (hY : ∀ i x, Y i x → ∃ d, ds[i]? = some d ∧ Rep K mg Hf d x) : WalkD K mg Hf (ds.mapIdx fun k y => .tup [.int (k : Nat), y]) (ItE G n Y) := by
  unfold WalkD
  rw [List.length_mapIdx, hn]
  refine ⟨fun i H hi h => ⟨hi, hG H h⟩, fun H h => ⟨Nat.le_refl _, hG H h⟩, fun i H v H' hi h ⟨T, x, e1, e2, e3, y⟩ => ?_⟩
  obtain ⟨d, hd, r⟩ := hY i x y
  subst e1 e3
  exact ⟨.tup [.int (i : Nat), d], by rw [List.getElem?_mapIdx, hd]; rfl, .tup e2 (.cons (.int _) (.cons r .nil))⟩
theorem walkL {ds : List D} {vs : List V} {a : Addr} (h : SqL K Hf a vs) (r : Reps K mg Hf ds vs) : WalkD K mg Hf (ds.mapIdx fun k y => .tup [.int (k : Nat), y]) (Ite K a) := by
  unfold WalkD
  rw [List.length_mapIdx, r.length]
  refine walk_enum.mono (fun H e => e.seq h) fun i H v H' _ e y => ?_
  obtain ⟨T, x, z, e1, e2, e3, e4, e5⟩ := y
  cases e4
  obtain ⟨d, hd, rr⟩ := r.getV e5
  subst e1 e3
  exact ⟨.tup [.int (i : Nat), d], by rw [List.getElem?_mapIdx, hd]; rfl, .tup e2 (.cons (.int _) (.cons rr .nil))⟩
end
/-- enumerate(e) of a list, a tuple or a text -/
def iEnu (ma : Env → RE) : Env → REs := fun env => (ma env).bindI fun x _ e1 => match x with
  | .lst xs => .ok (xs.mapIdx fun k y => .tup [.int (k : Nat), y]) e1
  | .tup xs => .ok (xs.mapIdx fun k y => .tup [.int (k : Nat), y]) e1
  | .str xs => if xs.length ≤ lim then .ok ((xs.map fun c => D.str [c]).mapIdx fun k y => .tup [.int (k : Nat), y]) e1 else .no
  | _ => .no
theorem jEnu {X : Cx} {W : WX} {a : Expr} {pa : Bool} {ma : Env → RE} {p pos tpos : Pos} {elts : List Expr} {kk : Nat} (hm : X.mg "enumerate" = none) (ha : PE X a (tI X.K X.mg W true pa ma)) (hg : X.env.kindOf "enumerate" = some .globalImplicit := by kernel_rfl) (hs : starEach [a] X.env = [(false, eval a X.env)] := by rfl) :
    PI X (.Tuple elts kk tpos) (.Call (.Name "enumerate" p) [a] [] pos) (tJ X.K X.mg W pa (iEnu ma)) := by
  have pa1 : PA X [a] (tCons (tI X.K X.mg W true pa ma) tNil) := pa_cons ha pa_nil (by rw [hs]; rfl)
  refine ⟨fun pins s σ H R I ⟨Hf, env, R0, g⟩ => ?_⟩
  unfold iEnu at g
  cases q : ma env with
  | no => rw [q] at g; exact g.elim
  | ex x e1 =>
    rw [q] at g
    refine (pi_enumT hg hm pa1 hs).run pins s σ H R I ⟨Hf, env, R0, ?_⟩
    rw [q]; exact g
  | ok d fr e1 =>
    rw [q] at g
    cases d with
    | lst xs =>
      refine (pi_enum hg hm pa1 hs).run pins s σ H R I ⟨Hf, env, R0, ?_⟩
      rw [q]
      refine fun v H1 Hf1 R1 t1 z1 => ?_
      obtain ⟨Hf1, R1, t1, z1⟩ := stab R0 R1 t1 z1
      obtain ⟨a, vs, rfl, h1, h2⟩ := z1.lstInv
      exact ⟨a, vs, rfl, R1.le.seq h1, g _ H1 Hf1 R1 t1 (walkL h1 h2)⟩
    | tup xs =>
      refine (pi_enumT hg hm pa1 hs).run pins s σ H R I ⟨Hf, env, R0, ?_⟩
      rw [q]
      refine fun v H1 Hf1 R1 t1 z1 => ?_
      obtain ⟨Hf1, R1, t1, z1⟩ := stab R0 R1 t1 z1
      obtain ⟨a, vs, rfl, h1, h2⟩ := z1.tupInv
      exact ⟨a, vs, rfl, same_t R1.le h1, g _ H1 Hf1 R1 t1 (walkE h2.length (fun H e => same_t e h1) fun i x hx => h2.getV hx)⟩
    | str xs =>
      by_cases hz : xs.length ≤ lim
      · refine (pi_enumS hg hm pa1 hs).run pins s σ H R I ⟨Hf, env, R0, ?_⟩
        rw [q]
        simp only [RE.bindI, hz, if_true] at g
        refine fun v H1 Hf1 R1 t1 z1 => ?_
        obtain rfl := (z1.now R1.le).strInv
        refine ⟨_, rfl, g _ H1 Hf1 R1 t1 (walkE (by simp) (fun _ _ => trivial) fun i x ⟨c, hc, hx⟩ => ?_)⟩
        subst hx
        refine ⟨.str [c], ?_, .str [c]⟩
        rw [List.getElem?_map]
        have : xs[i]? = some c := by simpa using hc
        rw [this]; rfl
      · simp only [RE.bindI, hz, if_false] at g
        exact g.elim
    | _ => exact g.elim
end Cor
set_option Elab.async false
set_option linter.all false
set_option maxRecDepth 100000
set_option maxHeartbeats 2000000
/-! Cor17: more words: never reached, a module's tuple, list and tuple of a range, count, a def that calls itself. -/
namespace Cor
open PySem PySem.Spec L2
open PyProof.Rows (envOfC)
def sNo : Env → RS := fun _ => .no
theorem kNo {X : Cx} {W : WX} {st : Stmt} : PS X st (tS X.K X.mg W sNo) := PS.imp ps_never fun D σ H ⟨_, _, _, g⟩ => g
/-- a module's tuple -/
theorem pGT {X : Cx} {W : WX} {x : Str} {pos : Pos} (ds : List D) {vs : List V} (hm : ∃ a, X.mg x = some (.ref a) ∧ ∀ H, SqT X.K H a vs) (hr : ∀ H, Reps X.K X.mg H ds vs) (hg : X.env.kindOf x = some .globalImplicit := by kernel_rfl) (hd : (x == ("__debug__" : Str)) = false := by kernel_rfl) : PE X (.Name x pos) (tI X.K X.mg W true true (eLit (.tup ds))) := by
  obtain ⟨a, h1, h2⟩ := hm
  exact s_lit (pe_glob (v := .ref a) hg h1 rfl hd) fun H => .tup (h2 H) (hr H)
/-! ### list(range(a, b)), tuple(range(a, b)) -/
def rgD (n m : Int) : Option (List D) := if -(2 ^ 62) ≤ n ∧ n < 2 ^ 62 ∧ -(2 ^ 62) ≤ m ∧ m < 2 ^ 62 ∧ (m - n).toNat ≤ 1000000 then some ((List.range (m - n).toNat).map fun i => .int (n + (i : Nat))) else none
def lrF (x y : D) (e : Env) : RE := match x, y with
  | .int n, .int m => (match rgD n m with
    | some ds => .ok (.lst ds) true e
    | none => .no)
  | _, _ => .no
def trF (x y : D) (e : Env) : RE := match x, y with
  | .int n, .int m => (match rgD n m with
    | some ds => .ok (.tup ds) false e
    | none => .no)
  | _, _ => .no
def eLRg (ma mb : Env → RE) : Env → RE := fun env => (ma env).bind fun x _ e1 => (mb e1).bind fun y _ e2 => lrF x y e2
def eTRg (ma mb : Env → RE) : Env → RE := fun env => (ma env).bind fun x _ e1 => (mb e1).bind fun y _ e2 => trF x y e2
theorem rgD_some {n m : Int} {ds : List D} {K : PySem.W.Frag} {mg : Str → Option Value} {H : Hp} (h : rgD n m = some ds) : RgOk n m ∧ Reps K mg H ds (rgV n m) := by
  unfold rgD at h
  split at h
  · rename_i q
    cases h
    refine ⟨⟨q.1, q.2.1, q.2.2.1, q.2.2.2.1, by omega⟩, ?_⟩
    unfold rgV
    have key : ∀ l : List Nat, Reps K mg H (l.map fun i => D.int (n + (i : Nat))) (l.map fun i => V.int (n + (i : Nat))) := fun l => by
      induction l with
      | nil => exact .nil
      | cons i l ih => exact .cons (.int _) ih
    exact key _
  · cases h
section
variable {X : Cx} {W : WX} {k : Nat} {a b e : Expr} {pos p p2 pos2 : Pos} {ma mb : Env → RE} {sa sb pa pb : Bool}
theorem pLRg (g : Gd k X W) (hm : X.mg "list" = none) (hmr : X.mg "range" = none) (ha : PE X a (tI X.K X.mg W sa pa ma)) (hb : PE X b (tI X.K X.mg W sb pb mb)) (hg : X.env.kindOf "list" = some .globalImplicit := by kernel_rfl) (hgr : X.env.kindOf "range" = some .globalImplicit := by kernel_rfl)
    (na : starEach [a, b] X.env = (false, eval a X.env) :: starEach [b] X.env := by rfl) (nb : starEach [b] X.env = (false, eval b X.env) :: starEach [] X.env := by rfl) (hp : (backTo pos2 (starEach [b] X.env)).any (·.1) = false := by rfl)
    (nc : starEach [.Call (.Name "range" p2) [a, b] [] pos2] X.env = (false, eval (.Call (.Name "range" p2) [a, b] [] pos2) X.env) :: starEach [] X.env := by rfl) :
    PE X (.Call (.Name "list" p) [.Call (.Name "range" p2) [a, b] [] pos2] [] pos) (tI X.K X.mg W true (pa && pb) (eLRg ma mb)) := by
  refine PE.imp (pe_listRg g.calm hg hm (prg_2 hgr hmr ha hb na nb hp) nc) fun σ H Q ⟨Hf, env, R, g⟩ => ⟨Hf, env, R, GE.first (fun h => (Bool.and_eq_true_iff.mp h).1) g fun x fx e1 v H1 Hf1 _ R1 t1 z1 g1 => ?_⟩
  refine ⟨Hf1, e1, R1, GE.next t1 (fun h => h) g1 fun y fy e2 u H2 Hf2 _ R2 t2 z2 g2 => ?_⟩
  cases x <;> try exact g2.elim
  cases y <;> try exact g2.elim
  rename_i n _ m _
  obtain rfl := (z1.now R1.le).intInv
  obtain rfl := (z2.now R2.le).intInv
  unfold lrF at g2
  dsimp only at g2
  cases q : rgD n m with
  | none => rw [q] at g2; exact g2.elim
  | some ds =>
    rw [q] at g2
    exact ⟨n, m, rfl, rfl, (rgD_some (K := X.K) (mg := X.mg) (H := Hf2) q).1, fun r hr => GE.out g2 (t1.trans t2) (fun h => h) R2 (.lst hr (rgD_some q).2)⟩
theorem pTRg (g : Gd k X W) (hm : X.mg "tuple" = none) (hmr : X.mg "range" = none) (ha : PE X a (tI X.K X.mg W sa pa ma)) (hb : PE X b (tI X.K X.mg W sb pb mb)) (hg : X.env.kindOf "tuple" = some .globalImplicit := by kernel_rfl) (hgr : X.env.kindOf "range" = some .globalImplicit := by kernel_rfl)
    (na : starEach [a, b] X.env = (false, eval a X.env) :: starEach [b] X.env := by rfl) (nb : starEach [b] X.env = (false, eval b X.env) :: starEach [] X.env := by rfl) (hp : (backTo pos2 (starEach [b] X.env)).any (·.1) = false := by rfl)
    (nc : starEach [.Call (.Name "range" p2) [a, b] [] pos2] X.env = (false, eval (.Call (.Name "range" p2) [a, b] [] pos2) X.env) :: starEach [] X.env := by rfl) :
    PE X (.Call (.Name "tuple" p) [.Call (.Name "range" p2) [a, b] [] pos2] [] pos) (tI X.K X.mg W true (pa && pb) (eTRg ma mb)) := by
  refine PE.imp (pe_tupRg g.calm hg hm (prg_2 hgr hmr ha hb na nb hp) nc) fun σ H Q ⟨Hf, env, R, g⟩ => ⟨Hf, env, R, GE.first (fun h => (Bool.and_eq_true_iff.mp h).1) g fun x fx e1 v H1 Hf1 _ R1 t1 z1 g1 => ?_⟩
  refine ⟨Hf1, e1, R1, GE.next t1 (fun h => h) g1 fun y fy e2 u H2 Hf2 _ R2 t2 z2 g2 => ?_⟩
  cases x <;> try exact g2.elim
  cases y <;> try exact g2.elim
  rename_i n _ m _
  obtain rfl := (z1.now R1.le).intInv
  obtain rfl := (z2.now R2.le).intInv
  unfold trF at g2
  dsimp only at g2
  cases q : rgD n m with
  | none => rw [q] at g2; exact g2.elim
  | some ds =>
    rw [q] at g2
    exact ⟨n, m, rfl, rfl, (rgD_some (K := X.K) (mg := X.mg) (H := Hf2) q).1, fun r hr => GE.out g2 (t1.trans t2) (fun h => h) R2 (.tup hr (rgD_some q).2)⟩
end
/-! ### text.count(sign) -/
theorem occ_cnt (x : Str) (c : Nat) : ∀ (n lo : Nat) (f : Array Nat) (fr : Nat), lo + n = x.length + 1 → fr ≤ lo → f.size ≤ lo →
    (forIn (List.range' lo n) (f, fr) (StrLaws.occBody x ⟨#[c]⟩ x.length (x.length + 1))).run.fst.size = f.size + ((x.cps.toList.drop lo).filter fun y => y == c).length
  | 0, lo, f, fr, h1, h2, h3 => by
    have hq : x.cps.toList.length = x.length := by simp [Str.length]
    have hd : x.cps.toList.drop lo = [] := List.drop_eq_nil_of_le (by omega)
    rw [hd]
    rfl
  | n + 1, lo, f, fr, h1, h2, h3 => by
    have hl : x.cps.toList.length = x.length := by simp [Str.length]
    rw [List.range'_succ, List.forIn_cons]
    unfold StrLaws.occBody
    by_cases hc : x.cps.toList[lo]? = some c
    · have hs := (StrLaws.subAt_one x c lo).mpr hc
      rw [if_pos ⟨⟨⟨by show f.size < _; omega, h2⟩, hs.1⟩, hs.2⟩]
      have ih := occ_cnt x c n (lo + 1) (f.push lo) (lo + 1) (by omega) (Nat.le_refl _) (by simp only [Array.size_push]; omega)
      obtain ⟨hlt, e⟩ := List.getElem?_eq_some_iff.mp hc
      rw [List.drop_eq_getElem_cons hlt, e]
      refine ih.trans ?_
      simp only [Array.size_push, List.filter_cons, beq_self_eq_true, if_true, List.length_cons]
      omega
    · have hs : ¬ (((f.size < x.length + 1 ∧ fr ≤ lo) ∧ lo + (⟨#[c]⟩ : Str).length ≤ x.length) ∧ Builtin.Str.subAt x ⟨#[c]⟩ lo = true) := fun z => hc ((StrLaws.subAt_one x c lo).mp ⟨z.1.2, z.2⟩)
      rw [if_neg hs]
      have ih := occ_cnt x c n (lo + 1) f fr (by omega) (by omega) (by omega)
      refine ih.trans ?_
      congr 1
      by_cases hlt : lo < x.cps.toList.length
      · rw [List.drop_eq_getElem_cons hlt, List.filter_cons]
        have : ¬ (x.cps.toList[lo] == c) = true := fun z => hc (by rw [List.getElem?_eq_getElem hlt, eq_of_beq z])
        rw [if_neg this]
      · rw [List.drop_eq_nil_of_le (by omega), List.drop_eq_nil_of_le (by omega)]
theorem sm_count (X : Cx) : SmOk X "str.count" .count := by
  refine ⟨_, mt_count, fun Hf H x y d e q Q le rx ry hs => ?_⟩
  unfold m1D at hs
  split at hs <;> simp only [reduceCtorEq] at *
  rename_i xs c _
  cases hs
  obtain rfl := rx.strInv
  obtain rfl := ry.strInv
  refine ⟨⟨_, rfl⟩, fun hq => ⟨_, _, rfl, rfl, ?_⟩⟩
  have e : Txt.count ⟨xs.toArray⟩ ⟨[c].toArray⟩ = (((xs.filter fun x => x == c).length : Nat) : Int) := by
    show ((Builtin.Str.occurrences _ _ 0 _ _).length : Int) = _
    rw [StrLaws.occ_eq, Array.length_toList]
    have := occ_cnt ⟨xs.toArray⟩ c ((⟨xs.toArray⟩ : Str).length + 1) 0 #[] 0 (by omega) (Nat.le_refl _) (Nat.zero_le _)
    simp only [List.drop_zero, Array.size_empty, Nat.zero_add] at this
    exact congrArg Int.ofNat this
  rw [e]
  exact hq _ fun Hf => .int _
theorem pCount {X : Cx} {W : WX} {a o : Expr} {pos apos : Pos} {ma mb : Env → RE} {pa pb : Bool} (ho : PE X o (tI X.K X.mg W true pa ma)) (ha : PE X a (tI X.K X.mg W true pb mb)) (hs : starEach [a] X.env = [(false, eval a X.env)] := by rfl) (hbase : attributeBase o "count" X.env (eval o X.env) = eval o X.env := by rfl) (hline : (apos.endLine == pos.line) = true := by rfl) : PE X (.Call (.Attribute o "count" apos) [a] [] pos) (tI X.K X.mg W true (pa && pb) (eM1 .count ma mb)) :=
  pM1 (sm_count X) PySem.F.slot_str_count PySem.F.type_str_count ho ha hs hbase hline
/-! ### a def that calls itself: by fuel -/
theorem fnS_none {P : Program} {w : World} {K : PySem.W.Frag} {mg : Str → Option Value} {base : Heap} {k n : Nat} {x qual : Str} {params : Arguments} {body : List Stmt} {scope : Scope} {f : Addr} {fd : FuncData} {ps : List Str} {io : Bool} (hg : mg x = some (.ref f)) (F : FunD K x qual params body scope [] [] f fd) (b : Binds K fd ps []) (hn : ps.length = n) : FnS P w K mg base k x n io (fun _ => .no) := by
  subst hn
  exact ⟨f, fd, ps, hg, F.kp, b, ⟨fun vs H Q E h => h.1, fun A outer s H args us vs Q E _ _ _ _ h => by
    obtain ⟨_, _, _, _, _, _, _, _, z⟩ := h
    exact z.elim⟩⟩
end Cor
namespace Cor
open PySem L2
section
variable {mc : Env → RE} {ms : Env → RS} {e : Env} {d : D} {fr f b : Bool} {c : XC}
/-- while, turn by turn -/
def whK (mc : Env → RE) (ms : Env → RS) (r : RE) : RS := match r with
  | .ok (.bl true) _ e1 => (match ms e1 with
    | .nx e => sWhl mc ms e
    | .ct e => sWhl mc ms e
    | .bk e => .nx e
    | r => r)
  | .ok (.bl false) _ e1 => .nx e1
  | .ex x e1 => .ex x e1
  | _ => .no
def whK2 (mc : Env → RE) (ms : Env → RS) (r : RS) : RS := match r with
    | .nx e => sWhl mc ms e
    | .ct e => sWhl mc ms e
    | .bk e => .nx e
    | r => r
theorem sWhl_step : sWhl mc ms e = whK mc ms (mc e) := by
  unfold sWhl
  rw [whlL]
  unfold whK
  cases mc e with
  | no => rfl
  | ex x e1 => rfl
  | ok d fr e1 =>
    cases d <;> try rfl
    rename_i b
    cases b
    · rfl
    · dsimp only
      cases ms e1 <;> rfl
@[simp] theorem whK_bl : whK mc ms (.ok (.bl b) f e) = if b = true then whK2 mc ms (ms e) else .nx e := by cases b <;> rfl
@[simp] theorem whK2_nx : whK2 mc ms (.nx e) = sWhl mc ms e := rfl
@[simp] theorem whK2_ct : whK2 mc ms (.ct e) = sWhl mc ms e := rfl
@[simp] theorem whK2_bk : whK2 mc ms (.bk e) = .nx e := rfl
@[simp] theorem whK2_rt : whK2 mc ms (.rt d fr e) = .rt d fr e := rfl
end
end Cor
set_option Elab.async false
set_option linter.all false
set_option maxRecDepth 100000
set_option maxHeartbeats 2000000
/-! Cor18: a call that reads what a slot holds. -/
namespace Cor
open PySem PySem.Spec L2
section
variable {X : Cx} {W : WX} {a : Expr} {es : List Expr} {pos p : Pos} {ms : Env → REs} {ps : Bool}
theorem Now.rep {K : PySem.W.Frag} {mg : Str → Option Value} {Hf H : Hp} {d : D} {v : V} (h : Now K mg Hf H d v) (e : Same Hf H) : Rep K mg H d v := by
  cases h with
  | frz r => exact r.up e
  | own c => exact c.rep e
/-- the first argument stands in slot i and is only read; the answer is flat -/
theorem s_callRd {k n i : Nat} {x : Str} {f : Sem} (F : FnS X.prog X.w X.K X.mg X.base k x n false f) (hr : Room k X.A) (hg : Gl X x) (tk : Takes X W) (hd : (x == ("__debug__" : Str)) = false) (hn : (a :: es).length = n)
    (ha : PE X a (tVar i)) (hes : PA X es (tIs X.K X.mg W true ps ms)) (hl : ∀ env ds e1, ms env = .ok ds e1 → ds.length + 1 = n) (he : starEach (a :: es) X.env = (false, eval a X.env) :: starEach es X.env) (hpl : (backTo pos (starEach es X.env)).any (·.1) = false) :
    PE X (.Call (.Name x p) (a :: es) [] pos) (tI X.K X.mg W true false fun env => match (getS env i).get with
      | none => .no
      | some _ => (ms env).bind fun ds e1 => match (getS e1 i).get with
        | some d => callR true (f (d :: ds)) e1
        | none => .no) := by
  obtain ⟨fa, fd, pl, h1, h2, h3, h4⟩ := F.ex
  refine PE.imp (pe_callS h4 hr hg h1 h2 h3 (fun σ => passAt tk σ) (pa_cons ha hes he) hd he hpl) fun σ H Q ⟨Hf, env, R, g⟩ => ?_
  dsimp only at g
  cases q0 : (getS env i).get with
  | none => rw [q0] at g; exact g.elim
  | some d0 =>
    rw [q0] at g
    dsimp only at g
    obtain ⟨v0, ev, _⟩ := R.now q0
    refine ⟨v0, ev, Hf, env, R, GEs.fst (pu := false) (by intro h; cases h) g fun ds e1 vs H1 Hf1 hm R1 t1 rs g1 => ?_⟩
    cases q1 : (getS e1 i).get with
    | none => rw [q1] at g1; exact g1.elim
    | some d =>
      rw [q1] at g1
      dsimp only at g1
      rw [if_pos rfl] at rs
      obtain ⟨v', ev', nw⟩ := R1.now q1
      rw [ev] at ev'
      cases ev'
      refine ⟨by rw [List.length_cons, ← rs.length]; exact hl env ds e1 hm, none, d :: ds, H1, rfl, (fun h => nomatch h), ER.nil (Same.refl _), .cons (nw.rep R1.le) (rs.up R1.le), ?_⟩
      show match f (d :: ds) with
        | .ret d fr z => _
        | .exc c z => _
        | .no => False
      have lift : ∀ {H' Hf'}, ER X.K X.mg Hf' H' [] [] → Tr true H1 H1 [] Hf' H' [] [] → ER X.K X.mg Hf1 H' e1 σ ∧ Tr true Hf1 H1 e1 Hf1 H' e1 σ := fun {H' Hf'} r t => by
        have s := t.pure rfl
        refine ⟨⟨R1.le.trans s, R1.len, R1.val, fun i d h => ?_, R1.inj⟩, ⟨Same.refl _, rfl, fun _ h => h, fun _ d h => ⟨d, h⟩, fun a o h _ => s a o h, fun a h => .inl h, fun _ => s, t.there⟩⟩
        obtain ⟨a, e, n, c⟩ := R1.mu i d h
        exact ⟨a, e, n, c.move (Same.refl _) fun o q => s a o q⟩
      unfold callR at g1
      cases q : f (d :: ds) with
      | no => rw [q] at g1; exact g1.elim
      | ret dd fr z =>
        rw [q] at g1
        cases z with
        | some z => exact g1.elim
        | none =>
          refine ⟨rfl, fun v H' Hf' r t y => ?_⟩
          obtain ⟨R2, t2⟩ := lift r t
          simp only [Bool.true_and] at g1
          cases hat : dd.isAtom with
          | false => rw [hat] at g1; exact g1.elim
          | true =>
            rw [hat] at g1
            unfold VR at y
            cases fr with
            | true =>
              rw [if_pos rfl] at y
              obtain ⟨p', _, _, _, c⟩ := y
              cases c
              simp [D.isAtom] at hat
            | false =>
              rw [if_neg Bool.false_ne_true, if_pos rfl] at y
              exact GE.fin g1 (t1.trans t2) (fun h => nomatch h) R2 (VR.old (atom_rep y hat))
      | exc c z =>
        rw [q] at g1
        cases z with
        | some z => exact g1.elim
        | none =>
          refine ⟨rfl, fun C H' Hf' hC r t => ?_⟩
          obtain ⟨R2, t2⟩ := lift r t
          exact g1 C H' Hf1 hC R2 ((t1.trans t2).weak fun h => nomatch h)
end
def eCallRd (f : Sem) (i : Nat) (ms : Env → REs) : Env → RE := fun env => match (getS env i).get with
  | none => .no
  | some _ => (ms env).bind fun ds e1 => match (getS e1 i).get with
    | some d => callR true (f (d :: ds)) e1
    | none => .no
end Cor
namespace Cor
open PySem PySem.Spec L2
theorem pCallRd {X : Cx} {W : WX} {k : Nat} {a : Expr} {es : List Expr} {pos p : Pos} {ms : Env → REs} {ps : Bool} {n i j : Nat} {x : Str} {f : Sem} (g : Gd k X W) (F : FnS X.prog X.w X.K X.mg X.base j x (n + 1) false f) (ha : PE X a (tVar i)) (hes : QA X W es n true ps ms) (hj : j ≤ k := by decide) (hg : X.env.kindOf x = some .globalImplicit := by kernel_rfl) (hd : (x == ("__debug__" : Str)) = false := by kernel_rfl)
    (hn : (a :: es).length = n + 1 := by rfl) (he : starEach (a :: es) X.env = (false, eval a X.env) :: starEach es X.env := by rfl) (hpl : (backTo pos (starEach es X.env)).any (·.1) = false := by rfl) : PE X (.Call (.Name x p) (a :: es) [] pos) (tI X.K X.mg W true false (eCallRd f i ms)) :=
  s_callRd (F.mono hj) g.room hg g.tk hd hn ha hes.pa (fun env ds e1 h => by rw [hes.len env ds e1 h]) he hpl
section
variable {f : Sem} {i : Nat} {env e : Env} {d : D} {ds : List D} {ms : Env → REs}
def rdK2 (f : Sem) (i : Nat) (o : Option D) (r : REs) : RE := match o with
  | none => .no
  | some _ => r.bind fun ds e1 => match (getS e1 i).get with
    | some d => callR true (f (d :: ds)) e1
    | none => .no
def rdK3 (f : Sem) (ds : List D) (o : Option D) (e1 : Env) : RE := match o with
  | some d => callR true (f (d :: ds)) e1
  | none => .no
@[simp] theorem x_eCallRd : eCallRd f i ms env = rdK2 f i (getS env i).get (ms env) := rfl
@[simp] theorem rdK2_ok : rdK2 f i (some d) (.ok ds e) = rdK3 f ds (getS e i).get e := rfl
@[simp] theorem rdK3_ok : rdK3 f ds (some d) e = callR true (f (d :: ds)) e := rfl
end
end Cor
set_option Elab.async false
set_option linter.all false
set_option maxRecDepth 100000
set_option maxHeartbeats 4000000
namespace HD
open PySem PySem.Spec L2 Cor
open PyProof.Rows (envOfC)
def top (i : Nat) : Stmt := PySem.Challenge.pw_turnedlogs_k02_whole_files_line_by_line.main.body.getD i (.Pass ⟨0, 0, 0, 0⟩)

structure Fct (K : PySem.W.Frag) (mg : Str → Option Value) : Prop where
  m_all : mg "all" = none
  m_bool : mg "bool" = none
  m_enumerate : mg "enumerate" = none
  m_int : mg "int" = none
  m_isinstance : mg "isinstance" = none
  m_len : mg "len" = none
  m_list : mg "list" = none
  m_range : mg "range" = none
  m_str : mg "str" = none
  m_sum : mg "sum" = none
  m_tuple : mg "tuple" = none
  g_MOST_SIZE : ∃ t, mg "MOST_SIZE" = some (.int 3 t)
  g_MOST_KEEP : ∃ t, mg "MOST_KEEP" = some (.int 3 t)
  g_MOST_PAGES : ∃ t, mg "MOST_PAGES" = some (.int 12 t)
  g_MOST_FACTOR : ∃ t, mg "MOST_FACTOR" = some (.int 3 t)
  g_MOST_EVENTS : ∃ t, mg "MOST_EVENTS" = some (.int 60 t)
  g_EVENTS : ∃ t, mg "EVENTS" = some (.str "-ab" t)
  t_FIRST : ∃ a, mg "FIRST" = some (.ref a) ∧ ∀ H, SqT K H a [.int 0]
abbrev s28 : Stmt := top 28
/-! _law_deck : 0 _law_cell, 1 _law_turn -/
def N__law_deck : List Str := ["_law_cell", "_law_turn"]
def m__law_deck : Cor.Env → RS := (bCons (sIf (eCmp .GtE (eVar 0) (eBin .Pow (eLit (.int 10)) (eLit (.int 18)))) (bCons (sRet (eLst (aCons (eBin .Sub (eVar 0) (eBin .Pow (eLit (.int 10)) (eLit (.int 18)))) (aCons (eBin .Mod (eB1 .int (eVar 0)) (eLit (.int 2147483579))) (aCons (eVar 1) aNil)))))
  bNil) bNil)
  (bCons (sRet (eLst (aCons (eLit (.int 0)) (aCons (eBin .Mod (eB1 .int (eVar 0)) (eLit (.int 2147483579))) (aCons (eVar 1) aNil)))))
  bNil))
def f__law_deck : Sem := semS 2 false m__law_deck
abbrev s11 : Stmt := top 11
/-! is_from : 0 value, 1 low, 2 high -/
def N_is_from : List Str := ["value", "low", "high"]
def m_is_from : Cor.Env → RS := (bCons (sRet (eAnd (eB1 .isInt (eVar 0)) (eAnd (eNot (eB1 .isBool (eVar 0))) (eChain .LtE .LtE (eVar 1) (eVar 0) (eVar 2)))))
  bNil)
def f_is_from : Sem := semS 3 false m_is_from
abbrev s12 : Stmt := top 12
/-! is_rule_of : 0 value, 1 one -/
def N_is_rule_of : List Str := ["value", "one"]
def m_is_rule_of : Cor.Env → RS := (bCons (sIf (eOr (eNot (eB1 .isTup (eVar 0))) (eOr (eCmp .NotEq (eB1 .len (eVar 0)) (eLit (.int 7))) (eNot (eB1 .all (eComp [1] (iAny (eSlc (eVar 0) (oSome (eLit (.int 1))) (oSome (eLit (.int 4))))) (.nm 1) eYes (eB1 .isBool (eVar 1))))))) (bCons (sRet (eLit (.bl false)))
  bNil) bNil)
  (bCons (sIf (eOr (eNot (eCall f_is_from (aCons (eSub (eVar 0) (eLit (.int 0))) (aCons (eLit (.int 1)) (aCons (eLit (.int 3)) aNil))))) (eNot (eCall f_is_from (aCons (eSub (eVar 0) (eLit (.int 4))) (aCons (eLit (.int 0)) (aCons (eLit (.int 3)) aNil)))))) (bCons (sRet (eLit (.bl false)))
  bNil) bNil)
  (bCons (sRet (eAnd (eOr (eCmp .Is (eSub (eVar 0) (eLit (.int 5))) (eLit .non)) (eCall f_is_from (aCons (eSub (eVar 0) (eLit (.int 5))) (aCons (eLit (.int 1)) (aCons (eLit (.int 12)) aNil))))) (eCall f_is_from (aCons (eSub (eVar 0) (eLit (.int 6))) (aCons (eLit (.int 1)) (aCons (eLit (.int 3)) aNil))))))
  bNil)))
def f_is_rule_of : Sem := semS 2 false m_is_rule_of
abbrev s14 : Stmt := top 14
/-! need_rule : 0 value -/
def N_need_rule : List Str := ["value"]
def m_need_rule : Cor.Env → RS := (bCons (sIf (eNot (eCall f_is_rule_of (aCons (eVar 0) aNil))) (bCons sNo
  bNil) bNil)
  bNil)
def f_need_rule : Sem := semS 1 false m_need_rule
abbrev s13 : Stmt := top 13
/-! is_row_of : 0 value, 1 event -/
def N_is_row_of : List Str := ["value", "event"]
def m_is_row_of : Cor.Env → RS := (bCons (sRet (eAnd (eB1 .isStr (eVar 0)) (eAnd (eCmp .LtE (eB1 .len (eVar 0)) (eLit (.int 60))) (eB1 .all (eComp [1] (iAny (eVar 0)) (.nm 1) eYes (eCmp .In (eVar 1) (eLit (.str [45, 97, 98]))))))))
  bNil)
def f_is_row_of : Sem := semS 2 false m_is_row_of
abbrev s15 : Stmt := top 15
/-! need_row : 0 value -/
def N_need_row : List Str := ["value"]
def m_need_row : Cor.Env → RS := (bCons (sIf (eNot (eCall f_is_row_of (aCons (eVar 0) aNil))) (bCons sNo
  bNil) bNil)
  bNil)
def f_need_row : Sem := semS 1 false m_need_row
abbrev s18 : Stmt := top 18
/-! pages_of : 0 rule, 1 sizes, 2 packed, 3 size -/
def N_pages_of : List Str := ["rule", "sizes", "packed", "size"]
def m_pages_of : Cor.Env → RS := (bCons (sSet 2 (eComp [3] (iAny (eSlc (eVar 1) (oSome (eLit (.int 2))) oNone)) (.nm 3) eYes (eBin .FloorDiv (eBin .Sub (eBin .Add (eVar 3) (eSub (eVar 0) (eLit (.int 6)))) (eLit (.int 1))) (eSub (eVar 0) (eLit (.int 6))))))
  (bCons (sRet (eBin .Add (eB1 .sum (eSlc (eVar 1) oNone (oSome (eLit (.int 2))))) (eB1 .sum (eVar 2))))
  bNil))
def f_pages_of : Sem := semS 4 false m_pages_of
abbrev s20 : Stmt := top 20
/-! within : 0 rule, 1 sizes -/
def N_within : List Str := ["rule", "sizes"]
def m_within : Cor.Env → RS := (bCons (sWhl (eAnd (eCmp .IsNot (eSub (eVar 0) (eLit (.int 5))) (eLit .non)) (eAnd (eCmp .Gt (eB1 .len (eVar 1)) (eLit (.int 1))) (eCmp .Gt (eCall f_pages_of (aCons (eVar 0) (aCons (eVar 1) aNil))) (eSub (eVar 0) (eLit (.int 5)))))) (bCons (sSet 1 (eSlc (eVar 1) oNone (oSome (eNeg (eLit (.int 1))))))
  bNil))
  (bCons (sRetV 1)
  bNil))
def f_within : Sem := semS 2 false m_within
abbrev s19 : Stmt := top 19
/-! turned : 0 rule, 1 sizes -/
def N_turned : List Str := ["rule", "sizes"]
def m_turned : Cor.Env → RS := (bCons (sRet (eSlc (eBin .Add (eTup (aCons (eLit (.int 0)) aNil)) (eVar 1)) oNone (oSome (eBin .Add (eSub (eVar 0) (eLit (.int 4))) (eLit (.int 1))))))
  bNil)
def f_turned : Sem := semS 2 false m_turned
abbrev s21 : Stmt := top 21
/-! moved : 0 rule, 1 sizes, 2 event, 3 lines, 4 size, 5 early, 6 daily, 7 empty -/
def N_moved : List Str := ["rule", "sizes", "event", "lines", "size", "early", "daily", "empty"]
def m_moved : Cor.Env → RS := (bCons (sUnp (.tup [(.nm 4), (.nm 5), (.nm 6), (.nm 7)]) (eSlc (eVar 0) oNone (oSome (eLit (.int 4)))))
  (bCons (sIf (eCmp .Eq (eVar 2) (eLit (.str [45]))) (bCons (sIf (eAnd (eVar 6) (eOr (eVar 7) (eCmp .Gt (eSub (eVar 1) (eLit (.int 0))) (eLit (.int 0))))) (bCons (sSet 1 (eCall f_turned (aCons (eVar 0) (aCons (eVar 1) aNil))))
  bNil) bNil)
  (bCons (sRet (eCall f_within (aCons (eVar 0) (aCons (eVar 1) aNil))))
  bNil)) bNil)
  (bCons (sSet 3 (eIfe (eCmp .Eq (eVar 2) (eLit (.str [97]))) (eLit (.int 1)) (eLit (.int 2))))
  (bCons (sIf (eAnd (eVar 5) (eAnd (eCmp .Gt (eSub (eVar 1) (eLit (.int 0))) (eLit (.int 0))) (eCmp .Gt (eBin .Add (eSub (eVar 1) (eLit (.int 0))) (eVar 3)) (eVar 4)))) (bCons (sSet 1 (eCall f_turned (aCons (eVar 0) (aCons (eVar 1) aNil))))
  bNil) bNil)
  (bCons (sSet 1 (eBin .Add (eTup (aCons (eBin .Add (eSub (eVar 1) (eLit (.int 0))) (eVar 3)) aNil)) (eSlc (eVar 1) (oSome (eLit (.int 1))) oNone)))
  (bCons (sIf (eAnd (eNot (eVar 5)) (eCmp .GtE (eSub (eVar 1) (eLit (.int 0))) (eVar 4))) (bCons (sSet 1 (eCall f_turned (aCons (eVar 0) (aCons (eVar 1) aNil))))
  bNil) bNil)
  (bCons (sRet (eCall f_within (aCons (eVar 0) (aCons (eVar 1) aNil))))
  bNil)))))))
def f_moved : Sem := semS 8 false m_moved
abbrev s22 : Stmt := top 22
/-! walked : 0 rule, 1 sizes, 2 row, 3 found, 4 event -/
def N_walked : List Str := ["rule", "sizes", "row", "found", "event"]
def m_walked : Cor.Env → RS := (bCons (sSet 3 (eLst aNil))
  (bCons (sFor (iAny (eVar 2)) (.nm 4) (bCons (sSet 1 (eCall f_moved (aCons (eVar 0) (aCons (eVar 1) (aCons (eVar 4) aNil)))))
  (bCons (sApp 3 (eVar 1))
  bNil)))
  (bCons (sRetV 3)
  bNil)))
def f_walked : Sem := semS 5 false m_walked
abbrev s23 : Stmt := top 23
/-! behind : 0 rule, 1 row -/
def N_behind : List Str := ["rule", "row"]
def m_behind : Cor.Env → RS := (bCons (sRet (eSub (eBin .Add (eLst (aCons (eLit (.tup [.int 0])) aNil)) (eCall f_walked (aCons (eVar 0) (aCons (eLit (.tup [.int 0])) (aCons (eVar 1) aNil))))) (eNeg (eLit (.int 1)))))
  bNil)
def f_behind : Sem := semS 2 false m_behind
abbrev s24 : Stmt := top 24
/-! sizes : 0 rule, 1 row -/
def N_sizes : List Str := ["rule", "row"]
def m_sizes : Cor.Env → RS := (bCons (sExpr (eCall f_need_rule (aCons (eVar 0) aNil)))
  (bCons (sExpr (eCall f_need_row (aCons (eVar 1) aNil)))
  (bCons (sRet (eCall f_behind (aCons (eVar 0) (aCons (eVar 1) aNil))))
  bNil)))
def f_sizes : Sem := semS 2 false m_sizes
abbrev s29 : Stmt := top 29
/-! _law_pick : 0 _law_deck_here, 1 _law_limit, 2 _law_number, 3 _law_found -/
def N__law_pick : List Str := ["_law_deck_here", "_law_limit", "_law_number", "_law_found"]
def m__law_pick : Cor.Env → RS := (bCons (sIf (eCmp .Gt (eSubR 0 (eLit (.int 0))) (eLit (.int 1))) (bCons (sSet 3 (eBin .Mod (eB1 .int (eSubR 0 (eLit (.int 0)))) (eVar 1)))
  (bCons (sStI 0 (eLit (.int 0)) (eBin .FloorDiv (eSubR 0 (eLit (.int 0))) (eVar 1)))
  (bCons (sRetV 3)
  bNil))) bNil)
  (bCons (sStI 0 (eLit (.int 2)) (eBin .Add (eSubR 0 (eLit (.int 2))) (eLit (.int 1))))
  (bCons (sSet 2 (eBin .Mod (eB1 .int (eBin .Pow (eB1 .int (eBin .Add (eSubR 0 (eLit (.int 1))) (eBin .Mult (eLit (.int 15485867)) (eSubR 0 (eLit (.int 2)))))) (eLit (.int 5)))) (eLit (.int 2147483647))))
  (bCons (sSet 3 (eBin .FloorDiv (eBin .Mod (eB1 .int (eBin .Pow (eB1 .int (eBin .Add (eVar 2) (eBin .Mult (eLit (.int 7919)) (eSubR 0 (eLit (.int 2)))))) (eLit (.int 3)))) (eLit (.int 2147483629))) (eLit (.int 32))))
  (bCons (sRet (eBin .Mod (eB1 .int (eVar 3)) (eVar 1)))
  bNil)))))
def f__law_pick : Sem := semS 4 true m__law_pick
abbrev s36 : Stmt := top 36
/-! _law_rule : 0 _law_deck_here, 1 _law_limit, 2 _law_yes, 3 _law_turn -/
def N__law_rule : List Str := ["_law_deck_here", "_law_limit", "_law_yes", "_law_turn"]
def m__law_rule : Cor.Env → RS := (bCons (sSet 1 (eIfe (eCmp .Gt (eCallIo f__law_pick 0 (aCons (eLit (.int 3)) aNil)) (eLit (.int 0))) (eLit .non) (eBin .Add (eLit (.int 1)) (eCallIo f__law_pick 0 (aCons (eLit (.int 12)) aNil)))))
  (bCons (sSet 2 (eComp [3] (iRng1 (eLit (.int 3))) (.nm 3) eYes (eCmp .Eq (eCallIo f__law_pick 0 (aCons (eLit (.int 2)) aNil)) (eLit (.int 1)))))
  (bCons (sRet (eTup (aCons (eBin .Add (eLit (.int 1)) (eCallIo f__law_pick 0 (aCons (eLit (.int 3)) aNil))) (aCons (eSub (eVar 2) (eLit (.int 0))) (aCons (eSub (eVar 2) (eLit (.int 1))) (aCons (eSub (eVar 2) (eLit (.int 2))) (aCons (eCallIo f__law_pick 0 (aCons (eLit (.int 4)) aNil)) (aCons (eVar 1) (aCons (eBin .Add (eLit (.int 1)) (eCallIo f__law_pick 0 (aCons (eLit (.int 3)) aNil))) aNil)))))))))
  bNil)))
def f__law_rule : Sem := semS 4 true m__law_rule
abbrev s37 : Stmt := top 37
/-! _law_song : 0 _law_deck_here, 1 _law_most, 2 _law_signs, 3 _law_turn -/
def N__law_song : List Str := ["_law_deck_here", "_law_most", "_law_signs", "_law_turn"]
def m__law_song : Cor.Env → RS := (bCons (sSet 2 (eSub (eLst (aCons (eLit (.str [45, 97, 98])) (aCons (eLit (.str [45, 97, 97, 98, 98])) (aCons (eLit (.str [97, 97, 98])) (aCons (eLit (.str [45, 97])) aNil))))) (eCallIo f__law_pick 0 (aCons (eLit (.int 4)) aNil))))
  (bCons (sRet (eM1 .join (eLit (.str [])) (eComp [3] (iRng1 (eCallIo f__law_pick 0 (aCons (eBin .Add (eVar 1) (eLit (.int 1))) aNil))) (.nm 3) eYes (eSub (eVar 2) (eCallIo f__law_pick 0 (aCons (eB1 .len (eVar 2)) aNil))))))
  bNil))
def f__law_song : Sem := semS 4 true m__law_song
abbrev s26 : Stmt := top 26
/-! kept : 0 rule, 1 row, 2 size, 3 last, 4 found -/
def N_kept : List Str := ["rule", "row", "size", "last", "found"]
def m_kept : Cor.Env → RS := (bCons (sExpr (eCall f_need_rule (aCons (eVar 0) aNil)))
  (bCons (sExpr (eCall f_need_row (aCons (eVar 1) aNil)))
  (bCons (sPar 3 4 (eBin .Add (eM1 .count (eVar 1) (eLit (.str [97]))) (eBin .Mult (eLit (.int 2)) (eM1 .count (eVar 1) (eLit (.str [98]))))) (eLst aNil))
  (bCons (sFor (iAny (eCall f_behind (aCons (eVar 0) (aCons (eVar 1) aNil)))) (.nm 2) (bCons (sApp 4 (eTRg (eBin .Sub (eVar 3) (eVar 2)) (eVar 3)))
  (bCons (sSet 3 (eBin .Sub (eVar 3) (eVar 2)))
  bNil)))
  (bCons (sRetV 4)
  bNil)))))
def f_kept : Sem := semS 5 false m_kept
abbrev s25 : Stmt := top 25
/-! pages : 0 rule, 1 row -/
def N_pages : List Str := ["rule", "row"]
def m_pages : Cor.Env → RS := (bCons (sExpr (eCall f_need_rule (aCons (eVar 0) aNil)))
  (bCons (sExpr (eCall f_need_row (aCons (eVar 1) aNil)))
  (bCons (sRet (eCall f_pages_of (aCons (eVar 0) (aCons (eCall f_behind (aCons (eVar 0) (aCons (eVar 1) aNil))) aNil))))
  bNil)))
def f_pages : Sem := semS 2 false m_pages
abbrev s32 : Stmt := top 32
/-! _law_weight : 0 _law_r, 1 _law_line, 2 _law_one -/
def N__law_weight : List Str := ["_law_r", "_law_line", "_law_one"]
def m__law_weight : Cor.Env → RS := (bCons (sRet (eBin .Add (eB1 .sum (eSlc (eVar 1) oNone (oSome (eLit (.int 2))))) (eB1 .sum (eComp [2] (iAny (eSlc (eVar 1) (oSome (eLit (.int 2))) oNone)) (.nm 2) eYes (eBin .FloorDiv (eB1 .int (eBin .Sub (eBin .Add (eVar 2) (eSub (eVar 0) (eLit (.int 6)))) (eLit (.int 1)))) (eSub (eVar 0) (eLit (.int 6))))))))
  bNil)
def f__law_weight : Sem := semS 3 false m__law_weight
abbrev s35 : Stmt := top 35
/-! _law_files : 0 _law_r, 1 _law_song_here, 2 _law_event, 3 _law_line, 4 _law_total, 5 _law_found, 6 _law_more, 7 _law_new, 8 _law_one -/
def N__law_files : List Str := ["_law_r", "_law_song_here", "_law_event", "_law_line", "_law_total", "_law_found", "_law_more", "_law_new", "_law_one"]
def m__law_files : Cor.Env → RS := (bCons (sPar3 3 4 5 (eLst (aCons (eLst aNil) aNil)) (eLit (.int 0)) (eLst (aCons (eLst (aCons (eLst aNil) aNil)) aNil)))
  (bCons (sFor (iAny (eVar 1)) (.nm 2) (bCons (sSet 6 (eM1 .index (eLit (.str [45, 97, 98])) (eVar 2)))
  (bCons (sSet 7 (eLRg (eVar 4) (eBin .Add (eVar 4) (eVar 6))))
  (bCons (sSet 4 (eBin .Add (eVar 4) (eVar 6)))
  (bCons (sIf (eAnd (eCmp .Eq (eVar 2) (eLit (.str [45]))) (eAnd (eSub (eVar 0) (eLit (.int 2))) (eOr (eSub (eVar 0) (eLit (.int 3))) (eCmp .NotEq (eSub (eVar 3) (eLit (.int 0))) (eLst aNil))))) (bCons (sSet 3 (eBin .Add (eLst (aCons (eLst aNil) aNil)) (eVar 3)))
  bNil) bNil)
  (bCons (sIf (eAnd (eCmp .NotEq (eVar 2) (eLit (.str [45]))) (eAnd (eSub (eVar 0) (eLit (.int 1))) (eAnd (eCmp .NotEq (eSub (eVar 3) (eLit (.int 0))) (eLst aNil)) (eCmp .Gt (eBin .Add (eB1 .len (eSub (eVar 3) (eLit (.int 0)))) (eVar 6)) (eSub (eVar 0) (eLit (.int 0))))))) (bCons (sSet 3 (eBin .Add (eLst (aCons (eLst aNil) aNil)) (eVar 3)))
  bNil) bNil)
  (bCons (sSet 3 (eBin .Add (eLst (aCons (eBin .Add (eSub (eVar 3) (eLit (.int 0))) (eVar 7)) aNil)) (eSlc (eVar 3) (oSome (eLit (.int 1))) oNone)))
  (bCons (sIf (eAnd (eCmp .NotEq (eVar 2) (eLit (.str [45]))) (eAnd (eNot (eSub (eVar 0) (eLit (.int 1)))) (eCmp .GtE (eB1 .len (eSub (eVar 3) (eLit (.int 0)))) (eSub (eVar 0) (eLit (.int 0)))))) (bCons (sSet 3 (eBin .Add (eLst (aCons (eLst aNil) aNil)) (eVar 3)))
  bNil) bNil)
  (bCons (sSet 3 (eSlc (eVar 3) oNone (oSome (eBin .Add (eSub (eVar 0) (eLit (.int 4))) (eLit (.int 1))))))
  (bCons (sWhl (eAnd (eCmp .IsNot (eSub (eVar 0) (eLit (.int 5))) (eLit .non)) (eAnd (eCmp .Gt (eB1 .len (eVar 3)) (eLit (.int 1))) (eCmp .Gt (eCall f__law_weight (aCons (eVar 0) (aCons (eComp [8] (iAny (eVar 3)) (.nm 8) eYes (eB1 .len (eVar 8))) aNil))) (eSub (eVar 0) (eLit (.int 5)))))) (bCons (sSet 3 (eSlc (eVar 3) oNone (oSome (eNeg (eLit (.int 1))))))
  bNil))
  (bCons (sApp 5 (eVar 3))
  bNil)))))))))))
  (bCons (sRetV 5)
  bNil)))
def f__law_files : Sem := semS 9 false m__law_files
abbrev s30 : Stmt := top 30
/-! _law_sort : 0 _law_thing -/
def N__law_sort : List Str := ["_law_thing"]
def m__law_sort : Cor.Env → RS := (bCons (sIf (eB1 .isBool (eVar 0)) (bCons (sRet (eLit (.int 1)))
  bNil) bNil)
  (bCons (sIf (eB1 .isInt (eVar 0)) (bCons (sRet (eLit (.int 2)))
  bNil) bNil)
  (bCons (sIf (eB1 .isStr (eVar 0)) (bCons (sRet (eLit (.int 3)))
  bNil) bNil)
  (bCons (sIf (eB1 .isLst (eVar 0)) (bCons (sRet (eLit (.int 4)))
  bNil) bNil)
  (bCons (sRet (eIfe (eB1 .isTup (eVar 0)) (eLit (.int 5)) (eLit (.int 6))))
  bNil)))))
def f__law_sort : Sem := semS 1 false m__law_sort
abbrev s31 : Stmt := top 31
/-! _law_same : 0 _law_told, 1 _law_due, 2 _law_k, 3 _law_part -/
def N__law_same : List Str := ["_law_told", "_law_due", "_law_k", "_law_part"]
def m__law_same (gg : Sem) : Cor.Env → RS := (bCons (sIf (eCmp .NotEq (eCall f__law_sort (aCons (eVar 0) aNil)) (eCall f__law_sort (aCons (eVar 1) aNil))) (bCons (sRet (eLit (.bl false)))
  bNil) bNil)
  (bCons (sIf (eAnd (eCmp .Gt (eCall f__law_sort (aCons (eVar 0) aNil)) (eLit (.int 3))) (eCmp .Lt (eCall f__law_sort (aCons (eVar 0) aNil)) (eLit (.int 6)))) (bCons (sIf (eCmp .NotEq (eB1 .len (eVar 0)) (eB1 .len (eVar 1))) (bCons (sRet (eLit (.bl false)))
  bNil) bNil)
  (bCons (sRet (eCmp .Eq (eComp [2, 3] (iEnu (eVar 0)) (.tup [(.nm 2), (.nm 3)]) (eNot (eCall gg (aCons (eVar 3) (aCons (eSub (eVar 1) (eVar 2)) aNil)))) (eVar 2)) (eLst aNil)))
  bNil)) bNil)
  (bCons (sRet (eCmp .Eq (eVar 0) (eVar 1)))
  bNil)))
def f__law_same : Nat → Sem
  | 0 => fun _ => .no
  | n + 1 => semS 4 false (m__law_same (f__law_same n))
abbrev s38 : Stmt := top 38
/-! law : 0 _law_script, 1 _law_k, 2 _law_tight, 3 _law_deck_here, 4 _law_turn, 5 _law_days, 6 _law_early, 7 _law_r, 8 _law_song_here, 9 _law_files_here, 10 _law_due, 11 _law_found, 12 _law_one -/
def N_law : List Str := ["_law_script", "_law_k", "_law_tight", "_law_deck_here", "_law_turn", "_law_days", "_law_early", "_law_r", "_law_song_here", "_law_files_here", "_law_due", "_law_found", "_law_one"]
def m_law : Cor.Env → RS := (bCons (sFor (iRng1 (eLit (.int 8))) (.nm 1) (bCons (sSet 3 (eCall f__law_deck (aCons (eSub (eBin .Add (eVar 0) (eBin .Mult (eLst (aCons (eLit (.int 0)) aNil)) (eLit (.int 8)))) (eVar 1)) (aCons (eVar 1) aNil))))
  (bCons (sFor (iRng1 (eLit (.int 10))) (.nm 4) (bCons (sSet 7 (eCallIo f__law_rule 3 aNil))
  (bCons (sSet 8 (eCallIo f__law_song 3 (aCons (eSub (eLst (aCons (eLit (.int 8)) (aCons (eLit (.int 60)) aNil))) (eCallIo f__law_pick 3 (aCons (eLit (.int 2)) aNil))) aNil)))
  (bCons (sSet 9 (eSub (eCall f__law_files (aCons (eVar 7) (aCons (eVar 8) aNil))) (eNeg (eLit (.int 1)))))
  (bCons (sSet 10 (eB1 .tuple (eComp [12] (iAny (eVar 9)) (.nm 12) eYes (eB1 .len (eVar 12)))))
  (bCons (sIf (eOr (eNot (eCall (f__law_same 6) (aCons (eCall f_sizes (aCons (eVar 7) (aCons (eVar 8) aNil))) (aCons (eVar 10) aNil)))) (eNot (eCall (f__law_same 6) (aCons (eCall f_pages (aCons (eVar 7) (aCons (eVar 8) aNil))) (aCons (eCall f__law_weight (aCons (eVar 7) (aCons (eVar 10) aNil))) aNil))))) (bCons (sRet (eLit (.bl false)))
  bNil) bNil)
  (bCons (sSet 11 (eCall f_kept (aCons (eVar 7) (aCons (eVar 8) aNil))))
  (bCons (sIf (eNot (eCallRd (f__law_same 6) 11 (aCons (eComp [12] (iAny (eVar 9)) (.nm 12) eYes (eB1 .tuple (eVar 12))) aNil))) (bCons (sRet (eLit (.bl false)))
  bNil) bNil)
  (bCons (sApp 11 (eTup aNil))
  (bCons (sIf (eCmp .NotEq (eB1 .len (eCall f_kept (aCons (eVar 7) (aCons (eVar 8) aNil)))) (eB1 .len (eVar 9))) (bCons (sRet (eLit (.bl false)))
  bNil) bNil)
  bNil))))))))))
  bNil)))
  (bCons (sUnp (.tup [(.nm 5), (.nm 6)]) (eTup (aCons (eTup (aCons (eLit (.int 2)) (aCons (eLit (.bl false)) (aCons (eLit (.bl true)) (aCons (eLit (.bl false)) (aCons (eLit (.int 2)) (aCons (eLit .non) (aCons (eLit (.int 1)) aNil)))))))) (aCons (eTup (aCons (eLit (.int 2)) (aCons (eLit (.bl true)) (aCons (eLit (.bl false)) (aCons (eLit (.bl false)) (aCons (eLit (.int 1)) (aCons (eLit .non) (aCons (eLit (.int 1)) aNil)))))))) aNil))))
  (bCons (sIf (eOr (eCmp .NotEq (eCall f_sizes (aCons (eVar 5) (aCons (eLit (.str [97, 98, 97, 45, 98])) aNil))) (eTup (aCons (eLit (.int 0)) (aCons (eLit (.int 2)) (aCons (eLit (.int 1)) aNil))))) (eOr (eCmp .NotEq (eCall f_kept (aCons (eVar 5) (aCons (eLit (.str [97, 98, 97, 45, 98])) aNil))) (eLst (aCons (eTup aNil) (aCons (eTup (aCons (eLit (.int 4)) (aCons (eLit (.int 5)) aNil))) (aCons (eTup (aCons (eLit (.int 3)) aNil)) aNil))))) (eCmp .NotEq (eCall f_sizes (aCons (eVar 6) (aCons (eLit (.str [97, 97, 97, 98])) aNil))) (eTup (aCons (eLit (.int 2)) (aCons (eLit (.int 1)) aNil)))))) (bCons (sRet (eLit (.bl false)))
  bNil) bNil)
  (bCons (sSet 2 (eTup (aCons (eLit (.int 1)) (aCons (eLit (.bl false)) (aCons (eLit (.bl false)) (aCons (eLit (.bl false)) (aCons (eLit (.int 3)) (aCons (eLit (.int 4)) (aCons (eLit (.int 2)) aNil)))))))))
  (bCons (sIf (eOr (eCmp .NotEq (eCall f_sizes (aCons (eVar 2) (aCons (eLit (.str [98, 98, 98])) aNil))) (eTup (aCons (eLit (.int 0)) (aCons (eLit (.int 2)) (aCons (eLit (.int 2)) (aCons (eLit (.int 2)) aNil)))))) (eCmp .NotEq (eCall f_pages (aCons (eVar 2) (aCons (eLit (.str [98, 98, 98])) aNil))) (eLit (.int 4)))) (bCons (sRet (eLit (.bl false)))
  bNil) bNil)
  (bCons (sIf (eCmp .NotEq (eCall f_sizes (aCons (eTup (aCons (eLit (.int 3)) (aCons (eLit (.bl true)) (aCons (eLit (.bl true)) (aCons (eLit (.bl true)) (aCons (eLit (.int 3)) (aCons (eLit (.int 2)) (aCons (eLit (.int 1)) aNil)))))))) (aCons (eLit (.str [98, 45, 97])) aNil))) (eTup (aCons (eLit (.int 1)) aNil))) (bCons (sRet (eLit (.bl false)))
  bNil) bNil)
  (bCons (sRet (eAnd (eCmp .Eq (eCall f_sizes (aCons (eVar 5) (aCons (eLit (.str [])) aNil))) (eTup (aCons (eLit (.int 0)) aNil))) (eCmp .Eq (eCall f_sizes (aCons (eTup (aCons (eLit (.int 1)) (aCons (eLit (.bl false)) (aCons (eLit (.bl true)) (aCons (eLit (.bl true)) (aCons (eLit (.int 0)) (aCons (eLit .non) (aCons (eLit (.int 1)) aNil)))))))) (aCons (eLit (.str [97, 98, 45, 45])) aNil))) (eTup (aCons (eLit (.int 0)) aNil)))))
  bNil)))))))
def f_law : Sem := semS 13 false m_law
section
variable {P : Program} {w : World} {K : PySem.W.Frag} {mg : Str → Option Value} {base : Heap} {f : Addr} {fd : FuncData}
theorem b__law_deck (F : Fct K mg)  : BodyOk P w K mg base 0 N__law_deck "_law_deck" (defScope s28) f (defBody s28) m__law_deck := fun cdv A outer s H E gd hp => (kCons (kIf (tCmp gd (pVar (pv0 0)) (pBin pI pI)) (kCons (kRet (pLst (qCons (pBin (pVar (pv0 0)) (pBin pI pI)) (qCons (pBin (pB1 (bInt F.m_int) (pVar (pv0 0))) pI) (qCons (pVar (pv0 1)) qNil)))))
  kNil) kNil)
  (kCons (kRet (pLst (qCons pI (qCons (pBin (pB1 (bInt F.m_int) (pVar (pv0 0))) pI) (qCons (pVar (pv0 1)) qNil)))))
  kNil))
theorem S__law_deck : FnScope N__law_deck ["_law_cell", "_law_turn"] (defScope s28) := ⟨rfl, rfl, rfl, by decide +kernel, rfl, by decide +kernel, by decide +kernel⟩
theorem b_is_from (F : Fct K mg)  : BodyOk P w K mg base 0 N_is_from "is_from" (defScope s11) f (defBody s11) m_is_from := fun cdv A outer s H E gd hp => (kCons (kRet (pAnd (pIsInt F.m_isinstance (yInt F.m_int) (pVar (pv0 0))) (pAnd (pNot (pIsBool F.m_isinstance (yBool F.m_bool) (pVar (pv0 0)))) (pOne (pChain gd (pVar (pv0 1)) (pVar (pv0 0)) (pVar (pv0 2)))))))
  kNil)
theorem S_is_from : FnScope N_is_from ["value", "low", "high"] (defScope s11) := ⟨rfl, rfl, rfl, by decide +kernel, rfl, by decide +kernel, by decide +kernel⟩
theorem b_is_rule_of (F : Fct K mg) (c_is_from : FnS P w K mg base 1 "is_from" 3 false f_is_from) : BodyOk P w K mg base 1 N_is_rule_of "is_rule_of" (defScope s12) f (defBody s12) m_is_rule_of := fun cdv A outer s H E gd hp => (kCons (kIf (tBool (wOr (tNt (tVal (pIsTup F.m_isinstance (yTuple F.m_tuple) (pVar (pv0 0))))) (wOr (tCmp gd (pB1 (bLen F.m_len) (pVar (pv0 0))) pI) (wOr1 (tNt (tVal (pB1 (bAll gd F.m_all) (pComp [("one", 1)] gd (jAny (pSlc (pVar (pv0 0)) (qS pI) (qS pI))) (fun s1 H1 C1 l1 b1 => (gNm (gd.blk s1 H1 _ (compEnvC _ l1 C1 _) b1) 1)) (fun s1 H1 C1 l1 b1 => cNil) (fun s1 H1 C1 l1 b1 => (pIsBool F.m_isinstance (yBool F.m_bool) (pVar (pv0 1)))))))))))) (kCons (kRet pB)
  kNil) kNil)
  (kCons (kIf (tBool (wOr (tNt (tVal (pCall gd c_is_from (qCons (pSub (pVar (pv0 0)) pI) (qCons pI (qCons (pGI F.g_MOST_SIZE) qNil)))))) (wOr1 (tNt (tVal (pCall gd c_is_from (qCons (pSub (pVar (pv0 0)) pI) (qCons pI (qCons (pGI F.g_MOST_KEEP) qNil))))))))) (kCons (kRet pB)
  kNil) kNil)
  (kCons (kRet (pAnd (pOr (pCmp gd (pSub (pVar (pv0 0)) pI) pN) (pOne (pCall gd c_is_from (qCons (pSub (pVar (pv0 0)) pI) (qCons pI (qCons (pGI F.g_MOST_PAGES) qNil)))))) (pOne (pCall gd c_is_from (qCons (pSub (pVar (pv0 0)) pI) (qCons pI (qCons (pGI F.g_MOST_FACTOR) qNil)))))))
  kNil)))
theorem S_is_rule_of : FnScope N_is_rule_of ["value"] (defScope s12) := ⟨rfl, rfl, rfl, by decide +kernel, rfl, by decide +kernel, by decide +kernel⟩
theorem b_need_rule (F : Fct K mg) (c_is_rule_of : FnS P w K mg base 2 "is_rule_of" 1 false f_is_rule_of) : BodyOk P w K mg base 2 N_need_rule "need_rule" (defScope s14) f (defBody s14) m_need_rule := fun cdv A outer s H E gd hp => (kCons (kIf (tNt (tVal (pCall gd c_is_rule_of (qCons (pVar (pv0 0)) qNil)))) (kCons kNo
  kNil) kNil)
  kNil)
theorem S_need_rule : FnScope N_need_rule ["value"] (defScope s14) := ⟨rfl, rfl, rfl, by decide +kernel, rfl, by decide +kernel, by decide +kernel⟩
theorem b_is_row_of (F : Fct K mg)  : BodyOk P w K mg base 0 N_is_row_of "is_row_of" (defScope s13) f (defBody s13) m_is_row_of := fun cdv A outer s H E gd hp => (kCons (kRet (pAnd (pIsStr F.m_isinstance (yStr F.m_str) (pVar (pv0 0))) (pAnd (pCmp gd (pB1 (bLen F.m_len) (pVar (pv0 0))) (pGI F.g_MOST_EVENTS)) (pOne (pB1 (bAll gd F.m_all) (pComp [("event", 1)] gd (jAny (pVar (pv0 0))) (fun s1 H1 C1 l1 b1 => (gNm (gd.blk s1 H1 _ (compEnvC _ l1 C1 _) b1) 1)) (fun s1 H1 C1 l1 b1 => cNil) (fun s1 H1 C1 l1 b1 => (pCmp (gd.blk s1 H1 _ (compEnvC _ l1 C1 _) b1) (pVar (pv0 1)) (pGS [45, 97, 98] F.g_EVENTS)))))))))
  kNil)
theorem S_is_row_of : FnScope N_is_row_of ["value"] (defScope s13) := ⟨rfl, rfl, rfl, by decide +kernel, rfl, by decide +kernel, by decide +kernel⟩
theorem b_need_row (F : Fct K mg) (c_is_row_of : FnS P w K mg base 1 "is_row_of" 1 false f_is_row_of) : BodyOk P w K mg base 1 N_need_row "need_row" (defScope s15) f (defBody s15) m_need_row := fun cdv A outer s H E gd hp => (kCons (kIf (tNt (tVal (pCall gd c_is_row_of (qCons (pVar (pv0 0)) qNil)))) (kCons kNo
  kNil) kNil)
  kNil)
theorem S_need_row : FnScope N_need_row ["value"] (defScope s15) := ⟨rfl, rfl, rfl, by decide +kernel, rfl, by decide +kernel, by decide +kernel⟩
theorem b_pages_of (F : Fct K mg)  : BodyOk P w K mg base 0 N_pages_of "pages_of" (defScope s18) f (defBody s18) m_pages_of := fun cdv A outer s H E gd hp => (kCons (kSetLc gd 2 [("size", 3)] (jAny (pSlc (pVar (pv0 1)) (qS pI) qN)) (fun s1 H1 C1 l1 b1 => (gNm (gd.blk s1 H1 _ (compEnvC _ l1 C1 _) b1) 3)) (fun s1 H1 C1 l1 b1 => cNil) (fun s1 H1 C1 l1 b1 => (pBin (pBin (pBin (pVar (pv0 3)) (pSub (pVar (pv0 0)) pI)) pI) (pSub (pVar (pv0 0)) pI))))
  (kCons (kRet (pBin (pB1 (bSum gd F.m_sum) (pSlc (pVar (pv0 1)) qN (qS pI))) (pB1 (bSum gd F.m_sum) (pVar (pv0 2)))))
  kNil))
theorem S_pages_of : FnScope N_pages_of ["rule", "sizes"] (defScope s18) := ⟨rfl, rfl, rfl, by decide +kernel, rfl, by decide +kernel, by decide +kernel⟩
theorem b_within (F : Fct K mg) (c_pages_of : FnS P w K mg base 1 "pages_of" 2 false f_pages_of) : BodyOk P w K mg base 1 N_within "within" (defScope s20) f (defBody s20) m_within := fun cdv A outer s H E gd hp => (kCons (kWhl hp (tBool (wAnd (tCmp gd (pSub (pVar (pv0 0)) pI) pN) (wAnd (tCmp gd (pB1 (bLen F.m_len) (pVar (pv0 1))) pI) (wAnd1 (tCmp gd (pCall gd c_pages_of (qCons (pVar (pv0 0)) (qCons (pVar (pv0 1)) qNil))) (pSub (pVar (pv0 0)) pI)))))) (kCons (kSet gd 1 (pSlc (pVar (pv0 1)) qN (qS (pNeg pI))))
  kNil))
  (kCons (kRetV (pv0 1))
  kNil))
theorem S_within : FnScope N_within ["rule", "sizes"] (defScope s20) := ⟨rfl, rfl, rfl, by decide +kernel, rfl, by decide +kernel, by decide +kernel⟩
theorem b_turned (F : Fct K mg)  : BodyOk P w K mg base 0 N_turned "turned" (defScope s19) f (defBody s19) m_turned := fun cdv A outer s H E gd hp => (kCons (kRet (pSlc (pBin (pTup (qCons pI qNil)) (pVar (pv0 1))) qN (qS (pBin (pSub (pVar (pv0 0)) pI) pI))))
  kNil)
theorem S_turned : FnScope N_turned ["rule", "sizes"] (defScope s19) := ⟨rfl, rfl, rfl, by decide +kernel, rfl, by decide +kernel, by decide +kernel⟩
theorem b_moved (F : Fct K mg) (c_turned : FnS P w K mg base 1 "turned" 2 false f_turned) (c_within : FnS P w K mg base 2 "within" 2 false f_within) : BodyOk P w K mg base 2 N_moved "moved" (defScope s21) f (defBody s21) m_moved := fun cdv A outer s H E gd hp => (kCons (kUnp (pSlc (pVar (pv0 0)) qN (qS pI)) (gTp gd (gsCons (gNm gd 4) (gsCons (gNm gd 5) (gsCons (gNm gd 6) (gsCons (gNm gd 7) gsNil))))))
  (kCons (kIf (tCmp gd (pVar (pv0 2)) (pS [45])) (kCons (kIf (tBool (wAnd (tVal (pVar (pv0 6))) (wAnd1 (tBool (wOr (tVal (pVar (pv0 7))) (wOr1 (tCmp gd (pSub (pVar (pv0 1)) pI) pI))))))) (kCons (kSet gd 1 (pCall gd c_turned (qCons (pVar (pv0 0)) (qCons (pVar (pv0 1)) qNil))))
  kNil) kNil)
  (kCons (kRet (pCall gd c_within (qCons (pVar (pv0 0)) (qCons (pVar (pv0 1)) qNil))))
  kNil)) kNil)
  (kCons (kSet gd 3 (pIfe (tCmp gd (pVar (pv0 2)) (pS [97])) pI pI))
  (kCons (kIf (tBool (wAnd (tVal (pVar (pv0 5))) (wAnd (tCmp gd (pSub (pVar (pv0 1)) pI) pI) (wAnd1 (tCmp gd (pBin (pSub (pVar (pv0 1)) pI) (pVar (pv0 3))) (pVar (pv0 4))))))) (kCons (kSet gd 1 (pCall gd c_turned (qCons (pVar (pv0 0)) (qCons (pVar (pv0 1)) qNil))))
  kNil) kNil)
  (kCons (kSet gd 1 (pBin (pTup (qCons (pBin (pSub (pVar (pv0 1)) pI) (pVar (pv0 3))) qNil)) (pSlc (pVar (pv0 1)) (qS pI) qN)))
  (kCons (kIf (tBool (wAnd (tNt (tVal (pVar (pv0 5)))) (wAnd1 (tCmp gd (pSub (pVar (pv0 1)) pI) (pVar (pv0 4)))))) (kCons (kSet gd 1 (pCall gd c_turned (qCons (pVar (pv0 0)) (qCons (pVar (pv0 1)) qNil))))
  kNil) kNil)
  (kCons (kRet (pCall gd c_within (qCons (pVar (pv0 0)) (qCons (pVar (pv0 1)) qNil))))
  kNil)))))))
theorem S_moved : FnScope N_moved ["rule", "sizes", "event"] (defScope s21) := ⟨rfl, rfl, rfl, by decide +kernel, rfl, by decide +kernel, by decide +kernel⟩
theorem b_walked (F : Fct K mg) (c_moved : FnS P w K mg base 3 "moved" 3 false f_moved) : BodyOk P w K mg base 3 N_walked "walked" (defScope s22) f (defBody s22) m_walked := fun cdv A outer s H E gd hp => (kCons (kSet gd 3 (pLst qNil))
  (kCons (kFor gd hp (jAny (pVar (pv0 2))) (gNm gd 4) (kCons (kSet gd 1 (pCall gd c_moved (qCons (pVar (pv0 0)) (qCons (pVar (pv0 1)) (qCons (pVar (pv0 4)) qNil)))))
  (kCons (kApp (pv0 3) (pVar (pv0 1)))
  kNil)))
  (kCons (kRetV (pv0 3))
  kNil)))
theorem S_walked : FnScope N_walked ["rule", "sizes", "row"] (defScope s22) := ⟨rfl, rfl, rfl, by decide +kernel, rfl, by decide +kernel, by decide +kernel⟩
theorem b_behind (F : Fct K mg) (c_walked : FnS P w K mg base 4 "walked" 3 false f_walked) : BodyOk P w K mg base 4 N_behind "behind" (defScope s23) f (defBody s23) m_behind := fun cdv A outer s H E gd hp => (kCons (kRet (pSub (pBin (pLst (qCons (pGT [.int 0] F.t_FIRST (fun _ => .cons (.int _) (.nil))) qNil)) (pCall gd c_walked (qCons (pVar (pv0 0)) (qCons (pGT [.int 0] F.t_FIRST (fun _ => .cons (.int _) (.nil))) (qCons (pVar (pv0 1)) qNil))))) (pNeg pI)))
  kNil)
theorem S_behind : FnScope N_behind ["rule", "row"] (defScope s23) := ⟨rfl, rfl, rfl, by decide +kernel, rfl, by decide +kernel, by decide +kernel⟩
theorem b_sizes (F : Fct K mg) (c_need_rule : FnS P w K mg base 3 "need_rule" 1 false f_need_rule) (c_need_row : FnS P w K mg base 2 "need_row" 1 false f_need_row) (c_behind : FnS P w K mg base 5 "behind" 2 false f_behind) : BodyOk P w K mg base 5 N_sizes "sizes" (defScope s24) f (defBody s24) m_sizes := fun cdv A outer s H E gd hp => (kCons (kExpr (pCall gd c_need_rule (qCons (pVar (pv0 0)) qNil)))
  (kCons (kExpr (pCall gd c_need_row (qCons (pVar (pv0 1)) qNil)))
  (kCons (kRet (pCall gd c_behind (qCons (pVar (pv0 0)) (qCons (pVar (pv0 1)) qNil))))
  kNil)))
theorem S_sizes : FnScope N_sizes ["rule", "row"] (defScope s24) := ⟨rfl, rfl, rfl, by decide +kernel, rfl, by decide +kernel, by decide +kernel⟩
theorem b__law_pick (F : Fct K mg)  : BodyOk P w K mg base 0 N__law_pick "_law_pick" (defScope s29) f (defBody s29) m__law_pick := fun cdv A outer s H E gd hp => (kCons (kIf (tCmp gd (pSubR (pv0 0) pI) pI) (kCons (kSet gd 3 (pBin (pB1 (bInt F.m_int) (pSubR (pv0 0) pI)) (pVar (pv0 1))))
  (kCons (kStI (pv0 0) pI (pBin (pSubR (pv0 0) pI) (pVar (pv0 1))))
  (kCons (kRetV (pv0 3))
  kNil))) kNil)
  (kCons (kStI (pv0 0) pI (pBin (pSubR (pv0 0) pI) pI))
  (kCons (kSet gd 2 (pBin (pB1 (bInt F.m_int) (pBin (pB1 (bInt F.m_int) (pBin (pSubR (pv0 0) pI) (pBin pI (pSubR (pv0 0) pI)))) pI)) pI))
  (kCons (kSet gd 3 (pBin (pBin (pB1 (bInt F.m_int) (pBin (pB1 (bInt F.m_int) (pBin (pVar (pv0 2)) (pBin pI (pSubR (pv0 0) pI)))) pI)) pI) pI))
  (kCons (kRet (pBin (pB1 (bInt F.m_int) (pVar (pv0 3))) (pVar (pv0 1))))
  kNil)))))
theorem S__law_pick : FnScope N__law_pick ["_law_deck_here", "_law_limit"] (defScope s29) := ⟨rfl, rfl, rfl, by decide +kernel, rfl, by decide +kernel, by decide +kernel⟩
theorem b__law_rule (F : Fct K mg) (c__law_pick : FnS P w K mg base 1 "_law_pick" 2 true f__law_pick) : BodyOk P w K mg base 1 N__law_rule "_law_rule" (defScope s36) f (defBody s36) m__law_rule := fun cdv A outer s H E gd hp => (kCons (kSet gd 1 (pIfe (tCmp gd (pCallIo gd c__law_pick (pv0 0) (qCons pI qNil)) pI) pN (pBin pI (pCallIo gd c__law_pick (pv0 0) (qCons pI qNil)))))
  (kCons (kSetLc gd 2 [("_law_turn", 3)] (jRng1 F.m_range pI) (fun s1 H1 C1 l1 b1 => (gNm (gd.blk s1 H1 _ (compEnvC _ l1 C1 _) b1) 3)) (fun s1 H1 C1 l1 b1 => cNil) (fun s1 H1 C1 l1 b1 => (pCmp (gd.blk s1 H1 _ (compEnvC _ l1 C1 _) b1) (pCallIo (gd.blk s1 H1 _ (compEnvC _ l1 C1 _) b1) c__law_pick (pv0 0) (qCons pI qNil)) pI)))
  (kCons (kRet (pTup (qCons (pBin pI (pCallIo gd c__law_pick (pv0 0) (qCons pI qNil))) (qCons (pSub (pVar (pv0 2)) pI) (qCons (pSub (pVar (pv0 2)) pI) (qCons (pSub (pVar (pv0 2)) pI) (qCons (pCallIo gd c__law_pick (pv0 0) (qCons pI qNil)) (qCons (pVar (pv0 1)) (qCons (pBin pI (pCallIo gd c__law_pick (pv0 0) (qCons pI qNil))) qNil)))))))))
  kNil)))
theorem S__law_rule : FnScope N__law_rule ["_law_deck_here"] (defScope s36) := ⟨rfl, rfl, rfl, by decide +kernel, rfl, by decide +kernel, by decide +kernel⟩
theorem b__law_song (F : Fct K mg) (c__law_pick : FnS P w K mg base 1 "_law_pick" 2 true f__law_pick) : BodyOk P w K mg base 1 N__law_song "_law_song" (defScope s37) f (defBody s37) m__law_song := fun cdv A outer s H E gd hp => (kCons (kSet gd 2 (pSub (pLst (qCons (pS [45, 97, 98]) (qCons (pS [45, 97, 97, 98, 98]) (qCons (pS [97, 97, 98]) (qCons (pS [45, 97]) qNil))))) (pCallIo gd c__law_pick (pv0 0) (qCons pI qNil))))
  (kCons (kRet (pJoin (pS []) (pComp [("_law_turn", 3)] gd (jRng1 F.m_range (pCallIo gd c__law_pick (pv0 0) (qCons (pBin (pVar (pv0 1)) pI) qNil))) (fun s1 H1 C1 l1 b1 => (gNm (gd.blk s1 H1 _ (compEnvC _ l1 C1 _) b1) 3)) (fun s1 H1 C1 l1 b1 => cNil) (fun s1 H1 C1 l1 b1 => (pSub (pVar (pv0 2)) (pCallIo (gd.blk s1 H1 _ (compEnvC _ l1 C1 _) b1) c__law_pick (pv0 0) (qCons (pB1 (bLen F.m_len) (pVar (pv0 2))) qNil)))))))
  kNil))
theorem S__law_song : FnScope N__law_song ["_law_deck_here", "_law_most"] (defScope s37) := ⟨rfl, rfl, rfl, by decide +kernel, rfl, by decide +kernel, by decide +kernel⟩
theorem b_kept (F : Fct K mg) (c_need_rule : FnS P w K mg base 3 "need_rule" 1 false f_need_rule) (c_need_row : FnS P w K mg base 2 "need_row" 1 false f_need_row) (c_behind : FnS P w K mg base 5 "behind" 2 false f_behind) : BodyOk P w K mg base 5 N_kept "kept" (defScope s26) f (defBody s26) m_kept := fun cdv A outer s H E gd hp => (kCons (kExpr (pCall gd c_need_rule (qCons (pVar (pv0 0)) qNil)))
  (kCons (kExpr (pCall gd c_need_row (qCons (pVar (pv0 1)) qNil)))
  (kCons (kPar gd 3 4 (pBin (pCount (pVar (pv0 1)) (pS [97])) (pBin pI (pCount (pVar (pv0 1)) (pS [98])))) (pLst qNil))
  (kCons (kFor gd hp (jAny (pCall gd c_behind (qCons (pVar (pv0 0)) (qCons (pVar (pv0 1)) qNil)))) (gNm gd 2) (kCons (kApp (pv0 4) (pTRg gd F.m_tuple F.m_range (pBin (pVar (pv0 3)) (pVar (pv0 2))) (pVar (pv0 3))))
  (kCons (kSet gd 3 (pBin (pVar (pv0 3)) (pVar (pv0 2))))
  kNil)))
  (kCons (kRetV (pv0 4))
  kNil)))))
theorem S_kept : FnScope N_kept ["rule", "row"] (defScope s26) := ⟨rfl, rfl, rfl, by decide +kernel, rfl, by decide +kernel, by decide +kernel⟩
theorem b_pages (F : Fct K mg) (c_need_rule : FnS P w K mg base 3 "need_rule" 1 false f_need_rule) (c_need_row : FnS P w K mg base 2 "need_row" 1 false f_need_row) (c_pages_of : FnS P w K mg base 1 "pages_of" 2 false f_pages_of) (c_behind : FnS P w K mg base 5 "behind" 2 false f_behind) : BodyOk P w K mg base 5 N_pages "pages" (defScope s25) f (defBody s25) m_pages := fun cdv A outer s H E gd hp => (kCons (kExpr (pCall gd c_need_rule (qCons (pVar (pv0 0)) qNil)))
  (kCons (kExpr (pCall gd c_need_row (qCons (pVar (pv0 1)) qNil)))
  (kCons (kRet (pCall gd c_pages_of (qCons (pVar (pv0 0)) (qCons (pCall gd c_behind (qCons (pVar (pv0 0)) (qCons (pVar (pv0 1)) qNil))) qNil))))
  kNil)))
theorem S_pages : FnScope N_pages ["rule", "row"] (defScope s25) := ⟨rfl, rfl, rfl, by decide +kernel, rfl, by decide +kernel, by decide +kernel⟩
theorem b__law_weight (F : Fct K mg)  : BodyOk P w K mg base 0 N__law_weight "_law_weight" (defScope s32) f (defBody s32) m__law_weight := fun cdv A outer s H E gd hp => (kCons (kRet (pBin (pB1 (bSum gd F.m_sum) (pSlc (pVar (pv0 1)) qN (qS pI))) (pB1 (bSum gd F.m_sum) (pComp [("_law_one", 2)] gd (jAny (pSlc (pVar (pv0 1)) (qS pI) qN)) (fun s1 H1 C1 l1 b1 => (gNm (gd.blk s1 H1 _ (compEnvC _ l1 C1 _) b1) 2)) (fun s1 H1 C1 l1 b1 => cNil) (fun s1 H1 C1 l1 b1 => (pBin (pB1 (bInt F.m_int) (pBin (pBin (pVar (pv0 2)) (pSub (pVar (pv0 0)) pI)) pI)) (pSub (pVar (pv0 0)) pI)))))))
  kNil)
theorem S__law_weight : FnScope N__law_weight ["_law_r", "_law_line"] (defScope s32) := ⟨rfl, rfl, rfl, by decide +kernel, rfl, by decide +kernel, by decide +kernel⟩
theorem b__law_files (F : Fct K mg) (c__law_weight : FnS P w K mg base 1 "_law_weight" 2 false f__law_weight) : BodyOk P w K mg base 1 N__law_files "_law_files" (defScope s35) f (defBody s35) m__law_files := fun cdv A outer s H E gd hp => (kCons (kPar3 gd 3 4 5 (pLst (qCons (pLst qNil) qNil)) pI (pLst (qCons (pLst (qCons (pLst qNil) qNil)) qNil)))
  (kCons (kFor gd hp (jAny (pVar (pv0 1))) (gNm gd 2) (kCons (kSet gd 6 (pIndex (pS [45, 97, 98]) (pVar (pv0 2))))
  (kCons (kSet gd 7 (pLRg gd F.m_list F.m_range (pVar (pv0 4)) (pBin (pVar (pv0 4)) (pVar (pv0 6)))))
  (kCons (kSet gd 4 (pBin (pVar (pv0 4)) (pVar (pv0 6))))
  (kCons (kIf (tBool (wAnd (tCmp gd (pVar (pv0 2)) (pS [45])) (wAnd (tVal (pSub (pVar (pv0 0)) pI)) (wAnd1 (tBool (wOr (tVal (pSub (pVar (pv0 0)) pI)) (wOr1 (tCmp gd (pSub (pVar (pv0 3)) pI) (pLst qNil))))))))) (kCons (kSet gd 3 (pBin (pLst (qCons (pLst qNil) qNil)) (pVar (pv0 3))))
  kNil) kNil)
  (kCons (kIf (tBool (wAnd (tCmp gd (pVar (pv0 2)) (pS [45])) (wAnd (tVal (pSub (pVar (pv0 0)) pI)) (wAnd (tCmp gd (pSub (pVar (pv0 3)) pI) (pLst qNil)) (wAnd1 (tCmp gd (pBin (pB1 (bLen F.m_len) (pSub (pVar (pv0 3)) pI)) (pVar (pv0 6))) (pSub (pVar (pv0 0)) pI))))))) (kCons (kSet gd 3 (pBin (pLst (qCons (pLst qNil) qNil)) (pVar (pv0 3))))
  kNil) kNil)
  (kCons (kSet gd 3 (pBin (pLst (qCons (pBin (pSub (pVar (pv0 3)) pI) (pVar (pv0 7))) qNil)) (pSlc (pVar (pv0 3)) (qS pI) qN)))
  (kCons (kIf (tBool (wAnd (tCmp gd (pVar (pv0 2)) (pS [45])) (wAnd (tNt (tVal (pSub (pVar (pv0 0)) pI))) (wAnd1 (tCmp gd (pB1 (bLen F.m_len) (pSub (pVar (pv0 3)) pI)) (pSub (pVar (pv0 0)) pI)))))) (kCons (kSet gd 3 (pBin (pLst (qCons (pLst qNil) qNil)) (pVar (pv0 3))))
  kNil) kNil)
  (kCons (kSet gd 3 (pSlc (pVar (pv0 3)) qN (qS (pBin (pSub (pVar (pv0 0)) pI) pI))))
  (kCons (kWhl hp (tBool (wAnd (tCmp gd (pSub (pVar (pv0 0)) pI) pN) (wAnd (tCmp gd (pB1 (bLen F.m_len) (pVar (pv0 3))) pI) (wAnd1 (tCmp gd (pCall gd c__law_weight (qCons (pVar (pv0 0)) (qCons (pComp [("_law_one", 8)] gd (jAny (pVar (pv0 3))) (fun s1 H1 C1 l1 b1 => (gNm (gd.blk s1 H1 _ (compEnvC _ l1 C1 _) b1) 8)) (fun s1 H1 C1 l1 b1 => cNil) (fun s1 H1 C1 l1 b1 => (pB1 (bLen F.m_len) (pVar (pv0 8))))) qNil))) (pSub (pVar (pv0 0)) pI)))))) (kCons (kSet gd 3 (pSlc (pVar (pv0 3)) qN (qS (pNeg pI))))
  kNil))
  (kCons (kApp (pv0 5) (pVar (pv0 3)))
  kNil)))))))))))
  (kCons (kRetV (pv0 5))
  kNil)))
theorem S__law_files : FnScope N__law_files ["_law_r", "_law_song_here"] (defScope s35) := ⟨rfl, rfl, rfl, by decide +kernel, rfl, by decide +kernel, by decide +kernel⟩
theorem b__law_sort (F : Fct K mg)  : BodyOk P w K mg base 0 N__law_sort "_law_sort" (defScope s30) f (defBody s30) m__law_sort := fun cdv A outer s H E gd hp => (kCons (kIf (tVal (pIsBool F.m_isinstance (yBool F.m_bool) (pVar (pv0 0)))) (kCons (kRet pI)
  kNil) kNil)
  (kCons (kIf (tVal (pIsInt F.m_isinstance (yInt F.m_int) (pVar (pv0 0)))) (kCons (kRet pI)
  kNil) kNil)
  (kCons (kIf (tVal (pIsStr F.m_isinstance (yStr F.m_str) (pVar (pv0 0)))) (kCons (kRet pI)
  kNil) kNil)
  (kCons (kIf (tVal (pIsLst F.m_isinstance (yList F.m_list) (pVar (pv0 0)))) (kCons (kRet pI)
  kNil) kNil)
  (kCons (kRet (pIfe (tVal (pIsTup F.m_isinstance (yTuple F.m_tuple) (pVar (pv0 0)))) pI pI))
  kNil)))))
theorem S__law_sort : FnScope N__law_sort ["_law_thing"] (defScope s30) := ⟨rfl, rfl, rfl, by decide +kernel, rfl, by decide +kernel, by decide +kernel⟩
theorem b__law_same {gg : Sem} {k : Nat} (F : Fct K mg) (c__law_sort : FnS P w K mg base 1 "_law_sort" 1 false f__law_sort) (c_self : FnS P w K mg base k "_law_same" 2 false gg) (hk : 1 ≤ k) : BodyOk P w K mg base k N__law_same "_law_same" (defScope s31) f (defBody s31) (m__law_same gg) := fun cdv A outer s H E gd hp => (kCons (kIf (tCmp gd (pCall gd c__law_sort (qCons (pVar (pv0 0)) qNil) (hj := Nat.le_trans (by decide) hk)) (pCall gd c__law_sort (qCons (pVar (pv0 1)) qNil) (hj := Nat.le_trans (by decide) hk))) (kCons (kRet pB)
  kNil) kNil)
  (kCons (kIf (tBool (wAnd (tCmp gd (pCall gd c__law_sort (qCons (pVar (pv0 0)) qNil) (hj := Nat.le_trans (by decide) hk)) pI) (wAnd1 (tCmp gd (pCall gd c__law_sort (qCons (pVar (pv0 0)) qNil) (hj := Nat.le_trans (by decide) hk)) pI)))) (kCons (kIf (tCmp gd (pB1 (bLen F.m_len) (pVar (pv0 0))) (pB1 (bLen F.m_len) (pVar (pv0 1)))) (kCons (kRet pB)
  kNil) kNil)
  (kCons (kRet (pCmp gd (pComp [("_law_k", 2), ("_law_part", 3)] gd (jEnu F.m_enumerate (pVar (pv0 0))) (fun s1 H1 C1 l1 b1 => (gTp (gd.blk s1 H1 _ (compEnvC _ l1 C1 _) b1) (gsCons (gNm (gd.blk s1 H1 _ (compEnvC _ l1 C1 _) b1) 2) (gsCons (gNm (gd.blk s1 H1 _ (compEnvC _ l1 C1 _) b1) 3) gsNil)))) (fun s1 H1 C1 l1 b1 => (cOne (tNt (tVal (pCall (gd.blk s1 H1 _ (compEnvC _ l1 C1 _) b1) c_self (qCons (pVar (pv0 3)) (qCons (pSub (pVar (pv0 1)) (pVar (pv0 2))) qNil)) (hj := Nat.le_refl _)))))) (fun s1 H1 C1 l1 b1 => (pVar (pv0 2)))) (pLst qNil)))
  kNil)) kNil)
  (kCons (kRet (pCmp gd (pVar (pv0 0)) (pVar (pv0 1))))
  kNil)))
theorem S__law_same : FnScope N__law_same ["_law_told", "_law_due"] (defScope s31) := ⟨rfl, rfl, rfl, by decide +kernel, rfl, by decide +kernel, by decide +kernel⟩
theorem b_law (F : Fct K mg) (c__law_deck : FnS P w K mg base 1 "_law_deck" 2 false f__law_deck) (c__law_rule : FnS P w K mg base 2 "_law_rule" 1 true f__law_rule) (c__law_song : FnS P w K mg base 2 "_law_song" 2 true f__law_song) (c__law_pick : FnS P w K mg base 1 "_law_pick" 2 true f__law_pick) (c__law_files : FnS P w K mg base 2 "_law_files" 2 false f__law_files) (c__law_same : FnS P w K mg base 7 "_law_same" 2 false (f__law_same 6)) (c_sizes : FnS P w K mg base 6 "sizes" 2 false f_sizes) (c__law_weight : FnS P w K mg base 1 "_law_weight" 2 false f__law_weight) (c_pages : FnS P w K mg base 6 "pages" 2 false f_pages) (c_kept : FnS P w K mg base 6 "kept" 2 false f_kept) : BodyOk P w K mg base 7 N_law "law" (defScope s38) f (defBody s38) m_law := fun cdv A outer s H E gd hp => (kCons (kFor gd hp (jRng1 F.m_range pI) (gNm gd 1) (kCons (kSet gd 3 (pCall gd c__law_deck (qCons (pSub (pBin (pVar (pv0 0)) (pBin (pLst (qCons pI qNil)) pI)) (pVar (pv0 1))) (qCons (pVar (pv0 1)) qNil))))
  (kCons (kFor gd hp (jRng1 F.m_range pI) (gNm gd 4) (kCons (kSet gd 7 (pCallIo gd c__law_rule (pv0 3) qNil))
  (kCons (kSet gd 8 (pCallIo gd c__law_song (pv0 3) (qCons (pSub (pLst (qCons pI (qCons pI qNil))) (pCallIo gd c__law_pick (pv0 3) (qCons pI qNil))) qNil)))
  (kCons (kSet gd 9 (pSub (pCall gd c__law_files (qCons (pVar (pv0 7)) (qCons (pVar (pv0 8)) qNil))) (pNeg pI)))
  (kCons (kSet gd 10 (pB1 (bTuple F.m_tuple) (pComp [("_law_one", 12)] gd (jAny (pVar (pv0 9))) (fun s1 H1 C1 l1 b1 => (gNm (gd.blk s1 H1 _ (compEnvC _ l1 C1 _) b1) 12)) (fun s1 H1 C1 l1 b1 => cNil) (fun s1 H1 C1 l1 b1 => (pB1 (bLen F.m_len) (pVar (pv0 12)))))))
  (kCons (kIf (tBool (wOr (tNt (tVal (pCall gd c__law_same (qCons (pCall gd c_sizes (qCons (pVar (pv0 7)) (qCons (pVar (pv0 8)) qNil))) (qCons (pVar (pv0 10)) qNil))))) (wOr1 (tNt (tVal (pCall gd c__law_same (qCons (pCall gd c_pages (qCons (pVar (pv0 7)) (qCons (pVar (pv0 8)) qNil))) (qCons (pCall gd c__law_weight (qCons (pVar (pv0 7)) (qCons (pVar (pv0 10)) qNil))) qNil)))))))) (kCons (kRet pB)
  kNil) kNil)
  (kCons (kSet gd 11 (pCall gd c_kept (qCons (pVar (pv0 7)) (qCons (pVar (pv0 8)) qNil))))
  (kCons (kIf (tNt (tVal (pCallRd gd c__law_same (pv0 11) (qCons (pComp [("_law_one", 12)] gd (jAny (pVar (pv0 9))) (fun s1 H1 C1 l1 b1 => (gNm (gd.blk s1 H1 _ (compEnvC _ l1 C1 _) b1) 12)) (fun s1 H1 C1 l1 b1 => cNil) (fun s1 H1 C1 l1 b1 => (pB1 (bTuple F.m_tuple) (pVar (pv0 12))))) qNil)))) (kCons (kRet pB)
  kNil) kNil)
  (kCons (kApp (pv0 11) (pTup qNil))
  (kCons (kIf (tCmp gd (pB1 (bLen F.m_len) (pCall gd c_kept (qCons (pVar (pv0 7)) (qCons (pVar (pv0 8)) qNil)))) (pB1 (bLen F.m_len) (pVar (pv0 9)))) (kCons (kRet pB)
  kNil) kNil)
  kNil))))))))))
  kNil)))
  (kCons (kUnp (pTup (qCons (pTup (qCons pI (qCons pB (qCons pB (qCons pB (qCons pI (qCons pN (qCons pI qNil)))))))) (qCons (pTup (qCons pI (qCons pB (qCons pB (qCons pB (qCons pI (qCons pN (qCons pI qNil)))))))) qNil))) (gTp gd (gsCons (gNm gd 5) (gsCons (gNm gd 6) gsNil))))
  (kCons (kIf (tBool (wOr (tCmp gd (pCall gd c_sizes (qCons (pVar (pv0 5)) (qCons (pS [97, 98, 97, 45, 98]) qNil))) (pTup (qCons pI (qCons pI (qCons pI qNil))))) (wOr (tCmp gd (pCall gd c_kept (qCons (pVar (pv0 5)) (qCons (pS [97, 98, 97, 45, 98]) qNil))) (pLst (qCons (pTup qNil) (qCons (pTup (qCons pI (qCons pI qNil))) (qCons (pTup (qCons pI qNil)) qNil))))) (wOr1 (tCmp gd (pCall gd c_sizes (qCons (pVar (pv0 6)) (qCons (pS [97, 97, 97, 98]) qNil))) (pTup (qCons pI (qCons pI qNil)))))))) (kCons (kRet pB)
  kNil) kNil)
  (kCons (kSet gd 2 (pTup (qCons pI (qCons pB (qCons pB (qCons pB (qCons pI (qCons pI (qCons pI qNil)))))))))
  (kCons (kIf (tBool (wOr (tCmp gd (pCall gd c_sizes (qCons (pVar (pv0 2)) (qCons (pS [98, 98, 98]) qNil))) (pTup (qCons pI (qCons pI (qCons pI (qCons pI qNil)))))) (wOr1 (tCmp gd (pCall gd c_pages (qCons (pVar (pv0 2)) (qCons (pS [98, 98, 98]) qNil))) pI)))) (kCons (kRet pB)
  kNil) kNil)
  (kCons (kIf (tCmp gd (pCall gd c_sizes (qCons (pTup (qCons pI (qCons pB (qCons pB (qCons pB (qCons pI (qCons pI (qCons pI qNil)))))))) (qCons (pS [98, 45, 97]) qNil))) (pTup (qCons pI qNil))) (kCons (kRet pB)
  kNil) kNil)
  (kCons (kRet (pAnd (pCmp gd (pCall gd c_sizes (qCons (pVar (pv0 5)) (qCons (pS []) qNil))) (pTup (qCons pI qNil))) (pOne (pCmp gd (pCall gd c_sizes (qCons (pTup (qCons pI (qCons pB (qCons pB (qCons pB (qCons pI (qCons pN (qCons pI qNil)))))))) (qCons (pS [97, 98, 45, 45]) qNil))) (pTup (qCons pI qNil))))))
  kNil)))))))
theorem S_law : FnScope N_law ["_law_script"] (defScope s38) := ⟨rfl, rfl, rfl, by decide +kernel, rfl, by decide +kernel, by decide +kernel⟩
end
end HD
set_option Elab.async false
set_option linter.all false
set_option maxRecDepth 100000
set_option maxHeartbeats 0
namespace HD
open PySem PySem.Spec PyProof.Rows L2
def d11 : He.DefD := ⟨("is_from", none), "is_from", "is_from", defArgs s11, defBody s11, defScope s11, [], []⟩
def d12 : He.DefD := ⟨("is_rule_of", none), "is_rule_of", "is_rule_of", defArgs s12, defBody s12, defScope s12, [], []⟩
def d13 : He.DefD := ⟨("is_row_of", none), "is_row_of", "is_row_of", defArgs s13, defBody s13, defScope s13, [], []⟩
def d14 : He.DefD := ⟨("need_rule", none), "need_rule", "need_rule", defArgs s14, defBody s14, defScope s14, [], []⟩
def d15 : He.DefD := ⟨("need_row", none), "need_row", "need_row", defArgs s15, defBody s15, defScope s15, [], []⟩
def d18 : He.DefD := ⟨("pages_of", none), "pages_of", "pages_of", defArgs s18, defBody s18, defScope s18, [], []⟩
def d19 : He.DefD := ⟨("turned", none), "turned", "turned", defArgs s19, defBody s19, defScope s19, [], []⟩
def d20 : He.DefD := ⟨("within", none), "within", "within", defArgs s20, defBody s20, defScope s20, [], []⟩
def d21 : He.DefD := ⟨("moved", none), "moved", "moved", defArgs s21, defBody s21, defScope s21, [], []⟩
def d22 : He.DefD := ⟨("walked", none), "walked", "walked", defArgs s22, defBody s22, defScope s22, [], []⟩
def d23 : He.DefD := ⟨("behind", none), "behind", "behind", defArgs s23, defBody s23, defScope s23, [], []⟩
def d24 : He.DefD := ⟨("sizes", none), "sizes", "sizes", defArgs s24, defBody s24, defScope s24, [], []⟩
def d25 : He.DefD := ⟨("pages", none), "pages", "pages", defArgs s25, defBody s25, defScope s25, [], []⟩
def d26 : He.DefD := ⟨("kept", none), "kept", "kept", defArgs s26, defBody s26, defScope s26, [], []⟩
def d28 : He.DefD := ⟨("_law_deck", none), "_law_deck", "_law_deck", defArgs s28, defBody s28, defScope s28, [], []⟩
def d29 : He.DefD := ⟨("_law_pick", none), "_law_pick", "_law_pick", defArgs s29, defBody s29, defScope s29, [], []⟩
def d30 : He.DefD := ⟨("_law_sort", none), "_law_sort", "_law_sort", defArgs s30, defBody s30, defScope s30, [], []⟩
def d31 : He.DefD := ⟨("_law_same", none), "_law_same", "_law_same", defArgs s31, defBody s31, defScope s31, [], []⟩
def d32 : He.DefD := ⟨("_law_weight", none), "_law_weight", "_law_weight", defArgs s32, defBody s32, defScope s32, [], []⟩
def d35 : He.DefD := ⟨("_law_files", none), "_law_files", "_law_files", defArgs s35, defBody s35, defScope s35, [], []⟩
def d36 : He.DefD := ⟨("_law_rule", none), "_law_rule", "_law_rule", defArgs s36, defBody s36, defScope s36, [], []⟩
def d37 : He.DefD := ⟨("_law_song", none), "_law_song", "_law_song", defArgs s37, defBody s37, defScope s37, [], []⟩
def d38 : He.DefD := ⟨("law", none), "law", "law", defArgs s38, defBody s38, defScope s38, [], []⟩
def fn : List He.DefD := [d11, d12, d13, d14, d15, d18, d19, d20, d21, d22, d23, d24, d25, d26, d28, d29, d30, d31, d32, d35, d36, d37, d38]
def fa : List He.Fa := [.glo "is_from", .glo "is_rule_of", .glo "is_row_of", .glo "need_rule", .glo "need_row", .glo "pages_of", .glo "turned", .glo "within", .glo "moved", .glo "walked", .glo "behind", .glo "sizes", .glo "pages", .glo "kept", .glo "_law_deck", .glo "_law_pick", .glo "_law_sort", .glo "_law_same", .glo "_law_weight", .glo "_law_files", .glo "_law_rule", .glo "_law_song", .glo "law", .free "all", .free "bool", .free "enumerate", .free "int", .free "isinstance", .free "len", .free "list", .free "range", .free "str", .free "sum", .free "tuple", .int "MOST_SIZE" 3, .int "MOST_KEEP" 3, .int "MOST_PAGES" 12, .int "MOST_FACTOR" 3, .int "MOST_EVENTS" 60, .str "EVENTS" "-ab", .glo "FIRST"]
def loose0 : List PySem.Str := ["LogError", "InvalidRule", "InvalidRow", "MOST_SIZE", "MOST_KEEP", "MOST_PAGES", "MOST_FACTOR", "MOST_EVENTS", "EVENTS", "is_from", "is_rule_of", "is_row_of", "need_rule", "need_row", "FIRST", "pages_of", "turned", "within", "moved", "walked", "behind", "sizes", "pages", "kept", "_law_deck", "_law_pick", "_law_sort", "_law_same", "_law_weight", "_law_step"]
def loose1 : List PySem.Str := ["_law_went", "_law_files", "_law_rule", "_law_song"]
def loose : List PySem.Str := loose0 ++ loose1
abbrev R : PySem.W.OpenRow := PySem.W.OpenLaw.row PySem.Challenge.rw_turnedlogs_k02_whole_files_line_by_line
def ex (K : PySem.W.Frag) : Bool := He.tupB K "FIRST" [.int 0]
abbrev hk : PySem.W.Hook := He.hookX 4 fa fn [] [] ex
def ob (s : PySem.W.SharedT) : He.AlX := He.obsX 4 fa fn [] [] ex (HandSHeadRun.getT s)
theorem ob_eq (s : PySem.W.SharedT) : ob s = hk.obs s.abs := He.obsX_eq (HandSHeadRun.getT_eq s)
theorem run (w : World) : HandSHeadRun.RunEq R (PySem.W.view R.prog [38]) hk ob 8000 loose w := by
  intro os
  kernel_rfl
end HD
set_option Elab.async false
set_option linter.all false
set_option maxRecDepth 100000
set_option maxHeartbeats 4000000
namespace HD
open PySem PySem.Spec L2 Cor
abbrev dk (a b c : Int) : Cor.D := .lst [.int a, .int b, .int c]
structure DkOk (a b c : Int) (n : Nat) : Prop where
  a0 : 0 ≤ a
  b0 : 0 ≤ b
  b1 : b < 2147483579
  c0 : 0 ≤ c
  c1 : c ≤ n
theorem pick_ok {a b c l : Int} {n : Nat} (h : DkOk a b c n) (l1 : 1 ≤ l) (l2 : l < 1073741824) (hn : n ≤ 100000) : ∃ r a' c', f__law_pick [dk a b c, .int l] = .ret (.int r) false (some (dk a' b c')) ∧ 0 ≤ r ∧ r < l ∧ DkOk a' b c' (n + 1) := by
  obtain ⟨h1, h2, h3, h4, h5⟩ := h
  have l0 : 0 < l := by omega
  unfold f__law_pick
  rw [x_sem1]
  unfold m__law_pick
  by_cases ha : 1 < a
  · refine ⟨a % l, a / l, c, ?_, Int.emod_nonneg _ (by omega), Int.emod_lt_of_pos _ l0, Int.ediv_nonneg h1 (by omega), h2, h3, h4, by omega⟩
    simp [startE, ha, l0, l2]
  · have p1 : (b + 15485867 * (c + 1)).natAbs < 18446744073709551616 := by omega
    have p2 : ∀ x : Int, (x % 2147483647 + 7919 * (c + 1)).natAbs < 18446744073709551616 := fun x => by omega
    refine ⟨(((((b + 15485867 * (c + 1)) ^ 5) % 2147483647 + 7919 * (c + 1)) ^ 3) % 2147483629 / 32) % l, a, c + 1, ?_, Int.emod_nonneg _ (by omega), Int.emod_lt_of_pos _ l0, h1, h2, h3, by omega, by omega⟩
    simp [startE, ha, l0, p1, p2]
theorem deck_ok (n t : Int) (ht : 0 ≤ t) (m : Nat) (hm : t ≤ m) : ∃ a b, f__law_deck [.int n, .int t] = .ret (dk a b t) true none ∧ DkOk a b t m := by
  unfold f__law_deck
  rw [x_sem0]
  unfold m__law_deck
  by_cases ha : 1000000000000000000 ≤ n
  · refine ⟨n - 1000000000000000000, n % 2147483579, ?_, by omega, by omega, by omega, ht, hm⟩
    simp [startE, ha]
  · refine ⟨0, n % 2147483579, ?_, by omega, by omega, by omega, ht, hm⟩
    simp [startE, ha]
end HD
namespace HD
open PySem PySem.Spec L2 Cor
def pg : Option Int → Cor.D
  | none => .non
  | some p => .int p
@[simp] theorem pg_none : pg none = .non := rfl
@[simp] theorem pg_some {p : Int} : pg (some p) = .int p := rfl
structure Rul where
  s : Int
  e : Bool
  d : Bool
  m : Bool
  k : Int
  p : Option Int
  f : Int
structure RulOk (r : Rul) : Prop where
  s1 : 1 ≤ r.s
  s3 : r.s ≤ 3
  k0 : 0 ≤ r.k
  k3 : r.k ≤ 3
  p1 : ∀ p, r.p = some p → 1 ≤ p ∧ p ≤ 12
  f1 : 1 ≤ r.f
  f3 : r.f ≤ 3
abbrev Rul.d' (r : Rul) : Cor.D := .tup [.int r.s, .bl r.e, .bl r.d, .bl r.m, .int r.k, pg r.p, .int r.f]
theorem rng3 : rngD 0 3 = some [.int 0, .int 1, .int 2] := (rngD_nat (n := 3) (by decide)).trans rfl
theorem rule_ok {a b c : Int} {n : Nat} (h : DkOk a b c n) (hn : n ≤ 90000) : ∃ r a' c', f__law_rule [dk a b c] = .ret (Rul.d' r) false (some (dk a' b c')) ∧ RulOk r ∧ DkOk a' b c' (n + 8) := by
  obtain ⟨r1, a1, c1, e1, g1, k1, h1⟩ := pick_ok h (l := 3) (by decide) (by decide) (by omega)
  by_cases hr : 0 < r1
  · obtain ⟨r2, a2, c2, e2, g2, k2, h2⟩ := pick_ok h1 (l := 2) (by decide) (by decide) (by omega)
    obtain ⟨r3, a3, c3, e3, g3, k3, h3⟩ := pick_ok h2 (l := 2) (by decide) (by decide) (by omega)
    obtain ⟨r4, a4, c4, e4, g4, k4, h4⟩ := pick_ok h3 (l := 2) (by decide) (by decide) (by omega)
    obtain ⟨r5, a5, c5, e5, g5, k5, h5⟩ := pick_ok h4 (l := 3) (by decide) (by decide) (by omega)
    obtain ⟨r6, a6, c6, e6, g6, k6, h6⟩ := pick_ok h5 (l := 4) (by decide) (by decide) (by omega)
    obtain ⟨r7, a7, c7, e7, g7, k7, h7⟩ := pick_ok h6 (l := 3) (by decide) (by decide) (by omega)
    refine ⟨⟨1 + r5, r2 == 1, r3 == 1, r4 == 1, r6, none, 1 + r7⟩, a7, c7, ?_, ⟨by dsimp only; omega, by dsimp only; omega, g6, by dsimp only; omega, (fun _ h => by cases h), by dsimp only; omega, by dsimp only; omega⟩, ⟨h7.a0, h7.b0, h7.b1, h7.c0, by have := h7.c1; omega⟩⟩
    unfold f__law_rule
    rw [x_sem1]
    unfold m__law_rule
    simp [startE, e1, e2, e3, e4, e5, e6, e7, hr, rng3]
  · obtain ⟨r0, a0, c0, e0, g0, k0, h0⟩ := pick_ok h1 (l := 12) (by decide) (by decide) (by omega)
    obtain ⟨r2, a2, c2, e2, g2, k2, h2⟩ := pick_ok h0 (l := 2) (by decide) (by decide) (by omega)
    obtain ⟨r3, a3, c3, e3, g3, k3, h3⟩ := pick_ok h2 (l := 2) (by decide) (by decide) (by omega)
    obtain ⟨r4, a4, c4, e4, g4, k4, h4⟩ := pick_ok h3 (l := 2) (by decide) (by decide) (by omega)
    obtain ⟨r5, a5, c5, e5, g5, k5, h5⟩ := pick_ok h4 (l := 3) (by decide) (by decide) (by omega)
    obtain ⟨r6, a6, c6, e6, g6, k6, h6⟩ := pick_ok h5 (l := 4) (by decide) (by decide) (by omega)
    obtain ⟨r7, a7, c7, e7, g7, k7, h7⟩ := pick_ok h6 (l := 3) (by decide) (by decide) (by omega)
    refine ⟨⟨1 + r5, r2 == 1, r3 == 1, r4 == 1, r6, some (1 + r0), 1 + r7⟩, a7, c7, ?_, ⟨by dsimp only; omega, by dsimp only; omega, g6, by dsimp only; omega, (fun p h => by cases h; omega), by dsimp only; omega, by dsimp only; omega⟩, ⟨h7.a0, h7.b0, h7.b1, h7.c0, by have := h7.c1; omega⟩⟩
    unfold f__law_rule
    rw [x_sem1]
    unfold m__law_rule
    simp [startE, e1, e2, e3, e4, e5, e6, e7, e0, hr, rng3]
end HD
namespace HD
open PySem PySem.Spec L2 Cor
def isFrom (v : Cor.D) (lo hi : Int) : Bool := match v with
  | .int i => decide (lo ≤ i) && decide (i ≤ hi)
  | _ => false
def isRule (v : Cor.D) : Bool := match v with
  | .tup [a, b, c, d, e, p, f] => b.isB && c.isB && d.isB && isFrom a 1 3 && isFrom e 0 3 && (isNon p || isFrom p 1 12) && isFrom f 1 3
  | _ => false
theorem isRule_len {xs : List Cor.D} (h : xs.length ≠ 7) : isRule (.tup xs) = false := by
  unfold isRule
  split
  · rename_i q
    cases q
    exact absurd rfl h
  · rfl
theorem is_from_ok {v : Cor.D} {lo hi : Int} (hv : v.plain = true) : f_is_from [v, .int lo, .int hi] = .ret (.bl (isFrom v lo hi)) false none := by
  unfold f_is_from
  rw [x_sem0]
  unfold m_is_from
  cases v with
  | int i =>
    by_cases h1 : lo ≤ i
    · simp [startE, isFrom, h1]
    · simp [startE, isFrom, h1]
  | dct _ => cases hv
  | fn _ => cases hv
  | _ => simp [startE, isFrom]
def PlT (v : Cor.D) : Prop := v.plain = true ∧ ∀ xs, v = .tup xs → ∀ x ∈ xs, x.plain = true
theorem is_rule_of_ok {v : Cor.D} (hv : PlT v) : f_is_rule_of [v] = .ret (.bl (isRule v)) false none := by
  obtain ⟨hp, hx⟩ := hv
  unfold f_is_rule_of
  rw [x_sem0]
  unfold m_is_rule_of
  cases v with
  | dct _ => cases hp
  | fn _ => cases hp
  | tup xs =>
    by_cases hl : xs.length = 7
    · obtain ⟨a, b, c, d, e, p, f, rfl⟩ : ∃ a b c d e p f, xs = [a, b, c, d, e, p, f] := by
        match xs, hl with
        | [a, b, c, d, e, p, f], _ => exact ⟨a, b, c, d, e, p, f, rfl⟩
      have hx := hx _ rfl
      simp only [List.mem_cons, List.not_mem_nil, or_false, forall_eq_or_imp, forall_eq] at hx
      obtain ⟨pa, pb, pc, pd, pe, pp, pf⟩ := hx
      have fa := is_from_ok (lo := 1) (hi := 3) pa
      have fe := is_from_ok (lo := 0) (hi := 3) pe
      have fp := is_from_ok (lo := 1) (hi := 12) pp
      have ff := is_from_ok (lo := 1) (hi := 3) pf
      have hc : cutD [a, b, c, d, e, p, f] (some 1) (some 4) = [b, c, d] := by rw [cut_pp (by decide) (by decide)]; rfl
      simp [startE, hc, b1_isB pb, b1_isB pc, b1_isB pd, fa, fe, fp, ff, isRule]
      cases h1 : b.isB <;> cases h2 : c.isB <;> cases h3 : d.isB <;> simp [fa, fe, fp, ff]
      cases h4 : isFrom a 1 3 <;> simp [fe, fp, ff]
      cases h5 : isFrom e 0 3 <;> simp [fp, ff]
      cases h6 : isNon p <;> simp [fp, ff]
      cases h7 : isFrom p 1 12 <;> simp [ff]
    · have h2 : ¬ ((xs.length : Int) = 7) := by omega
      rw [isRule_len hl]
      simp [startE, h2]
  | _ => simp [startE, isRule]
end HD
set_option Elab.async false
set_option linter.all false
set_option maxRecDepth 100000
set_option maxHeartbeats 4000000
namespace Cor
/-- a comprehension that maps: the state stands still -/
theorem compL_map {α : Type} {vs : List Nat} {base : Env} {t : TG} {mc me : Env → RE} {e : Env} (i j : α → D) : ∀ {ys : List α} {acc : List D}, (∀ y ∈ ys, ∃ e1 fc e2 fd e3, asg t (i y) e = some e1 ∧ mc e1 = .ok (.bl true) fc e2 ∧ me e2 = .ok (j y) fd e3 ∧ wipeE e3 vs = some e) → acc.length + ys.length ≤ 1000000 →
    compL vs base t mc me (ys.map i) e acc = .ok (acc ++ ys.map j) e
  | [], acc, _, _ => by simp
  | y :: ys, acc, h, hl => by
    obtain ⟨e1, fc, e2, fd, e3, h1, h2, h3, h4⟩ := h y (List.mem_cons_self ..)
    have ih := compL_map (vs := vs) (base := base) (t := t) (mc := mc) (me := me) (e := e) i j (ys := ys) (acc := acc ++ [j y]) (fun z hz => h z (List.mem_cons_of_mem _ hz)) (by simp only [List.length_append, List.length_cons, List.length_nil] at *; omega)
    have hac : acc.length < 1000000 := by simp only [List.length_cons] at hl; omega
    simp [h1, h2, h3, h4, hac, ih]
end Cor
namespace HD
open PySem PySem.Spec L2 Cor
abbrev tI (xs : List Int) : Cor.D := .tup (xs.map Cor.D.int)
def wt (f : Int) (xs : List Int) : Int := (xs.take 2).sum + ((xs.drop 2).map fun x => (x + f - 1) / f).sum
theorem pages_of_ok {r : Rul} (h : RulOk r) {xs : List Int} (hL : xs.length ≤ 1000) : f_pages_of [r.d', tI xs] = .ret (.int (wt r.f xs)) false none := by
  unfold f_pages_of
  rw [x_sem0]
  unfold m_pages_of
  have f0 : 0 < r.f := by have := h.f1; omega
  have f1 : r.f < 1073741824 := by have := h.f3; omega
  have key := compL_map (vs := [3]) (base := [.val r.d', .val (tI xs), .no, .no]) (t := .nm 3) (mc := eYes) (me := eBin .FloorDiv (eBin .Sub (eBin .Add (eVar 3) (eSub (eVar 0) (eLit (.int 6)))) (eLit (.int 1))) (eSub (eVar 0) (eLit (.int 6))))
    (e := [.val r.d', .val (tI xs), .no, .no]) Cor.D.int (fun x => .int ((x + r.f - 1) / r.f)) (ys := xs.drop 2) (acc := []) (fun y _ => ⟨[.val r.d', .val (tI xs), .no, .val (.int y)], false, [.val r.d', .val (tI xs), .no, .val (.int y)], false, [.val r.d', .val (tI xs), .no, .val (.int y)], by simp, rfl, by simp [f0, f1], by simp⟩) (by simp; omega)
  have e1 : (xs.map Cor.D.int).drop 2 = (xs.drop 2).map Cor.D.int := (List.map_drop ..).symm
  have e2 : (xs.map Cor.D.int).take 2 = (xs.take 2).map Cor.D.int := (List.map_take ..).symm
  have e3 : (xs.drop 2).map (fun x => Cor.D.int ((x + r.f - 1) / r.f)) = ((xs.drop 2).map fun x => (x + r.f - 1) / r.f).map Cor.D.int := by rw [List.map_map]; rfl
  simp [startE, e1, e2, key, e3, intsOf_map, wt, -List.map_map, -List.map_drop, -List.map_take]
def trn (r : Rul) (xs : List Int) : List Int := 0 :: xs.take r.k.toNat
theorem turned_ok {r : Rul} (h : RulOk r) {xs : List Int} (hL : xs.length ≤ 1000) : f_turned [r.d', tI xs] = .ret (tI (trn r xs)) false none := by
  unfold f_turned
  rw [x_sem0]
  unfold m_turned
  have k0 := h.k0
  have hl : 1 + xs.length ≤ 1000000 := by omega
  have hl' : xs.length + 1 ≤ 1000000 := by omega
  have hk : 0 ≤ r.k + 1 := by omega
  have hk2 : (r.k + 1).toNat = r.k.toNat + 1 := by omega
  simp [startE, hl, hl', cut_np hk, hk2, trn]
def over (r : Rul) (xs : List Int) : Bool := match r.p with
  | some p => decide (1 < xs.length) && decide (p < wt r.f xs)
  | none => false
def wiN (r : Rul) : Nat → List Int → List Int
  | 0, xs => xs
  | n + 1, xs => if over r xs = true then wiN r n xs.dropLast else xs
def wi (r : Rul) (xs : List Int) : List Int := wiN r xs.length xs
theorem cut_last {α : Type} {xs : List α} (h : 1 < xs.length) : cutD xs none (some (-1)) = xs.dropLast := by
  unfold cutD
  have e1 : HT.sIx xs.length 0 none = 0 := rfl
  have e2 : HT.sIx xs.length xs.length (some (-1)) = xs.length - 1 := by
    unfold HT.sIx
    simp only
    rw [if_pos (by decide)]
    omega
  rw [e1, e2, List.drop_zero, Nat.sub_zero, List.dropLast_eq_take]
theorem within_whl {r : Rul} (h : RulOk r) : ∀ (n : Nat) (xs : List Int), xs.length ≤ n → xs.length ≤ 1000 → sWhl (eAnd (eCmp .IsNot (eSub (eVar 0) (eLit (.int 5))) (eLit .non)) (eAnd (eCmp .Gt (eB1 .len (eVar 1)) (eLit (.int 1))) (eCmp .Gt (eCall f_pages_of (aCons (eVar 0) (aCons (eVar 1) aNil))) (eSub (eVar 0) (eLit (.int 5)))))) (bCons (sSet 1 (eSlc (eVar 1) oNone (oSome (eNeg (eLit (.int 1)))))) bNil) [.val r.d', .val (tI xs)] = .nx [.val r.d', .val (tI (wiN r n xs))] := by
  intro n
  induction n with
  | zero =>
    intro xs h1 h2
    rw [sWhl_step]
    have : xs = [] := List.length_eq_zero_iff.mp (by omega)
    subst this
    cases hp : r.p with
    | none => simp [hp, wiN]
    | some p => simp [hp, wiN]
  | succ n ih =>
    intro xs h1 h2
    rw [sWhl_step]
    cases hp : r.p with
    | none => simp [hp, wiN, over]
    | some p =>
      have po := pages_of_ok h h2
      by_cases g1 : 1 < xs.length
      · by_cases g2 : p < wt r.f xs
        · have ih' := ih xs.dropLast (by rw [List.length_dropLast]; omega) (by rw [List.length_dropLast]; omega)
          have cl : cutD (xs.map Cor.D.int) none (some (-1)) = xs.dropLast.map Cor.D.int := by rw [cut_last (by simpa using g1), List.map_dropLast]
          have g1' : (1 : Int) < (xs.length : Int) := by omega
          simp [hp, wiN, over, g1, g2, g1', po, cl, -List.map_dropLast]
          exact ih'
        · have g1' : (1 : Int) < (xs.length : Int) := by omega
          simp [hp, wiN, over, g1, g2, g1', po]
      · have g1' : ¬ (1 : Int) < (xs.length : Int) := by omega
        simp [hp, wiN, over, g1, g1']
theorem within_ok {r : Rul} (h : RulOk r) {xs : List Int} (hL : xs.length ≤ 1000) : f_within [r.d', tI xs] = .ret (tI (wi r xs)) false none := by
  unfold f_within
  rw [x_sem0]
  unfold m_within
  have key := within_whl h xs.length xs (Nat.le_refl _) hL
  rw [x_bCons]
  show fin0 (bK (sWhl _ _ [.val r.d', .val (tI xs)]) _) = _
  rw [key]
  simp [wi]
end HD
set_option Elab.async false
set_option linter.all false
set_option maxRecDepth 100000
set_option maxHeartbeats 8000000
namespace HD
open PySem PySem.Spec L2 Cor
theorem wiN_len {r : Rul} : ∀ (n : Nat) (xs : List Int), (wiN r n xs).length ≤ xs.length
  | 0, xs => Nat.le_refl _
  | n + 1, xs => by
    unfold wiN
    split
    · exact Nat.le_trans (wiN_len n _) (by rw [List.length_dropLast]; omega)
    · exact Nat.le_refl _
theorem wi_len {r : Rul} {xs : List Int} : (wi r xs).length ≤ xs.length := wiN_len _ _
theorem over_len {r : Rul} {xs : List Int} (h : over r xs = true) : 1 < xs.length := by
  unfold over at h
  split at h
  · simp at h; exact h.1
  · cases h
theorem wiN_ne {r : Rul} : ∀ (n : Nat) (xs : List Int), xs ≠ [] → wiN r n xs ≠ []
  | 0, xs, h => h
  | n + 1, xs, h => by
    unfold wiN
    split
    · rename_i q
      have := over_len q
      exact wiN_ne n _ (fun z => by
        have := congrArg List.length z
        rw [List.length_dropLast, List.length_nil] at this
        omega)
    · exact h
theorem wi_ne {r : Rul} {xs : List Int} (h : xs ≠ []) : wi r xs ≠ [] := wiN_ne _ _ h
/-- how many lines an event writes -/
def mor (c : Nat) : Int := if c = 97 then 1 else 2
def hd (xs : List Int) : Int := xs.headD 0
@[simp] theorem hd_cons {x : Int} {xs : List Int} : hd (x :: xs) = x := rfl
def mv0 (r : Rul) (xs : List Int) : List Int := if (r.d && (r.m || decide (0 < hd xs))) = true then trn r xs else xs
def mv1 (r : Rul) (l : Int) (xs : List Int) : List Int := if (r.e && (decide (0 < hd xs) && decide (r.s < hd xs + l))) = true then trn r xs else xs
def mv2 (l : Int) (xs : List Int) : List Int := (hd xs + l) :: xs.tail
def mv3 (r : Rul) (xs : List Int) : List Int := if (!r.e && decide (r.s ≤ hd xs)) = true then trn r xs else xs
def mv (r : Rul) (xs : List Int) (c : Nat) : List Int := wi r (if c = 45 then mv0 r xs else mv3 r (mv2 (mor c) (mv1 r (mor c) xs)))
theorem trn_len {r : Rul} {xs : List Int} : (trn r xs).length ≤ xs.length + 1 := by
  unfold trn
  simp only [List.length_cons, List.length_take]
  omega
theorem moved_ok {r : Rul} (h : RulOk r) {x : Int} {t : List Int} {c : Nat} (hL : (x :: t).length ≤ 100) (hc : c = 45 ∨ c = 97 ∨ c = 98) : f_moved [r.d', tI (x :: t), .str [c]] = .ret (tI (mv r (x :: t) c)) false none := by
  have W := fun (xs : List Int) (hx : xs.length ≤ 1000) => within_ok h hx
  have T := fun (xs : List Int) (hx : xs.length ≤ 1000) => turned_ok h hx
  simp only [List.length_cons] at hL
  have t0 := T (x :: t) (by simp only [List.length_cons]; omega)
  have w0 := W (x :: t) (by simp only [List.length_cons]; omega)
  have w1 := W (trn r (x :: t)) (Nat.le_trans trn_len (by simp only [List.length_cons]; omega))
  have cut4 : ∀ a b c d e f g : Cor.D, cutD [a, b, c, d, e, f, g] none (some 4) = [a, b, c, d] := fun a b c d e f g => by rw [cut_np (by decide)]; rfl
  unfold f_moved
  rw [x_sem0]
  unfold m_moved
  rcases hc with rfl | rfl | rfl
  · cases hd' : r.d <;> cases hm : r.m <;> by_cases hx : 0 < x <;> simp [startE, cut4, hd', hm, hx, w0, w1, t0, mv, mv0] <;> simp_all
  · have w2 : f_within [r.d', .tup (.int 1 :: ((x :: t).take r.k.toNat).map Cor.D.int)] = .ret (tI (wi r (1 :: (x :: t).take r.k.toNat))) false none := W (1 :: (x :: t).take r.k.toNat) (by simp only [List.length_cons, List.length_take]; omega)
    have w3 : f_within [r.d', .tup (.int (x + 1) :: t.map Cor.D.int)] = .ret (tI (wi r ((x + 1) :: t))) false none := W ((x + 1) :: t) (by simp only [List.length_cons]; omega)
    have w4 := W (trn r ((x + 1) :: t)) (Nat.le_trans trn_len (by simp only [List.length_cons]; omega))
    have t1 : f_turned [r.d', .tup (.int (x + 1) :: t.map Cor.D.int)] = .ret (tI (trn r ((x + 1) :: t))) false none := T ((x + 1) :: t) (by simp only [List.length_cons]; omega)
    have n1 : 1 + t.length ≤ 1000000 := by omega
    have n2 : 1 + min r.k.toNat (t.length + 1) ≤ 1000000 := by omega
    have n3 : 1 + (min r.k.toNat (t.length + 1)) ≤ 1000000 := by omega
    cases he : r.e
    · by_cases h2 : r.s ≤ x + 1
      · simp [startE, cut4, he, h2, n1, t1, w4, mv, mv1, mv2, mv3, mor]
      · simp [startE, cut4, he, h2, n1, w3, mv, mv1, mv2, mv3, mor]
    · by_cases h1 : 0 < x
      · by_cases h2 : r.s < x + 1
        · have t0' : f_turned [r.d', tI (x :: t)] = .ret (.tup (.int 0 :: ((x :: t).take r.k.toNat).map Cor.D.int)) false none := t0
          simp [startE, cut4, he, h1, h2, n1, n2, t0', w2, mv, mv1, mv2, mv3, mor, trn, -List.map_take]
        · simp [startE, cut4, he, h1, h2, n1, w3, mv, mv1, mv2, mv3, mor]
      · simp [startE, cut4, he, h1, n1, w3, mv, mv1, mv2, mv3, mor]
  · have w2 : f_within [r.d', .tup (.int 2 :: ((x :: t).take r.k.toNat).map Cor.D.int)] = .ret (tI (wi r (2 :: (x :: t).take r.k.toNat))) false none := W (2 :: (x :: t).take r.k.toNat) (by simp only [List.length_cons, List.length_take]; omega)
    have w3 : f_within [r.d', .tup (.int (x + 2) :: t.map Cor.D.int)] = .ret (tI (wi r ((x + 2) :: t))) false none := W ((x + 2) :: t) (by simp only [List.length_cons]; omega)
    have w4 := W (trn r ((x + 2) :: t)) (Nat.le_trans trn_len (by simp only [List.length_cons]; omega))
    have t1 : f_turned [r.d', .tup (.int (x + 2) :: t.map Cor.D.int)] = .ret (tI (trn r ((x + 2) :: t))) false none := T ((x + 2) :: t) (by simp only [List.length_cons]; omega)
    have n1 : 1 + t.length ≤ 1000000 := by omega
    have n2 : 1 + min r.k.toNat (t.length + 1) ≤ 1000000 := by omega
    have n3 : 1 + (min r.k.toNat (t.length + 1)) ≤ 1000000 := by omega
    cases he : r.e
    · by_cases h2 : r.s ≤ x + 2
      · simp [startE, cut4, he, h2, n1, t1, w4, mv, mv1, mv2, mv3, mor]
      · simp [startE, cut4, he, h2, n1, w3, mv, mv1, mv2, mv3, mor]
    · by_cases h1 : 0 < x
      · by_cases h2 : r.s < x + 2
        · have t0' : f_turned [r.d', tI (x :: t)] = .ret (.tup (.int 0 :: ((x :: t).take r.k.toNat).map Cor.D.int)) false none := t0
          simp [startE, cut4, he, h1, h2, n1, n2, t0', w2, mv, mv1, mv2, mv3, mor, trn, -List.map_take]
        · simp [startE, cut4, he, h1, h2, n1, w3, mv, mv1, mv2, mv3, mor]
      · simp [startE, cut4, he, h1, n1, w3, mv, mv1, mv2, mv3, mor]
end HD
set_option Elab.async false
set_option linter.all false
set_option maxRecDepth 100000
set_option maxHeartbeats 8000000
namespace Cor
@[simp] theorem cmpD_in1 {c : Nat} {b : List Nat} : cmpD .In (.str [c]) (.str b) = some (decide (c ∈ b)) := rfl
end Cor
namespace HD
open PySem PySem.Spec L2 Cor
def Ev (c : Nat) : Prop := c = 45 ∨ c = 97 ∨ c = 98
structure RowOk (row : List Nat) : Prop where
  ev : ∀ c ∈ row, Ev c
  len : row.length ≤ 60
theorem is_row_ok {row : List Nat} (h : RowOk row) : f_is_row_of [.str row] = .ret (.bl true) false none := by
  unfold f_is_row_of
  rw [x_sem0]
  unfold m_is_row_of
  have hl := h.len
  have key := compL_map (vs := [1]) (base := [.val (.str row), .no]) (t := .nm 1) (mc := eYes) (me := eCmp .In (eVar 1) (eLit (.str [45, 97, 98]))) (e := [.val (.str row), .no]) (fun c : Nat => Cor.D.str [c]) (fun _ => .bl true) (ys := row) (acc := [])
    (fun c hc => ⟨[.val (.str row), .val (.str [c])], false, [.val (.str row), .val (.str [c])], false, [.val (.str row), .val (.str [c])], by simp, rfl, by
      have : c = 45 ∨ c = 97 ∨ c = 98 := h.ev c hc
      simp [this], by simp⟩) (by simp only [List.length_nil]; omega)
  have e3 : row.map (fun _ => Cor.D.bl true) = (row.map fun _ => true).map Cor.D.bl := by rw [List.map_map]; rfl
  have h60 : (row.length : Int) ≤ 60 := by omega
  have hz : row.length ≤ 1000000 := by omega
  have ha : (row.map fun _ => true).all id = true := by simp
  simp [startE, h60, hz, key, e3, blsOf_map, -List.map_map, -List.map_const_fun]
theorem need_row_ok {row : List Nat} (h : RowOk row) : f_need_row [.str row] = .ret .non false none := by
  unfold f_need_row
  rw [x_sem0]
  unfold m_need_row
  simp [startE, is_row_ok h]
theorem isRule_rul {r : Rul} (h : RulOk r) : isRule r.d' = true := by
  obtain ⟨h1, h2, h3, h4, h5, h6, h7⟩ := h
  obtain ⟨s, e, d, m, k, p, f⟩ := r
  dsimp only at *
  cases p with
  | none => simp [isRule, isFrom, h1, h2, h3, h4, h6, h7]
  | some p =>
    obtain ⟨p1, p2⟩ := h5 p rfl
    simp [isRule, isFrom, h1, h2, h3, h4, h6, h7, p1, p2]
theorem pg_plain (p : Option Int) : (pg p).plain = true := by cases p <;> rfl
theorem plT_rul {r : Rul} : PlT r.d' := ⟨rfl, fun _ e => by cases e; simp [pg_plain]⟩
theorem need_rule_ok {r : Rul} (h : RulOk r) : f_need_rule [r.d'] = .ret .non false none := by
  have q := (is_rule_of_ok (plT_rul (r := r))).trans (by rw [isRule_rul h])
  unfold f_need_rule
  rw [x_sem0]
  unfold m_need_rule
  simp [startE, q]
theorem mv0_len {r : Rul} {xs : List Int} : (mv0 r xs).length ≤ xs.length + 1 := by
  unfold mv0
  split
  · exact trn_len
  · omega
theorem mv_len {r : Rul} {xs : List Int} {c : Nat} (h : xs ≠ []) : (mv r xs c).length ≤ xs.length + 1 := by
  unfold mv
  refine Nat.le_trans wi_len ?_
  split
  · exact mv0_len
  · have hx : 0 < xs.length := List.length_pos_iff.mpr h
    have hT : ∀ ys : List Int, ys ≠ [] → (mv2 (mor c) ys).length = ys.length := fun ys hy => by
      have := List.length_pos_iff.mpr hy
      unfold mv2
      simp only [List.length_cons, List.length_tail]
      omega
    by_cases he : r.e = true
    · have e3 : ∀ ys, mv3 r ys = ys := fun ys => by unfold mv3; simp [he]
      rw [e3]
      unfold mv1
      split
      · rw [hT _ (by unfold trn; simp)]; exact trn_len
      · rw [hT _ h]; omega
    · have he : r.e = false := by simpa using he
      have e1 : mv1 r (mor c) xs = xs := by unfold mv1; simp [he]
      rw [e1]
      unfold mv3
      split
      · refine Nat.le_trans trn_len ?_
        rw [hT _ h]; omega
      · rw [hT _ h]; omega
theorem mv_ne {r : Rul} {xs : List Int} {c : Nat} (h : xs ≠ []) : mv r xs c ≠ [] := by
  unfold mv
  refine wi_ne ?_
  split
  · unfold mv0 trn; split <;> simp_all
  · unfold mv3 mv2 trn; split <;> simp
def wk (r : Rul) : List Int → List Nat → List (List Int)
  | _, [] => []
  | xs, c :: cs => mv r xs c :: wk r (mv r xs c) cs
theorem wk_len {r : Rul} : ∀ {xs : List Int} {row : List Nat}, (wk r xs row).length = row.length
  | _, [] => rfl
  | xs, c :: cs => by simp [wk, wk_len]
def gone (r : Rul) (xs : List Int) (row : List Nat) : List Int := row.foldl (mv r) xs
theorem wk_last {r : Rul} : ∀ (xs : List Int) (row : List Nat), (tI xs :: (wk r xs row).map tI).getLast? = some (tI (gone r xs row))
  | xs, [] => rfl
  | xs, c :: cs => by
    have := wk_last (r := r) (mv r xs c) cs
    simp only [wk, List.map_cons, gone, List.foldl_cons] at *
    rw [List.getLast?_cons_cons]
    exact this
theorem walk_for {r : Rul} (h : RulOk r) {w0 : Cor.D} : ∀ (row : List Nat) (xs : List Int) (acc : List Cor.D) (s : Cor.Slot), (∀ c ∈ row, Ev c) → xs ≠ [] → xs.length + row.length ≤ 99 → acc.length + row.length ≤ 1000 → s.nio = true →
    ∃ s', forL (stepF (.nm 4) (bCons (sSet 1 (eCall f_moved (aCons (eVar 0) (aCons (eVar 1) (aCons (eVar 4) aNil))))) (bCons (sApp 3 (eVar 1)) bNil))) (row.map fun c => .str [c]) [.val r.d', .val (tI xs), .val w0, .own (.lst acc), s] =
      .nx [.val r.d', .val (tI (gone r xs row)), .val w0, .own (.lst (acc ++ (wk r xs row).map tI)), s']
  | [], xs, acc, s, _, _, _, _, _ => ⟨s, by simp [gone, wk]⟩
  | c :: cs, xs, acc, s, hv, hx, h1, h2, hs => by
    obtain ⟨x, t, rfl⟩ := List.exists_cons_of_ne_nil hx
    simp only [List.length_cons] at h1 h2
    have mo := moved_ok h (x := x) (t := t) (c := c) (by simp only [List.length_cons]; omega) (hv c (List.mem_cons_self ..))
    have ml := mv_len (r := r) (c := c) (xs := x :: t) hx
    simp only [List.length_cons] at ml
    obtain ⟨s', e⟩ := walk_for h (w0 := w0) cs (mv r (x :: t) c) (acc ++ [tI (mv r (x :: t) c)]) (.val (.str [c])) (fun z hz => hv z (List.mem_cons_of_mem _ hz)) (mv_ne hx) (by omega) (by simp only [List.length_append, List.length_cons, List.length_nil]; omega) rfl
    have ha : acc.length < 1000000 := by omega
    refine ⟨s', ?_⟩
    rw [List.map_cons, forL_step]
    simp only [asg_nm, getS_s, getS_0, asK_nio hs, List.set_cons_succ, List.set_cons_zero, seK_ok]
    simp [mo, ha]
    rw [e]
    simp [gone, wk]
theorem walked_ok {r : Rul} (h : RulOk r) {xs : List Int} {row : List Nat} (hv : ∀ c ∈ row, Ev c) (hx : xs ≠ []) (hl : xs.length + row.length ≤ 99) : f_walked [r.d', tI xs, .str row] = .ret (.lst ((wk r xs row).map tI)) true none := by
  unfold f_walked
  rw [x_sem0]
  unfold m_walked
  obtain ⟨s', e⟩ := walk_for h (w0 := .str row) row xs [] .no hv hx hl (by simp only [List.length_nil]; omega) rfl
  have hz : row.length ≤ 1000000 := by omega
  simp [startE, hz]
  rw [e]
  simp
theorem behind_ok {r : Rul} (h : RulOk r) {row : List Nat} (hr : RowOk row) : f_behind [r.d', .str row] = .ret (tI (gone r [0] row)) false none := by
  unfold f_behind
  rw [x_sem0]
  unfold m_behind
  have hl := hr.len
  have e := walked_ok h (xs := [0]) hr.ev (by simp) (by simp only [List.length_cons, List.length_nil]; omega)
  have e : f_walked [r.d', .tup [.int 0], .str row] = .ret (.lst ((wk r [0] row).map tI)) true none := e
  have hz : 1 + (wk r [0] row).length ≤ 1000000 := by rw [wk_len]; omega
  have hz2 : (wk r [0] row).length + 1 ≤ 1000000 := by rw [wk_len]; omega
  have la : (Cor.D.tup [.int 0] :: (wk r [0] row).map tI).getLast? = some (tI (gone r [0] row)) := wk_last [0] row
  have la : atI (Cor.D.tup [.int 0] :: (wk r [0] row).map tI) (-1) = some (tI (gone r [0] row)) := by rw [Cor.atI_last]; exact la
  simp [startE, e, hz, hz2, la]
theorem sizes_ok {r : Rul} (h : RulOk r) {row : List Nat} (hr : RowOk row) : f_sizes [r.d', .str row] = .ret (tI (gone r [0] row)) false none := by
  unfold f_sizes
  rw [x_sem0]
  unfold m_sizes
  simp [startE, need_rule_ok h, need_row_ok hr, behind_ok h hr]
end HD
set_option Elab.async false
set_option linter.all false
set_option maxRecDepth 100000
set_option maxHeartbeats 8000000
namespace HD
open PySem PySem.Spec L2 Cor
theorem pages_ok {r : Rul} (h : RulOk r) {row : List Nat} (hr : RowOk row) (hb : (gone r [0] row).length ≤ 1000) : f_pages [r.d', .str row] = .ret (.int (wt r.f (gone r [0] row))) false none := by
  unfold f_pages
  rw [x_sem0]
  unfold m_pages
  simp [startE, need_rule_ok h, need_row_ok hr, behind_ok h hr, pages_of_ok h hb]
theorem weight_ok {r : Rul} (h : RulOk r) {xs : List Int} (hL : xs.length ≤ 1000) : f__law_weight [r.d', .lst (xs.map Cor.D.int)] = .ret (.int (wt r.f xs)) false none := by
  unfold f__law_weight
  rw [x_sem0]
  unfold m__law_weight
  have f0 : 0 < r.f := by have := h.f1; omega
  have f1 : r.f < 1073741824 := by have := h.f3; omega
  have key := compL_map (vs := [2]) (base := [.val r.d', .val (.lst (xs.map Cor.D.int)), .no]) (t := .nm 2) (mc := eYes) (me := eBin .FloorDiv (eB1 .int (eBin .Sub (eBin .Add (eVar 2) (eSub (eVar 0) (eLit (.int 6)))) (eLit (.int 1)))) (eSub (eVar 0) (eLit (.int 6))))
    (e := [.val r.d', .val (.lst (xs.map Cor.D.int)), .no]) Cor.D.int (fun x => .int ((x + r.f - 1) / r.f)) (ys := xs.drop 2) (acc := []) (fun y _ => ⟨[.val r.d', .val (.lst (xs.map Cor.D.int)), .val (.int y)], false, [.val r.d', .val (.lst (xs.map Cor.D.int)), .val (.int y)], false, [.val r.d', .val (.lst (xs.map Cor.D.int)), .val (.int y)], by simp, rfl, by simp [f0, f1], by simp⟩) (by simp; omega)
  have e1 : (xs.map Cor.D.int).drop 2 = (xs.drop 2).map Cor.D.int := (List.map_drop ..).symm
  have e2 : (xs.map Cor.D.int).take 2 = (xs.take 2).map Cor.D.int := (List.map_take ..).symm
  have e3 : (xs.drop 2).map (fun x => Cor.D.int ((x + r.f - 1) / r.f)) = ((xs.drop 2).map fun x => (x + r.f - 1) / r.f).map Cor.D.int := by rw [List.map_map]; rfl
  simp [startE, e1, e2, key, e3, intsOf_map, wt, -List.map_map, -List.map_drop, -List.map_take]
/-! runs of numbers -/
def rg (a b : Int) : List Cor.D := (List.range (b - a).toNat).map fun i => .int (a + (i : Nat))
theorem rgD_ok {a b : Int} (h1 : -1000000 ≤ a) (h2 : a ≤ b) (h3 : b ≤ 1000) (h4 : b - a ≤ 1000) : rgD a b = some (rg a b) := by
  unfold rgD rg
  rw [if_pos ⟨by omega, by omega, by omega, by omega, by omega⟩]
theorem rg_len {a b : Int} : (rg a b).length = (b - a).toNat := by simp [rg]
theorem rg_nil {a b : Int} (h : b ≤ a) : rg a b = [] := by
  unfold rg
  rw [show (b - a).toNat = 0 by omega]; rfl
theorem rg_app {a b c : Int} (h1 : a ≤ b) (h2 : b ≤ c) : rg a b ++ rg b c = rg a c := by
  unfold rg
  have e : (c - a).toNat = (b - a).toNat + (c - b).toNat := by omega
  rw [e, List.range_add, List.map_append, List.map_map]
  congr 1
  refine List.map_congr_left fun i _ => ?_
  show Cor.D.int (b + (i : Nat)) = Cor.D.int (a + (((b - a).toNat + i : Nat) : Int))
  congr 1
  omega
def sg (f : List Cor.D → Cor.D) (t : Int) : List Int → List Cor.D
  | [] => []
  | x :: xs => f (rg (t - x) t) :: sg f (t - x) xs
theorem sg_len {f : List Cor.D → Cor.D} : ∀ {t : Int} {xs : List Int}, (sg f t xs).length = xs.length
  | _, [] => rfl
  | t, x :: xs => by simp [sg, sg_len]
theorem sg_take {f : List Cor.D → Cor.D} : ∀ (n : Nat) (t : Int) (xs : List Int), (sg f t xs).take n = sg f t (xs.take n)
  | 0, _, _ => by simp [sg]
  | _ + 1, _, [] => by simp [sg]
  | n + 1, t, x :: xs => by simp [sg, sg_take n]
theorem sg_last {f : List Cor.D → Cor.D} {t : Int} {xs : List Int} : (sg f t xs).dropLast = sg f t xs.dropLast := by
  rw [List.dropLast_eq_take, List.dropLast_eq_take, sg_len, sg_take]
/-! bounds -/
def Bd (B : Int) (xs : List Int) : Prop := ∀ x ∈ xs, 0 ≤ x ∧ x ≤ B
theorem Bd.mono {B C : Int} {xs : List Int} (h : Bd B xs) (hc : B ≤ C) : Bd C xs := fun x hx => ⟨(h x hx).1, by have := (h x hx).2; omega⟩
theorem Bd.sub {B : Int} {xs ys : List Int} (h : Bd B xs) (hs : ∀ y ∈ ys, y ∈ xs) : Bd B ys := fun y hy => h y (hs y hy)
theorem Bd.trn {B : Int} {xs : List Int} {r : Rul} (h : Bd B xs) (hB : 0 ≤ B) : Bd B (trn r xs) := fun y hy => by
  unfold HD.trn at hy
  rcases List.mem_cons.mp hy with rfl | hy
  · omega
  · exact h y (List.mem_of_mem_take hy)
theorem wiN_sub {r : Rul} : ∀ (n : Nat) (xs : List Int), ∀ y ∈ wiN r n xs, y ∈ xs
  | 0, xs, y, hy => hy
  | n + 1, xs, y, hy => by
    unfold wiN at hy
    split at hy
    · exact (List.dropLast_sublist xs).subset (wiN_sub n _ y hy)
    · exact hy
theorem Bd.hd {B : Int} {xs : List Int} (h : Bd B xs) (hB : 0 ≤ B) : 0 ≤ hd xs ∧ hd xs ≤ B := by
  cases xs with
  | nil => exact ⟨Int.le_refl _, hB⟩
  | cons x t => exact h x (List.mem_cons_self ..)
theorem mor_bd {c : Nat} : 1 ≤ mor c ∧ mor c ≤ 2 := by unfold mor; split <;> omega
theorem Bd.mv {B : Int} {xs : List Int} {r : Rul} {c : Nat} (h : Bd B xs) (hB : 0 ≤ B) : Bd (B + 2) (mv r xs c) := by
  unfold HD.mv wi
  refine Bd.sub ?_ (wiN_sub _ _)
  split
  · unfold mv0
    split
    · exact (h.trn hB).mono (by omega)
    · exact h.mono (by omega)
  · have h1 : Bd B (mv1 r (mor c) xs) := by
      unfold mv1
      split
      · exact h.trn hB
      · exact h
    have h2 : Bd (B + 2) (mv2 (mor c) (mv1 r (mor c) xs)) := fun y hy => by
      unfold mv2 at hy
      have m := mor_bd (c := c)
      rcases List.mem_cons.mp hy with rfl | hy
      · have := h1.hd hB; omega
      · have := h1 y (List.mem_of_mem_tail hy); omega
    unfold mv3
    split
    · exact h2.trn (by omega)
    · exact h2
theorem gone_bd {r : Rul} : ∀ (row : List Nat) {xs : List Int} {B : Int}, Bd B xs → 0 ≤ B → Bd (B + 2 * row.length) (gone r xs row)
  | [], xs, B, h, _ => by simpa [gone] using h
  | c :: cs, xs, B, h, hB => by
    have := gone_bd (r := r) cs (h.mv (r := r) (c := c) hB) (by omega)
    simp only [gone, List.foldl_cons, List.length_cons] at *
    refine Bd.mono this ?_
    omega
end HD
set_option Elab.async false
set_option linter.all false
set_option maxRecDepth 100000
set_option maxHeartbeats 8000000
namespace Cor
@[simp] theorem eTRg_ev {ma mb : Env → RE} {env : Env} : eTRg ma mb env = K2 (ma env) mb trF := rfl
@[simp] theorem eLRg_ev {ma mb : Env → RE} {env : Env} : eLRg ma mb env = K2 (ma env) mb lrF := rfl
theorem trF_ok {n m : Int} {ds : List D} {e : Env} (h : rgD n m = some ds) : trF (.int n) (.int m) e = .ok (.tup ds) false e := by unfold trF; simp only [h]
theorem lrF_ok {n m : Int} {ds : List D} {e : Env} (h : rgD n m = some ds) : lrF (.int n) (.int m) e = .ok (.lst ds) true e := by unfold lrF; simp only [h]
@[simp] theorem m1_count {xs : List Nat} {c : Nat} : m1D .count (.str xs) (.str [c]) = some (.int ((xs.filter fun x => x == c).length : Nat)) := rfl
@[simp] theorem m1_ix45 : m1D .index (.str [45, 97, 98]) (.str [45]) = some (.int 0) := rfl
@[simp] theorem m1_ix97 : m1D .index (.str [45, 97, 98]) (.str [97]) = some (.int 1) := rfl
@[simp] theorem m1_ix98 : m1D .index (.str [45, 97, 98]) (.str [98]) = some (.int 2) := rfl
end Cor
namespace HD
open PySem PySem.Spec L2 Cor
def tot (row : List Nat) : Int := ((row.filter fun x => x == 97).length : Nat) + 2 * ((row.filter fun x => x == 98).length : Nat)
theorem tot_bd {row : List Nat} : 0 ≤ tot row ∧ tot row ≤ 3 * row.length := by
  have h1 := List.length_filter_le (fun x => x == 97) row
  have h2 := List.length_filter_le (fun x => x == 98) row
  unfold tot
  omega
theorem kept_for {w0 w1 : Cor.D} : ∀ (xs : List Int) (t : Int) (acc : List Cor.D) (s : Cor.Slot), Bd 200 xs → -100000 + 200 * xs.length ≤ t → t ≤ 1000 → acc.length + xs.length ≤ 1000 → s.nio = true →
    ∃ s' t', forL (stepF (.nm 2) (bCons (sApp 4 (eTRg (eBin .Sub (eVar 3) (eVar 2)) (eVar 3))) (bCons (sSet 3 (eBin .Sub (eVar 3) (eVar 2))) bNil))) (xs.map Cor.D.int) [.val w0, .val w1, s, .val (.int t), .own (.lst acc)] =
      .nx [.val w0, .val w1, s', .val (.int t'), .own (.lst (acc ++ sg .tup t xs))]
  | [], t, acc, s, _, _, _, _, _ => ⟨s, t, by simp [sg]⟩
  | x :: xs, t, acc, s, hb, h1, h2, h3, hs => by
    simp only [List.length_cons] at h1 h3
    obtain ⟨b0, b1⟩ := hb x (List.mem_cons_self ..)
    obtain ⟨s', t', e⟩ := kept_for (w0 := w0) (w1 := w1) xs (t - x) (acc ++ [.tup (rg (t - x) t)]) (.val (.int x)) (fun y hy => hb y (List.mem_cons_of_mem _ hy)) (by omega) (by omega) (by simp only [List.length_append, List.length_cons, List.length_nil]; omega) rfl
    have hr := rgD_ok (a := t - x) (b := t) (by omega) (by omega) (by omega) (by omega)
    have ha : acc.length < 1000000 := by omega
    refine ⟨s', t', ?_⟩
    rw [List.map_cons, forL_step]
    simp only [asg_nm, getS_s, getS_0, asK_nio hs, List.set_cons_succ, List.set_cons_zero, seK_ok]
    simp [trF_ok hr, ha]
    rw [e]
    simp [sg]
theorem kept_ok {r : Rul} (h : RulOk r) {row : List Nat} (hr : RowOk row) (hl : (gone r [0] row).length ≤ 100) (hb : Bd 200 (gone r [0] row)) : f_kept [r.d', .str row] = .ret (.lst (sg .tup (tot row) (gone r [0] row))) true none := by
  have tb := tot_bd (row := row)
  have hrl := hr.len
  unfold f_kept
  rw [x_sem0]
  unfold m_kept
  obtain ⟨s', t', e⟩ := kept_for (w0 := r.d') (w1 := .str row) (gone r [0] row) (tot row) [] .no hb (by omega) (by omega) (by simp only [List.length_nil]; omega) rfl
  simp [startE, need_rule_ok h, need_row_ok hr, behind_ok h hr]
  have e' := e
  unfold tot at e'
  rw [e']
  simp [tot]
end HD
set_option Elab.async false
set_option linter.all false
set_option maxRecDepth 100000
set_option maxHeartbeats 8000000
namespace HD
open PySem PySem.Spec L2 Cor
def sgs (t : Int) : List Int → List (List Cor.D)
  | [] => []
  | x :: xs => rg (t - x) t :: sgs (t - x) xs
theorem sg_sgs {f : List Cor.D → Cor.D} : ∀ {t : Int} {xs : List Int}, sg f t xs = (sgs t xs).map f
  | _, [] => rfl
  | t, x :: xs => by simp [sg, sgs, sg_sgs]
theorem sgs_len : ∀ {t : Int} {xs : List Int}, (sgs t xs).length = xs.length
  | _, [] => rfl
  | t, x :: xs => by simp [sgs, sgs_len]
theorem sgs_lens {B : Int} : ∀ {t : Int} {xs : List Int}, Bd B xs → (sgs t xs).map (fun l => Cor.D.int (l.length : Nat)) = xs.map Cor.D.int
  | _, [], _ => rfl
  | t, x :: xs, h => by
    have hx := (h x (List.mem_cons_self ..)).1
    simp only [sgs, List.map_cons]
    rw [sgs_lens fun y hy => h y (List.mem_cons_of_mem _ hy), rg_len]
    congr 2
    omega
abbrev Ln (t : Int) (xs : List Int) : Cor.D := .lst (sg .lst t xs)
abbrev wC : Cor.Env → RE := eAnd (eCmp .IsNot (eSub (eVar 0) (eLit (.int 5))) (eLit .non)) (eAnd (eCmp .Gt (eB1 .len (eVar 3)) (eLit (.int 1))) (eCmp .Gt (eCall f__law_weight (aCons (eVar 0) (aCons (eComp [8] (iAny (eVar 3)) (.nm 8) eYes (eB1 .len (eVar 8))) aNil))) (eSub (eVar 0) (eLit (.int 5)))))
abbrev wB : Cor.Env → RS := bCons (sSet 3 (eSlc (eVar 3) oNone (oSome (eNeg (eLit (.int 1)))))) bNil
theorem file_whl {r : Rul} (h : RulOk r) {B t : Int} {w1 w2 w4 w5 w6 w7 : Cor.Slot} : ∀ (n : Nat) (xs : List Int) (s : Cor.Slot), xs.length ≤ n → xs.length ≤ 1000 → Bd B xs → (s = .val (Ln t xs) ∨ s = .own (Ln t xs)) →
    ∃ s', (s' = .val (Ln t (wiN r n xs)) ∨ s' = .own (Ln t (wiN r n xs))) ∧ sWhl wC wB [.val r.d', w1, w2, s, w4, w5, w6, w7, .no] = .nx [.val r.d', w1, w2, s', w4, w5, w6, w7, .no] := by
  intro n
  induction n with
  | zero =>
    intro xs s h1 h2 hb hs
    have : xs = [] := List.length_eq_zero_iff.mp (by omega)
    subst this
    rw [sWhl_step]
    cases hp : r.p with
    | none => exact ⟨s, hs, by rcases hs with rfl | rfl <;> simp [hp]⟩
    | some p => exact ⟨.val (Ln t []), .inl rfl, by rcases hs with rfl | rfl <;> simp [hp, sg]⟩
  | succ n ih =>
    intro xs s h1 h2 hb hs
    rw [sWhl_step]
    cases hp : r.p with
    | none => exact ⟨s, by simpa [wiN, over, hp] using hs, by rcases hs with rfl | rfl <;> simp [hp]⟩
    | some p =>
      have wo := weight_ok h h2
      have hl : ((sg Cor.D.lst t xs).length : Int) = xs.length := by rw [sg_len]
      have key := compL_map (vs := [8]) (base := [.val r.d', w1, w2, .val (Ln t xs), w4, w5, w6, w7, .no]) (t := .nm 8) (mc := eYes) (me := eB1 .len (eVar 8)) (e := [.val r.d', w1, w2, .val (Ln t xs), w4, w5, w6, w7, .no]) Cor.D.lst (fun l => .int (l.length : Nat)) (ys := sgs t xs) (acc := [])
        (fun l _ => ⟨[.val r.d', w1, w2, .val (Ln t xs), w4, w5, w6, w7, .val (.lst l)], false, [.val r.d', w1, w2, .val (Ln t xs), w4, w5, w6, w7, .val (.lst l)], false, [.val r.d', w1, w2, .val (Ln t xs), w4, w5, w6, w7, .val (.lst l)], by simp, rfl, by simp, by simp⟩) (by simp only [List.length_nil, sgs_len]; omega)
      rw [← sg_sgs, sgs_lens hb] at key
      by_cases g1 : 1 < xs.length
      · have g1' : (1 : Int) < (xs.length : Int) := by omega
        by_cases g2 : p < wt r.f xs
        · have cl : cutD (sg Cor.D.lst t xs) none (some (-1)) = sg .lst t xs.dropLast := by rw [cut_last (by rw [sg_len]; exact g1), sg_last]
          obtain ⟨s', hs', e⟩ := ih xs.dropLast (.own (Ln t xs.dropLast)) (by rw [List.length_dropLast]; omega) (by rw [List.length_dropLast]; omega) (hb.sub fun y hy => (List.dropLast_sublist xs).subset hy) (.inr rfl)
          refine ⟨s', by simpa [wiN, over, hp, g1, g2] using hs', ?_⟩
          rcases hs with rfl | rfl <;> simp [hp, hl, g1', key, wo, g2, cl] <;> exact e
        · refine ⟨.val (Ln t xs), by simp [wiN, over, hp, g1, g2], ?_⟩
          rcases hs with rfl | rfl <;> simp [hp, hl, g1', key, wo, g2]
      · have g1' : ¬ (1 : Int) < (xs.length : Int) := by omega
        refine ⟨.val (Ln t xs), by simp [wiN, over, hp, g1], ?_⟩
        rcases hs with rfl | rfl <;> simp [hp, hl, g1']
end HD
set_option Elab.async false
set_option linter.all false
set_option maxRecDepth 100000
set_option maxHeartbeats 16000000
namespace HD
open PySem PySem.Spec L2 Cor
theorem rg_okN {a b : Int} {n : Nat} : (rg a b).all (Cor.D.okN n) = true := by
  unfold rg
  rw [List.all_map]
  exact List.all_eq_true.mpr fun i _ => okN_int
theorem rg_ne {a b : Int} : cmpD .NotEq (.lst (rg a b)) (.lst []) = some (decide (a < b)) := by
  rw [cmpD_ne]
  have e1 : (Cor.D.okN 8 (.lst (rg a b)) && Cor.D.okN 8 (.lst [])) = true := by rw [okN_lst, okN_lst, rg_okN]; rfl
  rw [if_pos e1, eqv_lst]
  by_cases h : a < b
  · have : rg a b ≠ [] := fun z => by
      have := congrArg List.length z
      rw [rg_len, List.length_nil] at this
      omega
    obtain ⟨y, ys, e⟩ := List.exists_cons_of_ne_nil this
    rw [e, eqvs_cn]
    simp [h]
  · rw [rg_nil (by omega), eqvs_nil]
    simp [h]
theorem sg_zero {t : Int} {xs : List Int} : sg .lst t (0 :: xs) = .lst [] :: sg .lst t xs := by
  simp [sg, rg_nil]
def mo (c : Nat) : Int := if c = 45 then 0 else mor c
def f3 (r : Rul) (c : Nat) (xs : List Int) : List Int := if (!decide (c = 45) && (!r.e && decide (r.s ≤ hd xs))) = true then 0 :: xs else xs
def fTail : Cor.Env → RS := (bCons (sSet 3 (eBin .Add (eLst (aCons (eBin .Add (eSub (eVar 3) (eLit (.int 0))) (eVar 7)) aNil)) (eSlc (eVar 3) (oSome (eLit (.int 1))) oNone)))
  (bCons (sIf (eAnd (eCmp .NotEq (eVar 2) (eLit (.str [45]))) (eAnd (eNot (eSub (eVar 0) (eLit (.int 1)))) (eCmp .GtE (eB1 .len (eSub (eVar 3) (eLit (.int 0)))) (eSub (eVar 0) (eLit (.int 0)))))) (bCons (sSet 3 (eBin .Add (eLst (aCons (eLst aNil) aNil)) (eVar 3)))
  bNil) bNil)
  (bCons (sSet 3 (eSlc (eVar 3) oNone (oSome (eBin .Add (eSub (eVar 0) (eLit (.int 4))) (eLit (.int 1))))))
  (bCons (sWhl wC wB)
  (bCons (sApp 5 (eVar 3))
  bNil)))))
def fTail2 : Cor.Env → RS := (bCons (sSet 3 (eSlc (eVar 3) oNone (oSome (eBin .Add (eSub (eVar 0) (eLit (.int 4))) (eLit (.int 1))))))
  (bCons (sWhl wC wB)
  (bCons (sApp 5 (eVar 3))
  bNil)))
theorem file_tail2 {r : Rul} (h : RulOk r) {B t : Int} {w1 w2 w4 w6 w7 s : Cor.Slot} {xs : List Int} {acc : List Cor.D} (hL : xs.length ≤ 1000) (hb : Bd B xs) (hs : s = .val (Ln t xs) ∨ s = .own (Ln t xs)) (ha : acc.length < 1000) :
    fTail2 [.val r.d', w1, w2, s, w4, .own (.lst acc), w6, w7, .no] = .nx [.val r.d', w1, w2, .val (Ln t (wi r (xs.take (r.k + 1).toNat))), w4, .own (.lst (acc ++ [Ln t (wi r (xs.take (r.k + 1).toNat))])), w6, w7, .no] := by
  have k0 := h.k0
  have hk : 0 ≤ r.k + 1 := by omega
  have ha2 : acc.length < 1000000 := by omega
  obtain ⟨s', hs', e⟩ := file_whl h (t := t) (w1 := w1) (w2 := w2) (w4 := w4) (w5 := .own (.lst acc)) (w6 := w6) (w7 := w7) (xs.take (r.k + 1).toNat).length (xs.take (r.k + 1).toNat) (.own (Ln t (xs.take (r.k + 1).toNat))) (Nat.le_refl _) (by simp only [List.length_take]; omega) (hb.sub fun y hy => List.mem_of_mem_take hy) (.inr rfl)
  have hw : wiN r (xs.take (r.k + 1).toNat).length (xs.take (r.k + 1).toNat) = wi r (xs.take (r.k + 1).toNat) := rfl
  rw [hw] at hs'
  unfold fTail2
  rcases hs with rfl | rfl
  · simp [cut_np hk, sg_take]
    rw [e]
    rcases hs' with rfl | rfl <;> simp [ha2]
  · simp [cut_np hk, sg_take]
    rw [e]
    rcases hs' with rfl | rfl <;> simp [ha2]
theorem file_tail {r : Rul} (h : RulOk r) {B t y : Int} {ys : List Int} {c : Nat} (hc : Ev c) {w1 s : Cor.Slot} {acc : List Cor.D} (hL : ys.length ≤ 900) (hB : B ≤ 1000) (hb : Bd B (y :: ys)) (hs : s = .val (Ln t (y :: ys)) ∨ s = .own (Ln t (y :: ys))) (ha : acc.length < 1000) :
    fTail [.val r.d', w1, .val (.str [c]), s, .val (.int (t + mo c)), .own (.lst acc), .val (.int (mo c)), .own (.lst (rg t (t + mo c))), .no] =
      .nx [.val r.d', w1, .val (.str [c]), .val (Ln (t + mo c) (wi r ((f3 r c ((y + mo c) :: ys)).take (r.k + 1).toNat))), .val (.int (t + mo c)), .own (.lst (acc ++ [Ln (t + mo c) (wi r ((f3 r c ((y + mo c) :: ys)).take (r.k + 1).toNat))])), .val (.int (mo c)), .val (.lst (rg t (t + mo c))), .no] := by
  have y0 := (hb y (List.mem_cons_self ..)).1
  have m0 : 0 ≤ mo c := by unfold mo; have := mor_bd (c := c); split <;> omega
  have m2 : mo c ≤ 2 := by unfold mo; have := mor_bd (c := c); split <;> omega
  have B0 : 0 ≤ B := by have := (hb y (List.mem_cons_self ..)).2; omega
  have y1 := (hb y (List.mem_cons_self ..)).2
  have hbt : Bd (B + 2) ((y + mo c) :: ys) := fun z hz => by
    rcases List.mem_cons.mp hz with rfl | hz
    · omega
    · have := hb z (List.mem_cons_of_mem _ hz); omega
  have eL : sg Cor.D.lst (t + mo c) ((y + mo c) :: ys) = .lst (rg (t - y) (t + mo c)) :: sg .lst (t - y) ys := by
    simp only [sg]
    rw [show t + mo c - (y + mo c) = t - y by omega]
  have eA : rg (t - y) t ++ rg t (t + mo c) = rg (t - y) (t + mo c) := rg_app (by omega) (by omega)
  have hz : (rg (t - y) t).length + (rg t (t + mo c)).length ≤ 1000000 := by rw [rg_len, rg_len]; omega
  have hz1 : 1 + (sg Cor.D.lst (t - y) ys).length ≤ 1000000 := by rw [sg_len]; omega
  have hz2 : 1 + ((sg Cor.D.lst (t - y) ys).length + 1) ≤ 1000000 := by rw [sg_len]; omega
  have hln : ((rg (t - y) (t + mo c)).length : Int) = y + mo c := by rw [rg_len]; omega
  have sgc : sg Cor.D.lst t (y :: ys) = .lst (rg (t - y) t) :: sg .lst (t - y) ys := rfl
  have T2 := fun (xs : List Int) (hx : xs.length ≤ 1000) (hb : Bd (B + 2) xs) => file_tail2 h (t := t + mo c) (w1 := w1) (w2 := .val (.str [c])) (w4 := .val (.int (t + mo c))) (w6 := .val (.int (mo c))) (w7 := .val (.lst (rg t (t + mo c)))) (s := .own (Ln (t + mo c) xs)) hx hb (.inr rfl) ha
  have T2v := fun (xs : List Int) (hx : xs.length ≤ 1000) (hb : Bd (B + 2) xs) => file_tail2 h (t := t + mo c) (w1 := w1) (w2 := .val (.str [c])) (w4 := .val (.int (t + mo c))) (w6 := .val (.int (mo c))) (w7 := .val (.lst (rg t (t + mo c)))) (s := .val (Ln (t + mo c) xs)) hx hb (.inl rfl) ha
  have ka := T2 ((y + mo c) :: ys) (by simp only [List.length_cons]; omega) hbt
  have kv := T2v ((y + mo c) :: ys) (by simp only [List.length_cons]; omega) hbt
  have kb := T2 (0 :: (y + mo c) :: ys) (by simp only [List.length_cons]; omega) (fun z hz => by
    rcases List.mem_cons.mp hz with rfl | hz
    · omega
    · exact hbt z hz)
  rw [Ln, eL] at ka kv
  rw [Ln, sg_zero, eL] at kb
  show bCons _ (bCons _ fTail2) _ = _
  rcases hc with rfl | rfl | rfl
  · rcases hs with rfl | rfl <;> simp [sgc, eA, hz, hz1, f3] <;> exact ka
  · cases he : r.e <;> by_cases h2 : r.s ≤ y + mo 97 <;> rcases hs with rfl | rfl <;> simp [sgc, eA, hz, hz1, hz2, f3, he, h2, hln] <;> first | exact ka | exact kv | exact kb
  · cases he : r.e <;> by_cases h2 : r.s ≤ y + mo 98 <;> rcases hs with rfl | rfl <;> simp [sgc, eA, hz, hz1, hz2, f3, he, h2, hln] <;> first | exact ka | exact kv | exact kb
end HD
set_option Elab.async false
set_option linter.all false
set_option maxRecDepth 100000
set_option maxHeartbeats 16000000
namespace HD
open PySem PySem.Spec L2 Cor
def fBody : Cor.Env → RS := (bCons (sSet 6 (eM1 .index (eLit (.str [45, 97, 98])) (eVar 2)))
  (bCons (sSet 7 (eLRg (eVar 4) (eBin .Add (eVar 4) (eVar 6))))
  (bCons (sSet 4 (eBin .Add (eVar 4) (eVar 6)))
  (bCons (sIf (eAnd (eCmp .Eq (eVar 2) (eLit (.str [45]))) (eAnd (eSub (eVar 0) (eLit (.int 2))) (eOr (eSub (eVar 0) (eLit (.int 3))) (eCmp .NotEq (eSub (eVar 3) (eLit (.int 0))) (eLst aNil))))) (bCons (sSet 3 (eBin .Add (eLst (aCons (eLst aNil) aNil)) (eVar 3)))
  bNil) bNil)
  (bCons (sIf (eAnd (eCmp .NotEq (eVar 2) (eLit (.str [45]))) (eAnd (eSub (eVar 0) (eLit (.int 1))) (eAnd (eCmp .NotEq (eSub (eVar 3) (eLit (.int 0))) (eLst aNil)) (eCmp .Gt (eBin .Add (eB1 .len (eSub (eVar 3) (eLit (.int 0)))) (eVar 6)) (eSub (eVar 0) (eLit (.int 0))))))) (bCons (sSet 3 (eBin .Add (eLst (aCons (eLst aNil) aNil)) (eVar 3)))
  bNil) bNil)
  fTail)))))
def f1 (r : Rul) (c : Nat) (xs : List Int) : List Int :=
  if c = 45 then (if (r.d && (r.m || decide (0 < hd xs))) = true then 0 :: xs else xs) else (if (r.e && (decide (0 < hd xs) && decide (r.s < hd xs + mo c))) = true then 0 :: xs else xs)
def fs (r : Rul) (xs : List Int) (c : Nat) : List Int := wi r ((f3 r c (mv2 (mo c) (f1 r c xs))).take (r.k + 1).toNat)
theorem mo45 : mo 45 = 0 := rfl
theorem mo97 : mo 97 = 1 := rfl
theorem mo98 : mo 98 = 2 := rfl
theorem cn45 : cmpD .NotEq (.str [45]) (.str [45]) = some false := by rw [cmpD_ne]; simp
theorem cn97 : cmpD .NotEq (.str [97]) (.str [45]) = some true := by rw [cmpD_ne]; simp
theorem cn98 : cmpD .NotEq (.str [98]) (.str [45]) = some true := by rw [cmpD_ne]; simp
theorem file_step {r : Rul} (h : RulOk r) {B t x : Int} {xs : List Int} {c : Nat} (hc : Ev c) {w1 s s6 s7 : Cor.Slot} {acc : List Cor.D} (hL : xs.length ≤ 800) (hB : B ≤ 1000) (ht0 : 0 ≤ t) (ht1 : t ≤ 900) (hb : Bd B (x :: xs)) (hs : s = .val (Ln t (x :: xs)) ∨ s = .own (Ln t (x :: xs))) (h6 : s6.nio = true) (h7 : s7.nio = true) (ha : acc.length < 1000) :
    fBody [.val r.d', w1, .val (.str [c]), s, .val (.int t), .own (.lst acc), s6, s7, .no] =
      .nx [.val r.d', w1, .val (.str [c]), .val (Ln (t + mo c) (fs r (x :: xs) c)), .val (.int (t + mo c)), .own (.lst (acc ++ [Ln (t + mo c) (fs r (x :: xs) c)])), .val (.int (mo c)), .val (.lst (rg t (t + mo c))), .no] := by
  have x0 := (hb x (List.mem_cons_self ..)).1
  have x1 := (hb x (List.mem_cons_self ..)).2
  have hb0 : Bd B (0 :: x :: xs) := fun z hz => by
    rcases List.mem_cons.mp hz with rfl | hz
    · omega
    · exact hb z hz
  have m0 : 0 ≤ mo c := by unfold mo; have := mor_bd (c := c); split <;> omega
  have m2 : mo c ≤ 2 := by unfold mo; have := mor_bd (c := c); split <;> omega
  have hr := rgD_ok (a := t) (b := t + mo c) (by omega) (by omega) (by omega) (by omega)
  have sgc : sg Cor.D.lst t (x :: xs) = .lst (rg (t - x) t) :: sg .lst (t - x) xs := rfl
  have hz2 : 1 + ((sg Cor.D.lst (t - x) xs).length + 1) ≤ 1000000 := by rw [sg_len]; omega
  have hne : decide (t - x < t) = decide (0 < x) := by
    by_cases q : 0 < x
    · simp [q]; omega
    · simp [q]; omega
  have nn : cmpD .NotEq (.lst (rg (t - x) t)) (.lst []) = some (decide (0 < x)) := by rw [rg_ne, hne]
  have hln : ((rg (t - x) t).length : Int) = x := by rw [rg_len]; omega
  have ta := file_tail h (t := t) (y := x) (ys := xs) hc (w1 := w1) (s := .own (Ln t (x :: xs))) (acc := acc) (by omega) hB hb (.inr rfl) ha
  have tv := file_tail h (t := t) (y := x) (ys := xs) hc (w1 := w1) (s := .val (Ln t (x :: xs))) (acc := acc) (by omega) hB hb (.inl rfl) ha
  have tb := file_tail h (t := t) (y := 0) (ys := x :: xs) hc (w1 := w1) (s := .own (Ln t (0 :: x :: xs))) (acc := acc) (by simp only [List.length_cons]; omega) hB hb0 (.inr rfl) ha
  have tbv := file_tail h (t := t) (y := 0) (ys := x :: xs) hc (w1 := w1) (s := .val (Ln t (0 :: x :: xs))) (acc := acc) (by simp only [List.length_cons]; omega) hB hb0 (.inl rfl) ha
  rw [Ln, sgc] at ta tv
  rw [Ln, sg_zero, sgc] at tb tbv
  unfold fBody
  rcases hc with rfl | rfl | rfl
  · simp only [mo45, Int.add_zero] at ta tv tb tbv hr ⊢
    cases hd1 : r.d <;> cases hm : r.m <;> by_cases g : 0 < x <;> rcases hs with rfl | rfl <;>
      simp [lrF_ok hr, h6, h7, sgc, nn, hz2, hd1, hm, g, fs, f1, mv2, mo45, mo97, mo98, cn45, cn97, cn98, -cmpD_ne] <;> first | exact ta | exact tv | exact tb | exact tbv
  · simp only [mo97] at ta tv tb tbv hr ⊢
    cases he : r.e <;> by_cases g : 0 < x <;> by_cases g2 : r.s < x + 1 <;> rcases hs with rfl | rfl <;>
      simp [lrF_ok hr, h6, h7, sgc, nn, hz2, he, g, g2, hln, fs, f1, mv2, mo45, mo97, mo98, cn45, cn97, cn98, -cmpD_ne] <;> first | exact ta | exact tv | exact tb | exact tbv
  · simp only [mo98] at ta tv tb tbv hr ⊢
    cases he : r.e <;> by_cases g : 0 < x <;> by_cases g2 : r.s < x + 2 <;> rcases hs with rfl | rfl <;>
      simp [lrF_ok hr, h6, h7, sgc, nn, hz2, he, g, g2, hln, fs, f1, mv2, mo45, mo97, mo98, cn45, cn97, cn98, -cmpD_ne] <;> first | exact ta | exact tv | exact tb | exact tbv
end HD
set_option Elab.async false
set_option linter.all false
set_option maxRecDepth 100000
set_option maxHeartbeats 8000000
namespace HD
open PySem PySem.Spec L2 Cor
theorem mv2_cons {l : Int} {xs : List Int} (h : xs ≠ []) : (mv2 l xs).length = xs.length := by
  have := List.length_pos_iff.mpr h
  unfold mv2
  simp only [List.length_cons, List.length_tail]
  omega
theorem fs_mv {r : Rul} (h : RulOk r) {xs : List Int} {c : Nat} (hx : xs ≠ []) (hl : xs.length ≤ r.k.toNat + 1) : fs r xs c = mv r xs c := by
  have k0 := h.k0
  have hk : (r.k + 1).toNat = r.k.toNat + 1 := by omega
  obtain ⟨x, t, rfl⟩ := List.exists_cons_of_ne_nil hx
  simp only [List.length_cons] at hl
  have tk2 : List.take r.k.toNat t = t := List.take_of_length_le (by omega)
  unfold fs mv
  congr 1
  rw [hk]
  by_cases hc : c = 45
  · subst hc
    unfold f3 f1 mv0
    rw [if_pos rfl, if_pos rfl]
    by_cases q : (r.d && (r.m || decide (0 < hd (x :: t)))) = true
    · rw [if_pos q, if_pos q]
      simp [mv2, mo45, trn]
    · rw [if_neg q, if_neg q]
      simp [mv2, mo45, tk2]
  · have hmo : mo c = mor c := by unfold mo; rw [if_neg hc]
    unfold f3 f1
    rw [if_neg hc, if_neg hc, hmo]
    cases he : r.e
    · have e1 : mv1 r (mor c) (x :: t) = x :: t := by unfold mv1; simp [he]
      rw [e1]
      unfold mv3
      by_cases g : r.s ≤ x + mor c
      · simp [he, hc, g, mv2, trn]
      · simp [he, hc, g, mv2, tk2]
    · have e3 : ∀ ys, mv3 r ys = ys := fun ys => by unfold mv3; simp [he]
      rw [e3]
      unfold mv1
      by_cases g1 : 0 < x <;> by_cases g2 : r.s < x + mor c <;> simp [he, g1, g2, mv2, trn, tk2]
theorem trn_k {r : Rul} {xs : List Int} : (trn r xs).length ≤ r.k.toNat + 1 := by
  unfold trn
  simp only [List.length_cons, List.length_take]
  omega
theorem mv_k {r : Rul} {xs : List Int} {c : Nat} (hx : xs ≠ []) (hl : xs.length ≤ r.k.toNat + 1) : (mv r xs c).length ≤ r.k.toNat + 1 := by
  unfold mv
  refine Nat.le_trans wi_len ?_
  split
  · unfold mv0
    split
    · exact trn_k
    · exact hl
  · have h1 : (mv1 r (mor c) xs).length ≤ r.k.toNat + 1 ∧ mv1 r (mor c) xs ≠ [] := by
      unfold mv1
      split
      · exact ⟨trn_k, by unfold trn; simp⟩
      · exact ⟨hl, hx⟩
    unfold mv3
    split
    · exact trn_k
    · rw [mv2_cons h1.2]; exact h1.1
theorem tot_cons {c : Nat} {cs : List Nat} (hc : Ev c) : tot (c :: cs) = mo c + tot cs := by
  rcases hc with rfl | rfl | rfl
  · simp [tot, mo45]
  · simp [tot, mo97]; omega
  · simp [tot, mo98]; omega
theorem files_for {r : Rul} (h : RulOk r) {w1 : Cor.Slot} : ∀ (row : List Nat) (xs : List Int) (t B : Int) (acc : List Cor.D) (s2 s s6 s7 : Cor.Slot), (∀ c ∈ row, Ev c) → xs ≠ [] → xs.length ≤ r.k.toNat + 1 → Bd B xs → 0 ≤ B → B + 2 * row.length ≤ 1000 → 0 ≤ t → t + 2 * row.length ≤ 900 → acc.length + row.length < 1000 → acc.getLast? = some (Ln t xs) →
    (s = .val (Ln t xs) ∨ s = .own (Ln t xs)) → s2.nio = true → s6.nio = true → s7.nio = true →
    ∃ acc' a0 a1 a2 a3 a4 a6 a7 a8, forL (stepF (.nm 2) fBody) (row.map fun c => .str [c]) [.val r.d', w1, s2, s, .val (.int t), .own (.lst acc), s6, s7, .no] = .nx [a0, a1, a2, a3, a4, .own (.lst acc'), a6, a7, a8] ∧ acc'.getLast? = some (Ln (t + tot row) (gone r xs row))
  | [], xs, t, B, acc, s2, s, s6, s7, _, _, _, _, _, _, _, _, _, hla, _, _, _, _ => ⟨acc, _, _, _, _, _, _, _, _, rfl, by simpa [tot, gone] using hla⟩
  | c :: cs, xs, t, B, acc, s2, s, s6, s7, hv, hx, hl, hb, b0, b1, t0, t1, ha, hla, hs, n2, n6, n7 => by
    obtain ⟨x, t', rfl⟩ := List.exists_cons_of_ne_nil hx
    have hc := hv c (List.mem_cons_self ..)
    simp only [List.length_cons] at hl b1 t1 ha
    have k3 := h.k3
    have hm : 0 ≤ mo c ∧ mo c ≤ 2 := by unfold mo; have := mor_bd (c := c); split <;> omega
    have st := file_step h (t := t) (x := x) (xs := t') (c := c) (B := B) hc (w1 := w1) (s := s) (s6 := s6) (s7 := s7) (acc := acc) (by omega) (by omega) t0 (by omega) hb hs n6 n7 (by omega)
    rw [fs_mv h hx (by simp only [List.length_cons]; exact hl)] at st
    obtain ⟨acc', a0, a1, a2, a3, a4, a6, a7, a8, e, l⟩ := files_for h (w1 := w1) cs (mv r (x :: t') c) (t + mo c) (B + 2) (acc ++ [Ln (t + mo c) (mv r (x :: t') c)]) (.val (.str [c])) (.val (Ln (t + mo c) (mv r (x :: t') c))) (.val (.int (mo c))) (.val (.lst (rg t (t + mo c))))
      (fun z hz => hv z (List.mem_cons_of_mem _ hz)) (mv_ne hx) (mv_k hx (by simp only [List.length_cons]; exact hl)) (hb.mv b0) (by omega) (by omega) (by omega) (by omega) (by simp only [List.length_append, List.length_cons, List.length_nil]; omega) (by simp) (.inl rfl) rfl rfl rfl
    refine ⟨acc', a0, a1, a2, a3, a4, a6, a7, a8, ?_, ?_⟩
    · rw [List.map_cons, forL_step]
      simp only [asg_nm, getS_s, getS_0, asK_nio n2, List.set_cons_succ, List.set_cons_zero, seK_ok]
      rw [st, feK_nx]
      exact e
    · rw [tot_cons hc, ← Int.add_assoc]
      exact l
theorem files_ok {r : Rul} (h : RulOk r) {row : List Nat} (hr : RowOk row) : ∃ acc, f__law_files [r.d', .str row] = .ret (.lst acc) true none ∧ acc.getLast? = some (Ln (tot row) (gone r [0] row)) := by
  have hl := hr.len
  obtain ⟨acc', a0, a1, a2, a3, a4, a6, a7, a8, e, l⟩ := files_for h (w1 := .val (.str row)) row [0] 0 0 [Ln 0 [0]] .no (.own (Ln 0 [0])) .no .no hr.ev (by simp) (by simp) (by intro x hx; simp at hx; omega) (by omega) (by omega) (by omega) (by omega) (by simp only [List.length_cons, List.length_nil]; omega) rfl (.inr rfl) rfl rfl rfl
  rw [Int.zero_add] at l
  refine ⟨acc', ?_, l⟩
  have z : (Ln 0 [0] : Cor.D) = .lst [.lst []] := by simp [sg, rg_nil]
  rw [z] at e
  have hz : row.length ≤ 1000000 := by omega
  unfold f__law_files
  rw [x_sem0]
  unfold m__law_files
  rw [x_bCons]
  have p : sPar3 3 4 5 (eLst (aCons (eLst aNil) aNil)) (eLit (.int 0)) (eLst (aCons (eLst (aCons (eLst aNil) aNil)) aNil)) (startE 9 false [r.d', .str row]) = .nx [.val r.d', .val (.str row), .no, .own (.lst [.lst []]), .val (.int 0), .own (.lst [.lst [.lst []]]), .no, .no, .no] := by simp [startE]
  rw [p, bK_nx, x_bCons]
  show fin0 (bK (sFor (iAny (eVar 1)) (.nm 2) fBody _) _) = _
  simp [hz]
  rw [e]
  simp
end HD
set_option Elab.async false
set_option linter.all false
set_option maxRecDepth 100000
set_option maxHeartbeats 8000000
namespace Cor
@[simp] theorem x_iEnu {ma : Env → RE} {env : Env} : iEnu ma env = iK (ma env) (fun x e1 => match x with
  | .lst xs => .ok (xs.mapIdx fun k y => .tup [.int (k : Nat), y]) e1
  | .tup xs => .ok (xs.mapIdx fun k y => .tup [.int (k : Nat), y]) e1
  | .str xs => if xs.length ≤ lim then .ok ((xs.map fun c => D.str [c]).mapIdx fun k y => .tup [.int (k : Nat), y]) e1 else .no
  | _ => .no) := rfl
/-- a comprehension that takes nothing -/
theorem compL_none {vs : List Nat} {base : Env} {t : TG} {mc me : Env → RE} {e : Env} : ∀ {ys : List D} {acc : List D}, (∀ y ∈ ys, ∃ e1 fc e2, asg t y e = some e1 ∧ mc e1 = .ok (.bl false) fc e2 ∧ wipeE e2 vs = some e) →
    compL vs base t mc me ys e acc = .ok acc e
  | [], acc, _ => rfl
  | y :: ys, acc, h => by
    obtain ⟨e1, fc, e2, h1, h2, h3⟩ := h y (List.mem_cons_self ..)
    have ih := compL_none (vs := vs) (base := base) (t := t) (mc := mc) (me := me) (e := e) (ys := ys) (acc := acc) fun z hz => h z (List.mem_cons_of_mem _ hz)
    simp [h1, h2, h3, ih]
end Cor
namespace HD
open PySem PySem.Spec L2 Cor
theorem sort_int {i : Int} : f__law_sort [.int i] = .ret (.int 2) false none := by
  unfold f__law_sort; rw [x_sem0]; unfold m__law_sort; simp [startE]
theorem sort_lst {ds : List Cor.D} : f__law_sort [.lst ds] = .ret (.int 4) false none := by
  unfold f__law_sort; rw [x_sem0]; unfold m__law_sort; simp [startE]
theorem sort_tup {ds : List Cor.D} : f__law_sort [.tup ds] = .ret (.int 5) false none := by
  unfold f__law_sort; rw [x_sem0]; unfold m__law_sort; simp [startE]
theorem same_int {n : Nat} {i : Int} : f__law_same (n + 1) [.int i, .int i] = .ret (.bl true) false none := by
  unfold f__law_same
  rw [x_sem0]
  unfold m__law_same
  simp [startE, sort_int]
theorem same_tup {n : Nat} {ds : List Cor.D} (h : ∀ d ∈ ds, f__law_same n [d, d] = .ret (.bl true) false none) : f__law_same (n + 1) [.tup ds, .tup ds] = .ret (.bl true) false none := by
  unfold f__law_same
  rw [x_sem0]
  unfold m__law_same
  have key := compL_none (vs := [2, 3]) (base := [.val (.tup ds), .val (.tup ds), .no, .no]) (t := .tup [.nm 2, .nm 3]) (mc := eNot (eCall (f__law_same n) (aCons (eVar 3) (aCons (eSub (eVar 1) (eVar 2)) aNil)))) (me := eVar 2) (e := [.val (.tup ds), .val (.tup ds), .no, .no]) (ys := ds.mapIdx fun k y => .tup [.int (k : Nat), y]) (acc := [])
    (fun y hy => by
      obtain ⟨k, hk⟩ := List.getElem?_of_mem hy
      rw [List.getElem?_mapIdx] at hk
      obtain ⟨d, hd, rfl⟩ := Option.map_eq_some_iff.mp hk
      have hs := h d (List.mem_of_getElem? hd)
      refine ⟨[.val (.tup ds), .val (.tup ds), .val (.int (k : Nat)), .val d], false, [.val (.tup ds), .val (.tup ds), .val (.int (k : Nat)), .val d], by simp, ?_, by simp⟩
      simp [Cor.atI_nat, hd, hs])
  simp [startE, sort_tup, key]
theorem same_lst {n : Nat} {ds : List Cor.D} (h : ∀ d ∈ ds, f__law_same n [d, d] = .ret (.bl true) false none) : f__law_same (n + 1) [.lst ds, .lst ds] = .ret (.bl true) false none := by
  unfold f__law_same
  rw [x_sem0]
  unfold m__law_same
  have key := compL_none (vs := [2, 3]) (base := [.val (.lst ds), .val (.lst ds), .no, .no]) (t := .tup [.nm 2, .nm 3]) (mc := eNot (eCall (f__law_same n) (aCons (eVar 3) (aCons (eSub (eVar 1) (eVar 2)) aNil)))) (me := eVar 2) (e := [.val (.lst ds), .val (.lst ds), .no, .no]) (ys := ds.mapIdx fun k y => .tup [.int (k : Nat), y]) (acc := [])
    (fun y hy => by
      obtain ⟨k, hk⟩ := List.getElem?_of_mem hy
      rw [List.getElem?_mapIdx] at hk
      obtain ⟨d, hd, rfl⟩ := Option.map_eq_some_iff.mp hk
      have hs := h d (List.mem_of_getElem? hd)
      refine ⟨[.val (.lst ds), .val (.lst ds), .val (.int (k : Nat)), .val d], false, [.val (.lst ds), .val (.lst ds), .val (.int (k : Nat)), .val d], by simp, ?_, by simp⟩
      simp [Cor.atI_nat, hd, hs])
  simp [startE, sort_lst, key]
theorem same_tI {n : Nat} {xs : List Int} : f__law_same (n + 2) [tI xs, tI xs] = .ret (.bl true) false none := same_tup fun d hd => by
  obtain ⟨i, _, rfl⟩ := List.mem_map.mp hd
  exact same_int
theorem sgs_int : ∀ {t : Int} {xs : List Int} (l : List Cor.D), l ∈ sgs t xs → ∀ d ∈ l, ∃ i, d = Cor.D.int i
  | t, [], l, hl, d, hd => by simp [sgs] at hl
  | t, x :: xs, l, hl, d, hd => by
    simp only [sgs, List.mem_cons] at hl
    rcases hl with rfl | hl
    · unfold rg at hd
      obtain ⟨i, _, rfl⟩ := List.mem_map.mp hd
      exact ⟨_, rfl⟩
    · exact sgs_int l hl d hd
theorem same_sg {n : Nat} {t : Int} {xs : List Int} : f__law_same (n + 3) [.lst (sg .tup t xs), .lst (sg .tup t xs)] = .ret (.bl true) false none := same_lst fun d hd => by
  rw [sg_sgs] at hd
  obtain ⟨l, hl, rfl⟩ := List.mem_map.mp hd
  refine same_tup fun d hd => ?_
  have := sgs_int l hl d hd
  obtain ⟨i, rfl⟩ := this
  exact same_int
theorem weight_okT {r : Rul} (h : RulOk r) {xs : List Int} (hL : xs.length ≤ 1000) : f__law_weight [r.d', tI xs] = .ret (.int (wt r.f xs)) false none := by
  unfold f__law_weight
  rw [x_sem0]
  unfold m__law_weight
  have f0 : 0 < r.f := by have := h.f1; omega
  have f1 : r.f < 1073741824 := by have := h.f3; omega
  have key := compL_map (vs := [2]) (base := [.val r.d', .val (tI xs), .no]) (t := .nm 2) (mc := eYes) (me := eBin .FloorDiv (eB1 .int (eBin .Sub (eBin .Add (eVar 2) (eSub (eVar 0) (eLit (.int 6)))) (eLit (.int 1)))) (eSub (eVar 0) (eLit (.int 6))))
    (e := [.val r.d', .val (tI xs), .no]) Cor.D.int (fun x => .int ((x + r.f - 1) / r.f)) (ys := xs.drop 2) (acc := []) (fun y _ => ⟨[.val r.d', .val (tI xs), .val (.int y)], false, [.val r.d', .val (tI xs), .val (.int y)], false, [.val r.d', .val (tI xs), .val (.int y)], by simp, rfl, by simp [f0, f1], by simp⟩) (by simp; omega)
  have e1 : (xs.map Cor.D.int).drop 2 = (xs.drop 2).map Cor.D.int := (List.map_drop ..).symm
  have e2 : (xs.map Cor.D.int).take 2 = (xs.take 2).map Cor.D.int := (List.map_take ..).symm
  have e3 : (xs.drop 2).map (fun x => Cor.D.int ((x + r.f - 1) / r.f)) = ((xs.drop 2).map fun x => (x + r.f - 1) / r.f).map Cor.D.int := by rw [List.map_map]; rfl
  simp [startE, e1, e2, key, e3, intsOf_map, wt, -List.map_map, -List.map_drop, -List.map_take]
end HD
set_option Elab.async false
set_option linter.all false
set_option maxRecDepth 100000
set_option maxHeartbeats 8000000
namespace HD
open PySem PySem.Spec L2 Cor
theorem joinL_one : ∀ row : List Nat, joinL [] (row.map fun c => [c]) = row
  | [] => rfl
  | [a] => rfl
  | a :: b :: as => by
    have := joinL_one (b :: as)
    simp only [List.map_cons] at this ⊢
    rw [joinL, this]
    rfl
theorem join_ok {row : List Nat} (h : row.length ≤ 1000) : m1D .join (.str []) (.lst (row.map fun c => .str [c])) = some (.str row) := by
  have e : row.map (fun c => Cor.D.str [c]) = (row.map fun c => [c]).map Cor.D.str := by rw [List.map_map]; rfl
  have es : ((row.map fun c => [c]).map List.length).sum = row.length := by
    rw [List.map_map]
    induction row with
    | nil => rfl
    | cons a l ih => simp only [List.map_cons, List.sum_cons, Function.comp, List.length_cons, List.length_nil] at *; rw [ih (by omega) (by rw [List.map_map]; rfl)]; omega
  rw [e, m1D, strsOf_map, Option.bind_some, es, joinL_one, if_pos]
  simp only [lim_eq, List.length_nil]
  omega
theorem song_loop {m : Int} {sn : List Nat} (hs : ∀ c ∈ sn, Ev c) (h1 : 1 ≤ sn.length) (h2 : sn.length ≤ 10) {base : Cor.Env} : ∀ (ds : List Cor.D) (a b c : Int) (n : Nat) (acc : List Cor.D), DkOk a b c n → n + ds.length ≤ 90000 → acc.length + ds.length ≤ 1000 → ∃ (row : List Nat) (a' c' : Int),
    compL [3] base (.nm 3) eYes (eSub (eVar 2) (eCallIo f__law_pick 0 (aCons (eB1 .len (eVar 2)) aNil))) ds [.io (dk a b c), .val (.int m), .val (.str sn), .no] acc = .ok (acc ++ row.map fun c => .str [c]) [.io (dk a' b c'), .val (.int m), .val (.str sn), .no] ∧ row.length = ds.length ∧ (∀ c ∈ row, Ev c) ∧ DkOk a' b c' (n + ds.length)
  | [], a, b, c, n, acc, h, _, _ => ⟨[], a, c, by simp, rfl, by simp, h⟩
  | d :: ds, a, b, c, n, acc, h, hn, ha => by
    simp only [List.length_cons] at hn ha
    obtain ⟨q, a1, c1, e1, g0, g1, k1⟩ := pick_ok h (l := sn.length) (by omega) (by omega) (by omega)
    obtain ⟨j, rfl⟩ : ∃ j : Nat, q = j := ⟨q.toNat, by omega⟩
    have hj : j < sn.length := by omega
    obtain ⟨row, a', c', e, l, v, k⟩ := song_loop hs h1 h2 (base := base) ds a1 b c1 (n + 1) (acc ++ [.str [sn[j]]]) k1 (by omega) (by simp only [List.length_append, List.length_cons, List.length_nil]; omega)
    have hz : sn.length ≤ 1000000 := by omega
    have hz2 : acc.length < 1000000 := by omega
    refine ⟨sn[j] :: row, a', c', ?_, by simp [l], ?_, ?_⟩
    · simp [hz, hz2, e1, Cor.atI_nat, hj]
      rw [e]
      simp
    · intro x hx
      rcases List.mem_cons.mp hx with rfl | hx
      · exact hs _ (List.getElem_mem hj)
      · exact v x hx
    · rw [List.length_cons, show n + (ds.length + 1) = n + 1 + ds.length by omega]
      exact k
theorem song_s1 {a b c m : Int} {r1 a1 c1 : Int} {sn : List Nat} (e1 : f__law_pick [dk a b c, .int 4] = .ret (.int r1) false (some (dk a1 b c1))) (es : atI [Cor.D.str [45, 97, 98], .str [45, 97, 97, 98, 98], .str [97, 97, 98], .str [45, 97]] r1 = some (.str sn)) :
    sSet 2 (eSub (eLst (aCons (eLit (.str [45, 97, 98])) (aCons (eLit (.str [45, 97, 97, 98, 98])) (aCons (eLit (.str [97, 97, 98])) (aCons (eLit (.str [45, 97])) aNil))))) (eCallIo f__law_pick 0 (aCons (eLit (.int 4)) aNil))) (startE 4 true [dk a b c, .int m]) = .nx [.io (dk a1 b c1), .val (.int m), .val (.str sn), .no] := by
  simp [startE, e1, es]
theorem song_r1 {b m a1 c1 a2 c2 : Int} {q : Nat} {sn : List Nat} (e2 : f__law_pick [dk a1 b c1, .int (m + 1)] = .ret (.int q) false (some (dk a2 b c2))) :
    iRng1 (eCallIo f__law_pick 0 (aCons (eBin .Add (eVar 1) (eLit (.int 1))) aNil)) [.io (dk a1 b c1), .val (.int m), .val (.str sn), .no] = outI (rngD 0 (q : Int)) [.io (dk a2 b c2), .val (.int m), .val (.str sn), .no] := by
  have h : eCallIo f__law_pick 0 (aCons (eBin .Add (eVar 1) (eLit (.int 1))) aNil) [.io (dk a1 b c1), .val (.int m), .val (.str sn), .no] = .ok (.int q) false [.io (dk a2 b c2), .val (.int m), .val (.str sn), .no] := by simp [e2]
  rw [x_iRng1, h, iK_ok, rg1_int]
theorem song_end {row : List Nat} {E : Cor.Env} (jo : m1D .join (.str []) (.lst (row.map fun c => .str [c])) = some (.str row)) {ma : Cor.Env → RE} {E0 : Cor.Env} (h : ma E0 = .ok (.lst (row.map fun c => .str [c])) true E) :
    eM1 .join (eLit (.str [])) ma E0 = .ok (.str row) false E := by
  rw [x_eM1, x_eLit, m1K_ok, h, K1_ok, jo, outD_some]
theorem song_sn {r1 : Int} (g1 : 0 ≤ r1) (k1 : r1 < 4) : ∃ sn : List Nat, atI [Cor.D.str [45, 97, 98], .str [45, 97, 97, 98, 98], .str [97, 97, 98], .str [45, 97]] r1 = some (.str sn) ∧ (∀ c ∈ sn, Ev c) ∧ 1 ≤ sn.length ∧ sn.length ≤ 10 := by
  have : r1 = 0 ∨ r1 = 1 ∨ r1 = 2 ∨ r1 = 3 := by omega
  rcases this with rfl | rfl | rfl | rfl <;> refine ⟨_, by simp; rfl, ?_, by decide, by decide⟩ <;> intro c hc <;> simp at hc <;> unfold Ev <;> omega
theorem song_body {row : List Nat} {a b c m a1 c1 a' c' : Int} {sn : List Nat} (s1 : sSet 2 (eSub (eLst (aCons (eLit (.str [45, 97, 98])) (aCons (eLit (.str [45, 97, 97, 98, 98])) (aCons (eLit (.str [97, 97, 98])) (aCons (eLit (.str [45, 97])) aNil))))) (eCallIo f__law_pick 0 (aCons (eLit (.int 4)) aNil))) (startE 4 true [dk a b c, .int m]) = .nx [.io (dk a1 b c1), .val (.int m), .val (.str sn), .no])
    (s2 : eM1 .join (eLit (.str [])) (eComp [3] (iRng1 (eCallIo f__law_pick 0 (aCons (eBin .Add (eVar 1) (eLit (.int 1))) aNil))) (.nm 3) eYes (eSub (eVar 2) (eCallIo f__law_pick 0 (aCons (eB1 .len (eVar 2)) aNil)))) [.io (dk a1 b c1), .val (.int m), .val (.str sn), .no] = .ok (.str row) false [.io (dk a' b c'), .val (.int m), .val (.str sn), .no]) :
    f__law_song [dk a b c, .int m] = .ret (.str row) false (some (dk a' b c')) := by
  unfold f__law_song
  rw [x_sem1]
  unfold m__law_song
  rw [x_bCons, s1, bK_nx, x_bCons, x_sRet, s2, sK_ok, bK_rt, fin1_rt]
  rfl
theorem song_ok {a b c m : Int} {n : Nat} (h : DkOk a b c n) (hn : n ≤ 80000) (m0 : 0 ≤ m) (m1 : m ≤ 60) : ∃ (row : List Nat) (a' c' : Int), f__law_song [dk a b c, .int m] = .ret (.str row) false (some (dk a' b c')) ∧ RowOk row ∧ DkOk a' b c' (n + 62) := by
  obtain ⟨r1, a1, c1, e1, g1, k1, h1⟩ := pick_ok h (l := 4) (by decide) (by decide) (by omega)
  obtain ⟨r2, a2, c2, e2, g2, k2, h2⟩ := pick_ok h1 (l := m + 1) (by omega) (by omega) (by omega)
  obtain ⟨q, rfl⟩ : ∃ q : Nat, r2 = q := ⟨r2.toNat, by omega⟩
  obtain ⟨sn, es, hs, s1, s2⟩ := song_sn g1 k1
  obtain ⟨row, a', c', e, l, v, k⟩ := song_loop (m := m) hs s1 s2 (base := [.io (dk a2 b c2), .val (.int m), .val (.str sn), .no]) ((List.range q).map fun k => .int (k : Nat)) a2 b c2 (n + 1 + 1) [] h2 (by simp only [List.length_map, List.length_range]; omega) (by simp only [List.length_map, List.length_range, List.length_nil]; omega)
  simp only [List.length_map, List.length_range, List.nil_append] at l k e
  have rq := rngD_nat (n := q) (by omega)
  have jo := join_ok (row := row) (by omega)
  refine ⟨row, a', c', song_body (song_s1 e1 es) (song_end jo ?_), ⟨v, by omega⟩, ⟨k.a0, k.b0, k.b1, k.c0, by have := k.c1; omega⟩⟩
  have w : wipeE [.io (dk a2 b c2), .val (.int m), .val (.str sn), .no] [3] = some [.io (dk a2 b c2), .val (.int m), .val (.str sn), .no] := by simp
  rw [x_eComp, song_r1 e2, rq, outI_some, cK_ok, w, cK2_ok, e, cK3_ok]
  rfl
end HD
set_option Elab.async false
set_option linter.all false
set_option maxRecDepth 100000
set_option maxHeartbeats 8000000
namespace HD
open PySem PySem.Spec L2 Cor
theorem gone_len {r : Rul} : ∀ (row : List Nat) {xs : List Int}, xs ≠ [] → xs.length ≤ r.k.toNat + 1 → (gone r xs row).length ≤ r.k.toNat + 1
  | [], xs, _, h => h
  | c :: cs, xs, hx, h => gone_len cs (mv_ne (r := r) (c := c) hx) (mv_k hx h)
/-- lengths of the files' lists -/
theorem lens_ok {base e : Cor.Env} {t B : Int} {xs : List Int} (hb : Bd B xs) (hl : xs.length ≤ 1000) {a0 a1 a2 a3 a4 a5 a6 a7 a8 a9 a10 a11 : Cor.Slot} :
    compL [12] base (.nm 12) eYes (eB1 .len (eVar 12)) (sg .lst t xs) [a0, a1, a2, a3, a4, a5, a6, a7, a8, a9, a10, a11, .no] [] = .ok (xs.map Cor.D.int) [a0, a1, a2, a3, a4, a5, a6, a7, a8, a9, a10, a11, .no] := by
  have key := compL_map (vs := [12]) (base := base) (t := .nm 12) (mc := eYes) (me := eB1 .len (eVar 12)) (e := [a0, a1, a2, a3, a4, a5, a6, a7, a8, a9, a10, a11, .no]) Cor.D.lst (fun l => .int (l.length : Nat)) (ys := sgs t xs) (acc := [])
    (fun l _ => ⟨[a0, a1, a2, a3, a4, a5, a6, a7, a8, a9, a10, a11, .val (.lst l)], false, [a0, a1, a2, a3, a4, a5, a6, a7, a8, a9, a10, a11, .val (.lst l)], false, [a0, a1, a2, a3, a4, a5, a6, a7, a8, a9, a10, a11, .val (.lst l)], by simp, rfl, by simp, by simp⟩) (by simp only [List.length_nil, sgs_len]; omega)
  rw [← sg_sgs, sgs_lens hb, List.nil_append] at key
  exact key
theorem tups_ok {base : Cor.Env} {t : Int} {xs : List Int} (hl : xs.length ≤ 1000) {a0 a1 a2 a3 a4 a5 a6 a7 a8 a9 a10 a11 : Cor.Slot} :
    compL [12] base (.nm 12) eYes (eB1 .tuple (eVar 12)) (sg .lst t xs) [a0, a1, a2, a3, a4, a5, a6, a7, a8, a9, a10, a11, .no] [] = .ok (sg .tup t xs) [a0, a1, a2, a3, a4, a5, a6, a7, a8, a9, a10, a11, .no] := by
  have key := compL_map (vs := [12]) (base := base) (t := .nm 12) (mc := eYes) (me := eB1 .tuple (eVar 12)) (e := [a0, a1, a2, a3, a4, a5, a6, a7, a8, a9, a10, a11, .no]) Cor.D.lst Cor.D.tup (ys := sgs t xs) (acc := [])
    (fun l _ => ⟨[a0, a1, a2, a3, a4, a5, a6, a7, a8, a9, a10, a11, .val (.lst l)], false, [a0, a1, a2, a3, a4, a5, a6, a7, a8, a9, a10, a11, .val (.lst l)], false, [a0, a1, a2, a3, a4, a5, a6, a7, a8, a9, a10, a11, .val (.lst l)], by simp, rfl, by simp, by simp⟩) (by simp only [List.length_nil, sgs_len]; omega)
  rw [← sg_sgs, ← sg_sgs, List.nil_append] at key
  exact key
end HD
set_option Elab.async false
set_option linter.all false
set_option maxRecDepth 100000
set_option maxHeartbeats 16000000
namespace HD
open PySem PySem.Spec L2 Cor
def lBody : Cor.Env → RS := (bCons (sSet 7 (eCallIo f__law_rule 3 aNil))
  (bCons (sSet 8 (eCallIo f__law_song 3 (aCons (eSub (eLst (aCons (eLit (.int 8)) (aCons (eLit (.int 60)) aNil))) (eCallIo f__law_pick 3 (aCons (eLit (.int 2)) aNil))) aNil)))
  (bCons (sSet 9 (eSub (eCall f__law_files (aCons (eVar 7) (aCons (eVar 8) aNil))) (eNeg (eLit (.int 1)))))
  (bCons (sSet 10 (eB1 .tuple (eComp [12] (iAny (eVar 9)) (.nm 12) eYes (eB1 .len (eVar 12)))))
  (bCons (sIf (eOr (eNot (eCall (f__law_same 6) (aCons (eCall f_sizes (aCons (eVar 7) (aCons (eVar 8) aNil))) (aCons (eVar 10) aNil)))) (eNot (eCall (f__law_same 6) (aCons (eCall f_pages (aCons (eVar 7) (aCons (eVar 8) aNil))) (aCons (eCall f__law_weight (aCons (eVar 7) (aCons (eVar 10) aNil))) aNil))))) (bCons (sRet (eLit (.bl false)))
  bNil) bNil)
  (bCons (sSet 11 (eCall f_kept (aCons (eVar 7) (aCons (eVar 8) aNil))))
  (bCons (sIf (eNot (eCallRd (f__law_same 6) 11 (aCons (eComp [12] (iAny (eVar 9)) (.nm 12) eYes (eB1 .tuple (eVar 12))) aNil))) (bCons (sRet (eLit (.bl false)))
  bNil) bNil)
  (bCons (sApp 11 (eTup aNil))
  (bCons (sIf (eCmp .NotEq (eB1 .len (eCall f_kept (aCons (eVar 7) (aCons (eVar 8) aNil)))) (eB1 .len (eVar 9))) (bCons (sRet (eLit (.bl false)))
  bNil) bNil)
  bNil)))))))))
theorem turn_ok {a b c : Int} {n : Nat} {a0 a1 a2 a4 a5 a6 a7 a8 a9 a10 a11 : Cor.Slot} (h : DkOk a b c n) (hn : n ≤ 50000) (n7 : a7.nio = true) (n8 : a8.nio = true) (n9 : a9.nio = true) (n10 : a10.nio = true) (n11 : a11.nio = true) :
    ∃ (a' c' : Int) (b7 b8 b9 b10 b11 : Cor.Slot), lBody [a0, a1, a2, .own (dk a b c), a4, a5, a6, a7, a8, a9, a10, a11, .no] = .nx [a0, a1, a2, .own (dk a' b c'), a4, a5, a6, b7, b8, b9, b10, b11, .no] ∧ DkOk a' b c' (n + 71) ∧ b7.nio = true ∧ b8.nio = true ∧ b9.nio = true ∧ b10.nio = true ∧ b11.nio = true := by
  obtain ⟨r, x1, y1, e1, ro, d1⟩ := rule_ok h (by omega)
  obtain ⟨q, x2, y2, e2, g0, g1, d2⟩ := pick_ok d1 (l := 2) (by decide) (by decide) (by omega)
  obtain ⟨m, hm, m0, m1⟩ : ∃ m : Int, atI [Cor.D.int 8, .int 60] q = some (.int m) ∧ 0 ≤ m ∧ m ≤ 60 := by
    have : q = 0 ∨ q = 1 := by omega
    rcases this with rfl | rfl
    · exact ⟨8, by simp, by decide, by decide⟩
    · exact ⟨60, by simp, by decide, by decide⟩
  obtain ⟨row, x3, y3, e3, rr, d3⟩ := song_ok d2 (by omega) m0 m1
  obtain ⟨acc, ef, la⟩ := files_ok ro rr
  have lb : atI acc (-1) = some (Ln (tot row) (gone r [0] row)) := by rw [Cor.atI_last]; exact la
  have gl := gone_len (r := r) row (xs := [0]) (by simp) (by simp)
  have k3 := ro.k3
  have gl2 : (gone r [0] row).length ≤ 100 := by omega
  have gb0 : Bd (0 + 2 * row.length) (gone r [0] row) := gone_bd row (by intro x hx; simp at hx; omega) (Int.le_refl _)
  have rl := rr.len
  have gb : Bd 200 (gone r [0] row) := gb0.mono (by omega)
  have es := sizes_ok ro rr
  have ep := pages_ok ro rr (by omega)
  have ek := kept_ok ro rr gl2 gb
  have ew := weight_okT ro (xs := gone r [0] row) (by omega)
  have L1 := fun (base : Cor.Env) (a0 a1 a2 a3 a4 a5 a6 a7 a8 a9 a10 a11 : Cor.Slot) => lens_ok (base := base) (t := tot row) gb (by omega) (e := []) (a0 := a0) (a1 := a1) (a2 := a2) (a3 := a3) (a4 := a4) (a5 := a5) (a6 := a6) (a7 := a7) (a8 := a8) (a9 := a9) (a10 := a10) (a11 := a11)
  have L2' := fun (base : Cor.Env) (a0 a1 a2 a3 a4 a5 a6 a7 a8 a9 a10 a11 : Cor.Slot) => tups_ok (base := base) (t := tot row) (xs := gone r [0] row) (by omega) (a0 := a0) (a1 := a1) (a2 := a2) (a3 := a3) (a4 := a4) (a5 := a5) (a6 := a6) (a7 := a7) (a8 := a8) (a9 := a9) (a10 := a10) (a11 := a11)
  have s1 : f__law_same 6 [tI (gone r [0] row), tI (gone r [0] row)] = _ := same_tI (n := 4) (xs := gone r [0] row)
  have s2 : f__law_same 6 [.int (wt r.f (gone r [0] row)), .int (wt r.f (gone r [0] row))] = _ := same_int (n := 5)
  have s3 : f__law_same 6 [.lst (sg .tup (tot row) (gone r [0] row)), .lst (sg .tup (tot row) (gone r [0] row))] = _ := same_sg (n := 3)
  have hz : (sg Cor.D.tup (tot row) (gone r [0] row)).length < 1000000 := by rw [sg_len]; omega
  have hq : ((sg Cor.D.tup (tot row) (gone r [0] row)).length : Int) = ((sg Cor.D.lst (tot row) (gone r [0] row)).length : Int) := by rw [sg_len, sg_len]
  refine ⟨x3, y3, .val r.d', .val (.str row), .val (Ln (tot row) (gone r [0] row)), .val (tI (gone r [0] row)), .own (.lst (sg .tup (tot row) (gone r [0] row) ++ [.tup []])), ?_, ⟨d3.a0, d3.b0, d3.b1, d3.c0, by have := d3.c1; omega⟩, rfl, rfl, rfl, rfl, rfl⟩
  · unfold lBody
    simp [e1, e2, hm, e3, n7, n8, n9, n10, n11, ef, lb, L1, L2', es, ep, ek, ew, s1, s2, s3, hz, hq, Cor.D.isAtom]
end HD
set_option Elab.async false
set_option linter.all false
set_option maxRecDepth 100000
set_option maxHeartbeats 16000000
namespace HD
open PySem PySem.Spec L2 Cor
theorem law_ok (ns : List Int) (hl : ns.length ≤ 63) : f_law [.lst (ns.map Cor.D.int)] = .ret (.bl true) false none := by
  unfold f_law
  rw [x_sem0]
  unfold m_law
  obtain ⟨d8, hd8, hl8, hg8⟩ := rng_get 8 (by decide)
  obtain ⟨d10, hd10, hl10, hg10⟩ := rng_get 10 (by decide)
  have hd8 : rngD 0 8 = some d8 := hd8
  have hd10 : rngD 0 10 = some d10 := hd10
  have cell : ∀ i : Nat, i < 8 → ∃ n : Int, (ns.map Cor.D.int ++ [.int 0, .int 0, .int 0, .int 0, .int 0, .int 0, .int 0, .int 0])[i]? = some (.int n) := fun i hi => by
    by_cases h : i < ns.length
    · exact ⟨ns[i], by rw [List.getElem?_append_left (by simpa using h), List.getElem?_map, List.getElem?_eq_getElem h]; rfl⟩
    · refine ⟨0, ?_⟩
      rw [List.getElem?_append_right (by simpa using h)]
      have : i - (ns.map Cor.D.int).length = 0 ∨ i - (ns.map Cor.D.int).length = 1 ∨ i - (ns.map Cor.D.int).length = 2 ∨ i - (ns.map Cor.D.int).length = 3 ∨ i - (ns.map Cor.D.int).length = 4 ∨ i - (ns.map Cor.D.int).length = 5 ∨ i - (ns.map Cor.D.int).length = 6 ∨ i - (ns.map Cor.D.int).length = 7 := by omega
      rcases this with h | h | h | h | h | h | h | h <;> rw [h] <;> rfl
  let I : Cor.Env → Prop := fun e => ∃ s1 s3 s4 s7 s8 s9 s10 s11, e = [.val (.lst (ns.map Cor.D.int)), s1, .no, s3, s4, .no, .no, s7, s8, s9, s10, s11, .no] ∧ s1.nio = true ∧ s3.nio = true ∧ s4.nio = true ∧ s7.nio = true ∧ s8.nio = true ∧ s9.nio = true ∧ s10.nio = true ∧ s11.nio = true
  rw [x_bCons]
  refine fin_bK (P := I) ?_ ?_
  · simp [startE, hd8]
    refine goes_for (fun i e => I e) ⟨_, _, _, _, _, _, _, _, rfl, rfl, rfl, rfl, rfl, rfl, rfl, rfl, rfl⟩ ?_ (fun e h => h)
    rintro i x e hx ⟨s1, s3, s4, s7, s8, s9, s10, s11, rfl, n1, n3, n4, n7, n8, n9, n10, n11⟩
    obtain ⟨rfl, hi⟩ := hg8 i x hx
    refine ⟨_, by simp [n1]; rfl, .inl ?_⟩
    obtain ⟨n, hn⟩ := cell i hi
    obtain ⟨a, b, hdk, dko⟩ := deck_ok n i (by omega) 8 (by omega)
    have hz : ns.length + 8 ≤ 1000000 := by omega
    simp [n3, Cor.atI_nat, hn, hz, hdk, hd10]
    refine goes_bK (P := I) ?_ (fun e h => ⟨e, rfl, h⟩)
    refine goes_for (fun j e => ∃ s4 s7 s8 s9 s10 s11 a c, e = [.val (.lst (ns.map Cor.D.int)), .val (.int i), .no, .own (dk a b c), s4, .no, .no, s7, s8, s9, s10, s11, .no] ∧ DkOk a b c (8 + 71 * j) ∧ s4.nio = true ∧ s7.nio = true ∧ s8.nio = true ∧ s9.nio = true ∧ s10.nio = true ∧ s11.nio = true) ⟨_, _, _, _, _, _, _, _, rfl, dko, n4, n7, n8, n9, n10, n11⟩ ?_ (fun e ⟨s4, s7, s8, s9, s10, s11, a, c, h, _, m⟩ => ⟨_, _, _, _, _, _, _, _, h, rfl, rfl, m⟩)
    clear dko hdk
    rintro j x e hx ⟨s4, s7, s8, s9, s10, s11, a, c, rfl, dko, m4, m7, m8, m9, m10, m11⟩
    obtain ⟨rfl, hj⟩ := hg10 j x hx
    refine ⟨_, by simp [m4]; rfl, .inl ?_⟩
    obtain ⟨a', c', b7, b8, b9, b10, b11, e, d2, p7, p8, p9, p10, p11⟩ := turn_ok (a0 := .val (.lst (ns.map Cor.D.int))) (a1 := .val (.int i)) (a2 := .no) (a4 := .val (.int j)) (a5 := .no) (a6 := .no) dko (by omega) m7 m8 m9 m10 m11
    exact ⟨_, e, _, _, _, _, _, _, _, _, rfl, ⟨d2.a0, d2.b0, d2.b1, d2.c0, by have := d2.c1; omega⟩, rfl, p7, p8, p9, p10, p11⟩
  · rintro e ⟨s1, s3, s4, s7, s8, s9, s10, s11, rfl, _⟩
    have R1 : RulOk ⟨2, false, true, false, 2, none, 1⟩ := ⟨by decide, by decide, by decide, by decide, (fun _ h => by cases h), by decide, by decide⟩
    have R2 : RulOk ⟨2, true, false, false, 1, none, 1⟩ := ⟨by decide, by decide, by decide, by decide, (fun _ h => by cases h), by decide, by decide⟩
    have R3 : RulOk ⟨1, false, false, false, 3, some 4, 2⟩ := ⟨by decide, by decide, by decide, by decide, (fun _ h => by cases h; decide), by decide, by decide⟩
    have R4 : RulOk ⟨3, true, true, true, 3, some 2, 1⟩ := ⟨by decide, by decide, by decide, by decide, (fun _ h => by cases h; decide), by decide, by decide⟩
    have R5 : RulOk ⟨1, false, true, true, 0, none, 1⟩ := ⟨by decide, by decide, by decide, by decide, (fun _ h => by cases h), by decide, by decide⟩
    have w : ∀ row : List Nat, (row.all fun c => c == 45 || (c == 97 || c == 98)) = true → row.length ≤ 60 → RowOk row := fun row h1 h2 => ⟨fun c hc => by
      have := List.all_eq_true.mp h1 c hc
      simpa [Ev] using this, h2⟩
    have g1 : gone ⟨2, false, true, false, 2, none, 1⟩ [0] [97, 98, 97, 45, 98] = [0, 2, 1] := by decide +kernel
    have g2 : gone ⟨2, true, false, false, 1, none, 1⟩ [0] [97, 97, 97, 98] = [2, 1] := by decide +kernel
    have g3 : gone ⟨1, false, false, false, 3, some 4, 2⟩ [0] [98, 98, 98] = [0, 2, 2, 2] := by decide +kernel
    have g4 : gone ⟨3, true, true, true, 3, some 2, 1⟩ [0] [98, 45, 97] = [1] := by decide +kernel
    have g5 : gone ⟨2, false, true, false, 2, none, 1⟩ [0] [] = [0] := rfl
    have g6 : gone ⟨1, false, true, true, 0, none, 1⟩ [0] [97, 98, 45, 45] = [0] := by decide +kernel
    have q1 := sizes_ok R1 (w [97, 98, 97, 45, 98] (by decide) (by decide))
    have q2 := sizes_ok R2 (w [97, 97, 97, 98] (by decide) (by decide))
    have q3 := sizes_ok R3 (w [98, 98, 98] (by decide) (by decide))
    have q4 := sizes_ok R4 (w [98, 45, 97] (by decide) (by decide))
    have q5 := sizes_ok R1 (w [] (by decide) (by decide))
    have q6 := sizes_ok R5 (w [97, 98, 45, 45] (by decide) (by decide))
    have q7 := pages_ok R3 (w [98, 98, 98] (by decide) (by decide)) (by rw [g3]; decide)
    have q8 := kept_ok R1 (w [97, 98, 97, 45, 98] (by decide) (by decide)) (by rw [g1]; decide) (by rw [g1]; intro x hx; simp at hx; omega)
    have g7 : wt 2 [0, 2, 2, 2] = 4 := by decide +kernel
    have g8 : sg .tup (tot [97, 98, 97, 45, 98]) [0, 2, 1] = [.tup [], .tup [.int 4, .int 5], .tup [.int 3]] := rfl
    simp only [g1, g2, g3, g4, g5, g6, g7, g8, Rul.d', tI, List.map_cons, List.map_nil, pg_none, pg_some] at q1 q2 q3 q4 q5 q6 q7 q8
    simp [q1, q2, q3, q4, q5, q6, q7, q8]
end HD
set_option Elab.async false
set_option linter.all false
set_option maxRecDepth 100000
set_option maxHeartbeats 0
namespace HD
open PySem PySem.Spec PyProof.Rows L2 Cor
theorem fct {K : PySem.W.Frag} {h : Heap} {mg : Str → Option Value} (X : K.In h) (G : h.Ns mainGlobals mg) (c : He.SaysD fa fn K) (cm : ex K = true) : Fct K mg where
  m_all := He.free_ok X G (c.fact 23 (f := .free "all") rfl)
  m_bool := He.free_ok X G (c.fact 24 (f := .free "bool") rfl)
  m_enumerate := He.free_ok X G (c.fact 25 (f := .free "enumerate") rfl)
  m_int := He.free_ok X G (c.fact 26 (f := .free "int") rfl)
  m_isinstance := He.free_ok X G (c.fact 27 (f := .free "isinstance") rfl)
  m_len := He.free_ok X G (c.fact 28 (f := .free "len") rfl)
  m_list := He.free_ok X G (c.fact 29 (f := .free "list") rfl)
  m_range := He.free_ok X G (c.fact 30 (f := .free "range") rfl)
  m_str := He.free_ok X G (c.fact 31 (f := .free "str") rfl)
  m_sum := He.free_ok X G (c.fact 32 (f := .free "sum") rfl)
  m_tuple := He.free_ok X G (c.fact 33 (f := .free "tuple") rfl)
  g_MOST_SIZE := He.int_ok X G (c.fact 34 (f := .int "MOST_SIZE" 3) rfl)
  g_MOST_KEEP := He.int_ok X G (c.fact 35 (f := .int "MOST_KEEP" 3) rfl)
  g_MOST_PAGES := He.int_ok X G (c.fact 36 (f := .int "MOST_PAGES" 12) rfl)
  g_MOST_FACTOR := He.int_ok X G (c.fact 37 (f := .int "MOST_FACTOR" 3) rfl)
  g_MOST_EVENTS := He.int_ok X G (c.fact 38 (f := .int "MOST_EVENTS" 60) rfl)
  g_EVENTS := He.str_ok X G (c.fact 39 (f := .str "EVENTS" "-ab") rfl)
  t_FIRST := ⟨_, He.glo_ok X G (c.fact 40 (f := .glo "FIRST") rfl), fun H => He.tupB_ok cm H⟩
/-- what a run of the law's def is worth -/
def spLaw (K : PySem.W.Frag) : Sp := fun vs H Q _ => ∃ (a : Addr) (ns : List Int), vs = [.ref a] ∧ ns.length ≤ 63 ∧ SqL K H a (ns.map V.int) ∧ ∀ H', Q (.bl true) H'
theorem sp_of {K : PySem.W.Frag} {mg : Str → Option Value} (vs : List V) (H : Hp) (Q : VK) (E : XK) (h : spLaw K vs H Q E) : spOf K mg 1 false f_law vs H Q E := by
  obtain ⟨a, ns, rfl, hl, hS, hQ⟩ := h
  refine ⟨rfl, none, [.lst (ns.map Cor.D.int)], H, rfl, (fun h => nomatch h), ER.nil (Same.refl _), .cons (.lst hS (Reps.ofInts ns)) .nil, ?_⟩
  show match f_law [.lst (ns.map Cor.D.int)] with
    | .ret d fr z => _
    | .exc c z => _
    | .no => False
  rw [law_ok ns hl]
  refine ⟨rfl, fun v H' Hf' _ _ y => ?_⟩
  unfold VR at y
  have y : Rep K mg Hf' (.bl true) v := by simpa using y
  rw [y.blInv]
  exact hQ H'
theorem facts {P : Program} {w : World} {K : PySem.W.Frag} {h : Heap} {mg : Str → Option Value} {f : Addr} (X : K.In h) (G : h.Ns mainGlobals mg) (hfa : mg ("law" : Str) = some (.ref f)) (c : He.SaysD fa fn K) (cm : ex K = true) :
    ∃ fd : FuncData, (∀ (s : Shared) (v : Value), BindsTo s fd ⟨[v], []⟩ [("_law_script", v)]) ∧ ∀ base : Heap, K.In base → base.Ns mainGlobals mg → FnOk P w K mg base (L2.CX P w) 8 f fd ["_law_script"] (spLaw K) := by
  have F0 := fct X G c cm
  obtain ⟨fd__law_deck, F__law_deck⟩ := c.def_ 14 (d := d28) rfl
  obtain ⟨fd_is_from, F_is_from⟩ := c.def_ 0 (d := d11) rfl
  obtain ⟨fd_is_rule_of, F_is_rule_of⟩ := c.def_ 1 (d := d12) rfl
  obtain ⟨fd_need_rule, F_need_rule⟩ := c.def_ 3 (d := d14) rfl
  obtain ⟨fd_is_row_of, F_is_row_of⟩ := c.def_ 2 (d := d13) rfl
  obtain ⟨fd_need_row, F_need_row⟩ := c.def_ 4 (d := d15) rfl
  obtain ⟨fd_pages_of, F_pages_of⟩ := c.def_ 5 (d := d18) rfl
  obtain ⟨fd_within, F_within⟩ := c.def_ 7 (d := d20) rfl
  obtain ⟨fd_turned, F_turned⟩ := c.def_ 6 (d := d19) rfl
  obtain ⟨fd_moved, F_moved⟩ := c.def_ 8 (d := d21) rfl
  obtain ⟨fd_walked, F_walked⟩ := c.def_ 9 (d := d22) rfl
  obtain ⟨fd_behind, F_behind⟩ := c.def_ 10 (d := d23) rfl
  obtain ⟨fd_sizes, F_sizes⟩ := c.def_ 11 (d := d24) rfl
  obtain ⟨fd__law_pick, F__law_pick⟩ := c.def_ 15 (d := d29) rfl
  obtain ⟨fd__law_rule, F__law_rule⟩ := c.def_ 20 (d := d36) rfl
  obtain ⟨fd__law_song, F__law_song⟩ := c.def_ 21 (d := d37) rfl
  obtain ⟨fd_kept, F_kept⟩ := c.def_ 13 (d := d26) rfl
  obtain ⟨fd_pages, F_pages⟩ := c.def_ 12 (d := d25) rfl
  obtain ⟨fd__law_weight, F__law_weight⟩ := c.def_ 18 (d := d32) rfl
  obtain ⟨fd__law_files, F__law_files⟩ := c.def_ 19 (d := d35) rfl
  obtain ⟨fd__law_sort, F__law_sort⟩ := c.def_ 16 (d := d30) rfl
  obtain ⟨fd__law_same, F__law_same⟩ := c.def_ 17 (d := d31) rfl
  obtain ⟨fd_law, F_law⟩ := c.def_ 22 (d := d38) rfl
  have G__law_deck := He.glo_ok X G (c.fact 14 (f := .glo "_law_deck") rfl)
  have c__law_deck : ∀ base, FnS P w K mg base 1 "_law_deck" 2 false f__law_deck := fun base => fnS_of G__law_deck F__law_deck (F__law_deck.bindsN (ps := ["_law_cell", "_law_turn"]) fun _ _ _ _ _ _ us hl => match us, hl with | [_, _], _ => rfl) S__law_deck rfl (b__law_deck F0 )
  have G_is_from := He.glo_ok X G (c.fact 0 (f := .glo "is_from") rfl)
  have c_is_from : ∀ base, FnS P w K mg base 1 "is_from" 3 false f_is_from := fun base => fnS_of G_is_from F_is_from (F_is_from.bindsN (ps := ["value", "low", "high"]) fun _ _ _ _ _ _ us hl => match us, hl with | [_, _, _], _ => rfl) S_is_from rfl (b_is_from F0 )
  have G_is_rule_of := He.glo_ok X G (c.fact 1 (f := .glo "is_rule_of") rfl)
  have c_is_rule_of : ∀ base, FnS P w K mg base 2 "is_rule_of" 1 false f_is_rule_of := fun base => fnS_of G_is_rule_of F_is_rule_of (F_is_rule_of.bindsN (ps := ["value"]) fun _ _ _ _ _ _ us hl => match us, hl with | [_], _ => rfl) S_is_rule_of rfl (b_is_rule_of F0 (c_is_from base))
  have G_need_rule := He.glo_ok X G (c.fact 3 (f := .glo "need_rule") rfl)
  have c_need_rule : ∀ base, FnS P w K mg base 3 "need_rule" 1 false f_need_rule := fun base => fnS_of G_need_rule F_need_rule (F_need_rule.bindsN (ps := ["value"]) fun _ _ _ _ _ _ us hl => match us, hl with | [_], _ => rfl) S_need_rule rfl (b_need_rule F0 (c_is_rule_of base))
  have G_is_row_of := He.glo_ok X G (c.fact 2 (f := .glo "is_row_of") rfl)
  have c_is_row_of : ∀ base, FnS P w K mg base 1 "is_row_of" 1 false f_is_row_of := fun base => fnS_of G_is_row_of F_is_row_of (F_is_row_of.bindsN (ps := ["value"]) fun _ _ _ _ _ _ us hl => match us, hl with | [_], _ => rfl) S_is_row_of rfl (b_is_row_of F0 )
  have G_need_row := He.glo_ok X G (c.fact 4 (f := .glo "need_row") rfl)
  have c_need_row : ∀ base, FnS P w K mg base 2 "need_row" 1 false f_need_row := fun base => fnS_of G_need_row F_need_row (F_need_row.bindsN (ps := ["value"]) fun _ _ _ _ _ _ us hl => match us, hl with | [_], _ => rfl) S_need_row rfl (b_need_row F0 (c_is_row_of base))
  have G_pages_of := He.glo_ok X G (c.fact 5 (f := .glo "pages_of") rfl)
  have c_pages_of : ∀ base, FnS P w K mg base 1 "pages_of" 2 false f_pages_of := fun base => fnS_of G_pages_of F_pages_of (F_pages_of.bindsN (ps := ["rule", "sizes"]) fun _ _ _ _ _ _ us hl => match us, hl with | [_, _], _ => rfl) S_pages_of rfl (b_pages_of F0 )
  have G_within := He.glo_ok X G (c.fact 7 (f := .glo "within") rfl)
  have c_within : ∀ base, FnS P w K mg base 2 "within" 2 false f_within := fun base => fnS_of G_within F_within (F_within.bindsN (ps := ["rule", "sizes"]) fun _ _ _ _ _ _ us hl => match us, hl with | [_, _], _ => rfl) S_within rfl (b_within F0 (c_pages_of base))
  have G_turned := He.glo_ok X G (c.fact 6 (f := .glo "turned") rfl)
  have c_turned : ∀ base, FnS P w K mg base 1 "turned" 2 false f_turned := fun base => fnS_of G_turned F_turned (F_turned.bindsN (ps := ["rule", "sizes"]) fun _ _ _ _ _ _ us hl => match us, hl with | [_, _], _ => rfl) S_turned rfl (b_turned F0 )
  have G_moved := He.glo_ok X G (c.fact 8 (f := .glo "moved") rfl)
  have c_moved : ∀ base, FnS P w K mg base 3 "moved" 3 false f_moved := fun base => fnS_of G_moved F_moved (F_moved.bindsN (ps := ["rule", "sizes", "event"]) fun _ _ _ _ _ _ us hl => match us, hl with | [_, _, _], _ => rfl) S_moved rfl (b_moved F0 (c_turned base) (c_within base))
  have G_walked := He.glo_ok X G (c.fact 9 (f := .glo "walked") rfl)
  have c_walked : ∀ base, FnS P w K mg base 4 "walked" 3 false f_walked := fun base => fnS_of G_walked F_walked (F_walked.bindsN (ps := ["rule", "sizes", "row"]) fun _ _ _ _ _ _ us hl => match us, hl with | [_, _, _], _ => rfl) S_walked rfl (b_walked F0 (c_moved base))
  have G_behind := He.glo_ok X G (c.fact 10 (f := .glo "behind") rfl)
  have c_behind : ∀ base, FnS P w K mg base 5 "behind" 2 false f_behind := fun base => fnS_of G_behind F_behind (F_behind.bindsN (ps := ["rule", "row"]) fun _ _ _ _ _ _ us hl => match us, hl with | [_, _], _ => rfl) S_behind rfl (b_behind F0 (c_walked base))
  have G_sizes := He.glo_ok X G (c.fact 11 (f := .glo "sizes") rfl)
  have c_sizes : ∀ base, FnS P w K mg base 6 "sizes" 2 false f_sizes := fun base => fnS_of G_sizes F_sizes (F_sizes.bindsN (ps := ["rule", "row"]) fun _ _ _ _ _ _ us hl => match us, hl with | [_, _], _ => rfl) S_sizes rfl (b_sizes F0 (c_need_rule base) (c_need_row base) (c_behind base))
  have G__law_pick := He.glo_ok X G (c.fact 15 (f := .glo "_law_pick") rfl)
  have c__law_pick : ∀ base, FnS P w K mg base 1 "_law_pick" 2 true f__law_pick := fun base => fnS_of G__law_pick F__law_pick (F__law_pick.bindsN (ps := ["_law_deck_here", "_law_limit"]) fun _ _ _ _ _ _ us hl => match us, hl with | [_, _], _ => rfl) S__law_pick rfl (b__law_pick F0 )
  have G__law_rule := He.glo_ok X G (c.fact 20 (f := .glo "_law_rule") rfl)
  have c__law_rule : ∀ base, FnS P w K mg base 2 "_law_rule" 1 true f__law_rule := fun base => fnS_of G__law_rule F__law_rule (F__law_rule.bindsN (ps := ["_law_deck_here"]) fun _ _ _ _ _ _ us hl => match us, hl with | [_], _ => rfl) S__law_rule rfl (b__law_rule F0 (c__law_pick base))
  have G__law_song := He.glo_ok X G (c.fact 21 (f := .glo "_law_song") rfl)
  have c__law_song : ∀ base, FnS P w K mg base 2 "_law_song" 2 true f__law_song := fun base => fnS_of G__law_song F__law_song (F__law_song.bindsN (ps := ["_law_deck_here", "_law_most"]) fun _ _ _ _ _ _ us hl => match us, hl with | [_, _], _ => rfl) S__law_song rfl (b__law_song F0 (c__law_pick base))
  have G_kept := He.glo_ok X G (c.fact 13 (f := .glo "kept") rfl)
  have c_kept : ∀ base, FnS P w K mg base 6 "kept" 2 false f_kept := fun base => fnS_of G_kept F_kept (F_kept.bindsN (ps := ["rule", "row"]) fun _ _ _ _ _ _ us hl => match us, hl with | [_, _], _ => rfl) S_kept rfl (b_kept F0 (c_need_rule base) (c_need_row base) (c_behind base))
  have G_pages := He.glo_ok X G (c.fact 12 (f := .glo "pages") rfl)
  have c_pages : ∀ base, FnS P w K mg base 6 "pages" 2 false f_pages := fun base => fnS_of G_pages F_pages (F_pages.bindsN (ps := ["rule", "row"]) fun _ _ _ _ _ _ us hl => match us, hl with | [_, _], _ => rfl) S_pages rfl (b_pages F0 (c_need_rule base) (c_need_row base) (c_pages_of base) (c_behind base))
  have G__law_weight := He.glo_ok X G (c.fact 18 (f := .glo "_law_weight") rfl)
  have c__law_weight : ∀ base, FnS P w K mg base 1 "_law_weight" 2 false f__law_weight := fun base => fnS_of G__law_weight F__law_weight (F__law_weight.bindsN (ps := ["_law_r", "_law_line"]) fun _ _ _ _ _ _ us hl => match us, hl with | [_, _], _ => rfl) S__law_weight rfl (b__law_weight F0 )
  have G__law_files := He.glo_ok X G (c.fact 19 (f := .glo "_law_files") rfl)
  have c__law_files : ∀ base, FnS P w K mg base 2 "_law_files" 2 false f__law_files := fun base => fnS_of G__law_files F__law_files (F__law_files.bindsN (ps := ["_law_r", "_law_song_here"]) fun _ _ _ _ _ _ us hl => match us, hl with | [_, _], _ => rfl) S__law_files rfl (b__law_files F0 (c__law_weight base))
  have G__law_sort := He.glo_ok X G (c.fact 16 (f := .glo "_law_sort") rfl)
  have c__law_sort : ∀ base, FnS P w K mg base 1 "_law_sort" 1 false f__law_sort := fun base => fnS_of G__law_sort F__law_sort (F__law_sort.bindsN (ps := ["_law_thing"]) fun _ _ _ _ _ _ us hl => match us, hl with | [_], _ => rfl) S__law_sort rfl (b__law_sort F0 )
  have G__law_same := He.glo_ok X G (c.fact 17 (f := .glo "_law_same") rfl)
  have c__law_same : ∀ base, FnS P w K mg base 7 "_law_same" 2 false (f__law_same 6) := fun base => by
    have key : ∀ i : Nat, FnS P w K mg base (1 + i) "_law_same" 2 false (f__law_same i) := fun i => by
      induction i with
      | zero => exact fnS_none G__law_same F__law_same (F__law_same.bindsN (ps := ["_law_told", "_law_due"]) fun _ _ _ _ _ _ us hl => match us, hl with | [_, _], _ => rfl) rfl
      | succ i ih => exact fnS_of G__law_same F__law_same (F__law_same.bindsN (ps := ["_law_told", "_law_due"]) fun _ _ _ _ _ _ us hl => match us, hl with | [_, _], _ => rfl) S__law_same rfl (b__law_same F0 (c__law_sort base) ih (Nat.le_add_right _ _))
    exact key 6
  have e := hfa.symm.trans (He.glo_ok X G (c.fact 22 (f := .glo "law") rfl))
  cases e
  have b := FunD.bindsA (ps := ["_law_script"]) F_law fun _ _ _ _ _ _ us hl => match us, hl with | [_], _ => rfl
  refine ⟨fd_law, fun s v => b s [v] rfl, fun base _ _ => FnOk.imp ?_ (sp_of (mg := mg))⟩
  exact F_law.ok S_law (fun vs H Q E h => h.1) fun cdv A outer s H vs Q E hr h => ⟨_, b_law F0 (c__law_deck base) (c__law_rule base) (c__law_song base) (c__law_pick base) (c__law_files base) (c__law_same base) (c_sizes base) (c__law_weight base) (c_pages base) (c_kept base) cdv A outer s H E ⟨rfl, S_law.nd, hr, takes_of rfl rfl rfl rfl⟩ (passes_of rfl), entry (by decide) h⟩
end HD
open PySem PySem.W PySem.Calls PyProof.Rows
theorem PySem.Challenge.cw_turnedlogs_k02_whole_files_line_by_line_holds : PySem.Challenge.rw_turnedlogs_k02_whole_files_line_by_line.Holds := by
  w_on; o_law
  refine HandSHeadRun.head_any (r := OpenLaw.row PySem.Challenge.rw_turnedlogs_k02_whole_files_line_by_line) (q := view (OpenLaw.row PySem.Challenge.rw_turnedlogs_k02_whole_files_line_by_line).prog [38]) (H := HD.hk) (ob := HD.ob) (M := 8000) (loose := HD.loose) (d := HandSHeadRun.topDef (OpenLaw.row PySem.Challenge.rw_turnedlogs_k02_whole_files_line_by_line).prog 38) (kwd := []) HD.ob_eq
    (by kernel_rfl) (fun s => by kernel_rfl) HD.run (by kernel_rfl) (by kernel_rfl) (by kernel_rfl) (by rfl) (by first | assumption | decide +kernel) (by decide +kernel) ⟨rfl, rfl, rfl, rfl, rfl, by decide +kernel⟩ ?hw ?hc
  case hw => w_witness2
  case hc =>
    refine Cor.walk_ofW (l := PySem.Challenge.rw_turnedlogs_k02_whole_files_line_by_line) (n := 63) (k := 8) (x := "_law_script") (CX := fun w => L2.CX (PySem.Challenge.rw_turnedlogs_k02_whole_files_line_by_line).prog w) rfl (by decide) (by kernel_rfl) ⟨rfl, by decide, by decide⟩ ?F (fun _ _ _ _ _ z => Cor.cx_none z)
    intro w mg fa h Y G hmg0
    obtain ⟨K, KX, c⟩ := Y
    have cm := c.more
    replace c := c.t.d
    have hmg : mg ("law" : PySem.Str) = some (.ref fa) := by
      have e : (HandSHeadRun.topDef (OpenLaw.row PySem.Challenge.rw_turnedlogs_k02_whole_files_line_by_line).prog 38).name = ("law" : PySem.Str) := by kernel_rfl
      rw [← e]
      exact hmg0
    obtain ⟨fd, hb, hF⟩ := HD.facts (P := (PySem.Challenge.rw_turnedlogs_k02_whole_files_line_by_line).prog) (w := w) KX G hmg c cm
    exact ⟨K, fd, HD.spLaw K, KX, hb, fun H a ns hl _ hS => ⟨a, ns, rfl, hl, hS, fun _ => rfl⟩, hF⟩
