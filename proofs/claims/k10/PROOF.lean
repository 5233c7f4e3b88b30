import PyProof.Rows.All
import Wide.All
import OpenK.AllK
import Wide.FinOn
import HandS.ForMost
import HandS.Nested
import HandS.ForExc
import HandS.Flow
import PyProof.StrOps2
import HandS.Style
import HandS.IsInst
import HandS.More
import HandS.FStr
import HandS.TupAny
import HandS.Star
import HandS.Property
import HandS.HeadWalk
import HandS.NoneIn
import HandS.Walk
import HandS.Zip
import HandS.DictComp
import HandS.Lambda
import HandS.Small
import KE.GoesMore
import KE.GoesEnum
import HandS.NamedTupGet
import HandS.Head0
import HandS.Head1
import HandS.Head2
import HandS.HeadEnd
import HandS.HeadHook4
import PySem.Challenge.RW_codechain_k10_whole_stuffers_for_all_tex
section
set_option Elab.async false
set_option linter.all false
set_option maxRecDepth 100000
/-! TI0: the tree interpreter. Values are trees; no heap. A slot of the frame holds a tree and a flag: the list (dict, instance) in it is the frame's own. -/
namespace TI
open PySem

/-- built-in types as values -/
inductive Bt where | int | str | bool | list | tuple | dict
  deriving DecidableEq, Repr

/-- a value -/
inductive D where
  | non | bl (b : Bool) | int (i : Int) | str (x : List Nat)
  | tup (xs : List D) | lst (xs : List D) | dct (ks vs : List D)
  | ins (c : Nat) (ns : List Nat) (vs : List D)
  | fn (f : Nat) | cls (c : Nat) | ty (t : Bt)
  | clo (l : Nat) (cs : List D)
  | ref (i : Nat)
  | scr (ns : List Int)
  deriving Inhabited

/-- a built-in that is called by its name -/
inductive Bf where
  | len | abs | int | str | bool | isinstance | all | any | sum | tuple | list | min | max | sorted | repr
  deriving DecidableEq, Repr

/-- methods of built-in types -/
inductive Mt where | join | split
  deriving DecidableEq, Repr
/-- targets -/
inductive ST where
  | nm (i : Nat)
  | tp (ts : List ST)

mutual
/-- expressions -/
inductive SE where
  | cst (d : D)
  | var (i : Nat)
  | bin (op : Operator) (a b : SE)
  | neg (a : SE)
  | not (a : SE)
  | cmp (op : CmpOp) (a b : SE)
  | cmp2 (op op' : CmpOp) (a b c : SE)
  | and (a b : SE)
  | or (a b : SE)
  | ite (c a b : SE)
  | tup (es : List SE)
  | lst (es : List SE)
  | lstS (es : List (Bool × SE))
  | dct1 (t : Bool) (k v : SE)
  | callF (f : Nat) (es : List SE) (ks : List (Nat × SE))
  | callL (f : Nat) (es : List SE)
  | mk (c : Nat) (es : List SE) (ks : List (Nat × SE))
  | callV (f : SE) (es : List SE)
  | bf (b : Bf) (es : List SE)
  | bm (m : Mt) (o e : SE)
  | mth (o : SE) (m : Nat) (es : List SE) (ks : List (Nat × SE))
  | att (o : SE) (f : Nat)
  | sub (o i : SE)
  | sli (o : SE) (lo hi : Option SE)
  | lc (own : List Nat) (e : SE) (tg : ST) (it : SI) (ifs : List SE)
  | dc (own : List Nat) (k v : SE) (tg : ST) (it : SI) (ifs : List SE)
  | lam (l : Nat) (cs : List Nat)
  | fmt (e : SE)
  | fst (es : List SE)
  | lenA (m : Nat) (e : SE)
/-- what a for walks -/
inductive SI where
  | of (e : SE)
  | enum (e : SE)
  | zip (a b : SE)
  | zipA (a b : SE)
  | enumA (e : SE)
  | rng1 (a : SE) | rng2 (a b : SE) | rng3 (a b c : SE)
end

/-- statements -/
inductive SS where
  | expr (e : SE)
  | app (i : Nat) (e : SE)
  | asg (t : ST) (e : SE)
  | par (ts : List Nat) (es : List SE)
  | seti (o : Nat) (i e : SE)
  | setf (o : Nat) (f : Nat) (e : SE)
  | aug (i : Nat) (op : Operator) (e : SE)
  | ret (e : Option SE)
  | ife (c : SE) (a b : List SS)
  | whl (c : SE) (b : List SS)
  | for_ (t : ST) (it : SI) (b : List SS)
  | brk | ct | pass
  | rais (e : SE)

/-- where a parameter's value comes from: the written arguments, the keywords', the defaults -/
inductive Sel where | pos (i : Nat) | kw (i : Nat) | dfl (i : Nat)
structure FnDef where
  np : Nat
  dfl : List D := []
  /-- the ways it is called: so many positional arguments, these keywords (of __init__: without self) -/
  shapes : List (Nat × List Nat × List Sel)
  slots : Nat
  body : List SS
  pen : Bool := false
  isInit : Bool := false
structure LamDef where
  ps : Nat
  cs : Nat
  slots : Nat
  body : SE
structure ClsDef where
  flds : List Nat := []
  init : Option Nat := none
  meths : List (Nat × Nat) := []
  props : List (Nat × Nat) := []
  stats : List (Nat × Nat) := []
  cons : List (Nat × D) := []
  sups : List Nat := []
structure Prg where
  fns : List FnDef
  lams : List LamDef
  clss : List ClsDef
  /-- the names' numbers of __call__, .. -/
  nCall : Nat

structure St where
  env : List (Option (Bool × D))
  sto : List D
  dep : Nat
  /-- the lowest slot that may be assigned -/
  lo : Nat := 0

inductive R (α : Type) where
  | ok (a : α) (s : St)
  | exc (e : D) (s : St)
  | no
/-- a call's end: the value, is it new and held by nobody else, the store -/
inductive RC where
  | ok (d : D) (fr : Bool) (sto : List D)
  | exc (e : D) (sto : List D)
  | no
inductive Fl where
  | nx | ret (d : D) (fr : Bool) | brk | ct

def R.bind {α β : Type} (x : R α) (f : α → St → R β) : R β := match x with
  | .ok a s => f a s
  | .exc e s => .exc e s
  | .no => .no
@[simp] theorem R.bind_ok {α β : Type} (a : α) (s : St) (f : α → St → R β) : (R.ok a s).bind f = f a s := rfl
@[simp] theorem R.bind_no {α β : Type} (f : α → St → R β) : (R.no : R α).bind f = .no := rfl
/-- an exception that nobody here can pass on -/
def R.noExc {α : Type} (x : R α) : R α := match x with
  | .exc _ _ => .no
  | x => x
def lift {α β : Type} (o : Option α) (s : St) (f : α → R β) : R β := match o with
  | some a => f a
  | none => .no

structure Rec where
  ev : SE → St → R (D × Bool)
  tst : SE → St → R Bool
  ex : List SS → St → R Fl
  call : Nat → List D → List D → Nat → RC
  ini : Nat → Nat → List D → Nat → RC
  lam : Nat → List D → List D → Nat → RC

/-! ### plain helpers -/
def isMut : D → Bool
  | .lst _ => true
  | .dct _ _ => true
  | .ins _ _ _ => true
  | _ => false
mutual
/-- nothing in it can be changed by anybody -/
def flat : D → Bool
  | .non | .bl _ | .int _ | .str _ | .fn _ | .cls _ | .ty _ => true
  | .tup xs => flats xs
  | _ => false
def flats : List D → Bool
  | [] => true
  | x :: xs => flat x && flats xs
end

mutual
/-- no closure in it -/
def noClo : D → Bool
  | .clo _ _ => false
  | .tup xs => noClos xs
  | .lst xs => noClos xs
  | .dct _ vs => noClos vs
  | .ins _ _ vs => noClos vs
  | _ => true
def noClos : List D → Bool
  | [] => true
  | x :: xs => noClo x && noClos xs
end

def slot (st : St) (i : Nat) : Option (Bool × D) := (st.env[i]?).join
/-- the slot is handed on: no longer the frame's own -/
def share (st : St) (i : Nat) : St := match (st.env[i]?).join with
  | some (true, d) => { st with env := st.env.set i (some (false, d)) }
  | _ => st
def setv (st : St) (i : Nat) (fr : Bool) (d : D) : St := { st with env := st.env.set i (some (fr, d)) }
def wipeE (env : List (Option (Bool × D))) : List Nat → List (Option (Bool × D))
  | [] => env
  | v :: vs => (wipeE env vs).set v none
/-- the own slots as they were -/
def backE (old env : List (Option (Bool × D))) : List Nat → List (Option (Bool × D))
  | [] => env
  | v :: vs => (backE old env vs).set v ((old[v]?).join)

abbrev ixN := L2.ixN
abbrev atD {α : Type} (xs : List α) (i : Int) : Option α := L2.atI xs i
abbrev sIx := HT.sIx
def cutD {α : Type} (xs : List α) (lo hi : Option Int) : List α := (xs.drop (sIx xs.length 0 lo)).take (sIx xs.length xs.length hi - sIx xs.length 0 lo)

mutual
/-- == of data -/
def eqD : D → D → Bool
  | .non, .non => true
  | .bl a, .bl b => a == b
  | .bl a, .int j => (if a then 1 else 0) == j
  | .int i, .bl b => i == (if b then 1 else 0)
  | .int i, .int j => i == j
  | .str x, .str y => x == y
  | .lst xs, .lst ys => eqDs xs ys
  | .tup xs, .tup ys => eqDs xs ys
  | _, _ => false
def eqDs : List D → List D → Bool
  | [], [] => true
  | x :: xs, y :: ys => eqD x y && eqDs xs ys
  | _, _ => false
end
/-- plain data: None, truths, ints, texts, lists and tuples of these, at most so deep -/
def okD : Nat → D → Bool
  | _, .non => true
  | _, .bl _ => true
  | _, .int _ => true
  | _, .str x => x.all (· < 0x110000)
  | n + 1, .lst xs => xs.all (okD n)
  | n + 1, .tup xs => xs.all (okD n)
  | _, _ => false
/-- a == b -/
def pyEq : D → D → Option Bool
  | .int i, .int j => some (i == j)
  | .str x, .str y => some (x == y)
  | .bl a, .bl b => some (a == b)
  | a, b => if okD 64 a && okD 64 b then some (eqD a b) else none

def lenMax : Nat := 16000000
def okLen {α : Type} (xs : List α) : Bool := decide (xs.length ≤ lenMax)

/-- an int's text -/
def itoa : Int → List Nat
  | .ofNat n => TL.numL n
  | .negSucc n => 45 :: TL.numL (n + 1)
def digs : List Nat → Option Nat
  | [] => none
  | l => if l.all (fun c => 48 ≤ c && c ≤ 57) && decide (l.length ≤ 640) then some (l.foldl (fun acc c => acc * 10 + (c - 48)) 0) else none
/-- the int of a text: figures alone -/
def atoi (x : List Nat) : Option Int := (digs x).map Int.ofNat

/-- the ends of operators: the value, is it new -/
def binop (op : Operator) (a b : D) : Option (D × Bool) := match op, a, b with
  | .Add, .int i, .int j => some (.int (i + j), false)
  | .Add, .str x, .str y => if okLen (x ++ y) then some (.str (x ++ y), false) else none
  | .Add, .lst xs, .lst ys => if okLen (xs ++ ys) then some (.lst (xs ++ ys), true) else none
  | .Sub, .int i, .int j => some (.int (i - j), false)
  | .Mult, .int i, .int j => if (decide (-(2 ^ 64) < i) && decide (i < 2 ^ 64)) || (decide (-(2 ^ 64) < j) && decide (j < 2 ^ 64)) then some (.int (i * j), false) else none
  | .Mult, .lst xs, .int k => if decide (0 ≤ k) && decide (k ≤ lenMax) && decide (xs.length * k.toNat ≤ lenMax) then some (.lst (List.replicate k.toNat xs).flatten, true) else none
  | .Mult, .str x, .int k => if decide (0 ≤ k) && decide (k ≤ lenMax) && decide (x.length * k.toNat ≤ lenMax) then some (.str (List.replicate k.toNat x).flatten, false) else none
  | .FloorDiv, .int i, .int j => if decide (j ≠ 0) && decide (j.natAbs < 1073741824) then some (.int (i.fdiv j), false) else none
  | .Mod, .int i, .int j => if decide (j ≠ 0) then some (.int (i.fmod j), false) else none
  | .Pow, .int i, .int j => if decide (0 ≤ j) && decide (j ≤ 1000000) && decide (i.natAbs < 2 ^ 64) then some (.int (i ^ j.toNat), false) else none
  | _, _, _ => none

mutual
def keyOk : D → Bool
  | .int _ => true
  | .str _ => true
  | .tup xs => keyOks xs
  | _ => false
def keyOks : List D → Bool
  | [] => true
  | .int _ :: xs => keyOks xs
  | .str _ :: xs => keyOks xs
  | _ :: _ => false
end
def look : List D → List D → D → Option D
  | k :: ks, v :: vs, d => if eqD k d then some v else look ks vs d
  | _, _, _ => none
def repl : List D → List D → D → D → List D
  | k :: ks, v :: vs, d, e => (if eqD k d then e else v) :: repl ks vs d e
  | _, _, _, _ => []
def put (ks vs : List D) (d e : D) : List D × List D := if ks.any (fun k => eqD k d) then (ks, repl ks vs d e) else (ks ++ [d], vs ++ [e])
def mem1 (c : Nat) (x : List Nat) : Bool := x.contains c
/-- x in y; for flat things and lists of such -/
def isIn (a b : D) : Option Bool := match b with
  | .str y => match a with
    | .str [c] => some (y.contains c)
    | _ => none
  | .lst ys => if flatS a && ys.all flatS then some (ys.any fun y => eqD y a) else none
  | .tup ys => if flatS a && ys.all flatS then some (ys.any fun y => eqD y a) else none
  | .dct ks vs => if keyOk a && ks.all (sameK a) then some ((look ks vs a).isSome) else none
  | _ => none
where
  flatS : D → Bool
    | .non | .bl _ | .int _ | .str _ => true
    | _ => false
  sameK : D → D → Bool
    | .tup _, .tup _ => true
    | .tup _, _ => false
    | _, .tup _ => false
    | _, _ => true

def ltT : List Nat → List Nat → Bool
  | [], [] => false
  | [], _ :: _ => true
  | _ :: _, [] => false
  | x :: xs, y :: ys => if x = y then ltT xs ys else decide (x < y)
def cmpop (op : CmpOp) (a b : D) : Option Bool := match op, a, b with
  | .Eq, a, b => pyEq a b
  | .NotEq, a, b => (pyEq a b).map (!·)
  | .Lt, .int i, .int j => some (decide (i < j))
  | .LtE, .int i, .int j => some (decide (i ≤ j))
  | .Gt, .int i, .int j => some (decide (j < i))
  | .GtE, .int i, .int j => some (decide (j ≤ i))
  | .Is, a, .non => some (match a with | .non => true | _ => false)
  | .IsNot, a, .non => some (match a with | .non => false | _ => true)
  | .Is, .bl a, .bl b => some (a == b)
  | .IsNot, .bl a, .bl b => some (!(a == b))
  | .In, a, b => isIn a b
  | .NotIn, a, b => (isIn a b).map (!·)
  | _, _, _ => none

/-- truth -/
def truth : D → Option Bool
  | .non => some false
  | .bl b => some b
  | .int i => some (i != 0)
  | .str x => if okLen x then some (!x.isEmpty) else none
  | .lst xs => some (!xs.isEmpty)
  | .tup xs => some (!xs.isEmpty)
  | _ => none

def index (o i : D) : Option D := match o, i with
  | .lst xs, .int k => atD xs k
  | .tup xs, .int k => atD xs k
  | .str x, .int k => if okLen x then (atD x k).map fun c => .str [c] else none
  | .dct ks vs, k => if keyOk k && ks.all (isIn.sameK k) then look ks vs k else none
  | _, _ => none
def slice (o : D) (lo hi : Option Int) : Option (D × Bool) := match o with
  | .str x => if okLen x then some (.str (cutD x lo hi), false) else none
  | .lst xs => some (.lst (cutD xs lo hi), true)
  | .tup xs => some (.tup (cutD xs lo hi), false)
  | .scr ns => some (.lst (cutD (ns.map .int) lo hi), true)
  | _ => none

/-- the class of a value: for isinstance -/
def tyIs (P : Prg) (a : D) (t : D) : Option Bool := match t with
  | .ty t => match a with
    | .non => some false
    | .bl _ => some (t = .bool || t = .int)
    | .int _ => some (t = .int)
    | .str _ => some (t = .str)
    | .lst _ => some (t = .list)
    | .tup _ => some (t = .tuple)
    | .ins c _ _ => (P.clss[c]?).map fun _ => false
    | _ => none
  | .cls c => match P.clss[c]? with
    | none => none
    | some _ => match a with
      | .non | .bl _ | .int _ | .str _ | .lst _ | .tup _ => some false
      | .ins c' _ _ => (P.clss[c']?).map fun d => d.sups.contains c
      | _ => none
  | _ => none
def tyAny (P : Prg) (a : D) : List D → Option Bool
  | [] => some false
  | t :: ts => match tyIs P a t with
    | some true => some true
    | some false => tyAny P a ts
    | none => none

def isTy : D → Bool
  | .ty _ => true
  | .cls _ => true
  | _ => false
def allB : List D → Option (List Bool)
  | [] => some []
  | .bl b :: xs => (allB xs).map (b :: ·)
  | _ :: _ => none
def allI : List D → Option (List Int)
  | [] => some []
  | .int i :: xs => (allI xs).map (i :: ·)
  | _ :: _ => none
def allS : List D → Option (List (List Nat))
  | [] => some []
  | .str x :: xs => (allS xs).map (x :: ·)
  | _ :: _ => none

/-- built-ins by their arguments' values -/
def bLen : List D → Option (D × Bool)
  | [.lst xs] => some (.int xs.length, false)
  | [.tup xs] => some (.int xs.length, false)
  | [.str x] => if okLen x then some (.int x.length, false) else none
  | _ => none
def bAbs : List D → Option (D × Bool)
  | [.int i] => some (.int (if i < 0 then -i else i), false)
  | _ => none
def bInt : List D → Option (D × Bool)
  | [.int i] => some (.int i, false)
  | [.bl b] => some (.int (if b then 1 else 0), false)
  | [.str x] => (atoi x).map fun n => (.int n, false)
  | _ => none
def bStr : List D → Option (D × Bool)
  | [.int i] => if decide (i.natAbs < 2 ^ 1900) then some (.str (itoa i), false) else none
  | _ => none
def bIsi (P : Prg) : List D → Option (D × Bool)
  | [a, .tup (t :: ts)] => if (t :: ts).all isTy then (tyAny P a (t :: ts)).map fun b => (.bl b, false) else none
  | [a, t] => (tyIs P a t).map fun b => (.bl b, false)
  | _ => none
def bAll : List D → Option (D × Bool)
  | [.lst xs] => (allB xs).map fun bs => (.bl (bs.all id), false)
  | _ => none
def bAny : List D → Option (D × Bool)
  | [.lst xs] => (allB xs).map fun bs => (.bl (bs.any id), false)
  | _ => none
def bSum : List D → Option (D × Bool)
  | [.lst xs] => (allI xs).map fun ns => (.int ns.sum, false)
  | _ => none
def bTuple : List D → Option (D × Bool)
  | [.lst xs] => some (.tup xs, false)
  | [.tup xs] => some (.tup xs, false)
  | _ => none
def bList : List D → Option (D × Bool)
  | [.lst xs] => some (.lst xs, true)
  | [.tup xs] => some (.lst xs, true)
  | [.dct ks _] => if ks.all (isIn.sameK (.int 0)) && !ks.isEmpty then some (.lst ks, true) else none
  | _ => none
def lmax : Int → List Int → Int
  | m, [] => m
  | m, x :: xs => lmax (if x > m then x else m) xs
def lmin : Int → List Int → Int
  | m, [] => m
  | m, x :: xs => lmin (if x < m then x else m) xs
def bMax : List D → Option (D × Bool)
  | [.int a, .int b] => some (.int (if b > a then b else a), false)
  | [.lst xs] => (allI xs).bind fun ns => match ns with
    | [] => none
    | m :: ms => some (.int (lmax m ms), false)
  | _ => none
def bMin : List D → Option (D × Bool)
  | [.int a, .int b] => some (.int (if b < a then b else a), false)
  | [.lst xs] => (allI xs).bind fun ns => match ns with
    | [] => none
    | m :: ms => some (.int (lmin m ms), false)
  | _ => none
def bfun (P : Prg) (b : Bf) (ds : List D) : Option (D × Bool) := match b with
  | .len => bLen ds
  | .abs => bAbs ds
  | .int => bInt ds
  | .str => bStr ds
  | .isinstance => bIsi P ds
  | .all => bAll ds
  | .any => bAny ds
  | .sum => bSum ds
  | .tuple => bTuple ds
  | .list => bList ds
  | .max => bMax ds
  | .min => bMin ds
  | _ => none

def mJoin (s : List Nat) : D → Option (D × Bool)
  | .lst xs => (allS xs).bind fun ts => if decide ((ts.map (·.length)).sum + ts.length * s.length ≤ lenMax) then some (.str (TL.joinL s ts), false) else none
  | _ => none
def mSplit (x : List Nat) : D → Option (D × Bool)
  | .str [c] => if decide (c < 256) && okLen x then some (.lst ((TL.spl [c] 0 [] x).map .str), true) else none
  | _ => none
def mfun (m : Mt) (x : List Nat) (d : D) : Option (D × Bool) := match m with
  | .join => mJoin x d
  | .split => mSplit x d

/-! ### the interpreter, one level: r is the level below -/
section
variable (P : Prg) (r : Rec)
/-- looked at: the slot stays as it is -/
def pk (e : SE) (st : St) : R D := match e with
  | .var i => lift (slot st i) st fun p => .ok p.2 st
  | e => (r.ev e st).bind fun p st => .ok p.1 st
def pks : List SE → St → R (List D)
  | [], st => .ok [] st
  | e :: es, st => (pk r e st).bind fun d st => (pks es st).bind fun ds st => .ok (d :: ds) st
def evs : List SE → St → R (List D)
  | [], st => .ok [] st
  | e :: es, st => (r.ev e st).bind fun p st => (evs es st).bind fun ds st => .ok (p.1 :: ds) st
def evf : List SE → St → R (List (D × Bool))
  | [], st => .ok [] st
  | e :: es, st => (r.ev e st).bind fun p st => (evf es st).bind fun ds st => .ok (p :: ds) st
/-- a display with stars -/
def evstar : List (Bool × SE) → St → R (List D)
  | [], st => .ok [] st
  | (false, e) :: es, st => (r.ev e st).bind fun p st => (evstar es st).bind fun ds st => .ok (p.1 :: ds) st
  | (true, e) :: es, st => (r.ev e st).bind fun p st => match p.1 with
    | .lst xs => (evstar es st).bind fun ds st => .ok (xs ++ ds) st
    | .tup xs => (evstar es st).bind fun ds st => .ok (xs ++ ds) st
    | _ => .no

def isOwn (st : St) : SE → Bool
  | .var i => match slot st i with
    | some (true, _) => true
    | _ => false
  | _ => false
def shareV (st : St) : List SE → St
  | [] => st
  | .var i :: es => shareV (share st i) es
  | _ :: es => shareV st es
/-- may the arguments stay the frame's own behind a call that gave d -/
def keeps (d : D) (fr : Bool) : Bool := match fr, d with
  | true, .lst xs => flats xs
  | true, .dct _ vs => flats vs
  | _, d => flat d

def selB {α : Type} (ds zs dfl : List α) : List Sel → Option (List α)
  | [] => some []
  | .pos i :: r => (ds[i]?).bind fun x => (selB ds zs dfl r).map (x :: ·)
  | .kw i :: r => (zs[i]?).bind fun x => (selB ds zs dfl r).map (x :: ·)
  | .dfl i :: r => (dfl[i]?).bind fun x => (selB ds zs dfl r).map (x :: ·)
def shapeOf (fd : FnDef) (n : Nat) (ks : List Nat) : Option (List Sel) := (fd.shapes.find? fun s => s.1 == n && s.2.1 == ks).map (·.2.2)
def bindA (fd : FnDef) (ds : List D) (ks : List Nat) (zs : List D) : Option (List D) := (shapeOf fd ds.length ks).bind fun sl => selB ds zs fd.dfl sl
/-- what is called -/
inductive Tgt where
  | fn (f : Nat) (self : Option D)
  | mk (c : Nat)
  | obj (v : D) (f : Nat)
  | clo (l : Nat) (cs : List D)

/-- what a call leaves of the frame -/
def after (es : List SE) (pen : Bool) (st : St) (d : D) (fr : Bool) (sto' : List D) : St :=
  let st1 := if pen then { st with sto := sto' } else st
  if es.any (isOwn st) then (if !pen && keeps d fr then st1 else shareV st1 es) else st1
def doCall (f : Nat) (es : List SE) (ds : List D) (st : St) : R (D × Bool) := match P.fns[f]? with
  | none => .no
  | some fd => if fd.isInit then .no else match st.dep with
    | 0 => .no
    | k + 1 => match r.call f ds (if fd.pen then st.sto else []) k with
      | .ok d fr sto' => .ok (d, fr) (after es fd.pen st d fr sto')
      | _ => .no
def doInit (c : Nat) (f : Nat) (es : List SE) (ds : List D) (st : St) : R (D × Bool) := match st.dep with
  | 0 => .no
  | 1 => .no
  | k + 2 => match r.ini c f ds k with
    | .ok d fr _ => .ok (d, fr) (after es false st d fr [])
    | _ => .no
def doLam (l : Nat) (cs : List D) (es : List SE) (ds : List D) (st : St) : R (D × Bool) := match st.dep with
  | 0 => .no
  | k + 1 => match r.lam l cs ds k with
    | .ok d fr _ => .ok (d, fr) (after es false st d fr [])
    | _ => .no
/-- behind the arguments -/
def callD (t : Tgt) (es : List SE) (ds : List D) (ks : List Nat) (zs : List D) (st : St) : R (D × Bool) := match t with
  | .fn f self => match P.fns[f]? with
    | none => .no
    | some fd => lift (bindA fd (self.toList ++ ds) ks zs) st fun ds => doCall P r f es ds st
  | .obj v f => match P.fns[f]? with
    | none => .no
    | some fd => if ks.isEmpty then lift (bindA fd (v :: ds) [] []) st fun ds => doCall P r f es ds st else .no
  | .mk c => match P.clss[c]? with
    | none => .no
    | some cd => match cd.init with
      | none => .no
      | some f => match P.fns[f]? with
        | none => .no
        | some fd => if fd.isInit then lift (bindA fd ds ks zs) st fun ds => doInit r c f es ds st else .no
  | .clo l cs => if ks.isEmpty then doLam r l cs es ds st else .no
/-- the arguments, then the call; se: what was looked at ahead of them -/
def callT (t : Tgt) (se : List SE) (es : List SE) (ks : List (Nat × SE)) (st : St) : R (D × Bool) :=
  (pks r es st).bind fun ds st => (pks r (ks.map (·.2)) st).bind fun zs st => callD P r t (se ++ (es ++ ks.map (·.2))) ds (ks.map (·.1)) zs st
/-! ### lambdas as arguments -/
def isLam : SE → Bool
  | .lam _ _ => true
  | _ => false
def pksL : List SE → St → R (List (Option D))
  | [], st => .ok [] st
  | .lam _ _ :: es, st => (pksL es st).bind fun ds st => .ok (none :: ds) st
  | e :: es, st => (pk r e st).bind fun d st => (pksL es st).bind fun ds st => .ok (some d :: ds) st
def capV (st : St) : List Nat → Option (List D)
  | [] => some []
  | i :: is => match slot st i, capV st is with
    | some p, some ds => some (p.2 :: ds)
    | _, _ => none
/-- the arguments at the call: a lambda holds what its cells hold now -/
def fillL (st : St) : List SE → List (Option D) → Option (List D)
  | [], [] => some []
  | .lam l cs :: es, none :: xs => match capV st cs, fillL st es xs with
    | some ds, some r => some (.clo l ds :: r)
    | _, _ => none
  | _ :: es, some d :: xs => match fillL st es xs with
    | some r => some (d :: r)
    | _ => none
  | _, _ => none
def capsL : List SE → List SE
  | [] => []
  | .lam _ cs :: es => cs.map .var ++ capsL es
  | e :: es => e :: capsL es
/-- behind the arguments -/
def callDL (f : Nat) (es : List SE) (xs : List (Option D)) (st : St) : R (D × Bool) := match P.fns[f]? with
  | none => .no
  | some fd => if fd.pen then .no else lift (fillL st es xs) st fun ds => match callD P r (.fn f none) (capsL es) ds [] [] st with
    | .ok p st' => if noClo p.1 then .ok p st' else .no
    | _ => .no
/-- a value called -/
def tgtOf : D → Option Tgt
  | .fn f => (P.fns[f]?).map fun _ => .fn f none
  | .clo l cs => some (.clo l cs)
  | .ins c ns vs => (P.clss[c]?).bind fun cd => (cd.meths.lookup P.nCall).map fun f => .obj (.ins c ns vs) f
  | _ => none

def lookN : List Nat → List D → Nat → Option D
  | n :: ns, v :: vs, m => if n = m then some v else lookN ns vs m
  | _, _, _ => none
def putN : List Nat → List D → Nat → D → List Nat × List D
  | n :: ns, v :: vs, m, d => if n = m then (n :: ns, d :: vs) else
    let q := putN ns vs m d
    (n :: q.1, v :: q.2)
  | _, _, m, d => ([m], [d])
def getAtt (o : D) (oe : SE) (f : Nat) (st : St) : R (D × Bool) := match o with
  | .ins c ns vs => match P.clss[c]? with
    | none => .no
    | some cd => if cd.flds.contains f then lift (lookN ns vs f) st fun d => .ok (d, false) st
      else if (lookN ns vs f).isSome then .no else match cd.props.lookup f with
        | some g => match P.fns[g]? with
          | none => .no
          | some fd => match shapeOf fd 1 [], st.dep with
            | some [.pos 0], k + 1 => (doCall P r g [oe] [o] { st with dep := k }).bind fun p s => .ok p { s with dep := st.dep }
            | _, _ => .no
        | none => lift (cd.cons.lookup f) st fun d => .ok (d, false) st
  | _ => .no
/-- o.m, to be called -/
def resolve (o : D) (m : Nat) (nokw : Bool) : Option Tgt := match o with
  | .ins c ns vs => (P.clss[c]?).bind fun cd => match lookN ns vs m with
    | some v => if cd.flds.contains m && nokw then tgtOf P v else none
    | none => (cd.meths.lookup m).map fun f => .fn f (some o)
  | _ => none

mutual
def asg : ST → D → Bool → St → Option St
  | .nm i, d, fr, st => if st.lo ≤ i ∧ i < st.env.length then some (setv st i (fr && isMut d) d) else none
  | .tp ts, d, _, st => match d with
    | .tup xs => asgs ts xs st
    | .lst xs => asgs ts xs st
    | _ => none
def asgs : List ST → List D → St → Option St
  | [], [], st => some st
  | t :: ts, d :: ds, st => (asg t d false st).bind fun st => asgs ts ds st
  | _, _, _ => none
end

/-- the items of what is walked; the thing itself is handed on -/
def iterS (it : SI) (st : St) : R (List D) := match it with
  | .of e => (r.ev e st).bind fun p st => match p.1 with
    | .lst xs => .ok xs st
    | .tup xs => .ok xs st
    | .str x => .ok (x.map fun c => .str [c]) st
    | _ => .no
  | .enum e => (evs r [e] st).bind fun ds st => match ds with
    | [.lst xs] => .ok (xs.zipIdx.map fun q => .tup [.int q.2, q.1]) st
    | _ => .no
  | .zip a b => (evs r [a, b] st).bind fun ds st => match ds with
    | [.lst xs, .lst ys] => .ok ((xs.zip ys).map fun q => .tup [q.1, q.2]) st
    | [.tup xs, .tup ys] => .ok ((xs.zip ys).map fun q => .tup [q.1, q.2]) st
    | _ => .no
  | .zipA a b => (evs r [a, b] st).bind fun ds st => match ds with
    | [.lst xs, .lst ys] => .ok ((xs.zip ys).map fun q => .tup [q.1, q.2]) st
    | [.tup xs, .tup ys] => .ok ((xs.zip ys).map fun q => .tup [q.1, q.2]) st
    | [.str x, .str y] => .ok ((x.zip y).map fun q => .tup [.str [q.1], .str [q.2]]) st
    | _ => .no
  | .enumA e => (evs r [e] st).bind fun ds st => match ds with
    | [.lst xs] => .ok (xs.zipIdx.map fun q => .tup [.int q.2, q.1]) st
    | [.str x] => .ok (x.zipIdx.map fun q => .tup [.int q.2, .str [q.1]]) st
    | _ => .no
  | .rng1 a => (evs r [a] st).bind fun ds st => match ds with
    | [.int n] => if decide (-(2 ^ 62) ≤ n) && decide (n < 2 ^ 62) then .ok ((List.range n.toNat).map fun (k : Nat) => .int (0 + (k : Int))) st else .no
    | _ => .no
  | .rng2 a b => (evs r [a, b] st).bind fun ds st => match ds with
    | [.int m, .int n] => if decide (-(2 ^ 62) ≤ n) && decide (n < 2 ^ 62) && decide (-(2 ^ 62) ≤ m) && decide (m < 2 ^ 62) then .ok ((List.range (n - m).toNat).map fun (k : Nat) => .int (m + (k : Int))) st else .no
    | _ => .no
  | .rng3 a b c => (evs r [a, b, c] st).bind fun ds st => match ds with
    | [.int m, .int n, .int c] => if decide (c ≠ 0) && decide (c.natAbs < 1073741824) && Builtin.Range.small m n c then .ok ((List.range (Builtin.Range.rangeSize m n c).toNat).map fun (k : Nat) => .int (m + (k : Int) * c)) st else .no
    | _ => .no

def tsts : List SE → St → R Bool
  | [], st => .ok true st
  | e :: es, st => (r.tst e st).bind fun b st => if b then tsts es st else .ok false st
/-- a comprehension's turns -/
def lcLoop (own : List Nat) (e : SE) (tg : ST) (ifs : List SE) : List D → St → R (List D)
  | [], st => .ok [] st
  | x :: xs, st => lift (asg tg x false { st with env := wipeE st.env own }) st fun st => (tsts r ifs st).bind fun b st =>
    if b then (r.ev e st).bind fun p st => (lcLoop own e tg ifs xs st).bind fun ds st => .ok (p.1 :: ds) st else lcLoop own e tg ifs xs st
def dcLoop (own : List Nat) (k v : SE) (tg : ST) (ifs : List SE) : List D → List D → List D → St → R (List D × List D)
  | [], ks, vs, st => .ok (ks, vs) st
  | x :: xs, ks, vs, st => lift (asg tg x false { st with env := wipeE st.env own }) st fun st => (tsts r ifs st).bind fun b st =>
    if b then (r.ev k st).bind fun p st => (r.ev v st).bind fun q st => if keyOk p.1 && isIn.sameK (.int 0) p.1 && decide (ks.length < lenMax) then dcLoop own k v tg ifs xs (put ks vs p.1 q.1).1 (put ks vs p.1 q.1).2 st else .no
    else dcLoop own k v tg ifs xs ks vs st

def fstr : List SE → List Nat → St → R (List Nat)
  | [], acc, st => .ok acc st
  | e :: es, acc, st => (r.ev e st).bind fun p st => match p.1 with
    | .str x => if okLen (acc ++ x) then fstr es (acc ++ x) st else .no
    | _ => .no
def deref (st : St) : D → D
  | .ref k => (st.sto[k]?).getD (.ref k)
  | d => d
def optI (o : Option SE) (st : St) : R (Option Int) := match o with
  | none => .ok none st
  | some e => (pk r e st).bind fun d st => match d with
    | .int i => .ok (some i) st
    | _ => .no
def isTup : D → Bool
  | .tup _ => true
  | _ => false
def kput : List D → List D → List D × List D → List D × List D
  | k :: ks, v :: vs, acc => kput ks vs (put acc.1 acc.2 k v)
  | _, _, acc => acc
def keysOk : List D → Bool
  | [] => true
  | k :: ks => keyOk k && ks.all (isIn.sameK k) && keysOk ks

/-- len, of an instance too -/
def lenI (m : Nat) (e : SE) (v : D) (st : St) : R (D × Bool) := match v with
  | .ins c _ _ => match P.clss[c]? with
    | none => .no
    | some cd => match cd.meths.lookup m with
      | none => .no
      | some f => match P.fns[f]? with
        | none => .no
        | some fd => match shapeOf fd 1 [], st.dep with
          | some [.pos 0], k + 1 => (doCall P r f [e] [v] { st with dep := k }).bind fun p s => match p.1 with
            | .int n => if decide (0 ≤ n) && decide (n < 2 ^ 62) then .ok (.int n, false) { s with dep := st.dep } else .no
            | _ => .no
          | _, _ => .no
  | v => lift (bLen [v]) st fun p => .ok p st
def evS (e : SE) (st : St) : R (D × Bool) := match e with
  | .cst d => .ok (d, false) st
  | .var i => lift (slot st i) st fun p => .ok (p.2, false) (share st i)
  | .bin op a b => (pk r a st).bind fun x st => (pk r b st).bind fun y st => lift (binop op x y) st fun p => .ok p st
  | .neg a => (pk r a st).bind fun x st => match x with
    | .int i => .ok (.int (-i), false) st
    | _ => .no
  | .not a => (pk r a st).bind fun x st => match x with
    | .bl b => .ok (.bl (!b), false) st
    | _ => .no
  | .cmp op a b => (pk r a st).bind fun x st => (pk r b st).bind fun y st => lift (cmpop op x y) st fun b => .ok (.bl b, false) st
  | .cmp2 op op' a b c => (pk r a st).bind fun x st => (pk r b st).bind fun y st => lift (cmpop op x y) st fun k =>
    if k then (pk r c st).bind fun z st => lift (cmpop op' y z) st fun b => .ok (.bl b, false) st else .ok (.bl false, false) st
  | .and a b => (pk r a st).bind fun x st => match x with
    | .bl true => r.ev b st
    | .bl false => .ok (.bl false, false) st
    | _ => .no
  | .or a b => (pk r a st).bind fun x st => match x with
    | .bl true => .ok (.bl true, false) st
    | .bl false => r.ev b st
    | _ => .no
  | .ite c a b => (r.tst c st).bind fun k st => if k then r.ev a st else r.ev b st
  | .tup es => (evs r es st).bind fun ds st => if okLen ds then .ok (.tup ds, false) st else .no
  | .lst es => (evs r es st).bind fun ds st => if okLen ds then .ok (.lst ds, true) st else .no
  | .lstS es => (evstar r es st).bind fun ds st => if okLen ds then .ok (.lst ds, true) st else .no
  | .dct1 t k v => ((r.ev k st).bind fun p st => (r.ev v st).bind fun q st => if keyOk p.1 && (isTup p.1 == t) then R.ok (D.dct [p.1] [q.1], true) st else .no).noExc
  | .callF f es ks => callT P r (.fn f none) [] es ks st
  | .callL f es => (pksL r es st).bind fun xs st => callDL P r f es xs st
  | .mk c es ks => callT P r (.mk c) [] es ks st
  | .callV f es => (pk r f st).bind fun v st => lift (tgtOf P v) st fun t => callT P r t [f] es [] st
  | .bf b es => (pks r es st).bind fun ds st => lift (bfun P b ds) st fun p => .ok p st
  | .bm m o e => (pk r o st).bind fun v st => match v with
    | .str x => (pk r e st).bind fun d st => lift (mfun m x d) st fun p => .ok p st
    | _ => .no
  | .mth o m es ks => (pk r o st).bind fun v st => lift (resolve P v m ks.isEmpty) st fun t => callT P r t [o] es ks st
  | .att o f => (pk r o st).bind fun v st => getAtt P r v o f st
  | .sub o i => (pk r o st).bind fun v st => (pk r i st).bind fun k st => lift (index (deref st v) k) st fun d => .ok (d, false) st
  | .sli o lo hi => (pk r o st).bind fun v st => (optI r lo st).bind fun l st => (optI r hi st).bind fun h st => lift (slice v l h) st fun p => .ok p st
  | .lc own e tg it ifs => (iterS r it st).bind fun xs st => (lcLoop r own e tg ifs xs st).noExc.bind fun ds st' => if okLen ds then .ok (.lst ds, true) { st' with env := backE st.env st'.env own } else .no
  | .dc own k v tg it ifs => (iterS r it st).bind fun xs st => (dcLoop r own k v tg ifs xs [] [] st).noExc.bind fun p st' => .ok (.dct p.1 p.2, true) { st' with env := backE st.env st'.env own }
  | .lam _ _ => .no
  | .fmt e => (pk r e st).bind fun v st => match v with
    | .str x => if okLen x then .ok (.str x, false) st else .no
    | .int i => if decide (i.natAbs < 2 ^ 1900) then .ok (.str (itoa i), false) st else .no
    | _ => .no
  | .fst es => (fstr r es [] st).bind fun x st => .ok (.str x, false) st
  | .lenA m e => (pk r e st).bind fun v st => lenI P r m e v st

def tstS (e : SE) (st : St) : R Bool := match e with
  | .not a => (r.tst a st).bind fun b st => .ok (!b) st
  | .and a b => (r.tst a st).bind fun x st => if x then r.tst b st else .ok false st
  | .or a b => (r.tst a st).bind fun x st => if x then .ok true st else r.tst b st
  | .ite _ _ _ => .no
  | .cmp op a b => (pk r a st).bind fun x st => (pk r b st).bind fun y st => lift (cmpop op x y) st fun b => .ok b st
  | .cmp2 op op' a b c => (pk r a st).bind fun x st => (pk r b st).bind fun y st => lift (cmpop op x y) st fun k =>
    if k then (pk r c st).bind fun z st => lift (cmpop op' y z) st fun b => .ok b st else .ok false st
  | e => (pk r e st).bind fun d st => lift (truth d) st fun b => .ok b st

/-- a for's turns -/
def forLoop (tg : ST) (b : List SS) : List D → St → R Fl
  | [], st => .ok .nx st
  | x :: xs, st => lift (asg tg x false st) st fun st => (r.ex b st).bind fun f st => match f with
    | .nx => forLoop tg b xs st
    | .ct => forLoop tg b xs st
    | .brk => .ok .nx st
    | .ret d fr => .ok (.ret d fr) st
def asgN : List Nat → List (D × Bool) → St → Option St
  | [], [], st => some st
  | i :: is, p :: ps, st => if st.lo ≤ i ∧ i < st.env.length then asgN is ps (setv st i (p.2 && isMut p.1) p.1) else none
  | _, _, _ => none
def setItem (o : Nat) (i e : D) (st : St) : Option St := match slot st o with
  | some (true, .lst xs) => match i with
    | .int k => (ixN xs.length k).map fun j => setv st o true (.lst (xs.set j e))
    | _ => none
  | some (true, .dct ks vs) => if keyOk i && ks.all (isIn.sameK i) && okLen (i :: ks) then some (setv st o true (.dct (put ks vs i e).1 (put ks vs i e).2)) else none
  | some (_, .ref k) => match st.sto[k]?, i with
    | some (.lst xs), .int n => (ixN xs.length n).map fun j => { st with sto := st.sto.set k (.lst (xs.set j e)) }
    | _, _ => none
  | _ => none
def setFld (o : Nat) (f : Nat) (e : D) (st : St) : Option St := match slot st o with
  | some (true, .ins c ns vs) => (P.clss[c]?).bind fun cd => if cd.flds.contains f && decide (ns.length < 900) then some (setv st o true (.ins c (putN ns vs f e).1 (putN ns vs f e).2)) else none
  | _ => none
def append (i : Nat) (d : D) (st : St) : Option St := match slot st i with
  | some (true, .lst xs) => if xs.length < lenMax then some (setv st i true (.lst (xs ++ [d]))) else none
  | _ => none
def augop (op : Operator) (a b : D) : Option D := match op, a, b with
  | .Add, .int i, .int j => some (.int (i + j))
  | .Sub, .int i, .int j => some (.int (i - j))
  | _, _, _ => none

def ex1 (s : SS) (st : St) : R Fl := match s with
  | .expr e => (r.ev e st).bind fun _ st => .ok .nx st
  | .app i e => match slot st i with
    | some (true, .lst _) => (r.ev e st).bind fun p st => lift (append i p.1 st) st fun st => .ok .nx st
    | _ => .no
  | .asg t e => (r.ev e st).bind fun p st => lift (asg t p.1 p.2 st) st fun st => .ok .nx st
  | .par ts es => (evf r es st).bind fun ps st => lift (asgN ts ps st) st fun st => .ok .nx st
  | .seti o i e => lift (slot st o) st fun _ => (r.ev e st).bind fun p st => (pk r i st).bind fun k st => lift (setItem o k p.1 st) st fun st => .ok .nx st
  | .setf o f e => lift (slot st o) st fun _ => (r.ev e st).bind fun p st => lift (setFld P o f p.1 st) st fun st => .ok .nx st
  | .aug i op e => lift (slot st i) st fun a => (r.ev e st).bind fun p st => lift (augop op a.2 p.1) st fun d => if st.lo ≤ i then .ok .nx (setv st i false d) else .no
  | .ret none => .ok (.ret .non false) st
  | .ret (some (.var i)) => lift (slot st i) st fun p => .ok (.ret p.2 p.1) st
  | .ret (some e) => (r.ev e st).bind fun p st => .ok (.ret p.1 p.2) st
  | .ife c a b => (r.tst c st).bind fun k st => if k then r.ex a st else r.ex b st
  | .whl c b => (r.tst c st).bind fun k st => if k then (r.ex b st).bind fun f st => match f with
      | .nx => r.ex [.whl c b] st
      | .ct => r.ex [.whl c b] st
      | .brk => .ok .nx st
      | .ret d fr => .ok (.ret d fr) st
    else .ok .nx st
  | .for_ t it b => (iterS r it st).bind fun xs st => forLoop r t b xs st
  | .brk => .ok .brk st
  | .ct => .ok .ct st
  | .pass => .ok .nx st
  | .rais _ => .no
def exS : List SS → St → R Fl
  | [], st => .ok .nx st
  | s :: ss, st => (ex1 P r s st).bind fun f st => match f with
    | .nx => exS ss st
    | f => .ok f st

def start (ds : List D) (n : Nat) : List (Option (Bool × D)) := ds.map (fun d => some (false, d)) ++ List.replicate (n - ds.length) none
def callS (f : Nat) (ds : List D) (sto : List D) (dep : Nat) : RC := match P.fns[f]? with
  | none => .no
  | some fd => if ds.length = fd.np then (match r.ex fd.body ⟨start ds fd.slots, sto, dep, 0⟩ with
      | .ok .nx st => .ok .non false st.sto
      | .ok (.ret d fr) st => .ok d fr st.sto
      | _ => .no) else .no
def iniS (c f : Nat) (ds : List D) (dep : Nat) : RC := match P.fns[f]? with
  | none => .no
  | some fd => if ds.length + 1 = fd.np then (match r.ex fd.body ⟨some (true, .ins c [] []) :: start ds (fd.slots - 1), [], dep, 1⟩ with
      | .ok .nx st => match slot st 0 with
        | some (own, d) => .ok d own []
        | none => .no
      | _ => .no) else .no
def lamS (l : Nat) (cs ds : List D) (dep : Nat) : RC := match P.lams[l]? with
  | none => .no
  | some ld => if ds.length = ld.ps ∧ cs.length = ld.cs ∧ noClos ds = true ∧ noClos cs = true then (match r.ev ld.body ⟨start (ds ++ cs) ld.slots, [], dep, 0⟩ with
      | .ok p _ => .ok p.1 p.2 []
      | _ => .no) else .no
end
def lv (P : Prg) : Nat → Rec
  | 0 => ⟨fun _ _ => .no, fun _ _ => .no, fun _ _ => .no, fun _ _ _ _ => .no, fun _ _ _ _ => .no, fun _ _ _ _ => .no⟩
  | n + 1 => ⟨evS P (lv P n), tstS (lv P n), exS P (lv P n), callS P (lv P n), iniS P (lv P n), lamS P (lv P n)⟩
end TI

end

section
set_option Elab.async false
set_option linter.all false
set_option maxRecDepth 100000
/-! TI2: how a tree lies in the abstract heap; the frame's relation. -/
namespace TI
open PySem L2

/-- a lambda's text: ps its parameters, fr what it captures -/
structure LamT where
  qual : Str
  params : Arguments
  body : Expr
  scope : Scope
  ps : List Str
  fr : List Str
/-- what is fixed through the whole law -/
structure Mt2 where
  K : PySem.W.Frag
  P : Prg
  fnA : Nat → Addr
  clA : Nat → Addr
  nm : Nat → Str
  prog : Program
  w : World
  mg : Str → Option Value
  base : Heap
  fdat : Nat → FuncData
  pn : Nat → List Str
  dflV : Nat → List Value
  lam : Nat → LamT
  /-- the tables of the makers' code objects -/
  T : List (Addr × Str)

def btName : Bt → String
  | .int => "int" | .str => "str" | .bool => "bool" | .list => "list" | .tuple => "tuple" | .dict => "dict"
def notTbl : HO → Prop
  | .tbl _ => False
  | _ => True
/-- what may be the frame's own -/
def ownO : HO → Prop
  | .lst _ => True
  | .dK _ => True
  | .dT _ => True
  | .ins _ _ _ => True
  | _ => False
theorem ownO.nt {u : HO} (h : ownO u) : notTbl u := by cases u <;> first | trivial | exact h.elim
theorem ownO.ext {φ : Heap → Prop} (h : ownO (.ext φ)) : False := h
/-- the object at a is o -/
def IsO (a : Addr) (o : Obj) : HO := .ext fun h => h.get? a = some o
/-- a node of a tree: it stands there, and nobody of the frame may change it -/
def Nd (O : Addr → Prop) (H : Hp) (a : Addr) (u : HO) : Prop := ¬ O a ∧ Rd H a u
/-- .. and nobody has locked it -/
def Nx (O : Addr → Prop) (H : Hp) (a : Addr) (u : HO) : Prop := ¬ O a ∧ H a = some u
/-- what trees lean on stays -/
structure Kp (O : Addr → Prop) (H H' : Hp) : Prop where
  rd : ∀ a u, ¬ O a → notTbl u → Rd H a u → Rd H' a u
  l : ∀ a vs, ¬ O a → H a = some (.lst vs) → H' a = some (.lst vs)
  t : ∀ a vs, ¬ O a → H a = some (.tup vs) → H' a = some (.tup vs)
  i : ∀ a C dx fs, ¬ O a → H a = some (.ins C dx fs) → H' a = some (.ins C dx fs)
  ek : ∀ a, ¬ O a → H a = some (.dK []) → H' a = some (.dK [])
  et : ∀ a, ¬ O a → H a = some (.dT []) → H' a = some (.dT [])
  xt : ∀ a φ, ¬ O a → H a = some (.ext φ) → H' a = some (.ext φ)
theorem Kp.refl (O : Addr → Prop) (H : Hp) : Kp O H H := ⟨fun _ _ _ _ q => q, fun _ _ _ q => q, fun _ _ _ q => q, fun _ _ _ _ _ q => q, fun _ _ q => q, fun _ _ q => q, fun _ _ _ q => q⟩
/-- what a closure leans on: these objects -/
def CloAt (M : Mt2) (Y : Addr → (Heap → Prop) → Prop) (l : Nat) (f : Addr) (vs : List V) : Prop :=
  ∃ (cl : List (Str × Addr)) (pm ctv : Value) (c' : Addr), Y f (fun h => h.get? f = some (PySem.W.kla_obj "<lambda>" (M.lam l).qual (M.lam l).params (M.lam l).body (M.lam l).scope cl pm c' ctv)) ∧
    Y c' (fun h => ∃ (oc : Obj) (vs : Array Value) (t : Tok), h.get? c' = some oc ∧ oc.data = .fields vs ∧ vs[1]? = some (.str (M.lam l).qual t)) ∧ vs.length = (M.lam l).fr.length ∧
    (∀ (i : Nat) (y : Str), (M.lam l).fr[i]? = some y → ∃ (c : Addr) (oc : Obj) (v : V) (u : Value), cl.lookup y = some c ∧ vs[i]? = some v ∧ L2.RelV v u ∧ oc.data = .cell (some u) ∧ Y c (fun h => h.get? c = some oc)) ∧
    (∀ y c, cl.lookup y = some c → y ∈ (M.lam l).fr) ∧ ∀ x y c, cl.lookup x = some c → cl.lookup y = some c → x = y
theorem CloAt.mono {M : Mt2} {Y Z : Addr → (Heap → Prop) → Prop} {l : Nat} {f : Addr} {vs : List V} (h : CloAt M Y l f vs) (k : ∀ a φ, Y a φ → Z a φ) : CloAt M Z l f vs := by
  obtain ⟨cl, pm, ctv, c', h1, h2, h3, h4, h5, h6⟩ := h
  refine ⟨cl, pm, ctv, c', k _ _ h1, k _ _ h2, h3, fun i y e => ?_, h5, h6⟩
  obtain ⟨c, oc, v, u, g1, g2, g3, g4, g5⟩ := h4 i y e
  exact ⟨c, oc, v, u, g1, g2, g3, g4, k _ _ g5⟩
/-- known, and not the frame's own -/
def Yx (O : Addr → Prop) (H : Hp) (a : Addr) (φ : Heap → Prop) : Prop := ¬ O a ∧ H a = some (.ext φ)
def toKey : D → Option Key
  | .int i => some (.inl i)
  | .str x => some (.inr ⟨x.toArray⟩)
  | _ => none
def toKeys : List D → Option (List Key)
  | [] => some []
  | d :: ds => match toKey d, toKeys ds with
    | some k, some ks => some (k :: ks)
    | _, _ => none
/-- keys that are tuples -/
def toKeyT : D → Option (List Key)
  | .tup xs => toKeys xs
  | _ => none
def toKeyTs : List D → Option (List (List Key))
  | [] => some []
  | d :: ds => match toKeyT d, toKeyTs ds with
    | some k, some ks => some (k :: ks)
    | _, _ => none
mutual
def Rep (M : Mt2) (ρ : List Addr) (O : Addr → Prop) (H : Hp) : D → V → Prop
  | .non, v => v = .non
  | .bl b, v => v = .bl b
  | .int i, v => v = .int i
  | .str x, v => v = .str ⟨x.toArray⟩
  | .tup xs, v => ∃ a vs, v = .ref a ∧ Nx O H a (.tup vs) ∧ Reps M ρ O H xs vs
  | .lst xs, v => ∃ a vs, v = .ref a ∧ Nx O H a (.lst vs) ∧ Reps M ρ O H xs vs
  | .dct ks ds, v => ∃ a vs, v = .ref a ∧ Reps M ρ O H ds vs ∧
      ((∃ kl, toKeys ks = some kl ∧ kl.length = vs.length ∧ Nd O H a (.dK (kl.zip vs)) ∧ (ks = [] → H a = some (.dK []))) ∨ (∃ kl, toKeyTs ks = some kl ∧ kl.length = vs.length ∧ Nd O H a (.dT (kl.zip vs)) ∧ (ks = [] → H a = some (.dT []))))
  | .ins c ns ds, v => ∃ a dx fs, v = .ref a ∧ Nx O H a (.ins (M.clA c) dx fs) ∧ fs.map (·.1) = ns.map M.nm ∧ Reps M ρ O H ds (fs.map (·.2))
  | .fn f, v => v = .ref (M.fnA f)
  | .cls c, v => v = .ref (M.clA c)
  | .ty t, v => v = .ty (btName t)
  | .clo l cs, v => ∃ f vs, v = .ref f ∧ CloAt M (Yx O H) l f vs ∧ Reps M ρ O H cs vs
  | .ref i, v => ∃ a, ρ[i]? = some a ∧ v = .ref a
  | .scr ns, v => ∃ a, v = .ref a ∧ ((¬ O a ∧ Rd H a (.lst (ns.map V.int))) ∨ ∀ H' : Hp, SqL M.K H' a (ns.map V.int))
def Reps (M : Mt2) (ρ : List Addr) (O : Addr → Prop) (H : Hp) : List D → List V → Prop
  | [], vs => vs = []
  | d :: ds, vs => ∃ v r, vs = v :: r ∧ Rep M ρ O H d v ∧ Reps M ρ O H ds r
end

section
variable {M : Mt2} {ρ : List Addr} {O O' : Addr → Prop} {H H' : Hp}
mutual
theorem Rep.mono (hO : ∀ a, O' a → O a) (hH : Kp O H H') : ∀ {d : D} {v : V}, Rep M ρ O H d v → Rep M ρ O' H' d v
  | .non, _, h => by simpa [Rep] using h
  | .bl _, _, h => by simpa [Rep] using h
  | .int _, _, h => by simpa [Rep] using h
  | .str _, _, h => by simpa [Rep] using h
  | .tup xs, v, h => by
    simp only [Rep] at h ⊢
    obtain ⟨a, vs, e, n, r⟩ := h
    exact ⟨a, vs, e, ⟨fun z => n.1 (hO a z), hH.t a _ n.1 n.2⟩, Reps.mono hO hH r⟩
  | .lst xs, v, h => by
    simp only [Rep] at h ⊢
    obtain ⟨a, vs, e, n, r⟩ := h
    exact ⟨a, vs, e, ⟨fun z => n.1 (hO a z), hH.l a _ n.1 n.2⟩, Reps.mono hO hH r⟩
  | .dct ks ds, v, h => by
    simp only [Rep] at h ⊢
    obtain ⟨a, vs, e, r, q⟩ := h
    refine ⟨a, vs, e, Reps.mono hO hH r, ?_⟩
    rcases q with ⟨kl, h1, h2, n, z⟩ | ⟨kl, h1, h2, n, z⟩
    · exact .inl ⟨kl, h1, h2, ⟨fun z => n.1 (hO a z), hH.rd a _ n.1 trivial n.2⟩, fun y => hH.ek a n.1 (z y)⟩
    · exact .inr ⟨kl, h1, h2, ⟨fun z => n.1 (hO a z), hH.rd a _ n.1 trivial n.2⟩, fun y => hH.et a n.1 (z y)⟩
  | .ins c ns ds, v, h => by
    simp only [Rep] at h ⊢
    obtain ⟨a, dx, fs, e, n, h1, r⟩ := h
    exact ⟨a, dx, fs, e, ⟨fun z => n.1 (hO a z), hH.i a _ _ _ n.1 n.2⟩, h1, Reps.mono hO hH r⟩
  | .fn _, _, h => by simpa [Rep] using h
  | .cls _, _, h => by simpa [Rep] using h
  | .ty _, _, h => by simpa [Rep] using h
  | .clo _ _, _, h => by
    simp only [Rep] at h ⊢
    obtain ⟨f, vs, e, n, r⟩ := h
    exact ⟨f, vs, e, n.mono fun a φ q => ⟨fun z => q.1 (hO a z), hH.xt a φ q.1 q.2⟩, Reps.mono hO hH r⟩
  | .ref _, _, h => by simpa [Rep] using h
  | .scr ns, _, h => by
    simp only [Rep] at h ⊢
    obtain ⟨a, e, h⟩ := h
    exact ⟨a, e, h.imp (fun ⟨n, r⟩ => ⟨fun z => n (hO a z), hH.rd a _ n trivial r⟩) id⟩
theorem Reps.mono (hO : ∀ a, O' a → O a) (hH : Kp O H H') : ∀ {ds : List D} {vs : List V}, Reps M ρ O H ds vs → Reps M ρ O' H' ds vs
  | [], _, h => by simpa [Reps] using h
  | d :: ds, vs, h => by
    simp only [Reps] at h ⊢
    obtain ⟨v, r, e, h1, h2⟩ := h
    exact ⟨v, r, e, Rep.mono hO hH h1, Reps.mono hO hH h2⟩
end
theorem Nd.avoid {p a : Addr} {u : HO} (n : Nd O H a u) (hp : H p = none) : Nd (fun a => O a ∨ a = p) H a u := by
  refine ⟨fun z => z.elim n.1 fun z => ?_, n.2⟩
  subst z
  rcases n.2 with q | ⟨o, q⟩
  · rw [hp] at q; cases q
  · rw [hp] at q; cases q
theorem Nx.avoid {p a : Addr} {u : HO} (n : Nx O H a u) (hp : H p = none) : Nx (fun a => O a ∨ a = p) H a u := ⟨((show Nd O H a u from ⟨n.1, .inl n.2⟩).avoid hp).1, n.2⟩
mutual
/-- what is new stands in no tree -/
theorem Rep.avoid {p : Addr} (hp : H p = none) : ∀ {d : D} {v : V}, Rep M ρ O H d v → Rep M ρ (fun a => O a ∨ a = p) H d v
  | .non, _, h => by simpa [Rep] using h
  | .bl _, _, h => by simpa [Rep] using h
  | .int _, _, h => by simpa [Rep] using h
  | .str _, _, h => by simpa [Rep] using h
  | .tup xs, v, h => by
    simp only [Rep] at h ⊢
    obtain ⟨a, vs, e, n, r⟩ := h
    exact ⟨a, vs, e, n.avoid hp, Reps.avoid hp r⟩
  | .lst xs, v, h => by
    simp only [Rep] at h ⊢
    obtain ⟨a, vs, e, n, r⟩ := h
    exact ⟨a, vs, e, n.avoid hp, Reps.avoid hp r⟩
  | .dct ks ds, v, h => by
    simp only [Rep] at h ⊢
    obtain ⟨a, vs, e, r, q⟩ := h
    refine ⟨a, vs, e, Reps.avoid hp r, ?_⟩
    rcases q with ⟨kl, h1, h2, n, z⟩ | ⟨kl, h1, h2, n, z⟩
    · exact .inl ⟨kl, h1, h2, n.avoid hp, z⟩
    · exact .inr ⟨kl, h1, h2, n.avoid hp, z⟩
  | .ins c ns ds, v, h => by
    simp only [Rep] at h ⊢
    obtain ⟨a, dx, fs, e, n, h1, r⟩ := h
    exact ⟨a, dx, fs, e, n.avoid hp, h1, Reps.avoid hp r⟩
  | .fn _, _, h => by simpa [Rep] using h
  | .cls _, _, h => by simpa [Rep] using h
  | .ty _, _, h => by simpa [Rep] using h
  | .clo _ _, _, h => by
    simp only [Rep] at h ⊢
    obtain ⟨f, vs, e, n, r⟩ := h
    exact ⟨f, vs, e, n.mono fun a φ q => ⟨fun z => z.elim q.1 fun z => (by have q2 := q.2; rw [z, hp] at q2; cases q2), q.2⟩, Reps.avoid hp r⟩
  | .ref _, _, h => by simpa [Rep] using h
  | .scr ns, _, h => by
    simp only [Rep] at h ⊢
    obtain ⟨a, e, h⟩ := h
    exact ⟨a, e, h.imp (fun ⟨n, r⟩ => (show Nd O H a _ from ⟨n, r⟩).avoid hp) id⟩
theorem Reps.avoid {p : Addr} (hp : H p = none) : ∀ {ds : List D} {vs : List V}, Reps M ρ O H ds vs → Reps M ρ (fun a => O a ∨ a = p) H ds vs
  | [], _, h => by simpa [Reps] using h
  | d :: ds, vs, h => by
    simp only [Reps] at h ⊢
    obtain ⟨v, r, e, h1, h2⟩ := h
    exact ⟨v, r, e, Rep.avoid hp h1, Reps.avoid hp h2⟩
end
mutual
/-- a flat tree stands in tuples alone: whatever is the frame's own -/
theorem Rep.flat (hO : ∀ a vs, H a = some (.tup vs) → ¬ O' a) : ∀ {d : D} {v : V}, flat d = true → Rep M ρ O H d v → Rep M ρ O' H d v
  | .non, _, _, h => by simpa [Rep] using h
  | .bl _, _, _, h => by simpa [Rep] using h
  | .int _, _, _, h => by simpa [Rep] using h
  | .str _, _, _, h => by simpa [Rep] using h
  | .tup xs, v, f, h => by
    simp only [Rep, TI.flat] at h f ⊢
    obtain ⟨a, vs, e, n, r⟩ := h
    exact ⟨a, vs, e, ⟨hO a vs n.2, n.2⟩, Reps.flat hO f r⟩
  | .lst _, _, f, _ => by simp [TI.flat] at f
  | .dct _ _, _, f, _ => by simp [TI.flat] at f
  | .ins _ _ _, _, f, _ => by simp [TI.flat] at f
  | .fn _, _, _, h => by simpa [Rep] using h
  | .cls _, _, _, h => by simpa [Rep] using h
  | .ty _, _, _, h => by simpa [Rep] using h
  | .clo _ _, _, f, _ => by simp [TI.flat] at f
  | .ref _, _, f, _ => by simp [TI.flat] at f
  | .scr _, _, f, _ => by simp [TI.flat] at f
theorem Reps.flat (hO : ∀ a vs, H a = some (.tup vs) → ¬ O' a) : ∀ {ds : List D} {vs : List V}, flats ds = true → Reps M ρ O H ds vs → Reps M ρ O' H ds vs
  | [], _, _, h => by simpa [Reps] using h
  | d :: ds, vs, f, h => by
    simp only [Reps, flats, Bool.and_eq_true] at h f ⊢
    obtain ⟨v, r, e, h1, h2⟩ := h
    exact ⟨v, r, e, Rep.flat hO f.1 h1, Reps.flat hO f.2 h2⟩
end
theorem Reps.length : ∀ {ds : List D} {vs : List V}, Reps M ρ O H ds vs → ds.length = vs.length
  | [], _, h => by simp [Reps] at h; simp [h]
  | d :: ds, vs, h => by
    simp only [Reps] at h
    obtain ⟨v, r, e, _, h2⟩ := h
    simp [e, h2.length]
theorem Reps.get : ∀ {ds : List D} {vs : List V} {i : Nat} {d : D}, Reps M ρ O H ds vs → ds[i]? = some d → ∃ v, vs[i]? = some v ∧ Rep M ρ O H d v
  | [], _, _, _, _, e => by simp at e
  | d :: ds, vs, 0, x, h, e => by
    simp only [Reps] at h
    obtain ⟨v, r, e1, h1, _⟩ := h
    simp at e; subst e
    exact ⟨v, by simp [e1], h1⟩
  | d :: ds, vs, i + 1, x, h, e => by
    simp only [Reps] at h
    obtain ⟨v, r, e1, _, h2⟩ := h
    obtain ⟨w, h3, h4⟩ := h2.get (i := i) (by simpa using e)
    exact ⟨w, by simp [e1, h3], h4⟩
theorem Reps.append : ∀ {ds es : List D} {vs ws : List V}, Reps M ρ O H ds vs → Reps M ρ O H es ws → Reps M ρ O H (ds ++ es) (vs ++ ws)
  | [], _, _, _, h, g => by simp [Reps] at h; simpa [h] using g
  | d :: ds, es, vs, ws, h, g => by
    simp only [Reps, List.cons_append] at h ⊢
    obtain ⟨v, r, e, h1, h2⟩ := h
    exact ⟨v, r ++ ws, by simp [e], h1, h2.append g⟩
theorem Reps.one {d : D} {v : V} (h : Rep M ρ O H d v) : Reps M ρ O H [d] [v] := by
  simp only [Reps]
  exact ⟨v, [], rfl, h, rfl⟩
theorem Reps.cons {d : D} {v : V} {ds : List D} {vs : List V} (h : Rep M ρ O H d v) (t : Reps M ρ O H ds vs) : Reps M ρ O H (d :: ds) (v :: vs) := by
  simp only [Reps]
  exact ⟨v, vs, rfl, h, t⟩
theorem Reps.nil : Reps M ρ O H [] [] := by simp [Reps]
theorem Reps.take : ∀ {ds : List D} {vs : List V} (n : Nat), Reps M ρ O H ds vs → Reps M ρ O H (ds.take n) (vs.take n)
  | _, _, 0, _ => by simp [Reps]
  | [], _, n + 1, h => by simp [Reps] at h; simp [h, Reps]
  | d :: ds, vs, n + 1, h => by
    simp only [Reps] at h
    obtain ⟨v, r, e, h1, h2⟩ := h
    subst e
    simp only [List.take_succ_cons]
    exact .cons h1 (h2.take n)
theorem Reps.drop : ∀ {ds : List D} {vs : List V} (n : Nat), Reps M ρ O H ds vs → Reps M ρ O H (ds.drop n) (vs.drop n)
  | _, _, 0, h => by simpa using h
  | [], _, n + 1, h => by simp [Reps] at h; simp [h, Reps]
  | d :: ds, vs, n + 1, h => by
    simp only [Reps] at h
    obtain ⟨v, r, e, h1, h2⟩ := h
    subst e
    simpa using h2.drop n
theorem Reps.set : ∀ {ds : List D} {vs : List V} (i : Nat) {d : D} {v : V}, Reps M ρ O H ds vs → Rep M ρ O H d v → Reps M ρ O H (ds.set i d) (vs.set i v)
  | [], _, i, _, _, h, _ => by simp [Reps] at h; simp [h, Reps]
  | d :: ds, vs, 0, e, w, h, g => by
    simp only [Reps] at h
    obtain ⟨v, r, e1, h1, h2⟩ := h
    subst e1
    simpa using Reps.cons g h2
  | d :: ds, vs, i + 1, e, w, h, g => by
    simp only [Reps] at h
    obtain ⟨v, r, e1, h1, h2⟩ := h
    subst e1
    simpa using Reps.cons h1 (h2.set i g)
theorem Reps.flatten (n : Nat) {ds : List D} {vs : List V} (h : Reps M ρ O H ds vs) : Reps M ρ O H (List.replicate n ds).flatten (List.replicate n vs).flatten := by
  induction n with
  | zero => simp [Reps]
  | succ n ih => simpa [List.replicate_succ] using h.append ih

/-- the frame's own thing at a: its top may be changed -/
def Own (M : Mt2) (ρ : List Addr) (O : Addr → Prop) (H : Hp) (d : D) (a : Addr) : Prop := match d with
  | .lst xs => ∃ vs, H a = some (.lst vs) ∧ Reps M ρ O H xs vs
  | .dct ks ds => ∃ vs, Reps M ρ O H ds vs ∧ ((∃ kl, toKeys ks = some kl ∧ kl.length = vs.length ∧ H a = some (.dK (kl.zip vs))) ∨ (∃ kl, toKeyTs ks = some kl ∧ kl.length = vs.length ∧ H a = some (.dT (kl.zip vs))))
  | .ins c ns ds => ∃ dx fs, H a = some (.ins (M.clA c) dx fs) ∧ fs.map (·.1) = ns.map M.nm ∧ Reps M ρ O H ds (fs.map (·.2))
  | _ => False
theorem Own.mono {d : D} {a : Addr} (hO : ∀ a, O' a → O a) (hH : Kp O H H') (ha : ∀ u, H a = some u → H' a = some u) (h : Own M ρ O H d a) : Own M ρ O' H' d a := by
  cases d with
  | lst xs => obtain ⟨vs, e, r⟩ := h; exact ⟨vs, ha _ e, r.mono hO hH⟩
  | dct ks ds =>
    obtain ⟨vs, r, q⟩ := h
    refine ⟨vs, r.mono hO hH, ?_⟩
    rcases q with ⟨kl, h1, h2, e⟩ | ⟨kl, h1, h2, e⟩
    · exact .inl ⟨kl, h1, h2, ha _ e⟩
    · exact .inr ⟨kl, h1, h2, ha _ e⟩
  | ins c ns ds => obtain ⟨dx, fs, e, h1, r⟩ := h; exact ⟨dx, fs, ha _ e, h1, r.mono hO hH⟩
  | _ => exact h.elim
theorem Own.avoid {d : D} {a p : Addr} (hp : H p = none) (h : Own M ρ O H d a) : Own M ρ (fun a => O a ∨ a = p) H d a := by
  cases d with
  | lst xs => obtain ⟨vs, e, r⟩ := h; exact ⟨vs, e, r.avoid hp⟩
  | dct ks ds => obtain ⟨vs, r, q⟩ := h; exact ⟨vs, r.avoid hp, q⟩
  | ins c ns ds => obtain ⟨dx, fs, e, h1, r⟩ := h; exact ⟨dx, fs, e, h1, r.avoid hp⟩
  | _ => exact h.elim
/-- handed on: from now on a plain tree -/
theorem Own.share {d : D} {a : Addr} (hO : ∀ b, O' b → O b ∧ b ≠ a) (h : Own M ρ O H d a) : Rep M ρ O' H d (.ref a) := by
  have h1 : ∀ b, O' b → O b := fun b z => (hO b z).1
  have h2 : ¬ O' a := fun z => (hO a z).2 rfl
  cases d with
  | lst xs => obtain ⟨vs, e, r⟩ := h; simp only [Rep]; exact ⟨a, vs, rfl, ⟨h2, e⟩, r.mono h1 (Kp.refl _ _)⟩
  | dct ks ds =>
    obtain ⟨vs, r, q⟩ := h
    simp only [Rep]
    refine ⟨a, vs, rfl, r.mono h1 (Kp.refl _ _), ?_⟩
    rcases q with ⟨kl, h3, h4, e⟩ | ⟨kl, h3, h4, e⟩
    · refine .inl ⟨kl, h3, h4, ⟨h2, .inl e⟩, fun z => ?_⟩
      subst z
      simp [toKeys] at h3
      subst h3
      exact e
    · refine .inr ⟨kl, h3, h4, ⟨h2, .inl e⟩, fun z => ?_⟩
      subst z
      simp [toKeyTs] at h3
      subst h3
      exact e
  | ins c ns ds => obtain ⟨dx, fs, e, h3, r⟩ := h; simp only [Rep]; exact ⟨a, dx, fs, rfl, ⟨h2, e⟩, h3, r.mono h1 (Kp.refl _ _)⟩
  | _ => exact h.elim
end

/-- what may lie in a slot -/
def SlotOk (M : Mt2) (ρ : List Addr) (O : Addr → Prop) (H : Hp) (own : Bool) (d : D) (v : V) : Prop :=
  (own = false → Rep M ρ O H d v) ∧ (own = true → ∃ a, v = .ref a ∧ O a ∧ a ∉ ρ ∧ Own M ρ O H d a)
structure StoOk (M : Mt2) (ρ : List Addr) (O : Addr → Prop) (sto : List D) (H : Hp) : Prop where
  rho : ∀ a ∈ ρ, O a
  nd : ρ.Nodup
  trk : ∀ a, O a → ∃ o, H a = some o ∧ ownO o
  tab : LamX.Tabs M.T H
  notup : ∀ a vs, O a → ¬ H a = some (.tup vs)
  at_ : ∀ (i : Nat) (d : D), sto[i]? = some d → ∃ (a : Addr) (xs : List D) (vs : List V), ρ[i]? = some a ∧ d = .lst xs ∧ H a = some (.lst vs) ∧ Reps M ρ O H xs vs
structure SRel (M : Mt2) (ρ : List Addr) (O : Addr → Prop) (st : St) (σ : L2.St) (H : Hp) : Prop where
  so : StoOk M ρ O st.sto H
  len : st.env.length = σ.length
  slot : ∀ (i : Nat) (own : Bool) (d : D), st.env[i]? = some (some (own, d)) → ∃ v, σ[i]? = some (some v) ∧ SlotOk M ρ O H own d v
  inj : ∀ (i j : Nat) (d d' : D) (a : Addr), st.env[i]? = some (some (true, d)) → st.env[j]? = some (some (true, d')) → σ[i]? = some (some (.ref a)) → σ[j]? = some (some (.ref a)) → i = j
/-- what may be written through the store -/
def Wr (ρ : List Addr) (sto : List D) (b : Addr) : Prop := ∃ i, i < sto.length ∧ ρ[i]? = some b
/-- what stands stays, but for what may be written; nothing goes away -/
structure Ext (M : Mt2) (w : Addr → Prop) (H H' : Hp) : Prop where
  keep : ∀ b u, ¬ w b → notTbl u → H b = some u → H' b = some u
  dom : ∀ b, H' b = none → H b = none
  tab : LamX.Tabs M.T H → LamX.Tabs M.T H'

theorem Ext.refl {M : Mt2} (w : Addr → Prop) (H : Hp) : Ext M w H H := ⟨fun _ _ _ _ h => h, fun _ h => h, fun h => h⟩
theorem Ext.trans {M : Mt2} {w w' : Addr → Prop} {H H1 H2 : Hp} (a : Ext M w H H1) (b : Ext M w' H1 H2) (hw : ∀ b, w' b → w b) : Ext M w H H2 :=
  ⟨fun x u n t h => b.keep x u (fun z => n (hw x z)) t (a.keep x u n t h), fun x h => a.dom x (b.dom x h), fun h => b.tab (a.tab h)⟩
theorem Ext.weak {M : Mt2} {w w' : Addr → Prop} {H H1 : Hp} (a : Ext M w H H1) (hw : ∀ b, w b → w' b) : Ext M w' H H1 := ⟨fun x u n t h => a.keep x u (fun z => n (hw x z)) t h, a.dom, a.tab⟩
/-- a table stays where something else is written -/
theorem tab_upd {H : Hp} {a P : Addr} {o : HO} {q : Str} (ha : ∀ u, H a = some u → ownO u) (h : LamX.TabS H P q) : LamX.TabS (upd H a o) P q := by
  obtain ⟨ps, h1, h2, h3⟩ := h
  refine ⟨ps, ?_, h2, fun pos cv hc => ?_⟩
  · rw [upd_ne fun z => by rw [z] at h1; exact (ha _ h1).elim]; exact h1
  · obtain ⟨c, e1, e2⟩ := h3 pos cv hc
    exact ⟨c, e1, by rw [upd_ne fun z => by rw [z] at e2; exact (ha _ e2).elim]; exact e2⟩
theorem tabs_upd {H : Hp} {a : Addr} {o : HO} {T : List (Addr × Str)} (ha : ∀ u, H a = some u → ownO u) (h : LamX.Tabs T H) : LamX.Tabs T (upd H a o) := fun p hp => tab_upd ha (h p hp)
theorem Ext.rd {M : Mt2} {w : Addr → Prop} {H H' : Hp} (e : Ext M w H H') {a : Addr} {u : HO} (n : ¬ w a) (t : notTbl u) (h : Rd H a u) : Rd H' a u := by
  rcases h with h | ⟨o, h⟩
  · exact .inl (e.keep a u n t h)
  · exact .inr ⟨o, e.keep a _ n trivial h⟩
/-- something new -/
theorem Ext.new {M : Mt2} {w : Addr → Prop} {H : Hp} {p : Addr} {o : HO} (hp : H p = none) : Ext M w H (upd H p o) :=
  ⟨fun b u _ _ h => by rw [upd_ne (ne_of_none h hp)]; exact h, fun b h => by
    by_cases e : b = p
    · rw [e]; exact hp
    · rw [upd_ne e] at h; exact h, fun h => tabs_upd (fun u hu => by rw [hp] at hu; cases hu) h⟩
theorem Wr.sub {ρ : List Addr} {sto : List D} {b : Addr} (h : Wr ρ sto b) : b ∈ ρ := by
  obtain ⟨i, _, e⟩ := h
  exact List.mem_of_getElem? e
theorem Wr.len {ρ : List Addr} {s s' : List D} (h : s'.length ≤ s.length) {b : Addr} (w : Wr ρ s' b) : Wr ρ s b := by
  obtain ⟨i, l, e⟩ := w
  exact ⟨i, by omega, e⟩
section
variable {M : Mt2} {ρ : List Addr} {O O' : Addr → Prop} {H H' : Hp} {w : Addr → Prop} {st : St} {σ : L2.St} {sto : List D}
theorem Ext.kp (e : Ext M w H H') (hw : ∀ b, w b → O b) : Kp O H H' :=
  ⟨fun a u n t q => e.rd (fun z => n (hw a z)) t q, fun a vs n q => e.keep a _ (fun z => n (hw a z)) trivial q, fun a vs n q => e.keep a _ (fun z => n (hw a z)) trivial q, fun a C dx fs n q => e.keep a _ (fun z => n (hw a z)) trivial q, fun a n q => e.keep a _ (fun z => n (hw a z)) trivial q, fun a n q => e.keep a _ (fun z => n (hw a z)) trivial q, fun a φ n q => e.keep a _ (fun z => n (hw a z)) trivial q⟩
theorem Rep.ext (e : Ext M w H H') (hw : ∀ b, w b → O b) (hO : ∀ a, O' a → O a) {d : D} {v : V} (h : Rep M ρ O H d v) : Rep M ρ O' H' d v :=
  h.mono hO (e.kp hw)
theorem Reps.ext (e : Ext M w H H') (hw : ∀ b, w b → O b) (hO : ∀ a, O' a → O a) {d : List D} {v : List V} (h : Reps M ρ O H d v) : Reps M ρ O' H' d v :=
  h.mono hO (e.kp hw)
theorem StoOk.wr (s : StoOk M ρ O sto H) {sto' : List D} : ∀ b, Wr ρ sto' b → O b := fun b h => s.rho b h.sub
theorem own_ownO {d : D} {a : Addr} (h : Own M ρ O H d a) : ∃ u, H a = some u ∧ ownO u := by
  cases d with
  | lst xs => obtain ⟨vs, e, _⟩ := h; exact ⟨_, e, trivial⟩
  | dct ks ds => obtain ⟨vs, _, ⟨_, _, _, e⟩ | ⟨_, _, _, e⟩⟩ := h <;> exact ⟨_, e, trivial⟩
  | ins c ns ds => obtain ⟨dx, fs, e, _⟩ := h; exact ⟨_, e, trivial⟩
  | _ => exact h.elim
theorem own_notTbl {d : D} {a : Addr} (h : Own M ρ O H d a) : ∃ u, H a = some u ∧ notTbl u := by
  obtain ⟨u, h1, h2⟩ := own_ownO h
  exact ⟨u, h1, h2.nt⟩
theorem Own.ext (e : Ext M w H H') (hw : ∀ b, w b → O b) (hO : ∀ a, O' a → O a) {d : D} {a : Addr} (na : ¬ w a) (h : Own M ρ O H d a) : Own M ρ O' H' d a := by
  obtain ⟨u, hu, ht⟩ := own_notTbl h
  exact h.mono hO (e.kp hw) fun v hv => by
    rw [hu] at hv; cases hv
    exact e.keep a u na ht hu
/-- nothing that is known changes -/
theorem StoOk.grow (s : StoOk M ρ O sto H) (e : Ext M (fun _ => False) H H') : StoOk M ρ O sto H' := by
  refine ⟨s.rho, s.nd, fun a h => ?_, e.tab s.tab, fun a vs h q => ?_, fun i d h => ?_⟩
  · obtain ⟨o, ho, t⟩ := s.trk a h
    exact ⟨o, e.keep a o (fun z => z) t.nt ho, t⟩
  · obtain ⟨o, ho, t⟩ := s.trk a h
    have h1 := e.keep a o (fun z => z) t.nt ho
    rw [h1] at q; cases q
    exact s.notup a vs h ho
  · obtain ⟨a, xs, vs, h1, h2, h3, h4⟩ := s.at_ i d h
    exact ⟨a, xs, vs, h1, h2, e.keep a _ (fun z => z) trivial h3, h4.ext e (fun _ z => z.elim) fun _ z => z⟩
theorem SRel.grow (s : SRel M ρ O st σ H) (e : Ext M (fun _ => False) H H') : SRel M ρ O st σ H' := by
  refine ⟨s.so.grow e, s.len, fun i own d h => ?_, s.inj⟩
  obtain ⟨v, h1, h2, h3⟩ := s.slot i own d h
  refine ⟨v, h1, fun z => (h2 z).ext e (fun _ z => z.elim) fun _ z => z, fun z => ?_⟩
  obtain ⟨a, q1, q2, q3, q4⟩ := h3 z
  exact ⟨a, q1, q2, q3, q4.ext e (fun _ z => z.elim) (fun _ z => z) fun z => z⟩
/-- the new thing at p becomes the frame's own -/
theorem StoOk.own (s : StoOk M ρ O sto H) {p : Addr} {o : HO} (hp : H p = none) (ht : ownO o) (hn : ∀ vs, ¬ (o = .tup vs)) : StoOk M ρ (fun a => O a ∨ a = p) sto (upd H p o) := by
  have e : Ext M (fun _ => False) H (upd H p o) := Ext.new hp
  have s1 := s.grow e
  refine ⟨fun a h => .inl (s1.rho a h), s1.nd, fun a h => ?_, s1.tab, fun a vs h q => ?_, fun i d h => ?_⟩
  · rcases h with h | rfl
    · exact s1.trk a h
    · exact ⟨o, upd_same, ht⟩
  · rcases h with h | rfl
    · exact s1.notup a vs h q
    · rw [upd_same] at q; cases q; exact hn vs rfl
  · obtain ⟨a, xs, vs, h1, h2, h3, h4⟩ := s.at_ i d h
    exact ⟨a, xs, vs, h1, h2, e.keep a _ (fun z => z) trivial h3, (h4.avoid hp).ext e (fun _ z => z.elim) fun _ z => z⟩
theorem SRel.own (s : SRel M ρ O st σ H) {p : Addr} {o : HO} (hp : H p = none) (ht : ownO o) (hn : ∀ vs, ¬ (o = .tup vs)) : SRel M ρ (fun a => O a ∨ a = p) st σ (upd H p o) := by
  have e : Ext M (fun _ => False) H (upd H p o) := Ext.new hp
  refine ⟨s.so.own hp ht hn, s.len, fun i own d h => ?_, s.inj⟩
  obtain ⟨v, h1, h2, h3⟩ := s.slot i own d h
  refine ⟨v, h1, fun z => ((h2 z).avoid hp).ext e (fun _ z => z.elim) fun _ z => z, fun z => ?_⟩
  obtain ⟨a, q1, q2, q3, q4⟩ := h3 z
  exact ⟨a, q1, .inl q2, q3, (q4.avoid hp).ext e (fun _ z => z.elim) (fun _ z => z) fun z => z⟩
/-- the slot's thing is handed on -/
theorem SRel.share (s : SRel M ρ O st σ H) (i : Nat) : ∃ O', (∀ a, O' a → O a) ∧ SRel M ρ O' (share st i) σ H ∧
    (∀ own d v, st.env[i]? = some (some (own, d)) → σ[i]? = some (some v) → Rep M ρ O' H d v) ∧
    (∀ a, O a → O' a ∨ ∃ (j : Nat) (d : D), st.env[j]? = some (some (true, d)) ∧ (TI.share st i).env[j]? = some (some (false, d)) ∧ σ[j]? = some (some (.ref a))) := by
  unfold TI.share
  cases hi : (st.env[i]?).join with
  | none =>
    refine ⟨O, fun _ h => h, s, fun own d v h _ => ?_, fun _ h => .inl h⟩
    rw [h] at hi; simp at hi
  | some p =>
    obtain ⟨own, d⟩ := p
    have hi' : st.env[i]? = some (some (own, d)) := by
      cases q : st.env[i]? with
      | none => rw [q] at hi; simp at hi
      | some y => rw [q] at hi; simp at hi; rw [hi]
    obtain ⟨v, h1, h2, h3⟩ := s.slot i own d hi'
    cases own with
    | false =>
      refine ⟨O, fun _ h => h, s, fun own d' v' h h' => ?_, fun _ h => .inl h⟩
      rw [hi'] at h; cases h
      rw [h1] at h'; cases h'
      exact h2 rfl
    | true =>
      obtain ⟨a, rfl, oa, na, ow⟩ := h3 rfl
      refine ⟨fun b => O b ∧ b ≠ a, fun b h => h.1, ?_, ?_, ?_⟩
      · have mono : ∀ b, (O b ∧ b ≠ a) → O b := fun b h => h.1
        refine ⟨⟨fun b h => ⟨s.so.rho b h, fun e => na (e ▸ h)⟩, s.so.nd, fun b h => s.so.trk b h.1, s.so.tab, fun b vs h => s.so.notup b vs h.1, fun j e h => ?_⟩, by simpa using s.len, fun j own e h => ?_, fun j k e e' b hj hk sj sk => ?_⟩
        · obtain ⟨b, xs, vs, g1, g2, g3, g4⟩ := s.so.at_ j e h
          exact ⟨b, xs, vs, g1, g2, g3, g4.mono mono (Kp.refl _ _)⟩
        · by_cases hji : j = i
          · subst hji
            have hl : j < st.env.length := by
              rcases Nat.lt_or_ge j st.env.length with z | z
              · exact z
              · rw [List.getElem?_eq_none z] at hi'; cases hi'
            simp only [List.getElem?_set_self hl] at h
            cases h
            exact ⟨_, h1, fun _ => ow.share fun b h => h, fun z => by cases z⟩
          · simp only [List.getElem?_set_ne (Ne.symm hji)] at h
            obtain ⟨v, g1, g2, g3⟩ := s.slot j own e h
            refine ⟨v, g1, fun z => (g2 z).mono mono (Kp.refl _ _), fun z => ?_⟩
            subst z
            obtain ⟨b, rfl, ob, nb, owb⟩ := g3 rfl
            refine ⟨b, rfl, ⟨ob, fun e => ?_⟩, nb, owb.mono mono (Kp.refl _ _) fun _ q => q⟩
            subst e
            exact hji (s.inj j i _ _ b h hi' g1 h1)
        · have hl : ∀ {k e}, (st.env.set i (some (false, d)))[k]? = some (some (true, e)) → st.env[k]? = some (some (true, e)) := fun {k e} h => by
            by_cases hki : i = k
            · subst hki
              rw [List.getElem?_set_self (by
                rcases Nat.lt_or_ge i st.env.length with z | z
                · exact z
                · rw [List.getElem?_eq_none z] at hi'; cases hi')] at h
              cases h
            · rwa [List.getElem?_set_ne hki] at h
          exact s.inj j k _ _ b (hl hj) (hl hk) sj sk
      · intro own d' v' h h'
        rw [hi'] at h; cases h
        rw [h1] at h'; cases h'
        exact ow.share fun b h => h
      · intro b hb
        by_cases e : b = a
        · subst e
          refine .inr ⟨i, d, hi', ?_, h1⟩
          have hl : i < st.env.length := (List.getElem?_eq_some_iff.mp hi').1
          simp [List.getElem?_set_self hl]
        · exact .inl ⟨hb, e⟩
/-- a store into a slot -/
theorem SRel.setv (s : SRel M ρ O st σ H) {i : Nat} {own : Bool} {d : D} {v : V} (h : SlotOk M ρ O H own d v) (hn : own = true → ∀ j e, j ≠ i → st.env[j]? = some (some (true, e)) → σ[j]? ≠ some (some v)) :
    SRel M ρ O (TI.setv st i own d) (σ.set i (some v)) H := by
  refine ⟨s.so, by simp [TI.setv, s.len], fun j own' e hj => ?_, fun j k e e' a hj hk sj sk => ?_⟩
  · simp only [TI.setv] at hj
    by_cases hji : i = j
    · subst hji
      by_cases hl : i < st.env.length
      · rw [List.getElem?_set_self hl] at hj
        cases hj
        exact ⟨v, List.getElem?_set_self (by rw [← s.len]; exact hl), h⟩
      · rw [List.getElem?_eq_none (by simpa using hl)] at hj; cases hj
    · rw [List.getElem?_set_ne hji] at hj
      rw [List.getElem?_set_ne hji]
      exact s.slot j own' e hj
  · simp only [TI.setv] at hj hk
    by_cases hji : i = j
    · by_cases hki : i = k
      · rw [← hji, ← hki]
      · rw [List.getElem?_set_ne hki] at hk sk
        subst hji
        by_cases hl : i < st.env.length
        · rw [List.getElem?_set_self hl] at hj
          rw [List.getElem?_set_self (by rw [← s.len]; exact hl)] at sj
          cases hj; cases sj
          exact absurd sk (hn rfl k e' (Ne.symm hki) hk)
        · rw [List.getElem?_eq_none (by simpa using hl)] at hj; cases hj
    · rw [List.getElem?_set_ne hji] at hj sj
      by_cases hki : i = k
      · subst hki
        by_cases hl : i < st.env.length
        · rw [List.getElem?_set_self hl] at hk
          rw [List.getElem?_set_self (by rw [← s.len]; exact hl)] at sk
          cases hk; cases sk
          exact absurd sj (hn rfl j e (Ne.symm hji) hj)
        · rw [List.getElem?_eq_none (by simpa using hl)] at hk; cases hk
      · rw [List.getElem?_set_ne hki] at hk sk
        exact s.inj j k e e' a hj hk sj sk
end
end TI

end

section
set_option Elab.async false
set_option linter.all false
set_option maxRecDepth 100000
set_option maxHeartbeats 1000000
/-! TI3: the interpreter's readings; names, constants, operators. -/
namespace TI
open PySem L2

def wpR {α : Type} (x : R α) (post : α → St → Prop) (ex : D → St → Prop) : Prop := match x with
  | .ok a s => post a s
  | .exc e s => ex e s
  | .no => False
theorem wpR.bind {α β : Type} {x : R α} {f : α → St → R β} {post : β → St → Prop} {ex : D → St → Prop} (h : wpR (x.bind f) post ex) : wpR x (fun a s => wpR (f a s) post ex) ex := by
  cases x with
  | ok a s => exact h
  | exc e s => exact h
  | no => exact h
theorem wpR.mono {α : Type} {x : R α} {p q : α → St → Prop} {ex ey : D → St → Prop} (h : wpR x p ex) (hp : ∀ a s, p a s → q a s) (he : ∀ e s, ex e s → ey e s) : wpR x q ey := by
  cases x with
  | ok a s => exact hp a s h
  | exc e s => exact he e s h
  | no => exact h
theorem wpR.lift {α β : Type} {o : Option α} {s : St} {f : α → R β} {post : β → St → Prop} {ex : D → St → Prop} (h : wpR (TI.lift o s f) post ex) : ∃ a, o = some a ∧ wpR (f a) post ex := by
  cases o with
  | none => exact h.elim
  | some a => exact ⟨a, rfl, h⟩
theorem wpR.ok {α : Type} {a : α} {s : St} {post : α → St → Prop} {ex : D → St → Prop} (h : wpR (.ok a s) post ex) : post a s := h

/-- the built-ins that the code may use -/
def bltNames : List Str := ["len", "abs", "int", "str", "bool", "isinstance", "all", "any", "sum", "tuple", "list", "min", "max", "sorted", "repr", "range", "enumerate", "zip", "dict"]
def bltB (x : Str) : Bool := bltNames.contains x
/-- the static context of a block -/
structure Gam where
  N : List Str
  sc : Scope
  gl : Str → Option D
  fc : Str → Bool
  /-- where lambdas may be made: the names' prefix, the code object -/
  mak : Option (Str × Value)
structure Good (M : Mt2) (X : Cx) (Γ : Gam) : Prop where
  K : X.K = M.K
  prog : X.prog = M.prog
  w : X.w = M.w
  mg : X.mg = M.mg
  base : X.base = M.base
  N : X.N = Γ.N
  nd : X.N.Nodup
  sc : X.env.scope = Γ.sc
  calm : X.calm = true
  gl : ∀ x d, Γ.gl x = some d → ∃ u v, X.mg x = some u ∧ RelV v u ∧ ∀ ρ O H, Rep M ρ O H d v
  nogl : ∀ x, Γ.gl x = none → bltB x = true → X.mg x = none
  fn : ∀ x, Γ.fc x = true → X.fn x = true
  mak : ∀ q c, Γ.mak = some (q, c) → X.env.qual = q ∧ X.env.code = c

/-- the top may be the frame's own -/
def Rep1 (M : Mt2) (ρ : List Addr) (O : Addr → Prop) (H : Hp) (d : D) (v : V) : Prop := Rep M ρ O H d v ∨ ∃ a, v = .ref a ∧ O a ∧ a ∉ ρ ∧ Own M ρ O H d a
def Reps1 (M : Mt2) (ρ : List Addr) (O : Addr → Prop) (H : Hp) : List D → List V → Prop
  | [], vs => vs = []
  | d :: ds, vs => ∃ v r, vs = v :: r ∧ Rep1 M ρ O H d v ∧ Reps1 M ρ O H ds r
/-- slots stay, or are handed on -/
def EnvLe (e e' : List (Option (Bool × D))) : Prop := ∀ i : Nat, e[i]? = e'[i]? ∨ ∃ d : D, e[i]? = some (some (true, d)) ∧ e'[i]? = some (some (false, d))
theorem EnvLe.refl (e : List (Option (Bool × D))) : EnvLe e e := fun _ => .inl rfl
theorem EnvLe.trans {e e1 e2 : List (Option (Bool × D))} (a : EnvLe e e1) (b : EnvLe e1 e2) : EnvLe e e2 := fun i => by
  rcases a i with h | ⟨d, h1, h2⟩
  · rcases b i with g | ⟨d, g1, g2⟩
    · exact .inl (h.trans g)
    · exact .inr ⟨d, h.trans g1, g2⟩
  · rcases b i with g | ⟨d', g1, g2⟩
    · exact .inr ⟨d, h1, g ▸ h2⟩
    · rw [h2] at g1; cases g1
theorem EnvLe.own {e e' : List (Option (Bool × D))} (a : EnvLe e e') {i : Nat} {d : D} (h : e'[i]? = some (some (true, d))) : e[i]? = some (some (true, d)) := by
  rcases a i with g | ⟨d', g1, g2⟩
  · rw [g]; exact h
  · rw [h] at g2; cases g2
theorem EnvLe.slot {e e' : List (Option (Bool × D))} (a : EnvLe e e') {i : Nat} {o : Bool} {d : D} (h : e[i]? = some (some (o, d))) : ∃ o', e'[i]? = some (some (o', d)) ∧ (o' = true → o = true) := by
  rcases a i with g | ⟨d', g1, g2⟩
  · exact ⟨o, by rw [← g]; exact h, fun z => z⟩
  · rw [h] at g1; cases g1
    exact ⟨false, g2, fun z => by cases z⟩
/-- what an evaluation leaves, whatever its value -/
structure Left (M : Mt2) (ρ : List Addr) (O : Addr → Prop) (st : St) (σ : L2.St) (H : Hp) (O' : Addr → Prop) (st' : St) (H' : Hp) : Prop where
  sub : ∀ a, O' a → O a
  ext : Ext M (Wr ρ st.sto) H H'
  slen : st'.sto.length = st.sto.length
  dep : st'.dep = st.dep
  rel : SRel M ρ O' st' σ H'
  env : EnvLe st.env st'.env
  lo : st'.lo = st.lo
  low : ∀ a, O a → O' a ∨ ∃ (i : Nat) (d : D), st.env[i]? = some (some (true, d)) ∧ st'.env[i]? = some (some (false, d)) ∧ σ[i]? = some (some (.ref a))
def PostE (M : Mt2) (ρ : List Addr) (O : Addr → Prop) (st : St) (σ : L2.St) (H : Hp) (d : D) (fr : Bool) (st' : St) (v : V) (H' : Hp) : Prop :=
  ∃ O', Left M ρ O st σ H O' st' H' ∧ (fr = false → Rep M ρ O' H' d v) ∧
    (fr = true → ∃ a, v = .ref a ∧ ¬ O' a ∧ H a = none ∧ SRel M ρ (fun b => O' b ∨ b = a) st' σ H' ∧ Own M ρ (fun b => O' b ∨ b = a) H' d a)
/-- a looked-at thing: a tree, or what an own slot holds -/
def Arg1 (M : Mt2) (ρ : List Addr) (O : Addr → Prop) (H : Hp) (st : St) (σ : L2.St) (se : SE) (d : D) (v : V) : Prop := Rep M ρ O H d v ∨ ∃ i : Nat, se = .var i ∧ st.env[i]? = some (some (true, d)) ∧ σ[i]? = some (some v)
def Args (M : Mt2) (ρ : List Addr) (O : Addr → Prop) (H : Hp) (st : St) (σ : L2.St) : List SE → List D → List V → Prop
  | [], ds, vs => ds = [] ∧ vs = []
  | se :: ses, ds, vs => ∃ d r v w, ds = d :: r ∧ vs = v :: w ∧ Arg1 M ρ O H st σ se d v ∧ Args M ρ O H st σ ses r w
def PostP (M : Mt2) (ρ : List Addr) (O : Addr → Prop) (st : St) (σ : L2.St) (H : Hp) (se : SE) (d : D) (st' : St) (v : V) (H' : Hp) : Prop :=
  ∃ O', Left M ρ O st σ H O' st' H' ∧ Rep1 M ρ O' H' d v ∧ Arg1 M ρ O' H' st' σ se d v
def PostA (M : Mt2) (ρ : List Addr) (O : Addr → Prop) (st : St) (σ : L2.St) (H : Hp) (ds : List D) (st' : St) (vs : List V) (H' : Hp) : Prop :=
  ∃ O', Left M ρ O st σ H O' st' H' ∧ Reps M ρ O' H' ds vs
def PostA1 (M : Mt2) (ρ : List Addr) (O : Addr → Prop) (st : St) (σ : L2.St) (H : Hp) (ses : List SE) (ds : List D) (st' : St) (vs : List V) (H' : Hp) : Prop :=
  ∃ O', Left M ρ O st σ H O' st' H' ∧ Args M ρ O' H' st' σ ses ds vs
/-- an exception's value: a tree that tells its class and its fields -/
def ExcAt (M : Mt2) (ρ : List Addr) (O : Addr → Prop) (H : Hp) (e : D) (cls : Value) (dd : Option Addr) : Prop := match e with
  | .ins c ns ds => cls = .ref (M.clA c) ∧ ∃ a fs, dd = some a ∧ Nd O H a (.xd fs) ∧ fs.map (·.1) = ns.map M.nm ∧ Reps M ρ O H ds (fs.map (·.2))
  | _ => False
/-- an exception may leave -/
def Bx (M : Mt2) (W : WX) (ρ : List Addr) (O : Addr → Prop) (st : St) (σ : L2.St) (H : Hp) (e : D) (st' : St) : Prop :=
  ∀ (cls : Value) (dd : Option Addr) (H' : Hp) (O' : Addr → Prop), Left M ρ O st σ H O' st' H' → ExcAt M ρ O' H' e cls dd → W cls dd σ H'
theorem Left.refl {M : Mt2} {ρ : List Addr} {O : Addr → Prop} {st : St} {σ : L2.St} {H : Hp} (s : SRel M ρ O st σ H) : Left M ρ O st σ H O st H := ⟨fun _ h => h, Ext.refl _ _, rfl, rfl, s, EnvLe.refl _, rfl, fun _ h => .inl h⟩
theorem Left.trans {M : Mt2} {ρ : List Addr} {O O1 O2 : Addr → Prop} {st st1 st2 : St} {σ : L2.St} {H H1 H2 : Hp} (a : Left M ρ O st σ H O1 st1 H1) (b : Left M ρ O1 st1 σ H1 O2 st2 H2) : Left M ρ O st σ H O2 st2 H2 :=
  ⟨fun x h => a.sub x (b.sub x h), a.ext.trans b.ext fun x h => h.len (by rw [a.slen]; exact Nat.le_refl _), b.slen.trans a.slen, b.dep.trans a.dep, b.rel, a.env.trans b.env, b.lo.trans a.lo, fun x h => by
    rcases a.low x h with h1 | ⟨i, d, h1, h2, h3⟩
    · rcases b.low x h1 with h2 | ⟨i, d, g1, g2, g3⟩
      · exact .inl h2
      · exact .inr ⟨i, d, a.env.own g1, g2, g3⟩
    · obtain ⟨o', g1, g2⟩ := b.env.slot h2
      cases o' with
      | false => exact .inr ⟨i, d, h1, g1, h3⟩
      | true => cases g2 rfl⟩
theorem Bx.later {M : Mt2} {W : WX} {ρ : List Addr} {O O1 : Addr → Prop} {st st1 st2 : St} {σ : L2.St} {H H1 : Hp} {e : D} (l : Left M ρ O st σ H O1 st1 H1) (b : Bx M W ρ O st σ H e st2) : Bx M W ρ O1 st1 σ H1 e st2 :=
  fun cls dd H' O' l' x => b cls dd H' O' (l.trans l') x
/-- the abstract heap grows by something new alone -/
theorem Left.grow {M : Mt2} {ρ : List Addr} {O : Addr → Prop} {st : St} {σ : L2.St} {H H' : Hp} (s : SRel M ρ O st σ H) (e : Ext M (fun _ => False) H H') : Left M ρ O st σ H O st H' :=
  ⟨fun _ h => h, e.weak fun _ z => z.elim, rfl, rfl, s.grow e, EnvLe.refl _, rfl, fun _ h => .inl h⟩

section
variable {M : Mt2} {ρ : List Addr} {O O' : Addr → Prop} {H H' : Hp} {st st' : St} {σ : L2.St}
theorem Rep1.left (l : Left M ρ O st σ H O' st' H') (s : SRel M ρ O st σ H) {d : D} {v : V} (h : Rep1 M ρ O H d v) : Rep1 M ρ O' H' d v := by
  rcases h with h | ⟨a, e, oa, na, ow⟩
  · exact .inl (h.ext l.ext s.so.wr l.sub)
  · by_cases q : O' a
    · exact .inr ⟨a, e, q, na, ow.ext l.ext s.so.wr l.sub fun z => na z.sub⟩
    · subst e
      refine .inl ?_
      have := ow.share (O' := O') fun b h => ⟨l.sub b h, fun e => q (by rw [← e]; exact h)⟩
      obtain ⟨u, hu, ht⟩ := own_notTbl ow
      exact Rep.mono (fun _ h => h) (l.ext.kp l.rel.so.wr) this
theorem Rep.left (l : Left M ρ O st σ H O' st' H') (s : SRel M ρ O st σ H) {d : D} {v : V} (h : Rep M ρ O H d v) : Rep M ρ O' H' d v := h.ext l.ext s.so.wr l.sub
theorem Reps.left (l : Left M ρ O st σ H O' st' H') (s : SRel M ρ O st σ H) {d : List D} {v : List V} (h : Reps M ρ O H d v) : Reps M ρ O' H' d v := h.ext l.ext s.so.wr l.sub
theorem Reps1.left (l : Left M ρ O st σ H O' st' H') (s : SRel M ρ O st σ H) : ∀ {d : List D} {v : List V}, Reps1 M ρ O H d v → Reps1 M ρ O' H' d v
  | [], _, h => h
  | _ :: _, _, ⟨v, r, e, h1, h2⟩ => ⟨v, r, e, h1.left l s, h2.left l s⟩
theorem Reps.to1 : ∀ {d : List D} {v : List V}, Reps M ρ O H d v → Reps1 M ρ O H d v
  | [], _, h => by simpa [Reps, Reps1] using h
  | _ :: _, _, h => by
    simp only [Reps] at h
    obtain ⟨v, r, e, h1, h2⟩ := h
    exact ⟨v, r, e, .inl h1, h2.to1⟩
theorem Arg1.to1 (s : SRel M ρ O st σ H) {se : SE} {d : D} {v : V} (h : Arg1 M ρ O H st σ se d v) : Rep1 M ρ O H d v := by
  rcases h with h | ⟨i, _, h1, h2⟩
  · exact .inl h
  · obtain ⟨v', g1, _, g3⟩ := s.slot i _ _ h1
    rw [h2] at g1; cases g1
    exact .inr (g3 rfl)
theorem Arg1.left (l : Left M ρ O st σ H O' st' H') (s : SRel M ρ O st σ H) {se : SE} {d : D} {v : V} (h : Arg1 M ρ O H st σ se d v) : Arg1 M ρ O' H' st' σ se d v := by
  rcases h with h | ⟨i, e, h1, h2⟩
  · exact .inl (h.left l s)
  · obtain ⟨o', g1, _⟩ := l.env.slot h1
    cases o' with
    | true => exact .inr ⟨i, e, g1, h2⟩
    | false =>
      obtain ⟨v', q1, q2, _⟩ := l.rel.slot i _ _ g1
      rw [h2] at q1; cases q1
      exact .inl (q2 rfl)
theorem Args.to1 (s : SRel M ρ O st σ H) : ∀ {ses : List SE} {ds : List D} {vs : List V}, Args M ρ O H st σ ses ds vs → Reps1 M ρ O H ds vs
  | [], _, _, ⟨h1, h2⟩ => by subst h1; exact h2
  | _ :: _, _, _, ⟨d, r, v, w, h1, h2, h3, h4⟩ => by subst h1; exact ⟨v, w, h2, h3.to1 s, h4.to1 s⟩
theorem Args.left (l : Left M ρ O st σ H O' st' H') (s : SRel M ρ O st σ H) : ∀ {ses : List SE} {ds : List D} {vs : List V}, Args M ρ O H st σ ses ds vs → Args M ρ O' H' st' σ ses ds vs
  | [], _, _, h => h
  | _ :: _, _, _, ⟨d, r, v, w, h1, h2, h3, h4⟩ => ⟨d, r, v, w, h1, h2, h3.left l s, h4.left l s⟩
theorem PostE.toP {se : SE} {d : D} {fr : Bool} {v : V} (h : PostE M ρ O st σ H d fr st' v H') : PostP M ρ O st σ H se d st' v H' := by
  obtain ⟨O', l, h1, h2⟩ := h
  suffices q : Rep M ρ O' H' d v from ⟨O', l, .inl q, .inl q⟩
  cases fr with
  | false => exact h1 rfl
  | true =>
    obtain ⟨a, rfl, na, _, s2, ow⟩ := h2 rfl
    exact ow.share fun b h => ⟨.inl h, fun e => na (e ▸ h)⟩
theorem PostE.toRep {d : D} {fr : Bool} {v : V} (h : PostE M ρ O st σ H d fr st' v H') : ∃ O', Left M ρ O st σ H O' st' H' ∧ Rep M ρ O' H' d v := by
  obtain ⟨O', l, h1, h2⟩ := h
  refine ⟨O', l, ?_⟩
  cases fr with
  | false => exact h1 rfl
  | true =>
    obtain ⟨a, rfl, na, _, s2, ow⟩ := h2 rfl
    exact ow.share fun b h => ⟨.inl h, fun e => na (e ▸ h)⟩
/-- a plain result at the end of an evaluation -/
theorem PostE.plain (l : Left M ρ O st σ H O' st' H') {d : D} {v : V} (h : Rep M ρ O' H' d v) : PostE M ρ O st σ H d false st' v H' := ⟨O', l, fun _ => h, fun z => by cases z⟩
/-- a new thing at the end -/
theorem PostE.new (l : Left M ρ O st σ H O' st' H') {d : D} {p : Addr} {o : HO} (hp : H' p = none) (ht : ownO o) (hn : ∀ vs, ¬ (o = .tup vs))
    (ow : Own M ρ (fun b => O' b ∨ b = p) (upd H' p o) d p) : PostE M ρ O st σ H d true st' (.ref p) (upd H' p o) := by
  have e : Ext M (fun _ => False) H' (upd H' p o) := Ext.new hp
  refine ⟨O', l.trans (Left.grow l.rel e), (fun z => by cases z), fun _ => ⟨p, rfl, fun z => ?_, l.ext.dom p hp, l.rel.own hp ht hn, ow⟩⟩
  obtain ⟨o, ho, _⟩ := l.rel.so.trk p z
  rw [hp] at ho; cases ho
theorem PostE.newL (l : Left M ρ O st σ H O' st' H') {ds : List D} {vs : List V} {p : Addr} (hp : H' p = none) (h : Reps M ρ O' H' ds vs) : PostE M ρ O st σ H (.lst ds) true st' (.ref p) (upd H' p (.lst vs)) :=
  PostE.new l hp trivial (fun _ z => by cases z) ⟨vs, upd_same, (h.avoid hp).ext (Ext.new (w := fun _ => False) hp) (fun _ z => z.elim) fun _ z => z⟩
theorem PostE.newT (l : Left M ρ O st σ H O' st' H') {ds : List D} {vs : List V} {p : Addr} (hp : H' p = none) (h : Reps M ρ O' H' ds vs) : PostE M ρ O st σ H (.tup ds) false st' (.ref p) (upd H' p (.tup vs)) := by
  have e : Ext M (fun _ => False) H' (upd H' p (.tup vs)) := Ext.new hp
  refine PostE.plain (l.trans (Left.grow l.rel e)) ?_
  simp only [Rep]
  refine ⟨p, vs, rfl, ⟨fun z => ?_, upd_same⟩, h.ext e (fun _ z => z.elim) fun _ z => z⟩
  obtain ⟨o, ho, _⟩ := l.rel.so.trk p z
  rw [hp] at ho; cases ho
end

/-! ### the readings -/
section
variable (M : Mt2) (X : Cx) (W : WX) (r : Rec)
def tE (se : SE) : TE := fun σ H Q => ∃ ρ O st, SRel M ρ O st σ H ∧ Room st.dep X.A ∧ wpR (r.ev se st) (fun p st' => ∀ v H', PostE M ρ O st σ H p.1 p.2 st' v H' → Q v H') (Bx M W ρ O st σ H)
def tP (se : SE) : TE := fun σ H Q => ∃ ρ O st, SRel M ρ O st σ H ∧ Room st.dep X.A ∧ wpR (pk r se st) (fun d st' => ∀ v H', PostP M ρ O st σ H se d st' v H' → Q v H') (Bx M W ρ O st σ H)
def tT (se : SE) : TT := fun σ H Q => ∃ ρ O st, SRel M ρ O st σ H ∧ Room st.dep X.A ∧ wpR (r.tst se st) (fun b st' => ∀ H' O', Left M ρ O st σ H O' st' H' → Q b H') (Bx M W ρ O st σ H)
def tAs (ses : List SE) : TA := fun σ H Q => ∃ ρ O st, SRel M ρ O st σ H ∧ Room st.dep X.A ∧ wpR (evs r ses st) (fun ds st' => ∀ vs H', PostA M ρ O st σ H ds st' vs H' → Q vs H') (Bx M W ρ O st σ H)
def tPs (ses : List SE) : TA := fun σ H Q => ∃ ρ O st, SRel M ρ O st σ H ∧ Room st.dep X.A ∧ wpR (pks r ses st) (fun ds st' => ∀ vs H', PostA1 M ρ O st σ H ses ds st' vs H' → Q vs H') (Bx M W ρ O st σ H)
end
def SndE (M : Mt2) (r : Rec) (Γ : Gam) (e : Expr) (se : SE) : Prop := ∀ X W, Good M X Γ → Takes X W → PE X e (tE M X W r se)
def SndP (M : Mt2) (r : Rec) (Γ : Gam) (e : Expr) (se : SE) : Prop := ∀ X W, Good M X Γ → Takes X W → PE X e (tP M X W r se)
def SndT (M : Mt2) (r : Rec) (Γ : Gam) (e : Expr) (se : SE) : Prop := ∀ X W, Good M X Γ → Takes X W → PT X e (tT M X W r se)
theorem _root_.L2.PE.imp {X : Cx} {e : Expr} {t t' : TE} (h : PE X e t) (i : ∀ σ H Q, t' σ H Q → t σ H Q) : PE X e t' := ⟨fun pins s σ H Q I hw => h.run pins s σ H Q I (i σ H Q hw)⟩
theorem _root_.L2.PT.imp {X : Cx} {e : Expr} {t t' : TT} (h : PT X e t) (i : ∀ σ H Q, t' σ H Q → t σ H Q) : PT X e t' := ⟨fun pins s σ H Q I hw => h.run pins s σ H Q I (i σ H Q hw)⟩
theorem _root_.L2.PA.imp {X : Cx} {e : List Expr} {t t' : TA} (h : PA X e t) (i : ∀ σ H Q, t' σ H Q → t σ H Q) : PA X e t' := ⟨fun pos pins s σ H Q I hw => h.run pos pins s σ H Q I (i σ H Q hw)⟩
end TI

end

section
set_option Elab.async false
set_option linter.all false
set_option maxRecDepth 100000
set_option maxHeartbeats 1000000
/-! TI4: operations by values. -/
namespace TI
open PySem L2
section
variable {M : Mt2} {ρ : List Addr} {O O' : Addr → Prop} {H H' : Hp} {st st' : St} {σ : L2.St} {sto : List D}
/-- what an operation leaves: nothing known changes, at most one new thing is the result -/
def PV (M : Mt2) (ρ : List Addr) (O : Addr → Prop) (H : Hp) (d : D) (fr : Bool) (v : V) (H' : Hp) : Prop :=
  (fr = false ∧ Ext M (fun _ => False) H H' ∧ Rep M ρ O H' d v) ∨
  (fr = true ∧ ∃ p o, v = .ref p ∧ H p = none ∧ H' = upd H p o ∧ ownO o ∧ (∀ vs, ¬ (o = .tup vs)) ∧ Own M ρ (fun b => O b ∨ b = p) (upd H p o) d p)
theorem PV.post {d : D} {fr : Bool} {v : V} {H2 : Hp} (l : Left M ρ O st σ H O' st' H') (h : PV M ρ O' H' d fr v H2) : PostE M ρ O st σ H d fr st' v H2 := by
  rcases h with ⟨rfl, e, r⟩ | ⟨rfl, p, o, rfl, hp, rfl, h1, h2, ow⟩
  · exact PostE.plain (l.trans (Left.grow l.rel e)) r
  · exact PostE.new l hp h1 h2 ow
theorem PV.same {d : D} {v : V} (h : Rep M ρ O H d v) : PV M ρ O H d false v H := .inl ⟨rfl, Ext.refl _ _, h⟩
theorem PV.int (i : Int) : PV M ρ O H (.int i) false (.int i) H := PV.same (by simp [Rep])
theorem PV.bl (i : Bool) : PV M ρ O H (.bl i) false (.bl i) H := PV.same (by simp [Rep])
theorem PV.str (x : List Nat) : PV M ρ O H (.str x) false (.str ⟨x.toArray⟩) H := PV.same (by simp [Rep])
theorem PV.lst {ds : List D} {vs : List V} {p : Addr} (hp : H p = none) (h : Reps M ρ O H ds vs) : PV M ρ O H (.lst ds) true (.ref p) (upd H p (.lst vs)) :=
  .inr ⟨rfl, p, _, rfl, hp, rfl, trivial, (fun _ z => by cases z), vs, upd_same, (h.avoid hp).ext (Ext.new (w := fun _ => False) hp) (fun _ z => z.elim) fun _ z => z⟩
theorem PV.tup (s : StoOk M ρ O sto H) {ds : List D} {vs : List V} {p : Addr} (hp : H p = none) (h : Reps M ρ O H ds vs) : PV M ρ O H (.tup ds) false (.ref p) (upd H p (.tup vs)) := by
  have e : Ext M (fun _ => False) H (upd H p (.tup vs)) := Ext.new hp
  refine .inl ⟨rfl, e, ?_⟩
  simp only [Rep]
  refine ⟨p, vs, rfl, ⟨fun z => ?_, upd_same⟩, h.ext e (fun _ z => z.elim) fun _ z => z⟩
  obtain ⟨o, ho, _⟩ := s.trk p z
  rw [hp] at ho; cases ho

/-! ### what a looked-at value is -/
theorem Rep1.non {v : V} (h : Rep1 M ρ O H .non v) : v = .non := by rcases h with h | ⟨_, _, _, _, h⟩; simpa [Rep] using h; exact h.elim
theorem Rep1.bl {b : Bool} {v : V} (h : Rep1 M ρ O H (.bl b) v) : v = .bl b := by rcases h with h | ⟨_, _, _, _, h⟩; simpa [Rep] using h; exact h.elim
theorem Rep1.int {i : Int} {v : V} (h : Rep1 M ρ O H (.int i) v) : v = .int i := by rcases h with h | ⟨_, _, _, _, h⟩; simpa [Rep] using h; exact h.elim
theorem Rep1.str {x : List Nat} {v : V} (h : Rep1 M ρ O H (.str x) v) : v = .str ⟨x.toArray⟩ := by rcases h with h | ⟨_, _, _, _, h⟩; simpa [Rep] using h; exact h.elim
theorem Rep1.lst {xs : List D} {v : V} (h : Rep1 M ρ O H (.lst xs) v) : ∃ a vs, v = .ref a ∧ H a = some (.lst vs) ∧ Reps M ρ O H xs vs := by
  rcases h with h | ⟨a, e, _, _, vs, h1, h2⟩
  · simp only [Rep] at h
    obtain ⟨a, vs, e, n, r⟩ := h
    exact ⟨a, vs, e, n.2, r⟩
  · exact ⟨a, vs, e, h1, h2⟩
theorem Rep1.tup {xs : List D} {v : V} (h : Rep1 M ρ O H (.tup xs) v) : ∃ a vs, v = .ref a ∧ H a = some (.tup vs) ∧ Reps M ρ O H xs vs := by
  rcases h with h | ⟨_, _, _, _, h⟩
  · simp only [Rep] at h
    obtain ⟨a, vs, e, n, r⟩ := h
    exact ⟨a, vs, e, n.2, r⟩
  · exact h.elim
theorem Rep1.dct {ks ds : List D} {v : V} (h : Rep1 M ρ O H (.dct ks ds) v) : ∃ a vs, v = .ref a ∧ Reps M ρ O H ds vs ∧
    ((∃ kl, toKeys ks = some kl ∧ kl.length = vs.length ∧ Rd H a (.dK (kl.zip vs)) ∧ (ks = [] → H a = some (.dK []))) ∨ (∃ kl, toKeyTs ks = some kl ∧ kl.length = vs.length ∧ Rd H a (.dT (kl.zip vs)) ∧ (ks = [] → H a = some (.dT [])))) := by
  rcases h with h | ⟨a, e, _, _, vs, h1, h2⟩
  · simp only [Rep] at h
    obtain ⟨a, vs, e, r, q⟩ := h
    refine ⟨a, vs, e, r, ?_⟩
    rcases q with ⟨kl, q1, q2, n, z⟩ | ⟨kl, q1, q2, n, z⟩
    · exact .inl ⟨kl, q1, q2, n.2, z⟩
    · exact .inr ⟨kl, q1, q2, n.2, z⟩
  · refine ⟨a, vs, e, h1, ?_⟩
    rcases h2 with ⟨kl, q1, q2, n⟩ | ⟨kl, q1, q2, n⟩
    · exact .inl ⟨kl, q1, q2, .inl n, fun z => by subst z; simp [toKeys] at q1; subst q1; exact n⟩
    · exact .inr ⟨kl, q1, q2, .inl n, fun z => by subst z; simp [toKeyTs] at q1; subst q1; exact n⟩
theorem Rep1.ins {c : Nat} {ns : List Nat} {ds : List D} {v : V} (h : Rep1 M ρ O H (.ins c ns ds) v) : ∃ a dx fs, v = .ref a ∧ H a = some (.ins (M.clA c) dx fs) ∧ fs.map (·.1) = ns.map M.nm ∧ Reps M ρ O H ds (fs.map (·.2)) := by
  rcases h with h | ⟨a, e, _, _, dx, fs, h1, h2, h3⟩
  · simp only [Rep] at h
    obtain ⟨a, dx, fs, e, n, r⟩ := h
    exact ⟨a, dx, fs, e, n.2, r⟩
  · exact ⟨a, dx, fs, e, h1, h2, h3⟩
theorem Rep1.plain {d : D} {v : V} (h : Rep1 M ρ O H d v) (hm : isMut d = false) : Rep M ρ O H d v := by
  rcases h with h | ⟨a, e, _, _, h⟩
  · exact h
  · cases d <;> first | exact h.elim | (simp [isMut] at hm)
theorem sz_line : lenMax ≤ sizeLine := by decide

/-! ### two-place operators -/
def rBin (M : Mt2) (op : Operator) : R2 := fun x y H Q => ∃ ρ O sto a b d fr, StoOk M ρ O sto H ∧ Rep1 M ρ O H a x ∧ Rep1 M ρ O H b y ∧ binop op a b = some (d, fr) ∧ ∀ v H', PV M ρ O H d fr v H' → Q v H'
theorem toArray_append {α : Type} (x y : List α) : (x ++ y).toArray = x.toArray ++ y.toArray := by simp
theorem str_append (x y : List Nat) : ((⟨x.toArray⟩ : Str) ++ (⟨y.toArray⟩ : Str)) = ⟨(x ++ y).toArray⟩ := by
  apply TL.ext_tl
  rw [TL.tl_append]
theorem str_len (x : List Nat) : (⟨x.toArray⟩ : Str).length = x.length := by simp [Str.length]
theorem op_mulS {X : Cx} : OpR X (binaryOp .Mult) (fun x y H Q => ∃ (z : List Nat) (k : Int), x = .str ⟨z.toArray⟩ ∧ y = .int k ∧ 0 ≤ k ∧ k ≤ lenMax ∧ z.length * k.toNat ≤ lenMax ∧ Q (.str ⟨(List.replicate k.toNat z).flatten.toArray⟩) H) := by
  intro pins s σ H x y v u Q I rx ry h
  obtain ⟨z, k, rfl, rfl, h0, h1, h2, q⟩ := h
  obtain ⟨t, rfl⟩ := rx
  obtain ⟨t', rfl⟩ := ry
  have hm : (lenMax : Nat) = 16000000 := rfl
  have hsz := sz_line
  refine PySem.P.mul_str ?_ (fun h3 h4 => ?_) (fun h3 h4 => ?_) ?_
  · rw [decide_eq_false (by omega), decide_eq_false (by omega)]; rfl
  · rw [str_len]
    have : (16000000 : Int) ≤ (2 ^ 63 - 1) / k := by
      rw [Int.le_ediv_iff_mul_le (by omega)]
      omega
    have hz : 1 ≤ z.length := by
      rcases Nat.eq_zero_or_pos z.length with h5 | h5
      · rw [str_len, h5] at h4
        simp at h4
      · exact h5
    have h6 : z.length ≤ z.length * k.toNat := Nat.le_mul_of_pos_right _ (by omega)
    omega
  · rw [str_len]
    unfold Builtin.Str.tooLong
    exact decide_eq_false (by omega)
  · have hfl : ∀ m : Nat, ((List.replicate m z).flatten).length = m * z.length := fun m => by simp
    split
    · rename_i h3
      have hk : k.toNat = 0 := by omega
      rw [hk] at q
      exact ⟨by decide, .str _, H, I.tok _, ⟨_, rfl⟩, q⟩
    · split
      · rename_i h4
        have : (List.replicate k.toNat z).flatten = z := by
          simp only [Bool.or_eq_true, beq_iff_eq, str_len] at h4
          rcases h4 with h4 | h4
          · have : k.toNat = 1 := by omega
            rw [this]; simp
          · have : z = [] := List.length_eq_zero_iff.mp h4
            subst this
            simp
        rw [this] at q
        exact ⟨.str _, H, I, ⟨_, rfl⟩, q⟩
      · have e : ((List.replicate k.toNat (⟨z.toArray⟩ : Str).cps).foldl (· ++ ·) #[]) = (List.replicate k.toNat z).flatten.toArray := by
          have f0 : ∀ (m : Nat) (acc : Array Nat), List.foldl (fun x1 x2 => x1 ++ x2) acc (List.replicate m z.toArray) = acc ++ (List.replicate m z).flatten.toArray := fun m => by
            induction m with
            | zero => intro acc; simp
            | succ m ih =>
              intro acc
              rw [List.replicate_succ, List.foldl_cons, ih, List.replicate_succ, List.flatten_cons]
              simp
          have := f0 k.toNat #[]
          simpa using this
        rw [e]
        refine ⟨?_, .str _, H, I.tok _, ⟨_, rfl⟩, q⟩
        rw [str_len, hfl, Nat.mul_comm]
        omega
theorem op_bin {X : Cx} {op : Operator} : OpR X (binaryOp op) (rBin M op) := by
  intro pins s σ H x y v u Q I rx ry h
  obtain ⟨ρ, O, sto, a, b, d, fr, so, h1, h2, hb, q⟩ := h
  unfold binop at hb
  split at hb
  · cases hb
    cases h1.int; cases h2.int
    exact op_add pins s σ H _ _ v u Q I rx ry ⟨_, _, rfl, rfl, q _ _ (PV.int _)⟩
  · rename_i x1 y1
    split at hb
    · rename_i hl
      cases hb
      cases h1.str; cases h2.str
      refine op_add_str pins s σ H _ _ v u Q I rx ry ⟨_, _, rfl, rfl, ?_, ?_⟩
      · have := sz_line
        simp [okLen] at hl
        rw [str_len, str_len]; omega
      · rw [str_append]
        exact q _ _ (PV.str _)
    · cases hb
  · rename_i xs ys
    split at hb
    · rename_i hl
      cases hb
      obtain ⟨a1, vs, rfl, ha, ra⟩ := h1.lst
      obtain ⟨b1, ws, rfl, hb', rb⟩ := h2.lst
      refine op_cat pins s σ H _ _ v u Q I rx ry ⟨_, _, _, _, rfl, rfl, ha, hb', ?_, fun p hp => q _ _ (PV.lst hp (ra.append rb))⟩
      have := sz_line
      simp [okLen] at hl
      rw [← ra.length, ← rb.length]; omega
    · cases hb
  · cases hb
    cases h1.int; cases h2.int
    exact op_sub pins s σ H _ _ v u Q I rx ry ⟨_, _, rfl, rfl, q _ _ (PV.int _)⟩
  · split at hb
    · rename_i hl
      cases hb
      cases h1.int; cases h2.int
      simp only [Bool.or_eq_true, Bool.and_eq_true, decide_eq_true_eq] at hl
      exact op_mul pins s σ H _ _ v u Q I rx ry ⟨_, _, rfl, rfl, hl, q _ _ (PV.int _)⟩
    · cases hb
  · rename_i xs k
    split at hb
    · rename_i hl
      cases hb
      obtain ⟨a1, vs, rfl, ha, ra⟩ := h1.lst
      cases h2.int
      simp only [Bool.and_eq_true, decide_eq_true_eq] at hl
      have h3 := sz_line
      have h4 : (lenMax : Nat) = 16000000 := rfl
      refine op_rep pins s σ H _ _ v u Q I rx ry ⟨_, k, _, rfl, rfl, ha, ?_, ?_, ?_, fun p hp => q _ _ (PV.lst hp (ra.flatten _))⟩
      · have := hl.1.1; omega
      · have := hl.1.2; omega
      · rw [← ra.length]; omega
    · cases hb
  · rename_i xs k
    split at hb
    · rename_i hl
      cases hb
      cases h1.str
      cases h2.int
      simp only [Bool.and_eq_true, decide_eq_true_eq] at hl
      exact op_mulS pins s σ H _ _ v u Q I rx ry ⟨_, k, rfl, rfl, hl.1.1, hl.1.2, hl.2, q _ _ (PV.str _)⟩
    · cases hb
  · split at hb
    · rename_i hl
      cases hb
      cases h1.int; cases h2.int
      simp only [Bool.and_eq_true, decide_eq_true_eq] at hl
      exact op_fdivN pins s σ H _ _ v u Q I rx ry ⟨_, _, rfl, rfl, hl, q _ _ (PV.int _)⟩
    · cases hb
  · split at hb
    · rename_i hl
      cases hb
      cases h1.int; cases h2.int
      simp only [decide_eq_true_eq] at hl
      exact op_modN pins s σ H _ _ v u Q I rx ry ⟨_, _, rfl, rfl, hl, q _ _ (PV.int _)⟩
    · cases hb
  · split at hb
    · rename_i hl
      cases hb
      cases h1.int; cases h2.int
      simp only [Bool.and_eq_true, decide_eq_true_eq] at hl
      exact op_pow pins s σ H _ _ v u Q I rx ry ⟨_, _, rfl, rfl, ⟨hl.1.1, hl.1.2, hl.2⟩, q _ _ (PV.int _)⟩
    · cases hb
  · cases hb

/-! ### == of data -/
mutual
def toPy : D → PyData
  | .non => .none
  | .bl b => .bool b
  | .int i => .int i
  | .str x => .str ⟨x.toArray⟩
  | .lst xs => .list (toPys xs)
  | .tup xs => .tuple (toPys xs)
  | _ => .none
def toPys : List D → List PyData
  | [] => []
  | x :: xs => toPy x :: toPys xs
end
theorem str_beq (x y : List Nat) : ((⟨x.toArray⟩ : Str) == (⟨y.toArray⟩ : Str)) = (x == y) := by
  rw [Bool.eq_iff_iff, beq_iff_eq, beq_iff_eq]
  constructor
  · intro h
    have := congrArg (fun s : Str => s.cps.toList) h
    simpa using this
  · intro h; rw [h]
mutual
theorem eqD_py : ∀ (d e : D) (m n : Nat), okD m d = true → okD n e = true → PyData.eqv (toPy d) (toPy e) = eqD d e
  | .non, e, m, n, h1, h2 => by cases e <;> simp_all [toPy, eqD, PyData.eqv, okD]
  | .bl b, e, m, n, h1, h2 => by cases e <;> simp_all [toPy, eqD, PyData.eqv, okD]
  | .int i, e, m, n, h1, h2 => by cases e <;> simp_all [toPy, eqD, PyData.eqv, okD]
  | .str x, e, m, n, h1, h2 => by cases e <;> first | (simp only [toPy, eqD, PyData.eqv]; exact str_beq _ _) | simp_all [toPy, eqD, PyData.eqv, okD]
  | .lst xs, e, 0, n, h1, h2 => by simp [okD] at h1
  | .lst xs, e, m + 1, n, h1, h2 => by
    cases e with
    | lst ys =>
      cases n with
      | zero => simp [okD] at h2
      | succ n =>
        simp only [okD, List.all_eq_true] at h1 h2
        simp only [toPy, eqD, PyData.eqv]
        exact eqDs_py xs ys m n h1 h2
    | _ => simp_all [toPy, eqD, PyData.eqv, okD]
  | .tup xs, e, 0, n, h1, h2 => by simp [okD] at h1
  | .tup xs, e, m + 1, n, h1, h2 => by
    cases e with
    | tup ys =>
      cases n with
      | zero => simp [okD] at h2
      | succ n =>
        simp only [okD, List.all_eq_true] at h1 h2
        simp only [toPy, eqD, PyData.eqv]
        exact eqDs_py xs ys m n h1 h2
    | _ => simp_all [toPy, eqD, PyData.eqv, okD]
  | .dct _ _, e, m, n, h1, h2 => by cases m <;> simp [okD] at h1
  | .ins _ _ _, e, m, n, h1, h2 => by cases m <;> simp [okD] at h1
  | .fn _, e, m, n, h1, h2 => by cases m <;> simp [okD] at h1
  | .cls _, e, m, n, h1, h2 => by cases m <;> simp [okD] at h1
  | .ty _, e, m, n, h1, h2 => by cases m <;> simp [okD] at h1
  | .clo _ _, e, m, n, h1, h2 => by cases m <;> simp [okD] at h1
  | .ref _, e, m, n, h1, h2 => by cases m <;> simp [okD] at h1
  | .scr _, e, m, n, h1, h2 => by cases m <;> simp [okD] at h1
theorem eqDs_py : ∀ (xs ys : List D) (m n : Nat), (∀ x ∈ xs, okD m x = true) → (∀ y ∈ ys, okD n y = true) → PyData.eqvAll (toPys xs) (toPys ys) = eqDs xs ys
  | [], [], _, _, _, _ => by simp [toPys, PyData.eqvAll, eqDs]
  | [], _ :: _, _, _, _, _ => by simp [toPys, PyData.eqvAll, eqDs]
  | _ :: _, [], _, _, _, _ => by simp [toPys, PyData.eqvAll, eqDs]
  | x :: xs, y :: ys, m, n, h1, h2 => by
    simp only [toPys, PyData.eqvAll, eqDs]
    rw [eqD_py x y m n (h1 x List.mem_cons_self) (h2 y List.mem_cons_self), eqDs_py xs ys m n (fun z hz => h1 z (List.mem_cons_of_mem _ hz)) fun z hz => h2 z (List.mem_cons_of_mem _ hz)]
end
mutual
theorem okD_dp {K : PySem.W.Frag} : ∀ (d : D) (n : Nat) (v : V), okD n d = true → Rep M ρ O H d v → Dp K H v (toPy d)
  | .non, _, v, _, h => by simp only [Rep] at h; subst h; simp only [toPy]; exact .non
  | .bl b, _, v, _, h => by simp only [Rep] at h; subst h; simp only [toPy]; exact .bl b
  | .int i, _, v, _, h => by simp only [Rep] at h; subst h; simp only [toPy]; exact .int i
  | .str x, _, v, _, h => by simp only [Rep] at h; subst h; simp only [toPy]; exact .str _
  | .lst xs, 0, v, k, h => by simp [okD] at k
  | .lst xs, n + 1, v, k, h => by
    simp only [Rep] at h
    obtain ⟨a, vs, rfl, nx, r⟩ := h
    simp only [okD, List.all_eq_true] at k
    simp only [toPy]
    exact .lst (SqL.of nx.2) (okDs_dp xs n vs k r)
  | .tup xs, 0, v, k, h => by simp [okD] at k
  | .tup xs, n + 1, v, k, h => by
    simp only [Rep] at h
    obtain ⟨a, vs, rfl, nx, r⟩ := h
    simp only [okD, List.all_eq_true] at k
    simp only [toPy]
    exact .tup (SqT.of nx.2) (okDs_dp xs n vs k r)
  | .dct _ _, m, _, h1, _ => by cases m <;> simp [okD] at h1
  | .ins _ _ _, m, _, h1, _ => by cases m <;> simp [okD] at h1
  | .fn _, m, _, h1, _ => by cases m <;> simp [okD] at h1
  | .cls _, m, _, h1, _ => by cases m <;> simp [okD] at h1
  | .ty _, m, _, h1, _ => by cases m <;> simp [okD] at h1
  | .clo _ _, m, _, h1, _ => by cases m <;> simp [okD] at h1
  | .ref _, m, _, h1, _ => by cases m <;> simp [okD] at h1
  | .scr _, m, _, h1, _ => by cases m <;> simp [okD] at h1
theorem okDs_dp {K : PySem.W.Frag} : ∀ (ds : List D) (n : Nat) (vs : List V), (∀ d ∈ ds, okD n d = true) → Reps M ρ O H ds vs → DpAll K H vs (toPys ds)
  | [], _, vs, _, h => by simp only [Reps] at h; subst h; simp only [toPys]; exact .nil
  | d :: ds, n, vs, k, h => by
    simp only [Reps] at h
    obtain ⟨v, r, rfl, h1, h2⟩ := h
    simp only [toPys]
    exact .cons (okD_dp d n v (k d List.mem_cons_self) h1) (okDs_dp ds n r (fun z hz => k z (List.mem_cons_of_mem _ hz)) h2)
end
theorem okD_dp1 {K : PySem.W.Frag} {d : D} {n : Nat} {v : V} (k : okD n d = true) (h : Rep1 M ρ O H d v) : Dp K H v (toPy d) := by
  cases d with
  | lst xs =>
    cases n with
    | zero => simp [okD] at k
    | succ n =>
      obtain ⟨a, vs, rfl, hx, r⟩ := h.lst
      simp only [okD, List.all_eq_true] at k
      simp only [toPy]
      exact .lst (SqL.of hx) (okDs_dp xs n vs k r)
  | dct _ _ => cases n <;> simp [okD] at k
  | ins _ _ _ => cases n <;> simp [okD] at k
  | _ => exact okD_dp _ n v k (h.plain rfl)
mutual
theorem okD_lay : ∀ (d : D) (n : Nat), okD n d = true → (toPy d).canLay0 = true ∧ (toPy d).depth ≤ n
  | .non, _, _ => by simp [toPy, PyData.canLay0, PyData.depth]
  | .bl b, _, _ => by simp [toPy, PyData.canLay0, PyData.depth]
  | .int i, _, _ => by simp [toPy, PyData.canLay0, PyData.depth]
  | .str x, _, h => by
    simp only [okD] at h
    simp only [toPy, PyData.canLay0, PyData.depth]
    refine ⟨?_, Nat.zero_le _⟩
    simpa [PySem.PyData.strOk] using h
  | .lst xs, 0, k => by simp [okD] at k
  | .lst xs, n + 1, k => by
    simp only [okD, List.all_eq_true] at k
    have := okDs_lay xs n k
    simp only [toPy, PyData.canLay0, PyData.depth]
    exact ⟨this.1, by omega⟩
  | .tup xs, 0, k => by simp [okD] at k
  | .tup xs, n + 1, k => by
    simp only [okD, List.all_eq_true] at k
    have := okDs_lay xs n k
    simp only [toPy, PyData.canLay0, PyData.depth]
    exact ⟨this.1, by omega⟩
  | .dct _ _, m, h1 => by cases m <;> simp [okD] at h1
  | .ins _ _ _, m, h1 => by cases m <;> simp [okD] at h1
  | .fn _, m, h1 => by cases m <;> simp [okD] at h1
  | .cls _, m, h1 => by cases m <;> simp [okD] at h1
  | .ty _, m, h1 => by cases m <;> simp [okD] at h1
  | .clo _ _, m, h1 => by cases m <;> simp [okD] at h1
  | .ref _, m, h1 => by cases m <;> simp [okD] at h1
  | .scr _, m, h1 => by cases m <;> simp [okD] at h1
theorem okDs_lay : ∀ (ds : List D) (n : Nat), (∀ d ∈ ds, okD n d = true) → PyData.canLayAll0 (toPys ds) = true ∧ PyData.depthAll (toPys ds) ≤ n
  | [], _, _ => by simp [toPys, PyData.canLayAll0, PyData.depthAll]
  | d :: ds, n, k => by
    have h1 := okD_lay d n (k d List.mem_cons_self)
    have h2 := okDs_lay ds n fun z hz => k z (List.mem_cons_of_mem _ hz)
    simp only [toPys, PyData.canLayAll0, PyData.depthAll]
    exact ⟨by rw [h1.1, h2.1]; rfl, by omega⟩
end
theorem okD_shaped {d : D} (h : okD 64 d = true) : SeqAt.shaped (toPy d) = true := by
  have := okD_lay d 64 h
  unfold SeqAt.shaped
  rw [this.1, decide_eq_true this.2]; rfl
end
end TI

end

section
set_option Elab.async false
set_option linter.all false
set_option maxRecDepth 100000
set_option maxHeartbeats 1000000
/-! TI5: comparisons, dicts. -/
namespace TI
open PySem L2
section
variable {M : Mt2} {ρ : List Addr} {O O' : Addr → Prop} {H H' : Hp} {st st' : St} {σ : L2.St} {sto : List D}

/-! ### keys -/
theorem toKey_kV {M : Mt2} {d : D} {k : Key} {v : V} (h : toKey d = some k) (r : Rep M ρ O H d v) : v = kV k := by
  cases d <;> simp [toKey] at h
  · subst h; simpa [Rep, kV] using r
  · subst h; simpa [Rep, kV] using r
theorem eqD_key {a b : D} {k l : Key} (ha : toKey a = some k) (hb : toKey b = some l) : eqD a b = decide (k = l) := by
  cases a <;> simp [toKey] at ha <;> cases b <;> simp [toKey] at hb <;> subst ha <;> subst hb
  · simp only [eqD]; rw [Bool.eq_iff_iff]; simp
  · simp [eqD]
  · simp [eqD]
  · rename_i x y
    simp only [eqD]
    rw [← str_beq, Bool.eq_iff_iff]
    simp
theorem toKeys_len : ∀ {ds : List D} {ks : List Key}, toKeys ds = some ks → ks.length = ds.length
  | [], ks, h => by simp [toKeys] at h; simp [h]
  | d :: ds, ks, h => by
    simp only [toKeys] at h
    split at h
    · rename_i k kl h1 h2
      cases h
      simp [toKeys_len h2]
    · cases h
theorem toKeys_cons {d : D} {ds : List D} {kl : List Key} (h : toKeys (d :: ds) = some kl) : ∃ k ks, kl = k :: ks ∧ toKey d = some k ∧ toKeys ds = some ks := by
  simp only [toKeys] at h
  split at h
  · rename_i k ks h1 h2
    cases h
    exact ⟨k, ks, rfl, h1, h2⟩
  · cases h
theorem toKeyTs_cons {d : D} {ds : List D} {kl : List (List Key)} (h : toKeyTs (d :: ds) = some kl) : ∃ k ks, kl = k :: ks ∧ toKeyT d = some k ∧ toKeyTs ds = some ks := by
  simp only [toKeyTs] at h
  split at h
  · rename_i k ks h1 h2
    cases h
    exact ⟨k, ks, rfl, h1, h2⟩
  · cases h
theorem eqDs_keys : ∀ {a b : List D} {k l : List Key}, toKeys a = some k → toKeys b = some l → eqDs a b = decide (k = l)
  | [], [], k, l, ha, hb => by simp [toKeys] at ha hb; subst ha; subst hb; simp [eqDs]
  | [], _ :: _, k, l, ha, hb => by
    simp [toKeys] at ha; subst ha
    obtain ⟨_, _, rfl, _⟩ := toKeys_cons hb
    simp [eqDs]
  | _ :: _, [], k, l, ha, hb => by
    simp [toKeys] at hb; subst hb
    obtain ⟨_, _, rfl, _⟩ := toKeys_cons ha
    simp [eqDs]
  | a :: as, b :: bs, k, l, ha, hb => by
    obtain ⟨k1, ks, rfl, h1, h2⟩ := toKeys_cons ha
    obtain ⟨l1, ls, rfl, g1, g2⟩ := toKeys_cons hb
    simp only [eqDs, eqD_key h1 g1, eqDs_keys h2 g2]
    rw [Bool.eq_iff_iff]
    simp
theorem eqD_keyT {a b : D} {k l : List Key} (ha : toKeyT a = some k) (hb : toKeyT b = some l) : eqD a b = decide (k = l) := by
  cases a <;> simp [toKeyT] at ha
  cases b <;> simp [toKeyT] at hb
  simp only [eqD]
  exact eqDs_keys ha hb
theorem keys_reps : ∀ {xs : List D} {ks : List Key} {vs : List V}, toKeys xs = some ks → Reps M ρ O H xs vs → vs = ks.map kV
  | [], ks, vs, h, r => by simp [toKeys] at h; simp [Reps] at r; subst h; simp [r]
  | x :: xs, ks, vs, h, r => by
    obtain ⟨k, kl, rfl, h1, h2⟩ := toKeys_cons h
    simp only [Reps] at r
    obtain ⟨v, w, rfl, r1, r2⟩ := r
    rw [toKey_kV h1 r1, keys_reps h2 r2]; rfl
/-- any type of keys: look, put -/
theorem look_val {κ : Type} [DecidableEq κ] {tk : D → Option κ} (he : ∀ {a b : D} {k l : κ}, tk a = some k → tk b = some l → eqD a b = decide (k = l)) {d : D} {k : κ} (hd : tk d = some k) :
    ∀ {ks ds : List D} {kl : List κ} {vs : List V}, ks.length = kl.length → (∀ (i : Nat) x y, ks[i]? = some x → kl[i]? = some y → tk x = some y) → kl.length = vs.length → Reps M ρ O H ds vs →
      match look ks ds d with
      | some x => ∃ v, valV (kl.zip vs) k = some v ∧ Rep M ρ O H x v
      | none => valV (kl.zip vs) k = none
  | [], ds, kl, vs, h1, _, _, _ => by
    have : kl = [] := by cases kl; rfl; simp at h1
    subst this
    simp [look, valV]
  | k0 :: ks, [], kl, vs, h1, _, h3, r => by
    simp [Reps] at r; subst r
    cases kl
    · simp at h1
    · simp at h3
  | k0 :: ks, e :: ds, kl, vs, h1, h2, h3, r => by
    cases kl with
    | nil => simp at h1
    | cons l0 kl =>
      simp only [Reps] at r
      obtain ⟨v, w, rfl, r1, r2⟩ := r
      have hk := he (h2 0 k0 l0 rfl rfl) hd
      unfold look
      rw [hk, List.zip_cons_cons]
      by_cases q : l0 = k
      · rw [decide_eq_true q, if_pos rfl, valV_pos q]
        exact ⟨v, rfl, r1⟩
      · rw [decide_eq_false q, if_neg (by simp), valV_neg q]
        exact look_val he hd (by simpa using h1) (fun i x y hx hy => h2 (i + 1) x y (by simpa using hx) (by simpa using hy)) (by simpa using h3) r2
theorem any_key {κ : Type} [DecidableEq κ] {tk : D → Option κ} (he : ∀ {a b : D} {k l : κ}, tk a = some k → tk b = some l → eqD a b = decide (k = l)) {d : D} {k : κ} (hd : tk d = some k) :
    ∀ {ks : List D} {kl : List κ} {vs : List V}, ks.length = kl.length → (∀ (i : Nat) x y, ks[i]? = some x → kl[i]? = some y → tk x = some y) → kl.length = vs.length →
      ks.any (fun x => eqD x d) = (kl.zip vs).any fun kv => decide (kv.1 = k)
  | [], kl, vs, h1, _, _ => by
    have : kl = [] := by cases kl; rfl; simp at h1
    subst this; rfl
  | k0 :: ks, kl, vs, h1, h2, h3 => by
    cases kl with
    | nil => simp at h1
    | cons l0 kl =>
      cases vs with
      | nil => simp at h3
      | cons v vs =>
        rw [List.any_cons, List.zip_cons_cons, List.any_cons, he (h2 0 k0 l0 rfl rfl) hd,
          any_key he hd (by simpa using h1) (fun i x y hx hy => h2 (i + 1) x y (by simpa using hx) (by simpa using hy)) (by simpa using h3)]
theorem repl_map {κ : Type} [DecidableEq κ] {tk : D → Option κ} (he : ∀ {a b : D} {k l : κ}, tk a = some k → tk b = some l → eqD a b = decide (k = l)) {d e : D} {k : κ} {w : V} (hd : tk d = some k) (hw : Rep M ρ O H e w) :
    ∀ {ks ds : List D} {kl : List κ} {vs : List V}, ks.length = kl.length → (∀ (i : Nat) x y, ks[i]? = some x → kl[i]? = some y → tk x = some y) → kl.length = vs.length → Reps M ρ O H ds vs →
      ∃ vs', (kl.zip vs).map (fun kv => if kv.1 = k then (kv.1, w) else kv) = kl.zip vs' ∧ kl.length = vs'.length ∧ Reps M ρ O H (repl ks ds d e) vs'
  | [], ds, kl, vs, h1, _, h3, r => by
    have : kl = [] := by cases kl; rfl; simp at h1
    subst this
    exact ⟨[], rfl, rfl, by simp [repl, Reps]⟩
  | k0 :: ks, [], kl, vs, h1, _, h3, r => by
    simp [Reps] at r; subst r
    cases kl
    · simp at h1
    · simp at h3
  | k0 :: ks, e0 :: ds, kl, vs, h1, h2, h3, r => by
    cases kl with
    | nil => simp at h1
    | cons l0 kl =>
      simp only [Reps] at r
      obtain ⟨v, vs2, rfl, r1, r2⟩ := r
      have hk := he (h2 0 k0 l0 rfl rfl) hd
      obtain ⟨vs', q1, q2, q3⟩ := repl_map he hd hw (ks := ks) (ds := ds) (kl := kl) (vs := vs2) (by simpa using h1) (fun i x y hx hy => h2 (i + 1) x y (by simpa using hx) (by simpa using hy)) (by simpa using h3) r2
      unfold repl
      rw [hk]
      by_cases q : l0 = k
      · refine ⟨w :: vs', ?_, by simp [q2], ?_⟩
        · rw [List.zip_cons_cons, List.map_cons, q1, if_pos q, List.zip_cons_cons]
        · rw [decide_eq_true q, if_pos rfl]; exact .cons hw q3
      · refine ⟨v :: vs', ?_, by simp [q2], ?_⟩
        · rw [List.zip_cons_cons, List.map_cons, q1, if_neg q, List.zip_cons_cons]
        · rw [decide_eq_false q, if_neg (by simp)]; exact .cons r1 q3
theorem put_map {κ : Type} [DecidableEq κ] {tk : D → Option κ} (he : ∀ {a b : D} {k l : κ}, tk a = some k → tk b = some l → eqD a b = decide (k = l)) {d e : D} {k : κ} {w : V} (hd : tk d = some k) (hw : Rep M ρ O H e w)
    {ks ds : List D} {kl : List κ} {vs : List V} (h1 : ks.length = kl.length) (h2 : ∀ (i : Nat) x y, ks[i]? = some x → kl[i]? = some y → tk x = some y) (h3 : kl.length = vs.length) (r : Reps M ρ O H ds vs) :
      ∃ (kl' : List κ) (vs' : List V), putK (kl.zip vs) k w = kl'.zip vs' ∧ (put ks ds d e).1.length = kl'.length ∧ (∀ (i : Nat) x y, (put ks ds d e).1[i]? = some x → kl'[i]? = some y → tk x = some y) ∧ kl'.length = vs'.length ∧ Reps M ρ O H (put ks ds d e).2 vs' := by
  unfold put putK
  rw [any_key he hd h1 h2 h3]
  by_cases q : ((kl.zip vs).any fun kv => decide (kv.1 = k)) = true
  · rw [if_pos q, if_pos q]
    obtain ⟨vs', q1, q2, q3⟩ := repl_map he hd hw h1 h2 h3 r
    exact ⟨kl, vs', q1, h1, h2, q2, q3⟩
  · rw [if_neg q, if_neg q]
    refine ⟨kl ++ [k], vs ++ [w], ?_, by simp [h1], fun i x y hx hy => ?_, by simp [h3], r.append (.one hw)⟩
    · rw [List.zip_append h3]; rfl
    · by_cases hi : i < ks.length
      · rw [List.getElem?_append_left hi] at hx
        rw [List.getElem?_append_left (by omega)] at hy
        exact h2 i x y hx hy
      · rw [List.getElem?_append_right (by omega)] at hx
        rw [List.getElem?_append_right (by omega)] at hy
        have : i - ks.length = i - kl.length := by omega
        rw [this] at hx
        cases z : i - kl.length with
        | zero => rw [z] at hx hy; simp at hx hy; subst hx; subst hy; exact hd
        | succ n => rw [z] at hx; simp at hx
theorem toKeys_at : ∀ {ks : List D} {kl : List Key}, toKeys ks = some kl → ks.length = kl.length ∧ ∀ (i : Nat) x y, ks[i]? = some x → kl[i]? = some y → toKey x = some y
  | [], kl, h => by simp [toKeys] at h; subst h; simp
  | k :: ks, kl, h => by
    obtain ⟨k1, kl1, rfl, h1, h2⟩ := toKeys_cons h
    obtain ⟨g1, g2⟩ := toKeys_at h2
    refine ⟨by simp [g1], fun i x y hx hy => ?_⟩
    cases i with
    | zero => simp at hx hy; subst hx; subst hy; exact h1
    | succ i => exact g2 i x y (by simpa using hx) (by simpa using hy)
theorem toKeyTs_at : ∀ {ks : List D} {kl : List (List Key)}, toKeyTs ks = some kl → ks.length = kl.length ∧ ∀ (i : Nat) x y, ks[i]? = some x → kl[i]? = some y → toKeyT x = some y
  | [], kl, h => by simp [toKeyTs] at h; subst h; simp
  | k :: ks, kl, h => by
    obtain ⟨k1, kl1, rfl, h1, h2⟩ := toKeyTs_cons h
    obtain ⟨g1, g2⟩ := toKeyTs_at h2
    refine ⟨by simp [g1], fun i x y hx hy => ?_⟩
    cases i with
    | zero => simp at hx hy; subst hx; subst hy; exact h1
    | succ i => exact g2 i x y (by simpa using hx) (by simpa using hy)
theorem toKeys_of : ∀ {ks : List D} {kl : List Key}, ks.length = kl.length → (∀ (i : Nat) x y, ks[i]? = some x → kl[i]? = some y → toKey x = some y) → toKeys ks = some kl
  | [], kl, h, _ => by cases kl; rfl; simp at h
  | k :: ks, [], h, _ => by simp at h
  | k :: ks, l :: kl, h, g => by
    have h1 := g 0 k l rfl rfl
    have h2 := toKeys_of (ks := ks) (kl := kl) (by simpa using h) fun i x y hx hy => g (i + 1) x y (by simpa using hx) (by simpa using hy)
    simp [toKeys, h1, h2]
theorem toKeyTs_of : ∀ {ks : List D} {kl : List (List Key)}, ks.length = kl.length → (∀ (i : Nat) x y, ks[i]? = some x → kl[i]? = some y → toKeyT x = some y) → toKeyTs ks = some kl
  | [], kl, h, _ => by cases kl; rfl; simp at h
  | k :: ks, [], h, _ => by simp at h
  | k :: ks, l :: kl, h, g => by
    have h1 := g 0 k l rfl rfl
    have h2 := toKeyTs_of (ks := ks) (kl := kl) (by simpa using h) fun i x y hx hy => g (i + 1) x y (by simpa using hx) (by simpa using hy)
    simp [toKeyTs, h1, h2]
theorem keyOks_keys : ∀ {xs : List D}, keyOks xs = true → ∃ ks, toKeys xs = some ks
  | [], _ => ⟨[], rfl⟩
  | .int i :: xs, h => by
    obtain ⟨ks, e⟩ := keyOks_keys (xs := xs) (by simpa [keyOks] using h)
    exact ⟨_, by simp [toKeys, toKey, e]; rfl⟩
  | .str i :: xs, h => by
    obtain ⟨ks, e⟩ := keyOks_keys (xs := xs) (by simpa [keyOks] using h)
    exact ⟨_, by simp [toKeys, toKey, e]; rfl⟩
  | .non :: _, h | .bl _ :: _, h | .tup _ :: _, h | .lst _ :: _, h | .dct _ _ :: _, h | .ins _ _ _ :: _, h | .fn _ :: _, h | .cls _ :: _, h | .ty _ :: _, h | .clo _ _ :: _, h | .ref _ :: _, h | .scr _ :: _, h => by simp [keyOks] at h
theorem keyOk_or {d : D} (h : keyOk d = true) : (∃ k, toKey d = some k) ∨ ∃ xs ks, d = .tup xs ∧ toKeyT d = some ks := by
  cases d <;> simp [keyOk] at h
  · exact .inl ⟨_, rfl⟩
  · exact .inl ⟨_, rfl⟩
  · obtain ⟨ks, e⟩ := keyOks_keys h
    exact .inr ⟨_, ks, rfl, by simpa [toKeyT] using e⟩
/-! ### the empty dict is both -/
theorem dk_dt {X : Cx} {pins : List (Addr × Obj)} {s : Shared} {a : Addr} (I : Inv X pins σ H s) (h : H a = some (.dK [])) : Inv X pins σ (upd H a (.dT [])) s := by
  obtain ⟨z, hd, vs, rel, dd⟩ := I.hok a _ h
  cases rel
  obtain ⟨o, es, ep, h1, h2, h3, h4, h5, h6⟩ := dd
  have he : es = #[] := by
    have : es.toList = [] := by
      generalize es.toList = l at h5
      cases h5; rfl
    exact Array.toList_inj.mp this
  subst he
  have := I.write (x := a) (e := a) (o := .dT []) (h' := s.heap) (t' := s.toks) (by rw [h]; trivial) (.inl rfl) (fun b u _ q => q) ⟨_, h1⟩ ⟨z, hd, [], .nil, o, _, ep, h1, h2, h3, rfl, List.nodup_nil⟩
  exact this
theorem dt_dk {X : Cx} {pins : List (Addr × Obj)} {s : Shared} {a : Addr} (I : Inv X pins σ H s) (h : H a = some (.dT [])) : Inv X pins σ (upd H a (.dK [])) s := by
  obtain ⟨z, hd, xs, rel, o, es, ep, h1, h2, h3, h4, h5⟩ := I.hok a _ h
  cases rel
  have he : es = #[] := Array.toList_inj.mp (by simpa using h4)
  subst he
  have := I.write (x := a) (e := a) (o := .dK []) (h' := s.heap) (t' := s.toks) (by rw [h]; trivial) (.inl rfl) (fun b u _ q => q) ⟨_, h1⟩ ⟨z, hd, [], .nil, o, _, ep, h1, h2, h3, (fun e h => by simp at h), .nil, List.nodup_nil⟩
  exact this

/-- what a look into a dict gives -/
def LookOk (M : Mt2) (ρ : List Addr) (O : Addr → Prop) (H : Hp) (ks ds : List D) (k : D) (o : Option V) : Prop := match look ks ds k with
  | some x => ∃ v, o = some v ∧ Rep M ρ O H x v
  | none => o = none
theorem sameK_tup {ks : List D} {kl : List Key} {xs : List D} (h : toKeys ks = some kl) (a : ks.all (isIn.sameK (.tup xs)) = true) : ks = [] := by
  cases ks with
  | nil => rfl
  | cons k ks =>
    obtain ⟨k1, kl1, rfl, h1, h2⟩ := toKeys_cons h
    simp only [List.all_cons, Bool.and_eq_true] at a
    cases k <;> simp [isIn.sameK, toKey] at a h1
theorem sameK_key {ks : List D} {kl : List (List Key)} {d : D} {k : Key} (h : toKeyTs ks = some kl) (hd : toKey d = some k) (a : ks.all (isIn.sameK d) = true) : ks = [] := by
  cases ks with
  | nil => rfl
  | cons k0 ks =>
    obtain ⟨k1, kl1, rfl, h1, h2⟩ := toKeyTs_cons h
    simp only [List.all_cons, Bool.and_eq_true] at a
    cases k0 <;> simp [toKeyT] at h1
    cases d <;> simp [isIn.sameK, toKey] at a hd
/-- three ways: it is asked as it stands; or the empty dict is of the other kind -/
theorem dget3 {ks ds : List D} {k : D} {x y : V} (hd : Rep1 M ρ O H (.dct ks ds) y) (hk : Rep1 M ρ O H k x) (ok : keyOk k = true) (al : ks.all (isIn.sameK k) = true) :
    ∃ a, y = .ref a ∧ ((∃ o, DGet H a x o ∧ LookOk M ρ O H ks ds k o) ∨
      (ks = [] ∧ H a = some (.dK []) ∧ DGet (upd H a (.dT [])) a x none) ∨ (ks = [] ∧ H a = some (.dT []) ∧ DGet (upd H a (.dK [])) a x none)) := by
  obtain ⟨a, vs, rfl, r, q⟩ := hd.dct
  refine ⟨a, rfl, ?_⟩
  rcases keyOk_or ok with ⟨k1, h1⟩ | ⟨xs, ks1, rfl, h1⟩
  · have hx : x = kV k1 := toKey_kV h1 (hk.plain (by cases k <;> simp_all [toKey, isMut]))
    rcases q with ⟨kl, q1, q2, n, _⟩ | ⟨kl, q1, q2, n, z⟩
    · obtain ⟨g1, g2⟩ := toKeys_at q1
      refine .inl ⟨valV (kl.zip vs) k1, .inl ⟨_, k1, n, hx, rfl⟩, ?_⟩
      exact look_val (fun h1 h2 => eqD_key h1 h2) h1 g1 g2 q2 r
    · have e := sameK_key q1 h1 al
      exact .inr (.inr ⟨e, z e, .inl ⟨[], k1, .inl upd_same, hx, rfl⟩⟩)
  · obtain ⟨b, ws, rfl, hb, rb⟩ := hk.tup
    have hw : ws = ks1.map kV := keys_reps (by simpa [toKeyT] using h1) rb
    subst hw
    rcases q with ⟨kl, q1, q2, n, z⟩ | ⟨kl, q1, q2, n, _⟩
    · have e := sameK_tup q1 al
      have hne : b ≠ a := ne_of hb (z e) (by intro z; cases z)
      exact .inr (.inl ⟨e, z e, .inr ⟨[], ks1, b, .inl upd_same, rfl, by rw [upd_ne hne]; exact hb, rfl⟩⟩)
    · obtain ⟨g1, g2⟩ := toKeyTs_at q1
      refine .inl ⟨valV (kl.zip vs) ks1, .inr ⟨_, ks1, b, n, rfl, hb, rfl⟩, ?_⟩
      exact look_val (fun h1 h2 => eqD_keyT h1 h2) h1 g1 g2 q2 r
theorem LookOk.isSome {ks ds : List D} {k : D} {o : Option V} (h : LookOk M ρ O H ks ds k o) : o.isSome = (look ks ds k).isSome := by
  unfold LookOk at h
  split at h
  · rename_i x e
    obtain ⟨v, rfl, _⟩ := h
    rw [e]; rfl
  · rename_i e
    rw [e, h]; rfl
theorem upd_back {a : Addr} {u o : HO} (h : H a = some o) : upd (upd H a u) a o = H := by
  funext b
  unfold upd
  by_cases e : b = a
  · rw [if_pos e, e, h]
  · rw [if_neg e, if_neg e]
section
variable {X : Cx} {pins : List (Addr × Obj)} {s : Shared}
theorem d_in3 {ks ds : List D} {k : D} {x y : V} {u v : Value} {A : Around} {E : Value → Shared → Prop} {Q : Value → Shared → Prop} (hu : A.units + 1 < cLine) (I : Inv X pins σ H s) (hd : Rep1 M ρ O H (.dct ks ds) y) (hk : Rep1 M ρ O H k x) (ok : keyOk k = true)
    (al : ks.all (isIn.sameK k) = true) (rx : RelV x u) (ry : RelV y v) (neg : Bool) (h : ∀ s', Inv X pins σ H s' → Q (.bool (neg != (look ks ds k).isSome)) s') :
    wpAny (model X.prog X.w) A (compareOp (if neg then .NotIn else .In) u v) Q E s := by
  obtain ⟨a, rfl, q⟩ := dget3 hd hk ok al
  cases ry
  rcases q with ⟨o, g, l⟩ | ⟨rfl, ha, g⟩ | ⟨rfl, ha, g⟩
  · cases neg with
    | false => exact d_in hu I g rx fun s' I' => by rw [l.isSome]; simpa using h s' I'
    | true => exact d_notIn hu I g rx fun s' I' => by rw [l.isSome]; simpa using h s' I'
  · have key : ∀ s', Inv X pins σ (upd H a (.dT [])) s' → Inv X pins σ H s' := fun s' I' => by
      have := dt_dk I' upd_same
      rwa [upd_back ha] at this
    cases neg with
    | false => exact d_in hu (dk_dt I ha) g rx fun s' I' => by simpa [look] using h s' (key s' I')
    | true => exact d_notIn hu (dk_dt I ha) g rx fun s' I' => by simpa [look] using h s' (key s' I')
  · have key : ∀ s', Inv X pins σ (upd H a (.dK [])) s' → Inv X pins σ H s' := fun s' I' => by
      have := dk_dt I' upd_same
      rwa [upd_back ha] at this
    cases neg with
    | false => exact d_in hu (dt_dk I ha) g rx fun s' I' => by simpa [look] using h s' (key s' I')
    | true => exact d_notIn hu (dt_dk I ha) g rx fun s' I' => by simpa [look] using h s' (key s' I')
end

/-! ### comparisons -/
theorem flatS_flatV {d : D} {v : V} (h : isIn.flatS d = true) (r : Rep M ρ O H d v) : flatV v = true := by
  cases d <;> simp [isIn.flatS] at h <;> (simp only [Rep] at r; subst r; rfl)
theorem flatS_eqV {d e : D} {v w : V} (h : isIn.flatS d = true) (h' : isIn.flatS e = true) (r : Rep M ρ O H d v) (r' : Rep M ρ O H e w) : eqV v w = eqD d e := by
  cases d <;> simp [isIn.flatS] at h <;> cases e <;> simp [isIn.flatS] at h' <;> (simp only [Rep] at r r'; subst r; subst r'; first | rfl | (simp only [eqV, eqD]; exact str_beq _ _) | simp [eqV, eqD])
theorem flatS_all : ∀ {ds : List D} {vs : List V}, ds.all isIn.flatS = true → Reps M ρ O H ds vs → vs.all flatV = true
  | [], vs, _, r => by simp [Reps] at r; subst r; rfl
  | d :: ds, vs, h, r => by
    simp only [Reps] at r
    obtain ⟨v, w, rfl, r1, r2⟩ := r
    simp only [List.all_cons, Bool.and_eq_true] at h ⊢
    exact ⟨flatS_flatV h.1 r1, flatS_all h.2 r2⟩
theorem flatS_any {a : D} {x : V} (ha : isIn.flatS a = true) (ra : Rep M ρ O H a x) : ∀ {ds : List D} {vs : List V}, ds.all isIn.flatS = true → Reps M ρ O H ds vs → inV x vs = ds.any fun y => eqD y a
  | [], vs, _, r => by simp [Reps] at r; subst r; rfl
  | d :: ds, vs, h, r => by
    simp only [Reps] at r
    obtain ⟨v, w, rfl, r1, r2⟩ := r
    simp only [List.all_cons, Bool.and_eq_true] at h
    have ih := flatS_any ha ra h.2 r2
    unfold inV at ih ⊢
    rw [List.any_cons, List.any_cons, ih, flatS_eqV h.1 ha r1 ra]
theorem flatS_mut {d : D} (h : isIn.flatS d = true) : isMut d = false := by cases d <;> simp [isIn.flatS, isMut] at h ⊢
def rCmp (M : Mt2) (X : Cx) (op : CmpOp) : R2 := fun x y H Q => ∃ ρ O a b k, X.A.units + 64 < cLine ∧ Rep1 M ρ O H a x ∧ Rep1 M ρ O H b y ∧ cmpop op a b = some k ∧ Q (.bl k) H
theorem eq_any {X : Cx} {pins : List (Addr × Obj)} {s : Shared} {a b : D} {x y : V} {u v : Value} {Q : VK} {k : Bool} (hu : X.A.units + 64 < cLine) (I : Inv X pins σ H s) (rx : RelV x u) (ry : RelV y v) (h1 : Rep1 M ρ O H a x) (h2 : Rep1 M ρ O H b y) (h : pyEq a b = some k) (neg : Bool) (q : Q (.bl (neg != k)) H) :
    wpAny (model X.prog X.w) X.A (compareOp (if neg then .NotEq else .Eq) u v) (EP X pins σ Q) X.xe s := by
  have scalar : ∀ z w : V, x = z → y = w → scal z w = true → decide (z = w) = k → wpAny (model X.prog X.w) X.A (compareOp (if neg then .NotEq else .Eq) u v) (EP X pins σ Q) X.xe s := fun z w e1 e2 hs hd => by
    subst e1; subst e2
    cases neg with
    | false => exact op_eq pins s σ H x y u v Q I rx ry ⟨hs, by rw [hd]; simpa using q⟩
    | true => exact op_ne pins s σ H x y u v Q I rx ry ⟨hs, by rw [hd]; simpa using q⟩
  unfold pyEq at h
  split at h
  · cases h
    exact scalar _ _ h1.int h2.int rfl dec_int
  · cases h
    exact scalar _ _ h1.str h2.str rfl (by rw [dec_str, str_beq])
  · cases h
    exact scalar _ _ h1.bl h2.bl rfl dec_bl
  · split at h
    · rename_i hk
      cases h
      simp only [Bool.and_eq_true] at hk
      have e := eqD_py a b 64 64 hk.1 hk.2
      cases neg with
      | false => exact op_eqD hu pins s σ H x y u v Q I rx ry ⟨_, _, okD_dp1 hk.1 h1, okD_dp1 hk.2 h2, okD_shaped hk.1, okD_shaped hk.2, by rw [e]; simpa using q⟩
      | true => exact op_neD hu pins s σ H x y u v Q I rx ry ⟨_, _, okD_dp1 hk.1 h1, okD_dp1 hk.2 h2, okD_shaped hk.1, okD_shaped hk.2, by rw [e]; simpa using q⟩
    · cases h
theorem in_any {X : Cx} {pins : List (Addr × Obj)} {s : Shared} {a b : D} {x y : V} {u v : Value} {Q : VK} {k : Bool} (hu : X.A.units + 64 < cLine) (I : Inv X pins σ H s) (rx : RelV x u) (ry : RelV y v) (h1 : Rep1 M ρ O H a x) (h2 : Rep1 M ρ O H b y) (h : isIn a b = some k) (neg : Bool) (q : Q (.bl (neg != k)) H) :
    wpAny (model X.prog X.w) X.A (compareOp (if neg then .NotIn else .In) u v) (EP X pins σ Q) X.xe s := by
  unfold isIn at h
  split at h
  · split at h
    · rename_i z x0 c
      cases h
      cases h1.str; cases h2.str
      have e : decide (c ∈ (⟨z.toArray⟩ : Str).cps.toList) = z.contains c := by
        rw [Bool.eq_iff_iff]; simp
      cases neg with
      | false => exact op_in_sign pins s σ H _ _ u v Q I rx ry ⟨c, _, rfl, rfl, by rw [e]; simpa using q⟩
      | true => exact op_notIn_sign pins s σ H _ _ u v Q I rx ry ⟨c, _, rfl, rfl, by rw [e]; simpa using q⟩
    · cases h
  · split at h
    · rename_i ys hk
      cases h
      simp only [Bool.and_eq_true] at hk
      obtain ⟨p, vs, rfl, hp, r⟩ := h2.lst
      have r1 := h1.plain (flatS_mut hk.1)
      cases neg with
      | false => exact op_in_seq pins s σ H _ _ u v Q I rx ry ⟨p, vs, rfl, .inl (SqL.of hp), flatS_flatV hk.1 r1, flatS_all hk.2 r, by rw [flatS_any hk.1 r1 hk.2 r]; simpa using q⟩
      | true => exact op_notIn_seq pins s σ H _ _ u v Q I rx ry ⟨p, vs, rfl, .inl (SqL.of hp), flatS_flatV hk.1 r1, flatS_all hk.2 r, by rw [flatS_any hk.1 r1 hk.2 r]; simpa using q⟩
    · cases h
  · split at h
    · rename_i ys hk
      cases h
      simp only [Bool.and_eq_true] at hk
      obtain ⟨p, vs, rfl, hp, r⟩ := h2.tup
      have r1 := h1.plain (flatS_mut hk.1)
      cases neg with
      | false => exact op_in_seq pins s σ H _ _ u v Q I rx ry ⟨p, vs, rfl, .inr (SqT.of hp), flatS_flatV hk.1 r1, flatS_all hk.2 r, by rw [flatS_any hk.1 r1 hk.2 r]; simpa using q⟩
      | true => exact op_notIn_seq pins s σ H _ _ u v Q I rx ry ⟨p, vs, rfl, .inr (SqT.of hp), flatS_flatV hk.1 r1, flatS_all hk.2 r, by rw [flatS_any hk.1 r1 hk.2 r]; simpa using q⟩
    · cases h
  · split at h
    · rename_i ks vs hk
      cases h
      simp only [Bool.and_eq_true] at hk
      exact d_in3 (by omega) I h2 h1 hk.1 hk.2 rx ry neg fun s' I' => ⟨.bl _, H, I', rfl, q⟩
    · cases h
  · cases h
theorem op_cmp {X : Cx} {op : CmpOp} : OpR X (compareOp op) (rCmp M X op) := by
  intro pins s σ H x y v u Q I rx ry h
  obtain ⟨ρ, O, a, b, k, hu, h1, h2, hb, q⟩ := h
  unfold cmpop at hb
  split at hb
  · exact eq_any hu I rx ry h1 h2 hb false (by simpa using q)
  · obtain ⟨k', e, rfl⟩ := Option.map_eq_some_iff.mp hb
    exact eq_any hu I rx ry h1 h2 e true (by simpa using q)
  · cases hb; cases h1.int; cases h2.int
    exact op_lt pins s σ H _ _ v u Q I rx ry ⟨_, _, rfl, rfl, q⟩
  · cases hb; cases h1.int; cases h2.int
    exact op_le pins s σ H _ _ v u Q I rx ry ⟨_, _, rfl, rfl, q⟩
  · cases hb; cases h1.int; cases h2.int
    exact op_gt pins s σ H _ _ v u Q I rx ry ⟨_, _, rfl, rfl, q⟩
  · cases hb; cases h1.int; cases h2.int
    exact op_ge pins s σ H _ _ v u Q I rx ry ⟨_, _, rfl, rfl, q⟩
  · cases h2.non
    refine op_isN pins s σ H _ _ v u Q I rx ry ⟨rfl, ?_⟩
    have : decide (x = .non) = k := by
      cases hb
      split
      · simp [h1.non]
      · rename_i hn
        rcases h1 with h1 | ⟨p, rfl, _⟩
        · cases a <;> simp [Rep] at h1 hn ⊢ <;> first | (subst h1; simp) | (obtain ⟨_, _, rfl, _⟩ := h1; simp) | (obtain ⟨_, rfl, _⟩ := h1; simp) | (obtain ⟨_, _, rfl⟩ := h1; simp) | skip
        · simp
    rw [this]; exact q
  · cases h2.non
    refine op_notN pins s σ H _ _ v u Q I rx ry ⟨rfl, ?_⟩
    have : (!decide (x = .non)) = k := by
      cases hb
      split
      · simp [h1.non]
      · rename_i hn
        rcases h1 with h1 | ⟨p, rfl, _⟩
        · cases a <;> simp [Rep] at h1 hn ⊢ <;> first | (subst h1; simp) | (obtain ⟨_, _, rfl, _⟩ := h1; simp) | (obtain ⟨_, rfl, _⟩ := h1; simp) | (obtain ⟨_, _, rfl⟩ := h1; simp) | skip
        · simp
    rw [this]; exact q
  · cases hb; cases h1.bl; cases h2.bl
    exact op_isBl pins s σ H _ _ v u Q I rx ry ⟨_, _, rfl, rfl, by simpa [Bool.beq_eq_decide_eq] using q⟩
  · cases hb; cases h1.bl; cases h2.bl
    exact op_notBl pins s σ H _ _ v u Q I rx ry ⟨_, _, rfl, rfl, by simpa [Bool.beq_eq_decide_eq] using q⟩
  · exact in_any hu I rx ry h1 h2 hb false (by simpa using q)
  · obtain ⟨k', e, rfl⟩ := Option.map_eq_some_iff.mp hb
    exact in_any hu I rx ry h1 h2 e true (by simpa using q)
  · cases hb
end
end TI

end

section
set_option Elab.async false
set_option linter.all false
set_option maxRecDepth 100000
set_option maxHeartbeats 1000000
/-! TI6: expressions. -/
namespace TI
open PySem L2
def up (P : Prg) (r : Rec) : Rec := ⟨evS P r, tstS r, exS P r, callS P r, iniS P r, lamS P r⟩
theorem lv_succ (P : Prg) (n : Nat) : lv P (n + 1) = up P (lv P n) := rfl
theorem share_sto (st : St) (i : Nat) : (share st i).sto = st.sto := by unfold share; split <;> rfl
theorem share_dep (st : St) (i : Nat) : (share st i).dep = st.dep := by unfold share; split <;> rfl
theorem share_lo (st : St) (i : Nat) : (share st i).lo = st.lo := by unfold share; split <;> rfl
theorem share_env (st : St) (i : Nat) : EnvLe st.env (share st i).env := fun j => by
  unfold share
  split
  · rename_i d e
    by_cases h : i = j
    · subst h
      have hi : st.env[i]? = some (some (true, d)) := by
        cases q : st.env[i]? with
        | none => rw [q] at e; simp at e
        | some y => rw [q] at e; simp at e; rw [e]
      refine .inr ⟨d, hi, ?_⟩
      have hl : i < st.env.length := (List.getElem?_eq_some_iff.mp hi).1
      simp [List.getElem?_set_self hl]
    · exact .inl (by simp [List.getElem?_set_ne h])
  · exact .inl rfl
theorem slot_at {st : St} {i : Nat} {p : Bool × D} (h : slot st i = some p) : st.env[i]? = some (some p) := by
  unfold slot at h
  cases q : st.env[i]? with
  | none => rw [q] at h; simp at h
  | some y => rw [q] at h; simp at h; rw [h]
section
variable {M : Mt2} {ρ : List Addr} {O O' : Addr → Prop} {H H' : Hp} {st st' : St} {σ : L2.St} {sto : List D} {X : Cx} {W : WX} {r : Rec} {Γ : Gam}

theorem tP_of {se : SE} (hn : ∀ i, se ≠ .var i) {Q : VK} (h : tP M X W r se σ H Q) : tE M X W r se σ H Q := by
  obtain ⟨ρ, O, st, s, hr, h⟩ := h
  refine ⟨ρ, O, st, s, hr, ?_⟩
  have e : pk r se st = (r.ev se st).bind fun p st => .ok p.1 st := by
    unfold pk
    split
    · exact absurd rfl (hn _)
    · rfl
  rw [e] at h
  exact h.bind.mono (fun p st' h v H' q => h v H' q.toP) fun _ _ x => x
theorem sndP_of {e : Expr} {se : SE} (h : SndE M r Γ e se) (hn : ∀ i, se ≠ .var i) : SndP M r Γ e se := fun X W g tk => (h X W g tk).imp fun σ H Q q => tP_of hn q
theorem sndP_var {i : Nat} {x : Str} {pos : Pos} (hN : Γ.N[i]? = some x) (hv : Vis Γ.sc x) (hd : (x == ("__debug__" : Str)) = false) (hc : (x == ("__classdict__" : Str)) = false) : SndP M r Γ (.Name x pos) (.var i) := fun X W g tk => by
  refine (pe_var (i := i) (by rw [g.N]; exact hN) (by rw [g.sc]; exact hv) hd hc).imp fun σ H Q h => ?_
  obtain ⟨ρ, O, st, s, hr, h⟩ := h
  have h : wpR (lift (slot st i) st fun p => .ok p.2 st) _ _ := h
  obtain ⟨⟨own, d⟩, e, h⟩ := h.lift
  obtain ⟨v, h1, h2, h3⟩ := s.slot i own d (slot_at e)
  refine ⟨v, h1, h.ok v H ⟨O, Left.refl s, ?_⟩⟩
  cases own with
  | false => exact ⟨.inl (h2 rfl), .inl (h2 rfl)⟩
  | true => exact ⟨.inr (h3 rfl), .inr ⟨i, rfl, slot_at e, h1⟩⟩
theorem sndE_var {i : Nat} {x : Str} {pos : Pos} (hN : Γ.N[i]? = some x) (hv : Vis Γ.sc x) (hd : (x == ("__debug__" : Str)) = false) (hc : (x == ("__classdict__" : Str)) = false) : SndE M (up M.P r) Γ (.Name x pos) (.var i) := fun X W g tk => by
  refine (pe_var (i := i) (by rw [g.N]; exact hN) (by rw [g.sc]; exact hv) hd hc).imp fun σ H Q h => ?_
  obtain ⟨ρ, O, st, s, hr, h⟩ := h
  have h : wpR (lift (slot st i) st fun p => .ok (p.2, false) (share st i)) _ _ := h
  obtain ⟨⟨own, d⟩, e, h⟩ := h.lift
  obtain ⟨v, h1, _⟩ := s.slot i own d (slot_at e)
  obtain ⟨O', sub, s', rep, low⟩ := s.share i
  exact ⟨v, h1, h.ok v H ⟨O', ⟨sub, Ext.refl _ _, by rw [share_sto], share_dep _ _, s', share_env _ _, share_lo _ _, low⟩, fun _ => rep own d v (slot_at e) h1, fun z => by cases z⟩⟩
theorem sndE_cst {e : Expr} {d : D} {v : V} (hp : ∀ X, Good M X Γ → PE X e (tC v)) (hv : ∀ ρ O H, Rep M ρ O H d v) : SndE M (up M.P r) Γ e (.cst d) := fun X W g tk => by
  refine (hp X g).imp fun σ H Q h => ?_
  obtain ⟨ρ, O, st, s, hr, h⟩ := h
  have h : wpR (R.ok (d, false) st) _ _ := h
  exact h.ok v H (PostE.plain (Left.refl s) (hv _ _ _))
theorem sndE_int {i : Int} {k : Nat} {pos : Pos} : SndE M (up M.P r) Γ (.Constant (.int i) k pos) (.cst (.int i)) := sndE_cst (fun _ _ => pe_int) fun _ _ _ => by simp [Rep]
theorem sndE_str {x : Str} {k : Nat} {pos : Pos} : SndE M (up M.P r) Γ (.Constant (.str x) k pos) (.cst (.str x.cps.toList)) := sndE_cst (fun _ _ => pe_str) fun _ _ _ => by simp [Rep]
theorem sndE_bl {b : Bool} {k : Nat} {pos : Pos} : SndE M (up M.P r) Γ (.Constant (.bool b) k pos) (.cst (.bl b)) := sndE_cst (fun _ _ => pe_bl) fun _ _ _ => by simp [Rep]
theorem sndE_non {k : Nat} {pos : Pos} : SndE M (up M.P r) Γ (.Constant .none k pos) (.cst .non) := sndE_cst (fun _ _ => pe_non) fun _ _ _ => by simp [Rep]
theorem sndE_glob {x : Str} {d : D} {pos : Pos} (hk : Γ.sc.names.lookup x = some .globalImplicit) (hg : Γ.gl x = some d) (hd : (x == ("__debug__" : Str)) = false) : SndE M (up M.P r) Γ (.Name x pos) (.cst d) := fun X W g tk => by
  obtain ⟨u, v, hm, rv, rp⟩ := g.gl x d hg
  refine (pe_glob (v := v) (show X.env.kindOf x = _ from by unfold Env.kindOf; rw [g.sc]; exact hk) hm rv hd).imp fun σ H Q h => ?_
  obtain ⟨ρ, O, st, s, hr, h⟩ := h
  have h : wpR (R.ok (d, false) st) _ _ := h
  exact h.ok v H (PostE.plain (Left.refl s) (rp _ _ _))
/-- a built-in type's name -/
theorem sndE_bt {x : Str} {t : Bt} {pos : Pos} (hk : Γ.sc.names.lookup x = some .globalImplicit) (hg : Γ.gl x = none) (hv : bootBuiltins x = some (.type (btName t))) (hn : x ≠ "__name__") (hB : bltB x = true) (hd : (x == ("__debug__" : Str)) = false) : SndE M (up M.P r) Γ (.Name x pos) (.cst (.ty t)) :=
  sndE_cst (v := .ty (btName t)) (fun X g => pe_bltn (show X.env.kindOf x = _ from by unfold Env.kindOf; rw [g.sc]; exact hk) (g.nogl x hg hB) hv rfl hn hd) fun _ _ _ => by simp [Rep]
/-- two looked-at things -/
theorem pk2 {α : Type} {sa sb : SE} (s : SRel M ρ O st σ H) (hr : Room st.dep X.A) {K : D → D → St → R α} {post : α → St → Prop}
    (h : wpR ((pk r sa st).bind fun x st => (pk r sb st).bind fun y st => K x y st) post (Bx M W ρ O st σ H)) {RR : V → V → Hp → Prop}
    (hk : ∀ x y st2 v1 v2 H2 O2, Left M ρ O st σ H O2 st2 H2 → Rep1 M ρ O2 H2 x v1 → Rep1 M ρ O2 H2 y v2 → wpR (K x y st2) post (Bx M W ρ O st σ H) → RR v1 v2 H2) :
    tP M X W r sa σ H (fun x H1 => tP M X W r sb σ H1 fun y H2 => RR x y H2) := by
  refine ⟨ρ, O, st, s, hr, h.bind.mono (fun d st1 h v H1 ⟨O1, l1, r1, _⟩ => ?_) fun _ _ x => x⟩
  refine ⟨ρ, O1, st1, l1.rel, by rw [l1.dep]; exact hr, h.bind.mono (fun d2 st2 h v2 H2 ⟨O2, l2, r2, _⟩ => ?_) fun _ _ x => x.later l1⟩
  exact hk d d2 st2 v v2 H2 O2 (l1.trans l2) (r1.left l2 l1.rel) r2 h
theorem sndE_bin {a b : Expr} {sa sb : SE} {op : Operator} {pos : Pos} (ha : SndP M r Γ a sa) (hb : SndP M r Γ b sb) : SndE M (up M.P r) Γ (.BinOp a op b pos) (.bin op sa sb) := fun X W g tk => by
  refine (pe_op (op_bin (M := M)) (ha X W g tk) (hb X W g tk)).imp fun σ H Q h => ?_
  obtain ⟨ρ, O, st, s, hr, h⟩ := h
  have h : wpR ((pk r sa st).bind fun x st => (pk r sb st).bind fun y st => lift (binop op x y) st fun p => .ok p st) _ _ := h
  refine pk2 s hr h fun x y st2 v1 v2 H2 O2 l r1 r2 h => ?_
  obtain ⟨⟨d, fr⟩, e, h⟩ := h.lift
  exact ⟨ρ, O2, st2.sto, x, y, d, fr, l.rel.so, r1, r2, e, fun v H' pv => h.ok v H' (pv.post l)⟩
theorem sndE_cmp {a b : Expr} {sa sb : SE} {op : CmpOp} {pos : Pos} (ha : SndP M r Γ a sa) (hb : SndP M r Γ b sb) (hm : behindInMarks op b = false) : SndE M (up M.P r) Γ (.Compare a [op] [b] pos) (.cmp op sa sb) := fun X W g tk => by
  refine (pe_cmpR (op_cmp (M := M)) (ha X W g tk) (hb X W g tk) hm).imp fun σ H Q h => ?_
  obtain ⟨ρ, O, st, s, hr, h⟩ := h
  simp only [up, evS] at h
  refine pk2 s hr h fun x y st2 v1 v2 H2 O2 l r1 r2 h => ?_
  obtain ⟨k, e, h⟩ := h.lift
  exact ⟨ρ, O2, x, y, k, hr.units, r1, r2, e, h.ok _ _ (PostE.plain l (by simp [Rep]))⟩

theorem sndE_neg {a : Expr} {sa : SE} {pos : Pos} (ha : SndP M r Γ a sa) : SndE M (up M.P r) Γ (.UnaryOp .USub a pos) (.neg sa) := fun X W g tk => by
  refine (pe_un un_neg (ha X W g tk)).imp fun σ H Q h => ?_
  obtain ⟨ρ, O, st, s, hr, h⟩ := h
  simp only [up, evS] at h
  refine ⟨ρ, O, st, s, hr, h.bind.mono (fun d st1 h v H1 ⟨O1, l1, r1, _⟩ => ?_) fun _ _ x => x⟩
  split at h
  · cases r1.int
    exact ⟨_, rfl, h.ok _ _ (PostE.plain l1 (by simp [Rep]))⟩
  · exact h.elim
theorem sndE_not {a : Expr} {sa : SE} {pos : Pos} (ha : SndP M r Γ a sa) : SndE M (up M.P r) Γ (.UnaryOp .Not a pos) (.not sa) := fun X W g tk => by
  refine (pe_not (ha X W g tk)).imp fun σ H Q h => ?_
  obtain ⟨ρ, O, st, s, hr, h⟩ := h
  simp only [up, evS] at h
  refine ⟨ρ, O, st, s, hr, h.bind.mono (fun d st1 h v H1 ⟨O1, l1, r1, _⟩ => ?_) fun _ _ x => x⟩
  split at h
  · cases r1.bl
    exact ⟨_, rfl, h.ok _ _ (PostE.plain l1 (by simp [Rep]))⟩
  · exact h.elim
theorem PostE.later {O1 : Addr → Prop} {st1 st2 : St} {H1 H2 : Hp} {d : D} {fr : Bool} {v : V} (l : Left M ρ O st σ H O1 st1 H1) (h : PostE M ρ O1 st1 σ H1 d fr st2 v H2) : PostE M ρ O st σ H d fr st2 v H2 := by
  obtain ⟨O2, l2, h1, h2⟩ := h
  refine ⟨O2, l.trans l2, h1, fun z => ?_⟩
  obtain ⟨a, q1, q2, q3, q4, q5⟩ := h2 z
  exact ⟨a, q1, q2, l.ext.dom a q3, q4, q5⟩
theorem sndE_and {a b : Expr} {bs : List Expr} {sa sb : SE} {pos : Pos} (ha : SndP M r Γ a sa) (hb : SndE M r Γ (.BoolOp .And (b :: bs) pos) sb) : SndE M (up M.P r) Γ (.BoolOp .And (a :: b :: bs) pos) (.and sa sb) := fun X W g tk => by
  refine (pe_and (ha X W g tk) (hb X W g tk)).imp fun σ H Q h => ?_
  obtain ⟨ρ, O, st, s, hr, h⟩ := h
  simp only [up, evS] at h
  refine ⟨ρ, O, st, s, hr, h.bind.mono (fun d st1 h v H1 ⟨O1, l1, r1, _⟩ => ?_) fun _ _ x => x⟩
  split at h
  · cases r1.bl
    refine ⟨true, rfl, iteT ⟨ρ, O1, st1, l1.rel, by rw [l1.dep]; exact hr, h.mono (fun p st2 h v H2 q => h v H2 (q.later l1)) fun _ _ x => x.later l1⟩⟩
  · cases r1.bl
    exact ⟨false, rfl, iteF (h.ok _ _ (PostE.plain l1 (by simp [Rep])))⟩
  · exact h.elim
theorem sndE_or {a b : Expr} {bs : List Expr} {sa sb : SE} {pos : Pos} (ha : SndP M r Γ a sa) (hb : SndE M r Γ (.BoolOp .Or (b :: bs) pos) sb) : SndE M (up M.P r) Γ (.BoolOp .Or (a :: b :: bs) pos) (.or sa sb) := fun X W g tk => by
  refine (pe_or (ha X W g tk) (hb X W g tk)).imp fun σ H Q h => ?_
  obtain ⟨ρ, O, st, s, hr, h⟩ := h
  simp only [up, evS] at h
  refine ⟨ρ, O, st, s, hr, h.bind.mono (fun d st1 h v H1 ⟨O1, l1, r1, _⟩ => ?_) fun _ _ x => x⟩
  split at h
  · cases r1.bl
    exact ⟨true, rfl, iteT (h.ok _ _ (PostE.plain l1 (by simp [Rep])))⟩
  · cases r1.bl
    refine ⟨false, rfl, iteF ⟨ρ, O1, st1, l1.rel, by rw [l1.dep]; exact hr, h.mono (fun p st2 h v H2 q => h v H2 (q.later l1)) fun _ _ x => x.later l1⟩⟩
  · exact h.elim
theorem sndE_one {a : Expr} {sa : SE} {op : BoolOp} {pos : Pos} (ha : SndE M r Γ a sa) : SndE M r Γ (.BoolOp op [a] pos) sa := fun X W g tk => pe_one (ha X W g tk)
theorem sndE_ite {c a b : Expr} {sc sa sb : SE} {pos : Pos} (hc : SndT M r Γ c sc) (ha : SndE M r Γ a sa) (hb : SndE M r Γ b sb) : SndE M (up M.P r) Γ (.IfExp c a b pos) (.ite sc sa sb) := fun X W g tk => by
  refine (pe_ifExp (hc X W g tk) (ha X W g tk) (hb X W g tk)).imp fun σ H Q h => ?_
  obtain ⟨ρ, O, st, s, hr, h⟩ := h
  have h : wpR ((r.tst sc st).bind fun k st => if k then r.ev sa st else r.ev sb st) _ _ := h
  refine ⟨ρ, O, st, s, hr, h.bind.mono (fun k st1 h H1 O1 l1 => ?_) fun _ _ x => x⟩
  cases k with
  | true => exact iteT ⟨ρ, O1, st1, l1.rel, by rw [l1.dep]; exact hr, wpR.mono (show wpR (r.ev sa st1) _ _ from h) (fun p st2 h v H2 q => h v H2 (q.later l1)) fun _ _ x => x.later l1⟩
  | false => exact iteF ⟨ρ, O1, st1, l1.rel, by rw [l1.dep]; exact hr, wpR.mono (show wpR (r.ev sb st1) _ _ from h) (fun p st2 h v H2 q => h v H2 (q.later l1)) fun _ _ x => x.later l1⟩
theorem sndE_cmp2 {a b c : Expr} {sa sb sc : SE} {op op' : CmpOp} {pos : Pos} (ha : SndP M r Γ a sa) (hb : SndP M r Γ b sb) (hc : SndP M r Γ c sc) (hm : lastMarks [op, op'] [b, c] = false) : SndE M (up M.P r) Γ (.Compare a [op, op'] [b, c] pos) (.cmp2 op op' sa sb sc) := fun X W g tk => by
  refine (pe_chain (op_cmp (M := M)) (op_cmp (M := M)) (ha X W g tk) (hb X W g tk) (hc X W g tk) hm).imp fun σ H Q h => ?_
  obtain ⟨ρ, O, st, s, hr, h⟩ := h
  simp only [up, evS] at h
  refine pk2 s hr h fun x y st2 v1 v2 H2 O2 l r1 r2 h => ?_
  obtain ⟨k, e, h⟩ := h.lift
  refine ⟨ρ, O2, x, y, k, hr.units, r1, r2, e, k, rfl, ?_⟩
  cases k with
  | false => exact iteF (wpR.ok (show wpR (R.ok (D.bl false, false) st2) _ _ from h) _ _ (PostE.plain l (by simp [Rep])))
  | true =>
    simp only [if_true] at h
    refine iteT ⟨ρ, O2, st2, l.rel, by rw [l.dep]; exact hr, h.bind.mono (fun z st3 h v H3 ⟨O3, l3, r3, _⟩ => ?_) fun _ _ x => x.later l⟩
    obtain ⟨k, e, h⟩ := h.lift
    exact ⟨ρ, O3, y, z, k, hr.units, r2.left l3 l.rel, r3, e, h.ok _ _ (PostE.plain (l.trans l3) (by simp [Rep]))⟩

/-! ### lists of expressions -/
def NotStar : Expr → Prop
  | .Starred _ _ => False
  | _ => True
theorem star_of {e : Expr} (h : NotStar e) (es : List Expr) (env : Env) : starEach (e :: es) env = (false, eval e env) :: starEach es env := by
  cases e <;> first | rfl | exact h.elim
inductive SndPs (M : Mt2) (r : Rec) (Γ : Gam) : List Expr → List SE → Prop where
  | nil : SndPs M r Γ [] []
  | cons {e : Expr} {es : List Expr} {se : SE} {ses : List SE} : NotStar e → SndP M r Γ e se → SndPs M r Γ es ses → SndPs M r Γ (e :: es) (se :: ses)
inductive SndEs (M : Mt2) (r : Rec) (Γ : Gam) : List Expr → List SE → Prop where
  | nil : SndEs M r Γ [] []
  | cons {e : Expr} {es : List Expr} {se : SE} {ses : List SE} : NotStar e → SndE M r Γ e se → SndEs M r Γ es ses → SndEs M r Γ (e :: es) (se :: ses)
theorem SndPs.pa {es : List Expr} {ses : List SE} (h : SndPs M r Γ es ses) : ∀ X W, Good M X Γ → Takes X W → PA X es (tPs M X W r ses) := by
  induction h with
  | nil =>
    intro X W g tk
    refine pa_nil.imp fun σ H Q h => ?_
    obtain ⟨ρ, O, st, s, hr, h⟩ := h
    exact wpR.ok (show wpR (R.ok [] st) _ _ from h) [] H ⟨O, Left.refl s, rfl, rfl⟩
  | @cons e es se ses hn he _ ih =>
    intro X W g tk
    refine (pa_cons (he X W g tk) (ih X W g tk) (star_of hn es X.env)).imp fun σ H Q h => ?_
    obtain ⟨ρ, O, st, s, hr, h⟩ := h
    have h : wpR ((pk r se st).bind fun d st => (pks r ses st).bind fun ds st => .ok (d :: ds) st) _ _ := h
    refine ⟨ρ, O, st, s, hr, h.bind.mono (fun d st1 h v H1 ⟨O1, l1, r1, a1⟩ => ?_) fun _ _ x => x⟩
    refine ⟨ρ, O1, st1, l1.rel, by rw [l1.dep]; exact hr, h.bind.mono (fun ds st2 h vs H2 ⟨O2, l2, r2⟩ => ?_) fun _ _ x => x.later l1⟩
    exact h.ok _ _ ⟨O2, l1.trans l2, d, ds, v, vs, rfl, rfl, a1.left l2 l1.rel, r2⟩
theorem SndEs.pa {es : List Expr} {ses : List SE} (h : SndEs M r Γ es ses) : ∀ X W, Good M X Γ → Takes X W → PA X es (tAs M X W r ses) := by
  induction h with
  | nil =>
    intro X W g tk
    refine pa_nil.imp fun σ H Q h => ?_
    obtain ⟨ρ, O, st, s, hr, h⟩ := h
    exact wpR.ok (show wpR (R.ok [] st) _ _ from h) [] H ⟨O, Left.refl s, Reps.nil⟩
  | @cons e es se ses hn he _ ih =>
    intro X W g tk
    refine (pa_cons (he X W g tk) (ih X W g tk) (star_of hn es X.env)).imp fun σ H Q h => ?_
    obtain ⟨ρ, O, st, s, hr, h⟩ := h
    have h : wpR ((r.ev se st).bind fun p st => (evs r ses st).bind fun ds st => .ok (p.1 :: ds) st) _ _ := h
    refine ⟨ρ, O, st, s, hr, h.bind.mono (fun p st1 h v H1 q => ?_) fun _ _ x => x⟩
    obtain ⟨O1, l1, r1⟩ := q.toRep
    refine ⟨ρ, O1, st1, l1.rel, by rw [l1.dep]; exact hr, h.bind.mono (fun ds st2 h vs H2 ⟨O2, l2, r2⟩ => ?_) fun _ _ x => x.later l1⟩
    exact h.ok _ _ ⟨O2, l1.trans l2, .cons (r1.left l2 l1.rel) r2⟩
theorem sndE_tup {es : List Expr} {ses : List SE} {k : Nat} {pos : Pos} (h : SndEs M r Γ es ses) : SndE M (up M.P r) Γ (.Tuple es k pos) (.tup ses) := fun X W g tk => by
  refine (pe_tup (h.pa X W g tk)).imp fun σ H Q h => ?_
  obtain ⟨ρ, O, st, s, hr, h⟩ := h
  simp only [up, evS] at h
  refine ⟨ρ, O, st, s, hr, h.bind.mono (fun ds st1 h vs H1 ⟨O1, l1, r1⟩ => ?_) fun _ _ x => x⟩
  split at h
  · rename_i hl
    refine ⟨?_, fun p hp => h.ok _ _ (PostE.newT l1 hp r1)⟩
    have := sz_line
    simp [okLen] at hl
    rw [← r1.length]; omega
  · exact h.elim
theorem sndE_lst {es : List Expr} {ses : List SE} {pos : Pos} (h : SndEs M r Γ es ses) : SndE M (up M.P r) Γ (.List es pos) (.lst ses) := fun X W g tk => by
  refine (pe_lst (h.pa X W g tk)).imp fun σ H Q h => ?_
  obtain ⟨ρ, O, st, s, hr, h⟩ := h
  simp only [up, evS] at h
  refine ⟨ρ, O, st, s, hr, h.bind.mono (fun ds st1 h vs H1 ⟨O1, l1, r1⟩ => ?_) fun _ _ x => x⟩
  split at h
  · rename_i hl
    refine ⟨?_, fun p hp => h.ok _ _ (PostE.newL l1 hp r1)⟩
    have := sz_line
    simp [okLen] at hl
    rw [← r1.length]; omega
  · exact h.elim

/-! ### tests -/
theorem sndT_not {a : Expr} {sa : SE} {pos : Pos} (ha : SndT M r Γ a sa) : SndT M (up M.P r) Γ (.UnaryOp .Not a pos) (.not sa) := fun X W g tk => by
  refine (pt_not (ha X W g tk)).imp fun σ H Q h => ?_
  obtain ⟨ρ, O, st, s, hr, h⟩ := h
  have h : wpR ((r.tst sa st).bind fun b st => .ok (!b) st) _ _ := h
  exact ⟨ρ, O, st, s, hr, h.bind.mono (fun b st1 h H1 O1 l1 => h.ok H1 O1 l1) fun _ _ x => x⟩
theorem sndT_and {a b : Expr} {bs : List Expr} {sa sb : SE} {pos : Pos} (ha : SndT M r Γ a sa) (hb : ∀ X W, Good M X Γ → Takes X W → PW X (.BoolOp .And (b :: bs) pos) (tT M X W r sb)) : ∀ X W, Good M X Γ → Takes X W → PW X (.BoolOp .And (a :: b :: bs) pos) (tT M X W (up M.P r) (.and sa sb)) := fun X W g tk => by
  refine ⟨fun wh pins s σ H Q I h => (pw_and (ha X W g tk) (hb X W g tk)).run wh pins s σ H Q I ?_⟩
  obtain ⟨ρ, O, st, s, hr, h⟩ := h
  have h : wpR ((r.tst sa st).bind fun x st => if x then r.tst sb st else .ok false st) _ _ := h
  refine ⟨ρ, O, st, s, hr, h.bind.mono (fun k st1 h H1 O1 l1 => ?_) fun _ _ x => x⟩
  cases k with
  | true => exact iteT ⟨ρ, O1, st1, l1.rel, by rw [l1.dep]; exact hr, wpR.mono (show wpR (r.tst sb st1) _ _ from h) (fun b st2 h H2 O2 l2 => h H2 O2 (l1.trans l2)) fun _ _ x => x.later l1⟩
  | false => exact iteF (wpR.ok (show wpR (R.ok false st1) _ _ from h) H1 O1 l1)
theorem sndT_or {a b : Expr} {bs : List Expr} {sa sb : SE} {pos : Pos} (ha : SndT M r Γ a sa) (hb : ∀ X W, Good M X Γ → Takes X W → PW X (.BoolOp .Or (b :: bs) pos) (tT M X W r sb)) : ∀ X W, Good M X Γ → Takes X W → PW X (.BoolOp .Or (a :: b :: bs) pos) (tT M X W (up M.P r) (.or sa sb)) := fun X W g tk => by
  refine ⟨fun wh pins s σ H Q I h => (pw_or (ha X W g tk) (hb X W g tk)).run wh pins s σ H Q I ?_⟩
  obtain ⟨ρ, O, st, s, hr, h⟩ := h
  have h : wpR ((r.tst sa st).bind fun x st => if x then .ok true st else r.tst sb st) _ _ := h
  refine ⟨ρ, O, st, s, hr, h.bind.mono (fun k st1 h H1 O1 l1 => ?_) fun _ _ x => x⟩
  cases k with
  | true => exact iteT (wpR.ok (show wpR (R.ok true st1) _ _ from h) H1 O1 l1)
  | false => exact iteF ⟨ρ, O1, st1, l1.rel, by rw [l1.dep]; exact hr, wpR.mono (show wpR (r.tst sb st1) _ _ from h) (fun b st2 h H2 O2 l2 => h H2 O2 (l1.trans l2)) fun _ _ x => x.later l1⟩
/-- a value's truth -/
theorem truth_V {d : D} {v : V} {b : Bool} {K : PySem.W.Frag} (h : truth d = some b) (r : Rep1 M ρ O H d v) : TruV K v H b := by
  cases d with
  | non => cases h; cases r.non; rfl
  | bl k => cases h; cases r.bl; rfl
  | int i => cases h; cases r.int; rfl
  | str x =>
    cases r.str
    have := sz_line
    simp only [truth] at h
    split at h
    · rename_i hx
      cases h
      simp [okLen] at hx
      refine ⟨by rw [str_len]; omega, ?_⟩
      rw [str_len]; cases x <;> simp <;> omega
    · cases h
  | lst xs =>
    cases h
    obtain ⟨a, vs, rfl, ha, rs⟩ := r.lst
    have := rs.length
    exact .inl ⟨vs, SqL.of ha, by cases xs <;> cases vs <;> simp_all⟩
  | tup xs =>
    cases h
    obtain ⟨a, vs, rfl, ha, rs⟩ := r.tup
    have := rs.length
    exact .inr (.inl ⟨vs, SqT.of ha, by cases xs <;> cases vs <;> simp_all⟩)
  | _ => simp [truth] at h
/-- the plain test: the value, then its truth -/
def PlainT : Expr → Prop
  | .UnaryOp .Not _ _ => False
  | .BoolOp _ _ _ => False
  | .IfExp _ _ _ _ => False
  | .Compare _ _ _ _ => False
  | _ => True
def PlainS : SE → Prop
  | .not _ => False
  | .and _ _ => False
  | .or _ _ => False
  | .ite _ _ _ => False
  | .cmp _ _ _ => False
  | .cmp2 _ _ _ _ _ => False
  | _ => True
theorem isTrue_of {e : Expr} (h : PlainT e) (env : Env) (whole : Sem Value) : isTrue e env whole = (do let v ← whole; standAt e.pos; holding [v] (truthy v)) := by
  cases e <;> first | rfl | exact h.elim | skip
  rename_i op x p
  cases op <;> first | rfl | exact h.elim
theorem tst_of {P : Prg} {se : SE} (h : PlainS se) (st : St) : (up P r).tst se st = (pk r se st).bind fun d st => lift (truth d) st fun b => .ok b st := by
  cases se <;> first | rfl | exact h.elim
theorem sndT_val {a : Expr} {sa : SE} (ha : SndP M r Γ a sa) (he : PlainT a) (hs : PlainS sa) : SndT M (up M.P r) Γ a sa := fun X W g tk => by
  refine (pt_truth (ha X W g tk) (isTrue_of he X.env)).imp fun σ H Q h => ?_
  obtain ⟨ρ, O, st, s, hr, h⟩ := h
  rw [tst_of hs] at h
  refine ⟨ρ, O, st, s, hr, h.bind.mono (fun d st1 h v H1 ⟨O1, l1, r1, _⟩ => ?_) fun _ _ x => x⟩
  obtain ⟨b, e, h⟩ := h.lift
  exact ⟨b, truth_V e r1, h.ok H1 O1 l1⟩
theorem sndT_cmp {a b : Expr} {sa sb : SE} {op : CmpOp} {pos : Pos} (ha : SndP M r Γ a sa) (hb : SndP M r Γ b sb) (hm : behindInMarks op b = false) : SndT M (up M.P r) Γ (.Compare a [op] [b] pos) (.cmp op sa sb) := fun X W g tk => by
  refine (pt_cmpR (op_cmp (M := M)) (ha X W g tk) (hb X W g tk) hm).imp fun σ H Q h => ?_
  obtain ⟨ρ, O, st, s, hr, h⟩ := h
  simp only [up, tstS] at h
  refine pk2 s hr h fun x y st2 v1 v2 H2 O2 l r1 r2 h => ?_
  obtain ⟨k, e, h⟩ := h.lift
  exact ⟨ρ, O2, x, y, k, hr.units, r1, r2, e, k, rfl, h.ok _ _ l⟩
theorem sndT_cmp2 {a b c : Expr} {sa sb sc : SE} {op op' : CmpOp} {pos : Pos} (ha : SndP M r Γ a sa) (hb : SndP M r Γ b sb) (hc : SndP M r Γ c sc) (hm : lastMarks [op, op'] [b, c] = false) : SndT M (up M.P r) Γ (.Compare a [op, op'] [b, c] pos) (.cmp2 op op' sa sb sc) := fun X W g tk => by
  refine (pt_chain (op_cmp (M := M)) (op_cmp (M := M)) (ha X W g tk) (hb X W g tk) (hc X W g tk) hm).imp fun σ H Q h => ?_
  obtain ⟨ρ, O, st, s, hr, h⟩ := h
  simp only [up, tstS] at h
  refine pk2 s hr h fun x y st2 v1 v2 H2 O2 l r1 r2 h => ?_
  obtain ⟨k, e, h⟩ := h.lift
  refine ⟨ρ, O2, x, y, k, hr.units, r1, r2, e, k, rfl, ?_⟩
  cases k with
  | false => exact iteF ⟨false, rfl, wpR.ok (show wpR (R.ok false st2) _ _ from h) _ _ l⟩
  | true =>
    simp only [if_true] at h
    refine iteT ⟨ρ, O2, st2, l.rel, by rw [l.dep]; exact hr, h.bind.mono (fun z st3 h v H3 ⟨O3, l3, r3, _⟩ => ?_) fun _ _ x => x.later l⟩
    obtain ⟨k, e, h⟩ := h.lift
    exact ⟨ρ, O3, y, z, k, hr.units, r2.left l3 l.rel, r3, e, k, rfl, h.ok _ _ (l.trans l3)⟩
end
end TI

end

section
set_option Elab.async false
set_option linter.all false
set_option maxRecDepth 100000
set_option maxHeartbeats 1000000
/-! TI7: subscripts, slices, built-ins, f-strings. -/
namespace TI
open PySem L2 PySem.Spec PyProof.Rows
section
variable {M : Mt2} {ρ : List Addr} {O O' : Addr → Prop} {H H' : Hp} {st st' : St} {σ : L2.St} {sto : List D} {X : Cx} {W : WX} {r : Rec} {Γ : Gam}

theorem Reps.atI {ds : List D} {vs : List V} {i : Int} {d : D} (h : Reps M ρ O H ds vs) (e : L2.atI ds i = some d) : ∃ v, L2.atI vs i = some v ∧ Rep M ρ O H d v := by
  unfold L2.atI at e ⊢
  rw [← h.length]
  cases q : L2.ixN ds.length i with
  | none => rw [q] at e; cases e
  | some j =>
    rw [q] at e
    obtain ⟨v, h1, h2⟩ := h.get (i := j) e
    exact ⟨v, h1, h2⟩
def derefS (sto : List D) : D → D
  | .ref k => (sto[k]?).getD (.ref k)
  | d => d
theorem deref_eq (st : St) (d : D) : deref st d = derefS st.sto d := by cases d <;> rfl
def rIdx (M : Mt2) (X : Cx) : R2 := fun x y H Q => ∃ ρ O sto a b d, X.A.units + 64 < cLine ∧ StoOk M ρ O sto H ∧ Rep1 M ρ O H a x ∧ Rep1 M ρ O H b y ∧ index (derefS sto a) b = some d ∧ ∀ v, Rep M ρ O H d v → Q v H
theorem ix_dict (hu : X.A.units + 64 < cLine) {value slice : Expr} {pins : List (Addr × Obj)} {s : Shared} {σ : L2.St} {x y : V} {v u : Value} {Q : VK} (I : Inv X pins σ H s) (rx : RelV x v) (ry : RelV y u) {a : Addr} (ea : x = .ref a) {w : V} (g : DGet H a y (some w)) (q : Q w H)
    (hs : subscripted slice false v u = operate [v, u] (getItem v u)) : wpAny (model X.prog X.w) X.A (subscriptTail value slice v u) (EP X pins σ Q) X.xe s := by
  subst ea
  cases rx
  exact tail_any (dict_typeIs I g) PySem.F.slot_dict_getitem.lookup (d_getItem (by omega) I g ry fun w' s3 I3 rw' => ⟨w, H, I3, rw', q⟩) hs
theorem ix_any : IxR X (rIdx M X) := by
  intro value slice pins s σ H x y v u Q I rx ry h hs
  obtain ⟨ρ, O, sto, a, b, d, hu, so, h1, h2, e, q⟩ := h
  have lists : ∀ (xs : List D) (k : Int), (∃ p vs, x = .ref p ∧ H p = some (.lst vs) ∧ Reps M ρ O H xs vs) → b = .int k → L2.atI xs k = some d → wpAny (model X.prog X.w) X.A (subscriptTail value slice v u) (EP X pins σ Q) X.xe s := by
    rintro xs k ⟨p, vs, rfl, hp, rs⟩ rfl e
    obtain ⟨w, g1, g2⟩ := rs.atI e
    exact ix_list value slice pins s σ H _ _ v u Q I rx ry ⟨p, vs, k, w, rfl, h2.int, SqL.of hp, g1, q w g2⟩ hs
  cases a with
  | ref k =>
    simp only [derefS] at e
    cases hk : sto[k]? with
    | none => rw [hk] at e; simp [index] at e
    | some t =>
      rw [hk] at e
      obtain ⟨p, xs, vs, g1, rfl, g3, g4⟩ := so.at_ k t hk
      simp only [Option.getD_some] at e
      cases b with
      | int j =>
        simp only [index] at e
        refine lists xs j ⟨p, vs, ?_, g3, g4⟩ rfl e
        have := h1.plain rfl
        simp only [Rep] at this
        obtain ⟨p', h3, h4⟩ := this
        rw [g1] at h3; cases h3
        exact h4
      | _ => simp [index] at e
  | lst xs =>
    simp only [derefS] at e
    cases b with
    | int j =>
      simp only [index] at e
      exact lists xs j h1.lst rfl e
    | _ => simp [index] at e
  | tup xs =>
    simp only [derefS] at e
    cases b with
    | int j =>
      simp only [index] at e
      obtain ⟨p, vs, rfl, hp, rs⟩ := h1.tup
      obtain ⟨w, g1, g2⟩ := rs.atI e
      exact ix_tup value slice pins s σ H _ _ v u Q I rx ry ⟨p, vs, j, w, rfl, h2.int, SqT.of hp, g1, q w g2⟩ hs
    | _ => simp [index] at e
  | str z =>
    simp only [derefS] at e
    cases b with
    | int j =>
      simp only [index] at e
      split at e
      · rename_i hz
        obtain ⟨c, g1, rfl⟩ := Option.map_eq_some_iff.mp e
        have := sz_line
        simp [okLen] at hz
        exact ix_str value slice pins s σ H _ _ v u Q I rx ry ⟨_, j, c, h1.str, h2.int, by rw [str_len]; omega, g1, q _ (by simp [Rep])⟩ hs
      · cases e
    | _ => simp [index] at e
  | dct ks ds =>
    have e : (if keyOk b && ks.all (isIn.sameK b) then look ks ds b else none) = some d := by
      simpa only [derefS, index] using e
    split at e
    · rename_i hk
      simp only [Bool.and_eq_true] at hk
      obtain ⟨p, rfl, g⟩ := dget3 h1 h2 hk.1 hk.2
      rcases g with ⟨o, g, l⟩ | ⟨rfl, _⟩ | ⟨rfl, _⟩
      · unfold LookOk at l
        rw [e] at l
        obtain ⟨w, rfl, rw'⟩ := l
        exact ix_dict hu I rx ry rfl g (q w rw') hs
      · simp [look] at e
      · simp [look] at e
    · cases e
  | _ => simp [derefS, index] at e
theorem sndE_sub {a b : Expr} {sa sb : SE} {pos : Pos} (ha : SndP M r Γ a sa) (hb : SndP M r Γ b sb) (hs : PlainIx b) : SndE M (up M.P r) Γ (.Subscript a b pos) (.sub sa sb) := fun X W g tk => by
  refine (pe_ix (ix_any (M := M)) (ha X W g tk) (hb X W g tk) hs).imp fun σ H Q h => ?_
  obtain ⟨ρ, O, st, s, hr, h⟩ := h
  simp only [up, evS] at h
  refine pk2 s hr h fun x y st2 v1 v2 H2 O2 l r1 r2 h => ?_
  obtain ⟨d, e, h⟩ := h.lift
  rw [deref_eq] at e
  exact ⟨ρ, O2, st2.sto, x, y, d, hr.units, l.rel.so, r1, r2, e, fun v rv => h.ok v H2 (PostE.plain l rv)⟩

/-! ### slices -/
def SndO (M : Mt2) (r : Rec) (Γ : Gam) (e : Option Expr) (se : Option SE) : Prop := match e, se with
  | none, none => True
  | some e, some se => SndP M r Γ e se
  | _, _ => False
def tO (M : Mt2) (X : Cx) (W : WX) (r : Rec) (se : Option SE) : TO := fun σ H Q => ∃ ρ O st, SRel M ρ O st σ H ∧ Room st.dep X.A ∧ wpR (optI r se st) (fun d st' => ∀ H' O', Left M ρ O st σ H O' st' H' → Q d H') (Bx M W ρ O st σ H)
theorem SndO.po {e : Option Expr} {se : Option SE} (h : SndO M r Γ e se) (g : Good M X Γ) (tk : Takes X W) : PO X e (fun σ H Q => tO M X W r se σ H Q) := by
  cases e with
  | none =>
    cases se with
    | none =>
      have p := po_none (X := X)
      refine ⟨fun pins s σ H Q I h => p.run pins s σ H Q I ?_⟩
      obtain ⟨ρ, O, st, s, hr, h⟩ := h
      exact wpR.ok (show wpR (R.ok none st) _ _ from h) H O (Left.refl s)
    | some se => exact h.elim
  | some e =>
    cases se with
    | none => exact h.elim
    | some se =>
      have p := po_some (h X W g tk)
      refine ⟨fun pins s σ H Q I h => p.run pins s σ H Q I ?_⟩
      obtain ⟨ρ, O, st, s, hr, h⟩ := h
      simp only [optI] at h
      refine ⟨ρ, O, st, s, hr, h.bind.mono (fun d st1 h v H1 ⟨O1, l1, r1, _⟩ => ?_) fun _ _ x => x⟩
      split at h
      · exact ⟨_, r1.int, h.ok H1 O1 l1⟩
      · exact h.elim
def rSli (M : Mt2) : V → Option Int → Option Int → Hp → VK → Prop := fun x lo hi H Q => ∃ ρ O sto a d fr, StoOk M ρ O sto H ∧ Rep1 M ρ O H a x ∧ slice a lo hi = some (d, fr) ∧ ∀ v H', PV M ρ O H d fr v H' → Q v H'
theorem reps_ints (ns : List Int) : Reps M ρ O H (ns.map .int) (ns.map V.int) := by
  induction ns with
  | nil => exact .nil
  | cons n ns ih => exact .cons (by simp [Rep]) ih
theorem Reps.cut {ds : List D} {vs : List V} (h : Reps M ρ O H ds vs) (lo hi : Option Int) : Reps M ρ O H (cutD ds lo hi) (cutV vs lo hi) := by
  unfold cutD cutV
  rw [← h.length]
  exact (h.drop _).take _
theorem cutS_eq (x : List Nat) (lo hi : Option Int) : cutS ⟨x.toArray⟩ lo hi = ⟨(cutD x lo hi).toArray⟩ := by
  unfold cutS cutD
  rw [str_len]
theorem sl_any (hK : X.K = M.K) : SlR X (rSli M) := by
  intro pins s σ H x v vl vu lo hi sl Q I rx hs pl pu h
  obtain ⟨ρ, O, sto, a, d, fr, so, h1, e, q⟩ := h
  unfold slice at e
  split at e
  · rename_i z
    split at e
    · rename_i hz
      cases e
      have := sz_line
      simp [okLen] at hz
      exact sl_str pins s σ H x v vl vu lo hi sl Q I rx hs pl pu ⟨_, h1.str, by rw [str_len]; omega, by rw [cutS_eq]; exact q _ _ (PV.str _)⟩
    · cases e
  · cases e
    obtain ⟨p, vs, rfl, hp, rs⟩ := h1.lst
    exact sl_list pins s σ H _ v vl vu lo hi sl Q I rx hs pl pu ⟨p, vs, rfl, SqL.of hp, fun p' hp' => q _ _ (PV.lst hp' (rs.cut lo hi))⟩
  · rename_i xs
    cases e
    obtain ⟨p, vs, rfl, hp, rs⟩ := h1.tup
    refine sl_tupA pins s σ H _ v vl vu lo hi sl Q I rx hs pl pu ⟨p, vs, rfl, SqT.of hp, fun hw => ?_, fun _ p' hp' => q _ _ (PV.tup so hp' (rs.cut lo hi))⟩
    have e : cutD xs lo hi = xs := by
      unfold cutD sIx
      rw [rs.length, hw.1, hw.2, ← rs.length]
      simp
    rw [e] at q
    exact q _ _ (PV.same (h1.plain rfl))
  · rename_i ns
    cases e
    have := h1.plain rfl
    simp only [Rep] at this
    obtain ⟨p, rfl, hp⟩ := this
    have hq : SqL X.K H p (ns.map V.int) := hp.elim (fun h => .inl h.2) fun h => by rw [hK]; exact h H
    exact sl_list pins s σ H _ v vl vu lo hi sl Q I rx hs pl pu ⟨p, _, rfl, hq, fun p' hp' => q _ _ (PV.lst hp' ((reps_ints ns).cut lo hi))⟩
  · cases e
theorem sndE_sli {a : Expr} {lo hi : Option Expr} {sa : SE} {slo shi : Option SE} {p pos : Pos} (ha : SndP M r Γ a sa) (hl : SndO M r Γ lo slo) (hh : SndO M r Γ hi shi) : SndE M (up M.P r) Γ (.Subscript a (.Slice lo hi none p) pos) (.sli sa slo shi) := fun X W g tk => by
  refine (pe_slice (sl_any (M := M) g.K) (ha X W g tk) (hl.po g tk) (hh.po g tk)).imp fun σ H Q h => ?_
  obtain ⟨ρ, O, st, s, hr, h⟩ := h
  simp only [up, evS] at h
  refine ⟨ρ, O, st, s, hr, h.bind.mono (fun d st1 h v H1 ⟨O1, l1, r1, _⟩ => ?_) fun _ _ x => x⟩
  refine ⟨ρ, O1, st1, l1.rel, by rw [l1.dep]; exact hr, h.bind.mono (fun i st2 h H2 O2 l2 => ?_) fun _ _ x => x.later l1⟩
  refine ⟨ρ, O2, st2, l2.rel, by rw [l2.dep, l1.dep]; exact hr, h.bind.mono (fun j st3 h H3 O3 l3 => ?_) fun _ _ x => x.later (l1.trans l2)⟩
  obtain ⟨⟨d', fr⟩, e, h⟩ := h.lift
  have l := (l1.trans l2).trans l3
  exact ⟨ρ, O3, st3.sto, d, d', fr, l3.rel.so, (r1.left l2 l1.rel).left l3 l2.rel, e, fun v H' pv => h.ok v H' (pv.post l)⟩
end
end TI

end

section
set_option Elab.async false
set_option linter.all false
set_option maxRecDepth 100000
set_option maxHeartbeats 1000000
/-! TI8: built-ins, f-strings. -/
namespace TI
open PySem L2 PySem.Spec PyProof.Rows
/-- what the written part tells of a class -/
structure ClsOk (M : Mt2) (c : Nat) (cd : ClsDef) : Prop where
  cl : Cls M.K (M.clA c)
  ha : PySem.W.findIn M.K (.ref (M.clA c)) "__class__" = some (some (.builtin "object.__class__"))
  hn : PySem.W.specialIn M.K (.builtin "object.__class__") "__get__" = some (some (.builtin "getset_descriptor.__get__"))
  htk : PySem.W.takesIn M.K (.builtin "object.__class__") = some true
  hm : PySem.W.mroIn M.K (M.clA c) (.type "object") = some true
  kit : ∀ c' cd', M.P.clss[c']? = some cd' → PySem.W.kitOne M.K (.ref (M.clA c)) (.ref (M.clA c')) = some (cd.sups.contains c')
  kitT : ∀ t, PySem.W.kitOne M.K (.ref (M.clA c)) (.type (btName t)) = some false
  kitV : ∀ n ∈ ["NoneType", "bool", "int", "str", "list", "tuple"], PySem.W.kitOne M.K (.type n) (.ref (M.clA c)) = some false
  atts : ∀ f ∈ cd.flds, NoAttr M.K (M.clA c) (M.nm f)
  meth : ∀ m f, cd.meths.lookup m = some f → Meth M.K (M.clA c) (M.nm m) (M.fnA f)
  mfn : ∀ m f, cd.meths.lookup m = some f → ∃ fd, M.P.fns[f]? = some fd
  callO : ∀ f, cd.meths.lookup M.P.nCall = some f → StX.CallO M.K (M.clA c) (M.fnA f)
  make : ∀ f, cd.init = some f → Mk M.K (M.clA c) (M.fnA f)
  prop : ∀ m f, cd.props.lookup m = some f → ∃ p, PropOf M.K (M.clA c) (M.nm m) p (M.fnA f)
  con : ∀ m d, cd.cons.lookup m = some d → ∃ v u, Con M.K (M.clA c) (M.nm m) v u ∧ ∀ ρ O H, Rep M ρ O H d v
structure MOk (M : Mt2) : Prop where
  cls : ∀ c cd, M.P.clss[c]? = some cd → ClsOk M c cd
  inj : ∀ f g, M.nm f = M.nm g → f = g
  bt : ∀ n t, n ∈ ["NoneType", "bool", "int", "str", "list", "tuple"] → PySem.W.kitOne M.K (.type n) (.type (btName t)) = some (n == btName t || (n == "bool" && t == .int))
def tyName : D → Option String
  | .non => some "NoneType"
  | .bl _ => some "bool"
  | .int _ => some "int"
  | .str _ => some "str"
  | .lst _ => some "list"
  | .tup _ => some "tuple"
  | _ => none
section
variable {M : Mt2} {ρ : List Addr} {O O' : Addr → Prop} {H H' : Hp} {st st' : St} {σ : L2.St} {sto : List D} {X : Cx} {W : WX} {r : Rec} {Γ : Gam}
theorem Reps1.one {d : D} {vs : List V} (h : Reps1 M ρ O H [d] vs) : ∃ v, vs = [v] ∧ Rep1 M ρ O H d v := by
  obtain ⟨v, r, rfl, h1, h2⟩ := h
  simp only [Reps1] at h2
  exact ⟨v, by rw [h2], h1⟩
theorem Reps1.two {d e : D} {vs : List V} (h : Reps1 M ρ O H [d, e] vs) : ∃ v w, vs = [v, w] ∧ Rep1 M ρ O H d v ∧ Rep1 M ρ O H e w := by
  obtain ⟨v, r, rfl, h1, h2⟩ := h
  obtain ⟨w, rfl, h3⟩ := Reps1.one h2
  exact ⟨v, w, rfl, h1, h3⟩
theorem ty_name {a : D} {x : V} {n : String} (h : Rep1 M ρ O H a x) (e : tyName a = some n) : TyX M.K H x (.type n) := by
  cases a <;> simp [tyName] at e <;> subst e
  · cases h.non; exact .base .non
  · cases h.bl; exact .base (.bl _)
  · cases h.int; exact .base (.int _)
  · cases h.str; exact .base (.str _)
  · obtain ⟨p, vs, rfl, hp, _⟩ := h.tup; exact .base (.tup hp)
  · obtain ⟨p, vs, rfl, hp, _⟩ := h.lst; exact .base (.lst hp)
theorem tyName_mem {a : D} {n : String} (e : tyName a = some n) : n ∈ ["NoneType", "bool", "int", "str", "list", "tuple"] := by
  cases a <;> simp [tyName] at e <;> subst e <;> simp
theorem clsV_of {t : D} {c : V} (h : Rep1 M ρ O H t c) : (∀ k, t = .ty k → ClsV c (.type (btName k))) ∧ ∀ k, t = .cls k → ClsV c (.ref (M.clA k)) := by
  refine ⟨fun k e => ?_, fun k e => ?_⟩
  · subst e
    have := h.plain rfl
    simp only [Rep] at this
    subst this
    exact .ty _
  · subst e
    have := h.plain rfl
    simp only [Rep] at this
    subst this
    exact .own _
theorem kit_name (mo : MOk M) {a t : D} {b : Bool} {n : String} (e : tyName a = some n) (h : tyIs M.P a t = some b) : (∃ k, t = .ty k ∧ PySem.W.kitOne M.K (.type n) (.type (btName k)) = some b) ∨ ∃ k, t = .cls k ∧ PySem.W.kitOne M.K (.type n) (.ref (M.clA k)) = some b := by
  cases t with
  | ty k =>
    refine .inl ⟨k, rfl, ?_⟩
    rw [mo.bt n k (tyName_mem e), ← h]
    cases a <;> simp [tyName] at e <;> subst e <;> cases k <;> simp [tyIs, btName]
  | cls k =>
    refine .inr ⟨k, rfl, ?_⟩
    have hm := tyName_mem e
    simp only [tyIs] at h
    split at h
    · cases h
    · rename_i cd hc
      have := (mo.cls k cd hc).kitV n hm
      cases a <;> simp [tyName] at e <;> simp at h <;> subst h <;> exact this
  | _ => simp [tyIs] at h
theorem ty_V (mo : MOk M) {a t : D} {b : Bool} {x : V} (h : Rep1 M ρ O H a x) (h0 : tyIs M.P a t = some b) : ∃ tv, TyX M.K H x tv ∧ ∀ (t : D) (c : V) (b : Bool), Rep1 M ρ O H t c → tyIs M.P a t = some b → ∃ u, ClsV c u ∧ PySem.W.kitOne M.K tv u = some b := by
  cases e : tyName a with
  | some n =>
    refine ⟨_, ty_name h e, fun t c b hc ht => ?_⟩
    rcases kit_name mo e ht with ⟨k, rfl, g⟩ | ⟨k, rfl, g⟩
    · exact ⟨_, (clsV_of hc).1 _ rfl, g⟩
    · exact ⟨_, (clsV_of hc).2 _ rfl, g⟩
  | none =>
    cases a <;> simp [tyName] at e
    case ins k ns vs =>
      obtain ⟨p, dx, fs, rfl, hp, _⟩ := h.ins
      have hk : ∃ cd, M.P.clss[k]? = some cd := by
        cases q : M.P.clss[k]? with
        | some cd => exact ⟨cd, rfl⟩
        | none =>
          cases t <;> simp [tyIs, q] at h0
          rename_i c
          split at h0 <;> cases h0
      obtain ⟨cd, hk⟩ := hk
      have ok := mo.cls k cd hk
      refine ⟨.ref (M.clA k), .base (.ins hp ok.cl ok.ha ok.hn ok.htk ok.hm), fun t c b hc ht => ?_⟩
      cases t with
      | ty j =>
        refine ⟨_, (clsV_of hc).1 _ rfl, ?_⟩
        simp [tyIs, hk] at ht
        rw [ht]
        exact ok.kitT j
      | cls j =>
        refine ⟨_, (clsV_of hc).2 _ rfl, ?_⟩
        simp only [tyIs] at ht
        split at ht
        · cases ht
        · rename_i cd' hc'
          simp [hk] at ht
          rw [ok.kit j cd' hc', ← ht]
          simp
      | _ => simp [tyIs] at ht
    all_goals (cases t <;> simp [tyIs] at h0)
    all_goals (split at h0 <;> cases h0)
theorem ty_any (mo : MOk M) {a : D} {tv : Value} (hk : ∀ (t : D) (c : V) (b : Bool), Rep1 M ρ O H t c → tyIs M.P a t = some b → ∃ u, ClsV c u ∧ PySem.W.kitOne M.K tv u = some b) : ∀ {ts : List D} {cs : List V} {b : Bool}, Reps M ρ O H ts cs → tyAny M.P a ts = some b → (∀ t ∈ ts, (∃ k, t = .ty k) ∨ ∃ k, t = .cls k) → ∃ us, Paired ClsV cs us ∧ PySem.W.kitAny M.K tv us = some b
  | [], _, b, h, e, _ => by
    simp [Reps] at h
    subst h
    simp [tyAny] at e
    exact ⟨[], .nil, by rw [e]; rfl⟩
  | t :: ts, _, b, h, e, hc => by
    simp only [Reps] at h
    obtain ⟨v, r, rfl, h1, h2⟩ := h
    have rest : ∃ us, Paired ClsV r us := by
      clear e hk
      have hc' : ∀ t ∈ ts, (∃ k, t = .ty k) ∨ ∃ k, t = .cls k := fun t h => hc t (List.mem_cons_of_mem _ h)
      clear hc h1
      induction ts generalizing r with
      | nil => simp [Reps] at h2; subst h2; exact ⟨[], .nil⟩
      | cons t ts ih =>
        simp only [Reps] at h2
        obtain ⟨v, r, rfl, h1, h2⟩ := h2
        obtain ⟨us, hu⟩ := ih _ h2 fun t h => hc' t (List.mem_cons_of_mem _ h)
        rcases hc' t List.mem_cons_self with ⟨k, rfl⟩ | ⟨k, rfl⟩
        · exact ⟨_ :: us, .cons ((clsV_of (.inl h1)).1 _ rfl) hu⟩
        · exact ⟨_ :: us, .cons ((clsV_of (.inl h1)).2 _ rfl) hu⟩
    simp only [tyAny] at e
    split at e
    · rename_i e1
      obtain ⟨u, g1, g2⟩ := hk t v true (.inl h1) e1
      obtain ⟨us, hu⟩ := rest
      refine ⟨u :: us, .cons g1 hu, ?_⟩
      simp only [PySem.W.kitAny, g2]
      exact e
    · rename_i e1
      obtain ⟨u, g1, g2⟩ := hk t v false (.inl h1) e1
      obtain ⟨us, hu, g3⟩ := ty_any mo hk h2 e fun t h => hc t (List.mem_cons_of_mem _ h)
      refine ⟨u :: us, .cons g1 hu, ?_⟩
      simp only [PySem.W.kitAny, g2]
      exact g3
    · cases e
end
end TI

end

section
set_option Elab.async false
set_option linter.all false
set_option maxRecDepth 100000
set_option maxHeartbeats 1000000
/-! TI9: built-in functions, methods of texts, f-strings. -/
namespace TI
open PySem L2 PySem.Spec PyProof.Rows
section
variable {M : Mt2} {ρ : List Addr} {O O' : Addr → Prop} {H H' : Hp} {st st' : St} {σ : L2.St} {sto : List D} {X : Cx} {W : WX} {r : Rec} {Γ : Gam}
def rBf (M : Mt2) (b : Bf) : List V → Hp → VK → Prop := fun vs H Q => ∃ ρ O sto ds d fr, StoOk M ρ O sto H ∧ Reps1 M ρ O H ds vs ∧ bfun M.P b ds = some (d, fr) ∧ ∀ v H', PV M ρ O H d fr v H' → Q v H'
theorem allB_map : ∀ {xs : List D} {bs : List Bool} {vs : List V}, allB xs = some bs → Reps M ρ O H xs vs → vs = bs.map V.bl
  | [], bs, vs, e, h => by simp [allB] at e; simp [Reps] at h; rw [h, e]; rfl
  | x :: xs, bs, vs, e, h => by
    simp only [Reps] at h
    obtain ⟨v, r, rfl, h1, h2⟩ := h
    cases x <;> simp [allB] at e
    obtain ⟨q, e1, rfl⟩ := e
    simp only [Rep] at h1
    rw [h1, allB_map e1 h2]; rfl
theorem allI_map : ∀ {xs : List D} {bs : List Int} {vs : List V}, allI xs = some bs → Reps M ρ O H xs vs → vs = bs.map V.int
  | [], bs, vs, e, h => by simp [allI] at e; simp [Reps] at h; rw [h, e]; rfl
  | x :: xs, bs, vs, e, h => by
    simp only [Reps] at h
    obtain ⟨v, r, rfl, h1, h2⟩ := h
    cases x <;> simp [allI] at e
    obtain ⟨q, e1, rfl⟩ := e
    simp only [Rep] at h1
    rw [h1, allI_map e1 h2]; rfl
theorem allS_map : ∀ {xs : List D} {bs : List (List Nat)} {vs : List V}, allS xs = some bs → Reps M ρ O H xs vs → vs = (bs.map fun x => (⟨x.toArray⟩ : Str)).map V.str
  | [], bs, vs, e, h => by simp [allS] at e; simp [Reps] at h; rw [h, e]; rfl
  | x :: xs, bs, vs, e, h => by
    simp only [Reps] at h
    obtain ⟨v, r, rfl, h1, h2⟩ := h
    cases x <;> simp [allS] at e
    obtain ⟨q, e1, rfl⟩ := e
    simp only [Rep] at h1
    rw [h1, allS_map e1 h2]; rfl
theorem itoa_str (i : Int) : (toString i : Str) = ⟨(itoa i).toArray⟩ := by
  apply TL.ext_tl
  cases i with
  | ofNat n => exact TL.tl_num n
  | negSucc n =>
    show TL.tl (Str.ofString (toString (Int.negSucc n))) = 45 :: TL.numL (n + 1)
    have : (toString (Int.negSucc n) : String) = "-" ++ toString (((n + 1 : Nat) : Int)) := rfl
    rw [this, ← TL.tl_num]
    show (Str.ofString _).cps.toList = 45 :: (Str.ofString _).cps.toList
    rw [signs_ofString, signs_ofString, String.toList_append]
    rfl
theorem atoi_int {x : List Nat} {n : Int} (h : atoi x = some n) : PySem.intText? ⟨x.toArray⟩ = some n ∧ x.length ≤ 640 := by
  unfold atoi at h
  obtain ⟨k, h1, rfl⟩ := Option.map_eq_some_iff.mp h
  cases x with
  | nil => simp [digs] at h1
  | cons c cs =>
    simp only [digs] at h1
    split at h1
    · rename_i q
      simp only [Bool.and_eq_true, List.all_eq_true, decide_eq_true_eq] at q
      cases h1
      refine ⟨?_, q.2⟩
      have := intText_digits (x := ⟨(c :: cs).toArray⟩) (fun d hd => by simpa using q.1 d hd) (by simp) (by rw [str_len]; omega)
      rw [this]
      rfl
    · cases h1
theorem log_lt {i : Int} (h : i.natAbs < 2 ^ 1900) : i.natAbs.log2 < 1920 := by
  by_cases z : i.natAbs = 0
  · rw [z]; decide
  · have := (Nat.log2_lt z).mpr h
    omega
theorem bf_len : CallR X (.builtin "len") (rBf M .len) := by
  intro pins s σ H xs us Q I rv h
  obtain ⟨ρ, O, sto, ds, d, fr, so, hs, e, q⟩ := h
  simp only [bfun] at e
  unfold bLen at e
  split at e
  · cases e
    obtain ⟨v, rfl, h1⟩ := hs.one
    obtain ⟨p, vs, rfl, hp, rs⟩ := h1.lst
    exact call_len pins s σ H _ us Q I rv ⟨_, vs.length, rfl, .inl ⟨vs, SqL.of hp, rfl⟩, by rw [← rs.length]; exact q _ _ (PV.int _)⟩
  · cases e
    obtain ⟨v, rfl, h1⟩ := hs.one
    obtain ⟨p, vs, rfl, hp, rs⟩ := h1.tup
    exact call_len pins s σ H _ us Q I rv ⟨_, vs.length, rfl, .inr ⟨vs, SqT.of hp, rfl⟩, by rw [← rs.length]; exact q _ _ (PV.int _)⟩
  · split at e
    · rename_i hz
      cases e
      obtain ⟨v, rfl, h1⟩ := hs.one
      cases h1.str
      have := sz_line
      simp [okLen] at hz
      exact call_len pins s σ H _ us Q I rv ⟨_, _, rfl, ⟨by rw [str_len]; omega, rfl⟩, by rw [str_len]; exact q _ _ (PV.int _)⟩
    · cases e
  · cases e
theorem bf_abs : CallR X (.builtin "abs") (rBf M .abs) := by
  intro pins s σ H xs us Q I rv h
  obtain ⟨ρ, O, sto, ds, d, fr, so, hs, e, q⟩ := h
  simp only [bfun] at e
  unfold bAbs at e
  split at e
  · cases e
    obtain ⟨v, rfl, h1⟩ := hs.one
    cases h1.int
    exact call_abs pins s σ H _ us Q I rv ⟨_, rfl, q _ _ (PV.int _)⟩
  · cases e
theorem bf_int : CallR X (.type "int") (rBf M .int) := by
  intro pins s σ H xs us Q I rv h
  obtain ⟨ρ, O, sto, ds, d, fr, so, hs, e, q⟩ := h
  simp only [bfun] at e
  unfold bInt at e
  split at e
  · cases e
    obtain ⟨v, rfl, h1⟩ := hs.one
    cases h1.int
    exact call_int1 pins s σ H _ us Q I rv (.inl ⟨_, rfl, q _ _ (PV.int _)⟩)
  · cases e
    obtain ⟨v, rfl, h1⟩ := hs.one
    cases h1.bl
    exact call_int1 pins s σ H _ us Q I rv (.inr ⟨_, rfl, q _ _ (PV.int _)⟩)
  · obtain ⟨n, e1, e2⟩ := Option.map_eq_some_iff.mp e
    cases e2
    obtain ⟨v, rfl, h1⟩ := hs.one
    cases h1.str
    have := atoi_int e1
    exact call_int_str pins s σ H _ us Q I rv ⟨_, _, rfl, this.1, by rw [str_len]; exact this.2, q _ _ (PV.int _)⟩
  · cases e
theorem bf_str : CallR X (.type "str") (rBf M .str) := by
  intro pins s σ H xs us Q I rv h
  obtain ⟨ρ, O, sto, ds, d, fr, so, hs, e, q⟩ := h
  simp only [bfun] at e
  unfold bStr at e
  split at e
  · split at e
    · rename_i hz
      cases e
      obtain ⟨v, rfl, h1⟩ := hs.one
      cases h1.int
      exact call_str_int pins s σ H _ us Q I rv ⟨_, rfl, log_lt (of_decide_eq_true hz), by rw [itoa_str]; exact q _ _ (PV.str _)⟩
    · cases e
  · cases e
theorem bf_isi (mo : MOk M) (hK : X.K = M.K) : CallR X (.builtin "isinstance") (rBf M .isinstance) := by
  intro pins s σ H xs us Q I rv h
  obtain ⟨ρ, O, sto, ds, d, fr, so, hs, e, q⟩ := h
  simp only [bfun] at e
  unfold bIsi at e
  split at e
  · rename_i a t ts
    split at e
    · rename_i ht
      obtain ⟨b, e1, e2⟩ := Option.map_eq_some_iff.mp e
      cases e2
      obtain ⟨v, w, rfl, h1, h2⟩ := hs.two
      obtain ⟨p, vs, rfl, hp, rs⟩ := h2.tup
      have h0 : ∃ b, tyIs M.P a t = some b := by
        simp only [tyAny] at e1
        split at e1
        · exact ⟨_, by assumption⟩
        · exact ⟨_, by assumption⟩
        · cases e1
      obtain ⟨b0, h0⟩ := h0
      obtain ⟨tv, g1, g2⟩ := ty_V mo h1 h0
      obtain ⟨us', g3, g4⟩ := ty_any mo g2 rs e1 fun t h => by
        have := List.all_eq_true.mp ht t h
        cases t <;> simp [isTy] at this <;> simp
      exact call_isiT pins s σ H _ us Q I rv ⟨_, p, vs, tv, us', b, rfl, hp, g3, by rw [hK]; exact g1, by rw [hK]; exact g4, q _ _ (PV.bl _)⟩
    · cases e
  · obtain ⟨b, e1, e2⟩ := Option.map_eq_some_iff.mp e
    cases e2
    obtain ⟨v, w, rfl, h1, h2⟩ := hs.two
    obtain ⟨tv, g1, g2⟩ := ty_V mo h1 e1
    obtain ⟨u, g3, g4⟩ := g2 _ _ _ h2 e1
    exact call_isi pins s σ H _ us Q I rv ⟨_, _, tv, u, b, rfl, g3, by rw [hK]; exact g1, by rw [hK]; exact g4, q _ _ (PV.bl _)⟩
  · cases e
theorem bf_all (hc : X.calm = true) : CallR X (.builtin "all") (rBf M .all) := by
  intro pins s σ H xs us Q I rv h
  obtain ⟨ρ, O, sto, ds, d, fr, so, hs, e, q⟩ := h
  simp only [bfun] at e
  unfold bAll at e
  split at e
  · obtain ⟨b, e1, e2⟩ := Option.map_eq_some_iff.mp e
    cases e2
    obtain ⟨v, rfl, h1⟩ := hs.one
    obtain ⟨p, vs, rfl, hp, rs⟩ := h1.lst
    cases allB_map e1 rs
    exact cr_all hc pins s σ H _ us Q I rv ⟨p, b, rfl, SqL.of hp, q _ _ (PV.bl _)⟩
  · cases e
theorem bf_any (hc : X.calm = true) : CallR X (.builtin "any") (rBf M .any) := by
  intro pins s σ H xs us Q I rv h
  obtain ⟨ρ, O, sto, ds, d, fr, so, hs, e, q⟩ := h
  simp only [bfun] at e
  unfold bAny at e
  split at e
  · obtain ⟨b, e1, e2⟩ := Option.map_eq_some_iff.mp e
    cases e2
    obtain ⟨v, rfl, h1⟩ := hs.one
    obtain ⟨p, vs, rfl, hp, rs⟩ := h1.lst
    cases allB_map e1 rs
    exact cr_any hc pins s σ H _ us Q I rv ⟨p, b, rfl, SqL.of hp, q _ _ (PV.bl _)⟩
  · cases e
theorem bf_sum (hc : X.calm = true) : CallR X (.builtin "sum") (rBf M .sum) := by
  intro pins s σ H xs us Q I rv h
  obtain ⟨ρ, O, sto, ds, d, fr, so, hs, e, q⟩ := h
  simp only [bfun] at e
  unfold bSum at e
  split at e
  · obtain ⟨b, e1, e2⟩ := Option.map_eq_some_iff.mp e
    cases e2
    obtain ⟨v, rfl, h1⟩ := hs.one
    obtain ⟨p, vs, rfl, hp, rs⟩ := h1.lst
    cases allI_map e1 rs
    exact cr_sum hc pins s σ H _ us Q I rv ⟨p, b, rfl, SqL.of hp, q _ _ (PV.int _)⟩
  · cases e
theorem bf_tuple : CallR X (.type "tuple") (rBf M .tuple) := by
  intro pins s σ H xs us Q I rv h
  obtain ⟨ρ, O, sto, ds, d, fr, so, hs, e, q⟩ := h
  simp only [bfun] at e
  unfold bTuple at e
  split at e
  · cases e
    obtain ⟨v, rfl, h1⟩ := hs.one
    obtain ⟨p, vs, rfl, hp, rs⟩ := h1.lst
    exact call_tuple_of pins s σ H _ us Q I rv ⟨p, vs, rfl, .inl ⟨SqL.of hp, fun l hl => q _ _ (PV.tup so hl rs)⟩⟩
  · cases e
    obtain ⟨v, rfl, h1⟩ := hs.one
    obtain ⟨p, vs, rfl, hp, rs⟩ := h1.tup
    exact call_tuple_of pins s σ H _ us Q I rv ⟨p, vs, rfl, .inr ⟨SqT.of hp, q _ _ (PV.same (h1.plain rfl))⟩⟩
  · cases e
theorem keys_list {ks : List D} : ∀ {kl : List Key} (vs : List V), toKeys ks = some kl → kl.length = vs.length → Reps M ρ O H ks ((kl.zip vs).map fun kv => kV kv.1) := by
  induction ks with
  | nil => intro kl vs h _; simp [toKeys] at h; subst h; exact .nil
  | cons k ks ih =>
    intro kl vs h hl
    obtain ⟨k', kl', rfl, h1, h2⟩ := toKeys_cons h
    cases vs with
    | nil => simp at hl
    | cons v vs =>
      refine .cons ?_ (ih vs h2 (by simpa using hl))
      cases k <;> simp [toKey] at h1 <;> subst h1 <;> simp [Rep, kV]
theorem bf_list (hc : X.calm = true) : CallR X (.type "list") (rBf M .list) := by
  intro pins s σ H xs us Q I rv h
  obtain ⟨ρ, O, sto, ds, d, fr, so, hs, e, q⟩ := h
  simp only [bfun] at e
  unfold bList at e
  split at e
  · cases e
    obtain ⟨v, rfl, h1⟩ := hs.one
    obtain ⟨p, vs, rfl, hp, rs⟩ := h1.lst
    exact call_list_of pins s σ H _ us Q I rv ⟨p, vs, rfl, .inl (SqL.of hp), fun l hl => q _ _ (PV.lst hl rs)⟩
  · cases e
    obtain ⟨v, rfl, h1⟩ := hs.one
    obtain ⟨p, vs, rfl, hp, rs⟩ := h1.tup
    exact call_list_of pins s σ H _ us Q I rv ⟨p, vs, rfl, .inr (SqT.of hp), fun l hl => q _ _ (PV.lst hl rs)⟩
  · rename_i ks ds
    split at e
    · rename_i hk
      simp only [Bool.and_eq_true] at hk
      cases e
      obtain ⟨v, rfl, h1⟩ := hs.one
      obtain ⟨p, vs, rfl, rs, g⟩ := h1.dct
      rcases g with ⟨kl, g1, g2, g3, _⟩ | ⟨kl, g1, g2, g3, _⟩
      · exact call_listD hc pins s σ H _ us Q I rv ⟨p, _, rfl, g3, fun l hl => q _ _ (PV.lst hl (keys_list vs g1 g2))⟩
      · have := sameK_key g1 (d := .int 0) rfl hk.1
        subst this
        simp at hk
    · cases e
  · cases e
theorem lmax_ok : ∀ (ms : List Int) (m : Int), lmax m ms ∈ m :: ms ∧ ∀ y ∈ m :: ms, y ≤ lmax m ms
  | [], m => by simp [lmax]
  | x :: ms, m => by
    obtain ⟨h1, h2⟩ := lmax_ok ms (if x > m then x else m)
    simp only [lmax]
    have h3 := h2 _ List.mem_cons_self
    refine ⟨?_, fun y hy => ?_⟩
    · rcases List.mem_cons.mp h1 with h | h
      · rw [h]; split <;> simp
      · exact List.mem_cons_of_mem _ (List.mem_cons_of_mem _ h)
    · rcases List.mem_cons.mp hy with rfl | hy
      · split at h3 <;> rename_i h <;> simp only [h, if_true, if_false] <;> omega
      · rcases List.mem_cons.mp hy with rfl | hy
        · split at h3 <;> rename_i h <;> simp only [h, if_true, if_false] <;> omega
        · exact h2 y (List.mem_cons_of_mem _ hy)
theorem lmin_ok : ∀ (ms : List Int) (m : Int), lmin m ms ∈ m :: ms ∧ ∀ y ∈ m :: ms, lmin m ms ≤ y
  | [], m => by simp [lmin]
  | x :: ms, m => by
    obtain ⟨h1, h2⟩ := lmin_ok ms (if x < m then x else m)
    simp only [lmin]
    have h3 := h2 _ List.mem_cons_self
    refine ⟨?_, fun y hy => ?_⟩
    · rcases List.mem_cons.mp h1 with h | h
      · rw [h]; split <;> simp
      · exact List.mem_cons_of_mem _ (List.mem_cons_of_mem _ h)
    · rcases List.mem_cons.mp hy with rfl | hy
      · split at h3 <;> rename_i h <;> simp only [h, if_true, if_false] <;> omega
      · rcases List.mem_cons.mp hy with rfl | hy
        · split at h3 <;> rename_i h <;> simp only [h, if_true, if_false] <;> omega
        · exact h2 y (List.mem_cons_of_mem _ hy)
theorem bf_max (hc : X.calm = true) : CallR X (.builtin "max") (rBf M .max) := by
  intro pins s σ H xs us Q I rv h
  obtain ⟨ρ, O, sto, ds, d, fr, so, hs, e, q⟩ := h
  simp only [bfun] at e
  unfold bMax at e
  split at e
  · cases e
    obtain ⟨v, w, rfl, h1, h2⟩ := hs.two
    cases h1.int; cases h2.int
    exact call_max2 hc pins s σ H _ us Q I rv ⟨_, _, rfl, q _ _ (PV.int _)⟩
  · obtain ⟨ns, e1, e2⟩ := Option.bind_eq_some_iff.mp e
    split at e2
    · cases e2
    · rename_i m ms
      cases e2
      obtain ⟨v, rfl, h1⟩ := hs.one
      obtain ⟨p, vs, rfl, hp, rs⟩ := h1.lst
      cases allI_map e1 rs
      obtain ⟨g1, g2⟩ := lmax_ok ms m
      refine cr_max hc pins s σ H _ us Q I rv ⟨p, _, rfl, SqL.of hp, by simp, fun z h3 h4 => ?_⟩
      have : z = lmax m ms := by have := h4 _ g1; have := g2 _ h3; omega
      rw [this]
      exact q _ _ (PV.int _)
  · cases e
theorem bf_min (hc : X.calm = true) : CallR X (.builtin "min") (rBf M .min) := by
  intro pins s σ H xs us Q I rv h
  obtain ⟨ρ, O, sto, ds, d, fr, so, hs, e, q⟩ := h
  simp only [bfun] at e
  unfold bMin at e
  split at e
  · cases e
    obtain ⟨v, w, rfl, h1, h2⟩ := hs.two
    cases h1.int; cases h2.int
    exact call_min2 hc pins s σ H _ us Q I rv ⟨_, _, rfl, q _ _ (PV.int _)⟩
  · obtain ⟨ns, e1, e2⟩ := Option.bind_eq_some_iff.mp e
    split at e2
    · cases e2
    · rename_i m ms
      cases e2
      obtain ⟨v, rfl, h1⟩ := hs.one
      obtain ⟨p, vs, rfl, hp, rs⟩ := h1.lst
      cases allI_map e1 rs
      obtain ⟨g1, g2⟩ := lmin_ok ms m
      refine cr_min hc pins s σ H _ us Q I rv ⟨p, _, rfl, SqL.of hp, by simp, fun z h3 h4 => ?_⟩
      have : z = lmin m ms := by have := h4 _ g1; have := g2 _ h3; omega
      rw [this]
      exact q _ _ (PV.int _)
  · cases e
end
end TI

end

section
set_option Elab.async false
set_option linter.all false
set_option maxRecDepth 100000
set_option maxHeartbeats 1000000
/-! TI10: built-ins called, texts' methods, f-strings, attributes. -/
namespace TI
open PySem L2 PySem.Spec PyProof.Rows
section
variable {M : Mt2} {ρ : List Addr} {O O' : Addr → Prop} {H H' : Hp} {st st' : St} {σ : L2.St} {sto : List D} {X : Cx} {W : WX} {r : Rec} {Γ : Gam}
def bfStr : Bf → Str
  | .len => "len" | .abs => "abs" | .int => "int" | .str => "str" | .bool => "bool" | .isinstance => "isinstance" | .all => "all" | .any => "any" | .sum => "sum"
  | .tuple => "tuple" | .list => "list" | .min => "min" | .max => "max" | .sorted => "sorted" | .repr => "repr"
def bfTy : Bf → Option String
  | .int => some "int" | .str => some "str" | .bool => some "bool" | .tuple => some "tuple" | .list => some "list"
  | _ => none
def bfId : Bf → String
  | .len => "len" | .abs => "abs" | .int => "int" | .str => "str" | .bool => "bool" | .isinstance => "isinstance" | .all => "all" | .any => "any" | .sum => "sum"
  | .tuple => "tuple" | .list => "list" | .min => "min" | .max => "max" | .sorted => "sorted" | .repr => "repr"
def bfVal (b : Bf) : Value := match bfTy b with
  | some t => .type t
  | none => .builtin (bfId b)
theorem bf_boot (b : Bf) : bootBuiltins (bfStr b) = some (bfVal b) := by cases b <;> decide
theorem bf_no {b : Bf} {v : Value} (h : ∀ ds, bfun M.P b ds = none) : CallR X v (rBf M b) := by
  intro pins s σ H xs us Q I rv hh
  obtain ⟨ρ, O, sto, ds, d, fr, so, hs, e, q⟩ := hh
  rw [h] at e; cases e
theorem bf_call (mo : MOk M) (g : Good M X Γ) (b : Bf) : CallR X (bfVal b) (rBf M b) := by
  cases b
  · exact bf_len
  · exact bf_abs
  · exact bf_int
  · exact bf_str
  · exact bf_no fun _ => rfl
  · exact bf_isi mo g.K
  · exact bf_all g.calm
  · exact bf_any g.calm
  · exact bf_sum g.calm
  · exact bf_tuple
  · exact bf_list g.calm
  · exact bf_min g.calm
  · exact bf_max g.calm
  · exact bf_no fun _ => rfl
  · exact bf_no fun _ => rfl
theorem SndPs.nostar {es : List Expr} {ses : List SE} (h : SndPs M r Γ es ses) (pos : Pos) (env : Env) : (backTo pos (starEach es env)).any (·.1) = false := by
  induction h with
  | nil => rfl
  | @cons e es se ses hn _ _ ih =>
    rw [star_of hn es env]
    simp only [backTo, List.map_cons, List.any_cons] at ih ⊢
    simpa using ih
theorem Good.gl_ {x : Str} (g : Good M X Γ) (hk : Γ.sc.names.lookup x = some .globalImplicit) : Gl X x := show X.env.kindOf x = _ from by unfold Env.kindOf; rw [g.sc]; exact hk
theorem sndE_bf (mo : MOk M) {b : Bf} {x : Str} {es : List Expr} {e : Expr} {ses : List SE} {p pos : Pos} (h : SndPs M r Γ (e :: es) ses) (hx : bfStr b = x) (hk : Γ.sc.names.lookup x = some .globalImplicit) (hg : Γ.gl x = none) :
    SndE M (up M.P r) Γ (.Call (.Name x p) (e :: es) [] pos) (.bf b ses) := fun X W g tk => by
  subst hx
  have hm := g.nogl (bfStr b) hg (by cases b <;> decide +kernel)
  have hs : starEach (e :: es) X.env = (false, eval e X.env) :: starEach es X.env := by cases h with | cons hn _ _ => exact star_of hn es X.env
  have ho : (backTo pos (starEach es X.env)).any (·.1) = false := by cases h with | cons _ _ hr => exact hr.nostar pos X.env
  have key : PE X (.Call (.Name (bfStr b) p) (e :: es) [] pos) (tCB (rBf M b) (tPs M X W r ses)) := by
    have hc := bf_call mo g b
    have hb := bf_boot b
    unfold bfVal at hc hb
    split at hc
    · rename_i t ht
      rw [ht] at hb
      exact pe_callTy hc (g.gl_ hk) hm hb (h.pa X W g tk) (by cases b <;> decide) (by cases b <;> decide) hs ho
    · rename_i ht
      rw [ht] at hb
      exact pe_callB hc (g.gl_ hk) hm hb (h.pa X W g tk) (by cases b <;> decide) (by cases b <;> decide) hs ho
  refine key.imp fun σ H Q h => ?_
  obtain ⟨ρ, O, st, s, hr, h⟩ := h
  simp only [up, evS] at h
  refine ⟨ρ, O, st, s, hr, h.bind.mono (fun ds st1 h vs H1 ⟨O1, l1, r1⟩ => ?_) fun _ _ x => x⟩
  obtain ⟨⟨d, fr⟩, e, h⟩ := h.lift
  exact ⟨ρ, O1, st1.sto, ds, d, fr, l1.rel.so, r1.to1 l1.rel, e, fun v H' pv => h.ok v H' (pv.post l1)⟩

/-! ### methods of texts -/
def NoSup : Expr → Bool
  | .Call (.Name _ _) [] [] _ => false
  | _ => true
theorem base_of {o : Expr} (h : NoSup o = true) (n : Str) (env : Env) (w : Sem Value) : attributeBase o n env w = w := by
  unfold attributeBase
  split
  · simp [NoSup] at h
  · rfl
def mtStr : Mt → Str
  | .join => "join" | .split => "split"
def rMt (M : Mt2) (m : Mt) : V → List V → Hp → VK → Prop := fun x vs H Q => ∃ ρ O sto a d0 v0 d fr, StoOk M ρ O sto H ∧ x = .str ⟨a.toArray⟩ ∧ vs = [v0] ∧ Rep1 M ρ O H d0 v0 ∧ mfun m a d0 = some (d, fr) ∧ ∀ v H', PV M ρ O H d fr v H' → Q v H'
theorem rMt_join : MtR X "str.join" (rMt M .join) := by
  intro pins s σ H x xs v us Q I rx rs h
  obtain ⟨ρ, O, sto, z, d0, v0, d, fr, so, rfl, rfl, h2, e, q⟩ := h
  simp only [mfun] at e
  unfold mJoin at e
  split at e
  · rename_i ys
    obtain ⟨ts, hts, e⟩ := Option.bind_eq_some_iff.mp e
    split at e
    · rename_i hz
      cases e
      obtain ⟨p, vs, rfl, hp, rs'⟩ := h2.lst
      cases allS_map hts rs'
      have hz := of_decide_eq_true hz
      refine mt_join pins s σ H _ _ v us Q I rx rs ⟨_, p, ts.map fun x => (⟨x.toArray⟩ : Str), rfl, rfl, .inl (SqL.of hp), ?_, ?_⟩
      · have : lenMax ≤ 16777216 := by decide
        simp only [List.map_map, str_len, List.length_map]
        have e1 : ((fun (y : Str) => y.length) ∘ fun (x : List Nat) => (⟨x.toArray⟩ : Str)) = fun x => x.length := by funext x; exact str_len x
        rw [e1]
        omega
      · have e2 : Txt.join (⟨z.toArray⟩ : Str) (ts.map fun x => (⟨x.toArray⟩ : Str)) = ⟨(TL.joinL z ts).toArray⟩ := by
          apply TL.ext_tl
          rw [TL.join_eq, TL.tl_join]
          show TL.joinL _ (List.map TL.tl (List.map _ ts)) = TL.joinL z ts
          rw [List.map_map]
          have : (TL.tl ∘ fun (x : List Nat) => (⟨x.toArray⟩ : Str)) = id := by funext x; rfl
          rw [this, List.map_id]
        rw [e2]
        exact q _ _ (PV.str _)
    · cases e
  · cases e
theorem reps_strs (ts : List (List Nat)) : Reps M ρ O H (ts.map .str) ((ts.map fun x => (⟨x.toArray⟩ : Str)).map V.str) := by
  induction ts with
  | nil => exact .nil
  | cons n ns ih => exact .cons (by simp [Rep]) ih
theorem rMt_split : MtR X "str.split" (rMt M .split) := by
  intro pins s σ H x xs v us Q I rx rs h
  obtain ⟨ρ, O, sto, z, d0, v0, d, fr, so, rfl, rfl, h2, e, q⟩ := h
  simp only [mfun] at e
  unfold mSplit at e
  split at e
  · rename_i c
    split at e
    · rename_i hz
      simp only [Bool.and_eq_true, decide_eq_true_eq, okLen] at hz
      cases e
      cases h2.str
      have h3 : lenMax + 2 ≤ sizeLine := by decide
      have e2 : Txt.split ⟨z.toArray⟩ ⟨[c].toArray⟩ = (TL.spl [c] 0 [] z).map fun x => (⟨x.toArray⟩ : Str) := by
        have := TL.split_spl ⟨z.toArray⟩ ⟨[c].toArray⟩ (by simp [TL.tl]) (TL.kind_ok (by simpa using hz.1))
        have e3 : ∀ l : List Str, l = (l.map TL.tl).map fun x => (⟨x.toArray⟩ : Str) := fun l => by
          rw [List.map_map]
          have : ((fun (x : List Nat) => (⟨x.toArray⟩ : Str)) ∘ TL.tl) = id := by funext x; apply TL.ext_tl; rfl
          rw [this, List.map_id]
        rw [e3 (Txt.split _ _), this]
      refine mt_split pins s σ H _ _ v us Q I rx rs ⟨_, _, rfl, rfl, by simp [Str.length], by rw [str_len]; omega, ?_⟩
      rw [e2]
      exact fun p hp => q _ _ (PV.lst hp (reps_strs _))
    · cases e
  · cases e
theorem sndE_bm {m : Mt} {o e : Expr} {so se : SE} {apos pos : Pos} {x : Str} (hx : mtStr m = x) (ho : SndP M r Γ o so) (he : SndP M r Γ e se) (hn : NotStar e) (hb : NoSup o = true) (hl : (apos.endLine == pos.line) = true) :
    SndE M (up M.P r) Γ (.Call (.Attribute o x apos) [e] [] pos) (.bm m so se) := fun X W g tk => by
  subst hx
  have hs : starEach [e] X.env = [(false, eval e X.env)] := star_of hn [] X.env
  have key : PE X (.Call (.Attribute o (mtStr m) apos) [e] [] pos) (tM1 (rMt M m) (tP M X W r so) (tP M X W r se)) := by
    cases m with
    | join => exact pe_m1 F.slot_str_join F.type_str_join rMt_join (ho X W g tk) (he X W g tk) hs (base_of hb _ _ _) hl
    | split => exact pe_m1 F.slot_str_split F.type_str_split rMt_split (ho X W g tk) (he X W g tk) hs (base_of hb _ _ _) hl
  refine key.imp fun σ H Q h => ?_
  obtain ⟨ρ, O, st, s, hr, h⟩ := h
  simp only [up, evS] at h
  refine ⟨ρ, O, st, s, hr, h.bind.mono (fun d st1 h v H1 ⟨O1, l1, r1, _⟩ => ?_) fun _ _ x => x⟩
  split at h
  · cases r1.str
    refine ⟨⟨_, rfl⟩, ρ, O1, st1, l1.rel, by rw [l1.dep]; exact hr, h.bind.mono (fun d2 st2 h v2 H2 ⟨O2, l2, r2, _⟩ => ?_) fun _ _ x => x.later l1⟩
    obtain ⟨⟨d', fr⟩, e, h⟩ := h.lift
    exact ⟨ρ, O2, st2.sto, _, d2, v2, d', fr, l2.rel.so, rfl, rfl, r2, e, fun v H' pv => h.ok v H' (pv.post (l1.trans l2))⟩
  · exact h.elim

/-! ### f-strings -/
theorem sndE_fmt {e : Expr} {se : SE} {pos : Pos} (he : SndP M r Γ e se) : SndE M (up M.P r) Γ (.FormattedValue e (-1) none pos) (.fmt se) := fun X W g tk => by
  refine (pe_fmt (he X W g tk)).imp fun σ H Q h => ?_
  obtain ⟨ρ, O, st, s, hr, h⟩ := h
  simp only [up, evS] at h
  refine ⟨ρ, O, st, s, hr, h.bind.mono (fun d st1 h v H1 ⟨O1, l1, r1, _⟩ => ?_) fun _ _ x => x⟩
  split at h
  · split at h
    · rename_i hz
      cases r1.str
      have := sz_line
      simp [okLen] at hz
      exact .inl ⟨_, rfl, by rw [str_len]; omega, h.ok _ _ (PostE.plain l1 (by simp [Rep]))⟩
    · exact h.elim
  · split at h
    · rename_i hz
      cases r1.int
      exact .inr ⟨_, rfl, log_lt (of_decide_eq_true hz), by rw [itoa_str]; exact h.ok _ _ (PostE.plain l1 (by simp [Rep]))⟩
    · exact h.elim
  · exact h.elim
inductive SndJ (M : Mt2) (r : Rec) (Γ : Gam) : List Expr → List SE → Prop where
  | nil : SndJ M r Γ [] []
  | cons {e : Expr} {es : List Expr} {se : SE} {ses : List SE} : SndE M r Γ e se → SndJ M r Γ es ses → SndJ M r Γ (e :: es) (se :: ses)
theorem SndJ.pj {es : List Expr} {ses : List SE} (h : SndJ M r Γ es ses) (g : Good M X Γ) (tk : Takes X W) : PJ X es (ses.map (tE M X W r)) := by
  induction h with
  | nil => exact .nil
  | cons he _ ih => exact .cons (he X W g tk) ih
theorem js_run {Q : Str → Hp → Prop} : ∀ {ses : List SE} {acc : List Nat} {st : St} {O : Addr → Prop} {H : Hp}, SRel M ρ O st σ H → Room st.dep X.A →
    wpR (fstr r ses acc st) (fun x st' => ∀ H' O', Left M ρ O st σ H O' st' H' → Q ⟨x.toArray⟩ H') (Bx M W ρ O st σ H) → tJs (ses.map (tE M X W r)) ⟨acc.toArray⟩ σ H Q
  | [], acc, st, O, H, s, hr, h => wpR.ok (show wpR (R.ok acc st) _ _ from h) H O (Left.refl s)
  | se :: ses, acc, st, O, H, s, hr, h => by
    simp only [fstr] at h
    refine ⟨ρ, O, st, s, hr, h.bind.mono (fun p st1 h v H1 q => ?_) fun _ _ x => x⟩
    obtain ⟨O1, l1, r1⟩ := q.toRep
    split at h
    · rename_i x e
      split at h
      · rename_i hz
        rw [e] at r1
        simp only [Rep] at r1
        subst r1
        have := sz_line
        simp only [okLen, decide_eq_true_eq] at hz
        refine ⟨_, rfl, by rw [str_append, str_len]; omega, ?_⟩
        rw [str_append]
        exact js_run l1.rel (by rw [l1.dep]; exact hr) (h.mono (fun x st' h H' O' l => h H' O' (l1.trans l)) fun _ _ x => x.later l1)
      · exact h.elim
    · exact h.elim
theorem sndE_fst {e1 e2 : Expr} {es : List Expr} {ses : List SE} {pos : Pos} (h : SndJ M r Γ (e1 :: e2 :: es) ses) : SndE M (up M.P r) Γ (.JoinedStr (e1 :: e2 :: es) pos) (.fst ses) := fun X W g tk => by
  refine (pe_joined (h.pj g tk)).imp fun σ H Q h => ?_
  obtain ⟨ρ, O, st, s, hr, h⟩ := h
  simp only [up, evS] at h
  exact js_run (acc := []) s hr (h.bind.mono (fun x st' h H' O' l => h.ok _ _ (PostE.plain l (by simp [Rep]))) fun _ _ x => x)
theorem sndE_fst1 {e : Expr} {se : SE} {pos : Pos} (h : SndE M r Γ e se) : SndE M r Γ (.JoinedStr [e] pos) se := fun X W g tk => pe_joined1 (h X W g tk)
end
end TI

end

section
set_option Elab.async false
set_option linter.all false
set_option maxRecDepth 100000
set_option maxHeartbeats 1000000
/-! TI11: what a call leaves. -/
namespace TI
open PySem L2 PySem.Spec PyProof.Rows
section
variable {M : Mt2} {ρ : List Addr} {O O' F : Addr → Prop} {H H' : Hp} {st st' : St} {σ : L2.St} {sto sto' : List D} {X : Cx} {W : WX} {r : Rec} {Γ : Gam}
theorem Nd.avoidS {a : Addr} {u : HO} (hO : ∀ a, O' a → O a ∨ H a = none) (n : Nd O H a u) : Nd O' H a u := by
  refine ⟨fun z => (hO a z).elim n.1 fun hp => ?_, n.2⟩
  rcases n.2 with q | ⟨o, q⟩
  · rw [hp] at q; cases q
  · rw [hp] at q; cases q
theorem Nx.avoidS {a : Addr} {u : HO} (hO : ∀ a, O' a → O a ∨ H a = none) (n : Nx O H a u) : Nx O' H a u := ⟨((show Nd O H a u from ⟨n.1, .inl n.2⟩).avoidS hO).1, n.2⟩
mutual
theorem Rep.avoidS (hO : ∀ a, O' a → O a ∨ H a = none) : ∀ {d : D} {v : V}, Rep M ρ O H d v → Rep M ρ O' H d v
  | .non, _, h => by simpa [Rep] using h
  | .bl _, _, h => by simpa [Rep] using h
  | .int _, _, h => by simpa [Rep] using h
  | .str _, _, h => by simpa [Rep] using h
  | .tup xs, v, h => by
    simp only [Rep] at h ⊢
    obtain ⟨a, vs, e, n, r⟩ := h
    exact ⟨a, vs, e, n.avoidS hO, Reps.avoidS hO r⟩
  | .lst xs, v, h => by
    simp only [Rep] at h ⊢
    obtain ⟨a, vs, e, n, r⟩ := h
    exact ⟨a, vs, e, n.avoidS hO, Reps.avoidS hO r⟩
  | .dct ks ds, v, h => by
    simp only [Rep] at h ⊢
    obtain ⟨a, vs, e, r, q⟩ := h
    refine ⟨a, vs, e, Reps.avoidS hO r, ?_⟩
    rcases q with ⟨kl, h1, h2, n, z⟩ | ⟨kl, h1, h2, n, z⟩
    · exact .inl ⟨kl, h1, h2, n.avoidS hO, z⟩
    · exact .inr ⟨kl, h1, h2, n.avoidS hO, z⟩
  | .ins c ns ds, v, h => by
    simp only [Rep] at h ⊢
    obtain ⟨a, dx, fs, e, n, h1, r⟩ := h
    exact ⟨a, dx, fs, e, n.avoidS hO, h1, Reps.avoidS hO r⟩
  | .fn _, _, h => by simpa [Rep] using h
  | .cls _, _, h => by simpa [Rep] using h
  | .ty _, _, h => by simpa [Rep] using h
  | .clo _ _, _, h => by
    simp only [Rep] at h ⊢
    obtain ⟨f, vs, e, n, r⟩ := h
    exact ⟨f, vs, e, n.mono fun a φ q => ⟨fun z => (hO a z).elim q.1 fun z => (by have q2 := q.2; rw [z] at q2; cases q2), q.2⟩, Reps.avoidS hO r⟩
  | .ref _, _, h => by simpa [Rep] using h
  | .scr ns, _, h => by
    simp only [Rep] at h ⊢
    obtain ⟨a, e, h⟩ := h
    exact ⟨a, e, h.imp (fun ⟨n, r⟩ => (show Nd O H a _ from ⟨n, r⟩).avoidS hO) id⟩
theorem Reps.avoidS (hO : ∀ a, O' a → O a ∨ H a = none) : ∀ {ds : List D} {vs : List V}, Reps M ρ O H ds vs → Reps M ρ O' H ds vs
  | [], _, h => by simpa [Reps] using h
  | d :: ds, vs, h => by
    simp only [Reps] at h ⊢
    obtain ⟨v, r, e, h1, h2⟩ := h
    exact ⟨v, r, e, Rep.avoidS hO h1, Reps.avoidS hO h2⟩
end
theorem Own.avoidS {d : D} {a : Addr} (hO : ∀ a, O' a → O a ∨ H a = none) (h : Own M ρ O H d a) : Own M ρ O' H d a := by
  cases d with
  | lst xs => obtain ⟨vs, e, r⟩ := h; exact ⟨vs, e, r.avoidS hO⟩
  | dct ks ds => obtain ⟨vs, r, q⟩ := h; exact ⟨vs, r.avoidS hO, q⟩
  | ins c ns ds => obtain ⟨dx, fs, e, h1, r⟩ := h; exact ⟨dx, fs, e, h1, r.avoidS hO⟩
  | _ => exact h.elim
theorem StoOk.mono (s : StoOk M ρ O sto H) (hO : ∀ a, O' a → O a) (hr : ∀ a ∈ ρ, O' a) : StoOk M ρ O' sto H :=
  ⟨hr, s.nd, fun a h => s.trk a (hO a h), s.tab, fun a vs h => s.notup a vs (hO a h), fun i d h => by
    obtain ⟨a, xs, vs, h1, h2, h3, h4⟩ := s.at_ i d h
    exact ⟨a, xs, vs, h1, h2, h3, h4.mono hO (Kp.refl _ _)⟩⟩
/-- behind a call: the same slots, another heap and store, new things that are the frame's own -/
theorem SRel.after (s : SRel M ρ O st σ H) (e : Ext M (Wr ρ st.sto) H H') (hs : StoOk M ρ O' sto' H') (h1 : ∀ a, O' a → O a ∨ H a = none) (h2 : ∀ a, O a → O' a) : SRel M ρ O' { st with sto := sto' } σ H' := by
  refine ⟨hs, s.len, fun i own d h => ?_, s.inj⟩
  obtain ⟨v, g1, g2, g3⟩ := s.slot i own d h
  refine ⟨v, g1, fun z => ?_, fun z => ?_⟩
  · exact ((g2 z).avoidS h1).ext e (fun b w => h2 b (s.so.wr b w)) fun _ z => z
  · obtain ⟨a, q1, q2, q3, q4⟩ := g3 z
    exact ⟨a, q1, h2 a q2, q3, (q4.avoidS h1).ext e (fun b w => h2 b (s.so.wr b w)) (fun _ z => z) fun w => q3 w.sub⟩
theorem Rep.notO {d : D} {a : Addr} (hm : isMut d = true) (h : Rep M ρ O H d (.ref a)) : ¬ O a := by
  cases d with
  | lst xs =>
    simp only [Rep] at h
    obtain ⟨b, vs, e, n, _⟩ := h
    cases e; exact n.1
  | dct ks ds =>
    simp only [Rep] at h
    obtain ⟨b, vs, e, _, q⟩ := h
    cases e
    rcases q with ⟨_, _, _, n, _⟩ | ⟨_, _, _, n, _⟩ <;> exact n.1
  | ins c ns ds =>
    simp only [Rep] at h
    obtain ⟨b, dx, fs, e, n, _⟩ := h
    cases e; exact n.1
  | _ => simp [isMut] at hm
theorem Own.mut {d : D} {a : Addr} (h : Own M ρ O H d a) : isMut d = true := by cases d <;> first | rfl | exact h.elim
/-- what is left to a callee: all that is the frame's own, but for what it is given -/
def Giv (O : Addr → Prop) (st : St) (σ : L2.St) (es : List SE) (a : Addr) : Prop := O a ∧ ∀ i d, SE.var i ∈ es → st.env[i]? = some (some (true, d)) → σ[i]? ≠ some (some (.ref a))
theorem shareV_ok : ∀ {es : List SE} {st : St} {O : Addr → Prop}, SRel M ρ O st σ H → ∃ O', (∀ a, O' a → Giv O st σ es a) ∧ SRel M ρ O' (shareV st es) σ H ∧ EnvLe st.env (shareV st es).env ∧ (shareV st es).sto = st.sto ∧ ((shareV st es).dep = st.dep ∧ (shareV st es).lo = st.lo) ∧
    (∀ a, O a → O' a ∨ ∃ (i : Nat) (d : D), st.env[i]? = some (some (true, d)) ∧ (shareV st es).env[i]? = some (some (false, d)) ∧ σ[i]? = some (some (.ref a)))
  | [], st, O, s => ⟨O, fun a h => ⟨h, fun _ _ h => by cases h⟩, s, EnvLe.refl _, rfl, ⟨rfl, rfl⟩, fun a h => .inl h⟩
  | e :: es, st, O, s => by
    by_cases hv : ∃ i, e = .var i
    · obtain ⟨i, rfl⟩ := hv
      obtain ⟨O1, sub, s1, rep, low⟩ := s.share i
      obtain ⟨O', g1, g2, g3, g4, g5, g6⟩ := shareV_ok (es := es) s1
      have le := share_env st i
      refine ⟨O', fun a h => ?_, g2, le.trans g3, by rw [show shareV st (.var i :: es) = shareV (share st i) es from rfl, g4, share_sto], ⟨by rw [show shareV st (.var i :: es) = shareV (share st i) es from rfl, g5.1, share_dep], by rw [show shareV st (.var i :: es) = shareV (share st i) es from rfl, g5.2, share_lo]⟩, fun a h => ?_⟩
      · obtain ⟨q1, q2⟩ := g1 a h
        refine ⟨sub a q1, fun j d hj hd hs => ?_⟩
        by_cases e : j = i
        · subst e
          obtain ⟨v, w1, _, w3⟩ := s.slot j _ _ hd
          rw [hs] at w1; cases w1
          obtain ⟨b, w4, _, _, ow⟩ := w3 rfl
          cases w4
          exact (rep _ _ _ hd hs).notO ow.mut q1
        · have hd1 : (share st i).env[j]? = some (some (true, d)) := by
            unfold share
            split
            · simpa [List.getElem?_set_ne (Ne.symm e)] using hd
            · exact hd
          refine q2 j d ?_ hd1 hs
          rcases List.mem_cons.mp hj with z | z
          · cases z; exact absurd rfl e
          · exact z
      · rcases low a h with h1 | ⟨j, d, h1, h2, h3⟩
        · rcases g6 a h1 with h2 | ⟨j, d, h2, h3, h4⟩
          · exact .inl h2
          · exact .inr ⟨j, d, le.own h2, h3, h4⟩
        · obtain ⟨o', w1, w2⟩ := g3.slot h2
          cases o' with
          | false => exact .inr ⟨j, d, h1, w1, h3⟩
          | true => cases w2 rfl
    · have e1 : shareV st (e :: es) = shareV st es := by
        cases e <;> first | rfl | exact absurd ⟨_, rfl⟩ hv
      obtain ⟨O', g1, g2, g3, g4, g5, g6⟩ := shareV_ok (es := es) s
      rw [e1]
      refine ⟨O', fun a h => ⟨(g1 a h).1, fun j d hj => (g1 a h).2 j d ?_⟩, g2, g3, g4, g5, g6⟩
      rcases List.mem_cons.mp hj with z | z
      · exact absurd ⟨j, z.symm⟩ hv
      · exact z
/-- a call's end, from the caller's sight: F is what the callee was told to leave alone -/
structure PostC (M : Mt2) (ρ : List Addr) (F : Addr → Prop) (sto : List D) (H : Hp) (d : D) (fr : Bool) (sto' : List D) (v : V) (H' : Hp) : Prop where
  slen : sto'.length = sto.length
  ext : Ext M (Wr ρ sto) H H'
  so : StoOk M ρ F sto' H'
  plain : fr = false → Rep M ρ F H' d v
  own : fr = true → ∃ a, v = .ref a ∧ H a = none ∧ StoOk M ρ (fun b => F b ∨ b = a) sto' H' ∧ Own M ρ (fun b => F b ∨ b = a) H' d a
theorem flat_own {a : Addr} {d : D} {v : V} (hk : keeps d true = true) (hO : ∀ a vs, H a = some (.tup vs) → ¬ O' a) (h : Own M ρ O H d a) : Own M ρ O' H d a := by
  cases d with
  | lst xs =>
    obtain ⟨vs, e, r⟩ := h
    exact ⟨vs, e, r.flat hO hk⟩
  | dct ks ds =>
    obtain ⟨vs, r, q⟩ := h
    exact ⟨vs, r.flat hO hk, q⟩
  | ins c ns ds => simp [keeps, TI.flat] at hk
  | _ => exact h.elim
end
end TI

end

section
set_option Elab.async false
set_option linter.all false
set_option maxRecDepth 100000
set_option maxHeartbeats 1000000
/-! TI12: the frame behind a call. -/
namespace TI
open PySem L2 PySem.Spec PyProof.Rows
section
variable {M : Mt2} {ρ : List Addr} {O O' F : Addr → Prop} {H H' : Hp} {st st' : St} {σ : L2.St} {sto sto' : List D} {X : Cx} {W : WX} {r : Rec} {Γ : Gam}
theorem StoOk.after (s : StoOk M ρ O sto H) (e : Ext M (fun _ => False) H H') (h1 : ∀ a, O' a → O a ∨ H a = none) (hr : ∀ a ∈ ρ, O' a) (ht : ∀ a, O' a → ∃ o, H' a = some o ∧ ownO o) (hn : ∀ a vs, O' a → ¬ H' a = some (.tup vs)) : StoOk M ρ O' sto H' :=
  ⟨hr, s.nd, ht, e.tab s.tab, hn, fun i d h => by
    obtain ⟨a, xs, vs, g1, g2, g3, g4⟩ := s.at_ i d h
    exact ⟨a, xs, vs, g1, g2, e.keep a _ (fun z => z) trivial g3, (g4.avoidS h1).ext e (fun _ z => z.elim) fun _ z => z⟩⟩
theorem isOwn_var {i : Nat} {d : D} (h : st.env[i]? = some (some (true, d))) : isOwn st (.var i) = true := by
  simp [isOwn, slot, h]
theorem giv_all {es : List SE} (h : es.any (isOwn st) = false) (a : Addr) (ha : O a) : Giv O st σ es a := ⟨ha, fun i d hi hd => by
  rw [List.any_eq_false] at h
  exact absurd (isOwn_var hd) (h _ hi)⟩
theorem shareV_sto : ∀ (es : List SE) (st : St) (t : List D), shareV { st with sto := t } es = { shareV st es with sto := t }
  | [], _, _ => rfl
  | e :: es, st, t => by
    by_cases hv : ∃ i, e = .var i
    · obtain ⟨i, rfl⟩ := hv
      show shareV (share { st with sto := t } i) es = { shareV (share st i) es with sto := t }
      have : share { st with sto := t } i = { share st i with sto := t } := by
        unfold share
        show (match (st.env[i]?).join with | some (true, d) => _ | _ => _) = _
        split
        · rename_i h; simp only [h]
        · rename_i h
          first
            | rfl
            | (split
               · rename_i d h'; exact absurd h' (h d)
               · rfl)
      rw [this, shareV_sto es]
    · have e1 : ∀ st : St, shareV st (e :: es) = shareV st es := fun st => by
        cases e <;> first | rfl | exact absurd ⟨_, rfl⟩ hv
      rw [e1, e1, shareV_sto es]
theorem giv_rho (s : SRel M ρ O st σ H) {es : List SE} : ∀ a ∈ ρ, Giv O st σ es a := fun a ha => ⟨s.so.rho a ha, fun i d _ hd hs => by
  obtain ⟨v, g1, _, g3⟩ := s.slot i _ _ hd
  rw [hs] at g1; cases g1
  obtain ⟨b, e, _, nb, _⟩ := g3 rfl
  cases e
  exact nb ha⟩
theorem after_ok {es : List SE} {pen : Bool} {d : D} {fr : Bool} {v : V} (s : SRel M ρ O st σ H) (p : PostC M ρ (Giv O st σ es) (if pen then st.sto else []) H d fr sto' v H') : PostE M ρ O st σ H d fr (after es pen st d fr sto') v H' := by
  have e : Ext M (Wr ρ st.sto) H H' := p.ext.weak fun b h => by
    cases pen with
    | true => exact h
    | false => obtain ⟨i, hi, _⟩ := h; simp at hi
  have noA : ∀ {a : Addr}, H a = none → ¬ O a := fun {a} ha z => by
    obtain ⟨o, ho, _⟩ := s.so.trk a z
    rw [ha] at ho; cases ho
  -- the store behind the call
  generalize hs1 : (if pen then ({ st with sto := sto' } : St) else st) = st1
  have q : st1 = { st with sto := st1.sto } ∧ st1.sto.length = st.sto.length := by
    subst hs1
    cases pen with
    | true => exact ⟨rfl, p.slen⟩
    | false => exact ⟨rfl, rfl⟩
  have so : ∀ O' : Addr → Prop, (∀ a, O' a → Giv O st σ es a) → (∀ a ∈ ρ, O' a) → StoOk M ρ O' st1.sto H' := fun O' h1 hr => by
    subst hs1
    cases pen with
    | true => exact p.so.mono h1 hr
    | false =>
      have e0 : Ext M (fun _ => False) H H' := p.ext.weak fun b h => by obtain ⟨i, hi, _⟩ := h; simp at hi
      exact (s.so.grow e0).mono (fun a h => (h1 a h).1) hr
  have so2 : ∀ (O' : Addr → Prop) (a : Addr), (∀ a, O' a → Giv O st σ es a) → (∀ a ∈ ρ, O' a) → H a = none → StoOk M ρ (fun b => Giv O st σ es b ∨ b = a) sto' H' → StoOk M ρ (fun b => O' b ∨ b = a) st1.sto H' := fun O' a h1 hr ha pa => by
    subst hs1
    cases pen with
    | true => exact pa.mono (fun b h => h.elim (fun h => .inl (h1 b h)) .inr) fun b h => .inl (hr b h)
    | false =>
      have e0 : Ext M (fun _ => False) H H' := p.ext.weak fun b h => by obtain ⟨i, hi, _⟩ := h; simp at hi
      exact s.so.after e0 (fun b h => h.elim (fun h => .inl (h1 b h).1) fun h => .inr (by rw [h]; exact ha)) (fun b h => .inl (hr b h)) (fun b h => pa.trk b (h.elim (fun h => .inl (h1 b h)) .inr)) fun b vs h => pa.notup b vs (h.elim (fun h => .inl (h1 b h)) .inr)
  unfold TI.after
  simp only [hs1]
  cases hany : es.any (isOwn st) with
  | false =>
    have g : ∀ a, O a → Giv O st σ es a := giv_all hany
    have gi : ∀ a, Giv O st σ es a → O a := fun a h => h.1
    simp only [Bool.false_eq_true, if_false]
    refine ⟨O, ⟨fun _ h => h, e, q.2, by rw [q.1], ?_, by rw [q.1]; exact EnvLe.refl _, by rw [q.1], fun _ h => .inl h⟩, fun z => (p.plain z).mono g (Kp.refl _ _), fun z => ?_⟩
    · rw [q.1]
      exact s.after e (so O g s.so.rho) (fun _ h => .inl h) fun _ h => h
    · obtain ⟨a, p1, p2, p3, p4⟩ := p.own z
      refine ⟨a, p1, noA p2, p2, ?_, p4.mono (fun b h => h.elim (fun h => .inl (g b h)) .inr) (Kp.refl _ _) fun _ h => h⟩
      rw [q.1]
      exact s.after e (so2 O a g s.so.rho p2 p3) (fun b h => h.elim .inl fun h => .inr (by rw [h]; exact p2)) fun _ h => .inl h
  | true =>
    simp only [if_true]
    cases hk : (!pen && keeps d fr) with
    | true =>
      simp only [if_true]
      simp only [Bool.and_eq_true, Bool.not_eq_true'] at hk
      obtain ⟨rfl, hk⟩ := hk
      simp only [Bool.false_eq_true, if_false] at hs1
      subst hs1
      have e0 : Ext M (fun _ => False) H H' := p.ext.weak fun b h => by obtain ⟨i, hi, _⟩ := h; simp at hi
      have s' := s.grow e0
      refine ⟨O, ⟨fun _ h => h, e, rfl, rfl, s', EnvLe.refl _, rfl, fun _ h => .inl h⟩, fun z => ?_, fun z => ?_⟩
      · subst z
        refine (p.plain rfl).flat (fun a vs h z => s'.so.notup a vs z h) ?_
        cases d <;> simpa [keeps] using hk
      · subst z
        obtain ⟨a, p1, p2, p3, p4⟩ := p.own rfl
        have s2 : SRel M ρ (fun b => O b ∨ b = a) st σ H' := by
          have := s.after e (O' := fun b => O b ∨ b = a) (sto' := st.sto) (s.so.after e0 (fun b h => h.elim .inl fun h => .inr (by rw [h]; exact p2)) (fun b h => .inl (s.so.rho b h)) (fun b h => by
            rcases h with h | rfl
            · exact s'.so.trk b h
            · exact p3.trk b (.inr rfl)) fun b vs h => by
            rcases h with h | rfl
            · exact s'.so.notup b vs h
            · exact p3.notup b vs (.inr rfl)) (fun b h => h.elim .inl fun h => .inr (by rw [h]; exact p2)) fun _ h => .inl h
          exact this
        exact ⟨a, p1, noA p2, p2, s2, flat_own (v := v) hk (fun b vs h z => s2.so.notup b vs z h) p4⟩
    | false =>
      simp only [Bool.false_eq_true, if_false]
      obtain ⟨O1, g1, g2, g3, g4, g5, g6⟩ := shareV_ok (es := es) s
      have e1 : Ext M (Wr ρ (shareV st es).sto) H H' := by rw [g4]; exact e
      have hst : shareV st1 es = { shareV st es with sto := st1.sto } := by rw [q.1]; exact shareV_sto es st st1.sto
      rw [hst]
      refine ⟨O1, ⟨fun a h => (g1 a h).1, e, q.2, g5.1, g2.after e1 (so O1 g1 g2.so.rho) (fun _ h => .inl h) (fun _ h => h), g3, g5.2, g6⟩, fun z => (p.plain z).mono g1 (Kp.refl _ _), fun z => ?_⟩
      obtain ⟨a, p1, p2, p3, p4⟩ := p.own z
      refine ⟨a, p1, fun z => noA p2 (g1 a z).1, p2, ?_, p4.mono (fun b h => h.elim (fun h => .inl (g1 b h)) .inr) (Kp.refl _ _) fun _ h => h⟩
      exact g2.after e1 (so2 O1 a g1 g2.so.rho p2 p3) (fun b h => h.elim .inl fun h => .inr (by rw [h]; exact p2)) fun _ h => .inl h
/-- the arguments, as the callee gets them -/
theorem Arg1.giv (s : SRel M ρ O st σ H) {es : List SE} {se : SE} {d : D} {v : V} (hm : se ∈ es) (h : Arg1 M ρ O H st σ se d v) : Rep M ρ (Giv O st σ es) H d v := by
  rcases h with h | ⟨i, rfl, h1, h2⟩
  · exact h.mono (fun a h => h.1) (Kp.refl _ _)
  · obtain ⟨v', g1, _, g3⟩ := s.slot i _ _ h1
    rw [h2] at g1; cases g1
    obtain ⟨a, rfl, oa, na, ow⟩ := g3 rfl
    refine ow.share fun b hb => ⟨hb.1, fun e => ?_⟩
    subst e
    exact hb.2 i d hm h1 h2
theorem Args.giv (s : SRel M ρ O st σ H) {es : List SE} : ∀ {ses : List SE} {ds : List D} {vs : List V}, (∀ e ∈ ses, e ∈ es) → Args M ρ O H st σ ses ds vs → Reps M ρ (Giv O st σ es) H ds vs
  | [], _, _, _, ⟨h1, h2⟩ => by subst h1; subst h2; exact .nil
  | _ :: _, _, _, hm, ⟨d, r, v, w, h1, h2, h3, h4⟩ => by
    subst h1; subst h2
    exact .cons (h3.giv s (hm _ List.mem_cons_self)) (h4.giv s fun e h => hm e (List.mem_cons_of_mem _ h))
end
end TI

end

section
set_option Elab.async false
set_option linter.all false
set_option maxRecDepth 100000
set_option maxHeartbeats 1000000
/-! TI13: promises of defs; calls. -/
namespace TI
open PySem L2 PySem.Spec PyProof.Rows
def CXN : CXT := fun _ _ _ _ _ _ => False
def EN : XK := fun _ _ _ => False
theorem passN {X : Cx} : Passes CXN X EN := fun _ _ _ _ _ _ _ h => h.elim
/-- what is known of a def -/
structure FnFact (M : Mt2) (f : Nat) (fd : FnDef) : Prop where
  len : (M.pn f).length = fd.np
  kp : PySem.W.keepIn M.K (.ref (M.fnA f)) = true
  bnd : fd.isInit = false → ∀ sh ∈ fd.shapes, ∀ (s : Shared) (us ws : List Value), M.K.In s.heap → us.length = sh.1 → ws.length = sh.2.1.length →
    ∃ bs, selB us ws (M.dflV f) sh.2.2 = some bs ∧ BindsTo s (M.fdat f) ⟨us, (sh.2.1.map M.nm).zip ws⟩ ((M.pn f).zip bs)
  bndI : fd.isInit = true → ∀ sh ∈ fd.shapes, ∀ (s : Shared) (x : Value) (us ws : List Value), M.K.In s.heap → us.length = sh.1 → ws.length = sh.2.1.length →
    ∃ bs, selB us ws (M.dflV f) sh.2.2 = some bs ∧ BindsTo s (M.fdat f) ⟨x :: us, (sh.2.1.map M.nm).zip ws⟩ ((M.pn f).zip (x :: bs))
  shl : ∀ sh ∈ fd.shapes, sh.2.2.length + (if fd.isInit then 1 else 0) = fd.np
  dfl : ∃ dvs, Vals dvs (M.dflV f) ∧ ∀ ρ O H, Reps M ρ O H fd.dfl dvs
def spF (M : Mt2) (r : Rec) (f k : Nat) : Sp := fun vs H Q _ => ∃ ρ F sto ds d fr sto' fd, M.P.fns[f]? = some fd ∧ ds.length = fd.np ∧ r.call f ds sto k = .ok d fr sto' ∧ StoOk M ρ F sto H ∧ Reps M ρ F H ds vs ∧ ∀ v H', PostC M ρ F sto H d fr sto' v H' → Q v H'
def spI (M : Mt2) (r : Rec) (c f k : Nat) : Sp := fun vs H Q _ => ∃ ρ F ds d fr fd x dx vs' H0, M.P.fns[f]? = some fd ∧ ds.length + 1 = fd.np ∧ r.ini c f ds k = .ok d fr [] ∧ vs = .ref x :: vs' ∧ H = upd (upd H0 dx (.own x)) x (.ins (M.clA c) dx []) ∧ H0 x = none ∧ H0 dx = none ∧ dx ≠ x ∧
  StoOk M ρ F [] H0 ∧ Reps M ρ F H0 ds vs' ∧ ∀ H', PostC M ρ F [] H0 d fr [] (.ref x) H' → Q .non H'
/-- a closure keeps its promise -/
def LamOk (M : Mt2) (r : Rec) (l k : Nat) : Prop := ∀ (A : Around) (outer : List Env) (s : Shared) (H : Hp) (ρ : List Addr) (F : Addr → Prop) (f : Addr) (us : List Value) (vs : List V) (ds cs : List D) (d : D) (fr : Bool) (Q : VK), Room (k + 1) A → Env0 M.prog M.w M.K M.mg M.base A outer s H → Vals vs us →
  Rep M ρ F H (.clo l cs) (.ref f) → Reps M ρ F H ds vs → StoOk M ρ F [] H → r.lam l cs ds k = .ok d fr [] → (∀ v H', PostC M ρ F [] H d fr [] v H' → Q v H') →
  codeAny (model M.prog M.w) A (.call (.ref f) ⟨us, []⟩) (CR CXN outer M.prog M.w H s Q EN) s
structure CallOk (M : Mt2) (r : Rec) : Prop where
  nostoL : ∀ {l : Nat} {cs ds : List D} {k : Nat} {d : D} {fr : Bool} {a : D} {t : List D}, r.lam l cs ds k = .ok d fr (a :: t) → False
  lam : ∀ l k, LamOk M r l k
  nosto : ∀ {c f : Nat} {ds : List D} {k : Nat} {d : D} {fr : Bool} {a : D} {l : List D}, r.ini c f ds k = .ok d fr (a :: l) → False
  fact : ∀ f fd, M.P.fns[f]? = some fd → FnFact M f fd
  fn : ∀ f fd k, M.P.fns[f]? = some fd → fd.isInit = false → FnOk M.prog M.w M.K M.mg M.base CXN (k + 1) (M.fnA f) (M.fdat f) (M.pn f) (spF M r f k)
  ini : ∀ c cd f fd k, M.P.clss[c]? = some cd → cd.init = some f → M.P.fns[f]? = some fd → fd.isInit = true → FnOk M.prog M.w M.K M.mg M.base CXN (k + 1) (M.fnA f) (M.fdat f) (M.pn f) (spI M r c f k)
section
variable {M : Mt2} {ρ : List Addr} {O O' F : Addr → Prop} {H H' : Hp} {st st' : St} {σ : L2.St} {sto sto' : List D} {X : Cx} {W : WX} {r : Rec} {Γ : Gam}
theorem fnok_at {k : Nat} {f : Addr} {fd : FuncData} {ps : List Str} {sp : Sp} {CX : CXT} (g : Good M X Γ) (F : FnOk M.prog M.w M.K M.mg M.base CX k f fd ps sp) : FnOk X.prog X.w X.K X.mg X.base CX k f fd ps sp := by
  rw [g.prog, g.w, g.K, g.mg, g.base]; exact F
theorem run_f {k : Nat} {f : Addr} {fd : FuncData} {ps : List Str} {sp : Sp} {pins : List (Addr × Obj)} {s : Shared} {us bs : List Value} {kw : List (Str × Value)} {vs : List V} {Q : VK} (I : Inv X pins σ H s) (Fn : FnOk X.prog X.w X.K X.mg X.base CXN k f fd ps sp) (hr : Room k X.A)
    (hb : BindsTo s fd ⟨us, kw⟩ (ps.zip bs)) (rv : Vals vs bs) (h : sp vs H Q EN) : codeAny (model X.prog X.w) X.A (.call (.ref f) ⟨us, kw⟩) (fun r s' => match r with | .ok (.ret v) => EP X pins σ Q v s' | .ok _ => False | .error e => X.xe e s') s := by
  refine codeAny_mono (Fn.run X.A X.stack s H ⟨us, kw⟩ bs vs Q EN hr I.env0 hb rv h) fun r s' hq => ?_
  cases r with
  | error e => exact (show False from hq).elim
  | ok fl =>
    cases fl with
    | ret u => exact I.after hq
    | next => exact False.elim hq
    | brk => exact False.elim hq
    | cont => exact False.elim hq
/-! ### binding -/
theorem selB_len {α : Type} {ds zs dfl : List α} : ∀ {sl : List Sel} {l : List α}, selB ds zs dfl sl = some l → l.length = sl.length
  | [], l, h => by simp [selB] at h; simp [h]
  | .pos i :: r, l, h => by
    simp only [selB] at h
    obtain ⟨x, _, h⟩ := Option.bind_eq_some_iff.mp h
    obtain ⟨l', h1, rfl⟩ := Option.map_eq_some_iff.mp h
    simp [selB_len h1]
  | .kw i :: r, l, h => by
    simp only [selB] at h
    obtain ⟨x, _, h⟩ := Option.bind_eq_some_iff.mp h
    obtain ⟨l', h1, rfl⟩ := Option.map_eq_some_iff.mp h
    simp [selB_len h1]
  | .dfl i :: r, l, h => by
    simp only [selB] at h
    obtain ⟨x, _, h⟩ := Option.bind_eq_some_iff.mp h
    obtain ⟨l', h1, rfl⟩ := Option.map_eq_some_iff.mp h
    simp [selB_len h1]
theorem selB_reps {ds zs dfl : List D} {vs ws dvs : List V} (h1 : Reps M ρ O H ds vs) (h2 : Reps M ρ O H zs ws) (h3 : Reps M ρ O H dfl dvs) : ∀ {sl : List Sel} {l : List D}, selB ds zs dfl sl = some l → ∃ l', selB vs ws dvs sl = some l' ∧ Reps M ρ O H l l'
  | [], l, h => by simp [selB] at h; subst h; exact ⟨[], rfl, .nil⟩
  | .pos i :: r, l, h => by
    simp only [selB] at h ⊢
    obtain ⟨x, hx, h⟩ := Option.bind_eq_some_iff.mp h
    obtain ⟨l1, h4, rfl⟩ := Option.map_eq_some_iff.mp h
    obtain ⟨v, hv, rv⟩ := h1.get hx
    obtain ⟨l2, h5, r2⟩ := selB_reps h1 h2 h3 h4
    exact ⟨v :: l2, by simp [hv, h5], .cons rv r2⟩
  | .kw i :: r, l, h => by
    simp only [selB] at h ⊢
    obtain ⟨x, hx, h⟩ := Option.bind_eq_some_iff.mp h
    obtain ⟨l1, h4, rfl⟩ := Option.map_eq_some_iff.mp h
    obtain ⟨v, hv, rv⟩ := h2.get hx
    obtain ⟨l2, h5, r2⟩ := selB_reps h1 h2 h3 h4
    exact ⟨v :: l2, by simp [hv, h5], .cons rv r2⟩
  | .dfl i :: r, l, h => by
    simp only [selB] at h ⊢
    obtain ⟨x, hx, h⟩ := Option.bind_eq_some_iff.mp h
    obtain ⟨l1, h4, rfl⟩ := Option.map_eq_some_iff.mp h
    obtain ⟨v, hv, rv⟩ := h3.get hx
    obtain ⟨l2, h5, r2⟩ := selB_reps h1 h2 h3 h4
    exact ⟨v :: l2, by simp [hv, h5], .cons rv r2⟩
theorem selB_vals {ds zs dfl : List V} {vs ws dvs : List Value} (h1 : Vals ds vs) (h2 : Vals zs ws) (h3 : Vals dfl dvs) : ∀ {sl : List Sel} {l : List V}, selB ds zs dfl sl = some l → ∃ l', selB vs ws dvs sl = some l' ∧ Vals l l'
  | [], l, h => by simp [selB] at h; subst h; exact ⟨[], rfl, .nil⟩
  | .pos i :: r, l, h => by
    simp only [selB] at h ⊢
    obtain ⟨x, hx, h⟩ := Option.bind_eq_some_iff.mp h
    obtain ⟨l1, h4, rfl⟩ := Option.map_eq_some_iff.mp h
    obtain ⟨v, hv, rv⟩ := h1.get hx
    obtain ⟨l2, h5, r2⟩ := selB_vals h1 h2 h3 h4
    exact ⟨v :: l2, by simp [hv, h5], .cons rv r2⟩
  | .kw i :: r, l, h => by
    simp only [selB] at h ⊢
    obtain ⟨x, hx, h⟩ := Option.bind_eq_some_iff.mp h
    obtain ⟨l1, h4, rfl⟩ := Option.map_eq_some_iff.mp h
    obtain ⟨v, hv, rv⟩ := h2.get hx
    obtain ⟨l2, h5, r2⟩ := selB_vals h1 h2 h3 h4
    exact ⟨v :: l2, by simp [hv, h5], .cons rv r2⟩
  | .dfl i :: r, l, h => by
    simp only [selB] at h ⊢
    obtain ⟨x, hx, h⟩ := Option.bind_eq_some_iff.mp h
    obtain ⟨l1, h4, rfl⟩ := Option.map_eq_some_iff.mp h
    obtain ⟨v, hv, rv⟩ := h3.get hx
    obtain ⟨l2, h5, r2⟩ := selB_vals h1 h2 h3 h4
    exact ⟨v :: l2, by simp [hv, h5], .cons rv r2⟩
theorem bindA_sh {fd : FnDef} {ds zs ds' : List D} {ks : List Nat} (h : bindA fd ds ks zs = some ds') : ∃ sh ∈ fd.shapes, sh.1 = ds.length ∧ sh.2.1 = ks ∧ selB ds zs fd.dfl sh.2.2 = some ds' := by
  unfold bindA shapeOf at h
  obtain ⟨sl, h1, h2⟩ := Option.bind_eq_some_iff.mp h
  obtain ⟨sh, h3, rfl⟩ := Option.map_eq_some_iff.mp h1
  have h4 := List.find?_some h3
  simp only [Bool.and_eq_true, beq_iff_eq] at h4
  exact ⟨sh, List.mem_of_find?_eq_some h3, h4.1, h4.2, h2⟩
theorem StoOk.nil (s : StoOk M ρ O sto H) : StoOk M ρ O [] H := ⟨s.rho, s.nd, s.trk, s.tab, s.notup, fun i d h => by simp at h⟩
/-- a def called, behind the arguments -/
theorem fn_callC (g : Good M X Γ) (co : CallOk M r) {f : Nat} {es : List SE} {ds zs : List D} {ks : List Nat} {vs zvs : List V} {us ws : List Value} {fd : FnDef} {pins : List (Addr × Obj)} {s : Shared} {Q : VK} {ex : D → St → Prop} (I : Inv X pins σ H s) (s0 : SRel M ρ O st σ H) (hr : Room st.dep X.A)
    (hf : M.P.fns[f]? = some fd) (r1 : Reps M ρ (Giv O st σ es) H ds vs) (r2 : Reps M ρ (Giv O st σ es) H zs zvs) (hl : zs.length = ks.length) (v1 : Vals vs us) (v2 : Vals zvs ws)
    (h : wpR (lift (bindA fd ds ks zs) st fun ds => doCall M.P r f es ds st) (fun p st' => ∀ v H', PostE M ρ O st σ H p.1 p.2 st' v H' → Q v H') ex) :
    codeAny (model X.prog X.w) X.A (.call (.ref (M.fnA f)) ⟨us, (ks.map M.nm).zip ws⟩) (fun r s' => match r with | .ok (.ret v) => EP X pins σ Q v s' | .ok _ => False | .error e => X.xe e s') s := by
  obtain ⟨ds', hb, h⟩ := h.lift
  obtain ⟨sh, hm, e1, e2, e3⟩ := bindA_sh hb
  have ff := co.fact f fd hf
  unfold doCall at h
  rw [hf] at h
  simp only at h
  split at h
  · exact h.elim
  rename_i hi
  have hi : fd.isInit = false := by simpa using hi
  split at h
  · exact h.elim
  rename_i k hk
  split at h
  · rename_i d fr sto' hcall
    obtain ⟨dvs, dv, dr⟩ := ff.dfl
    obtain ⟨vs', q1, q2⟩ := selB_reps r1 r2 (dr _ _ _) e3
    obtain ⟨bs', q3, q4⟩ := selB_vals v1 v2 dv q1
    obtain ⟨bs, q5, q6⟩ := ff.bnd hi sh hm s us ws (by rw [← g.K]; exact I.kIn) (by rw [← v1.length, ← r1.length, e1]) (by rw [← v2.length, ← r2.length, hl, e2])
    rw [q3] at q5; cases q5
    rw [e2] at q6
    refine run_f I (fnok_at g (co.fn f fd k hf hi)) (by rw [hk] at hr; exact hr) q6 q4 ?_
    refine ⟨ρ, Giv O st σ es, _, ds', d, fr, sto', fd, hf, ?_, hcall, ?_, q2, fun v H' p => h.ok v H' (after_ok s0 p)⟩
    · have := ff.shl sh hm
      rw [hi] at this
      rw [selB_len e3]; simpa using this
    · have so := s0.so.mono (fun a (h : Giv O st σ es a) => h.1) (giv_rho s0)
      split
      · exact so
      · exact so.nil
  · exact h.elim
theorem fn_call (g : Good M X Γ) (co : CallOk M r) {f : Nat} {es : List SE} {ds zs : List D} {ks : List Nat} {vs zvs : List V} {us ws : List Value} {fd : FnDef} {pins : List (Addr × Obj)} {s : Shared} {Q : VK} {ex : D → St → Prop} (I : Inv X pins σ H s) (s0 : SRel M ρ O st σ H) (hr : Room st.dep X.A)
    (hf : M.P.fns[f]? = some fd) (r1 : Reps M ρ (Giv O st σ es) H ds vs) (r2 : Reps M ρ (Giv O st σ es) H zs zvs) (hl : zs.length = ks.length) (v1 : Vals vs us) (v2 : Vals zvs ws)
    (h : wpR (lift (bindA fd ds ks zs) st fun ds => doCall M.P r f es ds st) (fun p st' => ∀ v H', PostE M ρ O st σ H p.1 p.2 st' v H' → Q v H') ex) :
    wpAny (model X.prog X.w) X.A (call (.ref (M.fnA f)) us ((ks.map M.nm).zip ws)) (EP X pins σ Q) X.xe s := wpAny_call (fn_callC g co I s0 hr hf r1 r2 hl v1 v2 h)
/-! ### keywords -/
inductive SndKs (M : Mt2) (r : Rec) (Γ : Gam) : List Keyword → List (Nat × SE) → Prop where
  | nil : SndKs M r Γ [] []
  | cons {e : Expr} {kpos : Pos} {x : Str} {n : Nat} {kws : List Keyword} {se : SE} {ks : List (Nat × SE)} : M.nm n = x → SndP M r Γ e se → SndKs M r Γ kws ks → SndKs M r Γ (⟨some x, e, kpos⟩ :: kws) ((n, se) :: ks)
theorem SndKs.pk {kws : List Keyword} {ks : List (Nat × SE)} (h : SndKs M r Γ kws ks) : ∀ X W, Good M X Γ → Takes X W → PK X kws (tPs M X W r (ks.map (·.2))) := by
  induction h with
  | nil =>
    intro X W g tk
    have p := pk_nil (X := X)
    refine ⟨fun pos pins s σ H Q I h => p.run pos pins s σ H Q I ?_⟩
    obtain ⟨ρ, O, st, s, hr, h⟩ := h
    exact wpR.ok (show wpR (R.ok [] st) _ _ from h) [] H ⟨O, Left.refl s, rfl, rfl⟩
  | @cons e kpos x n kws se ks hn he _ ih =>
    intro X W g tk
    have p := pk_cons (nm := some x) (kpos := kpos) (he X W g tk) (ih X W g tk)
    refine ⟨fun pos pins s σ H Q I h => p.run pos pins s σ H Q I ?_⟩
    obtain ⟨ρ, O, st, s, hr, h⟩ := h
    have h : wpR ((TI.pk r se st).bind fun d st => (pks r (ks.map (·.2)) st).bind fun ds st => .ok (d :: ds) st) _ _ := h
    refine ⟨ρ, O, st, s, hr, h.bind.mono (fun d st1 h v H1 ⟨O1, l1, r1, a1⟩ => ?_) fun _ _ x => x⟩
    refine ⟨ρ, O1, st1, l1.rel, by rw [l1.dep]; exact hr, h.bind.mono (fun ds st2 h vs H2 ⟨O2, l2, r2⟩ => ?_) fun _ _ x => x.later l1⟩
    exact h.ok _ _ ⟨O2, l1.trans l2, d, ds, v, vs, rfl, rfl, a1.left l2 l1.rel, r2⟩
theorem SndKs.words {kws : List Keyword} {ks : List (Nat × SE)} (h : SndKs M r Γ kws ks) (pos : Pos) (env : Env) : (backToKw pos (keywordEach kws env)).all (·.1.isSome) = true ∧ (backToKw pos (keywordEach kws env)).any (·.1.isNone) = false ∧ (backToKw pos (keywordEach kws env)).filterMap (·.1) = (ks.map (·.1)).map M.nm := by
  induction h with
  | nil => exact ⟨rfl, rfl, rfl⟩
  | @cons e kpos x n kws se ks hn _ _ ih =>
    obtain ⟨h1, h2, h3⟩ := ih
    simp only [backToKw, keywordEach, List.map_cons, List.all_cons, List.any_cons] at h1 h2 h3 ⊢
    refine ⟨by simpa using h1, by simpa using h2, ?_⟩
    rw [List.filterMap_cons_some (by rfl), h3, hn]
end
end TI

end

section
set_option Elab.async false
set_option linter.all false
set_option maxRecDepth 100000
set_option maxHeartbeats 1000000
/-! TI14: the call's node. -/
namespace TI
open PySem L2 PySem.Spec PyProof.Rows
section
variable {M : Mt2} {ρ : List Addr} {O O' F : Addr → Prop} {H H' : Hp} {st st' : St} {σ : L2.St} {sto sto' : List D} {X : Cx} {W : WX} {r : Rec} {Γ : Gam}
theorem SndPs.star {e : Expr} {es : List Expr} {ses : List SE} (h : SndPs M r Γ (e :: es) ses) (env : Env) : starEach (e :: es) env = (false, eval e env) :: starEach es env := by cases h with | cons hn _ _ => exact star_of hn es env
/-- the arguments, then the keywords' -/
theorem cw_keep {α : Type} {f : Value} {first : List Value} {args : List Expr} {es : List SE} {kws : List Keyword} {ks : List (Nat × SE)} {pins : List (Addr × Obj)} {s : Shared} {pos : Pos} {K : List D → List D → St → R α} {post : α → St → Prop} {Q' : Value → Shared → Prop}
    (g : Good M X Γ) (tk : Takes X W) (hk : PySem.W.keepIn X.K f = true) (ha : SndPs M r Γ args es) (hkw : SndKs M r Γ kws ks) (I : Inv X pins σ H s) (s0 : SRel M ρ O st σ H) (hr : Room st.dep X.A)
    (h : wpR ((pks r es st).bind fun ds st => (pks r (ks.map (·.2)) st).bind fun zs st => K ds zs st) post (Bx M W ρ O st σ H))
    (hk2 : ∀ ds zs st2 vs zvs us ws H2 O2 s2, Left M ρ O st σ H O2 st2 H2 → Args M ρ O2 H2 st2 σ es ds vs → Args M ρ O2 H2 st2 σ (ks.map (·.2)) zs zvs → Vals vs us → Vals zvs ws → Inv X pins σ H2 s2 →
      wpR (K ds zs st2) post (Bx M W ρ O st σ H) → wpAny (model X.prog X.w) X.A (call f (first ++ us) (((ks.map (·.1)).map M.nm).zip ws)) Q' X.xe s2) :
    wpAny (model X.prog X.w) X.A (callWith pos f first (backTo pos (starEach args X.env)) (backToKw pos (keywordEach kws X.env))) Q' X.xe s := by
  obtain ⟨w1, w2, w3⟩ := hkw.words pos X.env
  have kin : X.K.In X.base := I.ok.mod.kin
  have rest : ∀ {ds st1 vs us H1 O1 s1}, Left M ρ O st σ H O1 st1 H1 → Args M ρ O1 H1 st1 σ es ds vs → Vals vs us → Inv X pins σ H1 s1 → wpR ((pks r (ks.map (·.2)) st1).bind fun zs st => K ds zs st) post (Bx M W ρ O st σ H) →
      wpAny (model X.prog X.w) X.A (evalAll ((backToKw pos (keywordEach kws X.env)).map (·.2))) (fun ws s₂ => X.K.In s₂.heap ∧ wpAny (model X.prog X.w) X.A (call f (first ++ us) (((backToKw pos (keywordEach kws X.env)).filterMap (·.1)).zip ws)) Q' X.xe s₂) X.xe s1 := fun {ds st1 vs us H1 O1 s1} l1 a1 v1 I1 h => by
    refine thn ((hkw.pk X W g tk).run pos pins s1 σ H1 (fun zvs H2 => ∃ zs st2 O2, Left M ρ O st σ H O2 st2 H2 ∧ Args M ρ O2 H2 st2 σ es ds vs ∧ Args M ρ O2 H2 st2 σ (ks.map (·.2)) zs zvs ∧ wpR (K ds zs st2) post (Bx M W ρ O st σ H)) I1 ?_) fun ws s2 ⟨zvs, H2, I2, v2, zs, st2, O2, l2, a2, a3, h⟩ => ⟨I2.kIn, ?_⟩
    · refine ⟨ρ, O1, st1, l1.rel, by rw [l1.dep]; exact hr, h.bind.mono (fun zs st2 h zvs H2 ⟨O2, l2, a2⟩ => ?_) fun _ _ x => x.later l1⟩
      exact ⟨zs, st2, O2, l1.trans l2, a1.left l2 l1.rel, a2, h⟩
    · rw [w3]
      exact hk2 ds zs st2 vs zvs us ws H2 O2 s2 l2 a2 a3 v1 v2 I2 h
  cases args with
  | nil =>
    cases ha
    refine PySem.W.callWith_KW0 kin hk w1 ?_ (by rw [w2]; rfl)
    exact rest (ds := []) (vs := []) (us := []) (Left.refl s0) ⟨rfl, rfl⟩ .nil I h
  | cons e args =>
    refine PySem.W.callWith_KW kin hk w1 ?_ (by rw [w2, ha.nostar]; rfl) (ha.star X.env)
    refine thn ((ha.pa X W g tk).run pos pins s σ H (fun vs H1 => ∃ ds st1 O1, Left M ρ O st σ H O1 st1 H1 ∧ Args M ρ O1 H1 st1 σ es ds vs ∧ wpR ((pks r (ks.map (·.2)) st1).bind fun zs st => K ds zs st) post (Bx M W ρ O st σ H)) I ?_) fun us s1 ⟨vs, H1, I1, v1, ds, st1, O1, l1, a1, h⟩ => rest l1 a1 v1 I1 h
    exact ⟨ρ, O, st, s0, hr, h.bind.mono (fun ds st1 h vs H1 ⟨O1, l1, a1⟩ => ⟨ds, st1, O1, l1, a1, h⟩) fun _ _ x => x⟩
theorem args_len {es : List SE} : ∀ {ds : List D} {vs : List V}, Args M ρ O H st σ es ds vs → ds.length = es.length := by
  induction es with
  | nil => rintro ds vs ⟨h, _⟩; subst h; rfl
  | cons e es ih =>
    rintro ds vs ⟨d, r, v, w, rfl, _, _, h⟩
    simp [ih h]
/-- a new instance -/
theorem mk_call (g : Good M X Γ) (co : CallOk M r) (mo : MOk M) {c f : Nat} {cd : ClsDef} {es : List SE} {ds zs : List D} {ks : List Nat} {vs zvs : List V} {us ws : List Value} {fd : FnDef} {pins : List (Addr × Obj)} {s : Shared} {Q : VK} {ex : D → St → Prop} (I : Inv X pins σ H s) (s0 : SRel M ρ O st σ H) (hr : Room st.dep X.A)
    (hc : M.P.clss[c]? = some cd) (hci : cd.init = some f) (hf : M.P.fns[f]? = some fd) (hi : fd.isInit = true) (r1 : Reps M ρ (Giv O st σ es) H ds vs) (r2 : Reps M ρ (Giv O st σ es) H zs zvs) (hl : zs.length = ks.length) (v1 : Vals vs us) (v2 : Vals zvs ws)
    (h : wpR (lift (bindA fd ds ks zs) st fun ds => doInit r c f es ds st) (fun p st' => ∀ v H', PostE M ρ O st σ H p.1 p.2 st' v H' → Q v H') ex) :
    wpAny (model X.prog X.w) X.A (call (.ref (M.clA c)) us ((ks.map M.nm).zip ws)) (EP X pins σ Q) X.xe s := by
  obtain ⟨ds', hb, h⟩ := h.lift
  obtain ⟨sh, hm, e1, e2, e3⟩ := bindA_sh hb
  have ff := co.fact f fd hf
  have mk := (mo.cls c cd hc).make f hci
  rw [← g.K] at mk
  unfold doInit at h
  split at h
  · exact h.elim
  · exact h.elim
  rename_i k hk
  split at h
  · rename_i d fr sto0 hcall
    obtain ⟨dvs, dv, dr⟩ := ff.dfl
    obtain ⟨vs', q1, q2⟩ := selB_reps r1 r2 (dr _ _ _) e3
    obtain ⟨bs', q3, q4⟩ := selB_vals v1 v2 dv q1
    have I2 := Inv.made (C := M.clA c) I
    have hx : H (s.heap.objs.size + 1) = none := I.hok.fresh (Nat.le_succ _)
    have hdx : H s.heap.objs.size = none := I.hok.fresh (Nat.le_refl _)
    have hne : s.heap.objs.size ≠ s.heap.objs.size + 1 := Nat.ne_of_lt (Nat.lt_succ_self _)
    have r2' : Vals (V.ref (s.heap.objs.size + 1) :: vs') (Value.ref (s.heap.objs.size + 1) :: bs') := .cons rfl q4
    obtain ⟨bs, q5, q6⟩ := ff.bndI hi sh hm { s with heap := (s.heap.push PySem.W.emptyDict).push (PySem.W.instObj (M.clA c) s.heap.objs.size) } (Value.ref (s.heap.objs.size + 1)) us ws (by rw [← g.K]; exact I2.kIn) (by rw [← v1.length, ← r1.length, e1]) (by rw [← v2.length, ← r2.length, hl, e2])
    rw [q3] at q5; cases q5
    rw [e2] at q6
    have hr' : Room (k + 1 + 1) X.A := by rw [hk] at hr; exact hr
    have so := s0.so.mono (fun a (h : Giv O st σ es a) => h.1) (giv_rho s0)
    have hsp : sto0 = [] → spI M r c f k (V.ref (s.heap.objs.size + 1) :: vs') (upd (upd H s.heap.objs.size (.own (s.heap.objs.size + 1))) (s.heap.objs.size + 1) (.ins (M.clA c) s.heap.objs.size [])) (fun v H2 => v = .non ∧ Q (.ref (s.heap.objs.size + 1)) H2) EN := fun hz => by
      subst hz
      refine ⟨ρ, Giv O st σ es, ds', d, fr, fd, _, _, vs', H, hf, ?_, hcall, rfl, rfl, hx, hdx, hne, so.nil, q2, fun H' p => ⟨rfl, h.ok _ _ (after_ok (pen := false) s0 p)⟩⟩
      have := ff.shl sh hm
      rw [hi] at this
      rw [selB_len e3]; simpa using this
    have hz : sto0 = [] := by
      cases sto0 with
      | nil => rfl
      | cons a l => exact False.elim (co.nosto hcall)
    refine wpAny_call (make_map (f := M.fnA f) I.kIn mk.makes mk.init (beq_iff_eq.mp mk.fn) (codeAny_mono ((fnok_at g (co.ini c cd f fd k hc hci hf hi)).run _ X.stack _ _ ⟨Value.ref (s.heap.objs.size + 1) :: us, (ks.map M.nm).zip ws⟩ (Value.ref (s.heap.objs.size + 1) :: bs') _ _ EN (hr'.make (M.clA c) us _)
      (I2.env0.make (M.clA c) us _) q6 r2' (hsp hz)) fun r s' hq' => ?_))
    cases r with
    | error e => exact (show False from hq').elim
    | ok fl =>
      cases fl with
      | ret u =>
        obtain ⟨v, H', I3, rv, ev, q3⟩ := I2.after hq'
        subst ev
        exact ⟨rv, ⟨V.ref (s.heap.objs.size + 1), H', I3, rfl, q3⟩⟩
      | next => exact False.elim hq'
      | brk => exact False.elim hq'
      | cont => exact False.elim hq'
  · exact h.elim
end
end TI

end

section
set_option Elab.async false
set_option linter.all false
set_option maxRecDepth 100000
set_option maxHeartbeats 1000000
/-! TI15: calls and attributes. -/
namespace TI
open PySem L2 PySem.Spec PyProof.Rows
section
variable {M : Mt2} {ρ : List Addr} {O O' F : Addr → Prop} {H H' : Hp} {st st' : St} {σ : L2.St} {sto sto' : List D} {X : Cx} {W : WX} {r : Rec} {Γ : Gam}
/-- what stands ahead of the arguments: the receiver, or nothing -/
inductive Fst (M : Mt2) (ρ : List Addr) (O : Addr → Prop) (H : Hp) (st : St) (σ : L2.St) : Option D → List SE → List Value → List V → Prop where
  | none {se : List SE} : Fst M ρ O H st σ none se [] []
  | some {d : D} {so : SE} {u : Value} {v : V} : L2.RelV v u → Arg1 M ρ O H st σ so d v → Fst M ρ O H st σ (some d) [so] [u] [v]
theorem Fst.left {self : Option D} {se : List SE} {us : List Value} {vs : List V} (l : Left M ρ O st σ H O' st' H') (s : SRel M ρ O st σ H) (h : Fst M ρ O H st σ self se us vs) : Fst M ρ O' H' st' σ self se us vs := by
  cases h with
  | none => exact .none
  | some r a => exact .some r (a.left l s)
theorem Fst.vals {self : Option D} {se : List SE} {us : List Value} {vs : List V} (h : Fst M ρ O H st σ self se us vs) : Vals vs us := by
  cases h with
  | none => exact .nil
  | some r a => exact .cons r .nil
theorem Fst.giv {self : Option D} {se es : List SE} {us : List Value} {vs : List V} (s : SRel M ρ O st σ H) (h : Fst M ρ O H st σ self se us vs) (hm : ∀ e ∈ se, e ∈ es) : Reps M ρ (Giv O st σ es) H self.toList vs := by
  cases h with
  | none => exact .nil
  | some r a => exact .one (a.giv s (hm _ List.mem_cons_self))
theorem lift_mono {α : Type} {x : R α} {p q : α → St → Prop} {ex : D → St → Prop} (h : wpR x p ex) (hp : ∀ a s, p a s → q a s) : wpR x q ex := h.mono hp fun _ _ x => x
/-- a def as the callee -/
theorem cw_fn (g : Good M X Γ) (tk : Takes X W) (co : CallOk M r) {f : Nat} {fd : FnDef} (hf : M.P.fns[f]? = some fd) {self : Option D} {se es : List SE} {first : List Value} {fv : List V} {args : List Expr} {kws : List Keyword} {ks : List (Nat × SE)} {pins : List (Addr × Obj)} {s : Shared} {pos : Pos} {Q : VK}
    (ha : SndPs M r Γ args es) (hkw : SndKs M r Γ kws ks) (I : Inv X pins σ H s) (s0 : SRel M ρ O st σ H) (hr : Room st.dep X.A) (hF : Fst M ρ O H st σ self se first fv)
    (h : wpR (callT M.P r (.fn f self) se es ks st) (fun p st' => ∀ v H', PostE M ρ O st σ H p.1 p.2 st' v H' → Q v H') (Bx M W ρ O st σ H)) :
    wpAny (model X.prog X.w) X.A (callWith pos (.ref (M.fnA f)) first (backTo pos (starEach args X.env)) (backToKw pos (keywordEach kws X.env))) (EP X pins σ Q) X.xe s := by
  have ff := co.fact f fd hf
  refine cw_keep g tk (by rw [g.K]; exact ff.kp) ha hkw I s0 hr h fun ds zs st2 vs zvs us ws H2 O2 s2 l a1 a2 v1 v2 I2 h => ?_
  simp only [callD, hf] at h
  have m1 : ∀ e ∈ es, e ∈ se ++ (es ++ ks.map (·.2)) := fun e he => List.mem_append_right _ (List.mem_append_left _ he)
  have m2 : ∀ e ∈ ks.map (·.2), e ∈ se ++ (es ++ ks.map (·.2)) := fun e he => List.mem_append_right _ (List.mem_append_right _ he)
  have m0 : ∀ e ∈ se, e ∈ se ++ (es ++ ks.map (·.2)) := fun e he => List.mem_append_left _ he
  have hF2 := hF.left l s0
  refine fn_call g co I2 l.rel (by rw [l.dep]; exact hr) hf ((hF2.giv l.rel m0).append (a1.giv l.rel m1)) (a2.giv l.rel m2) (by rw [args_len a2]; simp) (hF2.vals.append v1) v2 (lift_mono h fun p st' q v H' pe => q v H' (pe.later l))
theorem sndE_callF (co : CallOk M r) {x : Str} {f : Nat} {fd : FnDef} {args : List Expr} {kws : List Keyword} {es : List SE} {ks : List (Nat × SE)} {p pos : Pos} (hk : Γ.sc.names.lookup x = some .globalImplicit) (hg : Γ.gl x = some (.fn f)) (hf : M.P.fns[f]? = some fd) (hd : (x == ("__debug__" : Str)) = false)
    (ha : SndPs M r Γ args es) (hkw : SndKs M r Γ kws ks) : SndE M (up M.P r) Γ (.Call (.Name x p) args kws pos) (.callF f es ks) := fun X W g tk => by
  obtain ⟨u, v, hm, rv, rp⟩ := g.gl x _ hg
  have rp := rp [] (fun _ => False) (fun _ => none)
  simp only [Rep] at rp
  subst rp
  obtain rfl : u = Value.ref (M.fnA f) := rv
  refine ⟨fun pins s σ H Q I h => wpAny_Call_Name_kw (ld_glob I (g.gl_ hk) hm ?_ hd)⟩
  obtain ⟨ρ, O, st, s0, hr, h⟩ := h
  simp only [up, evS] at h
  exact cw_fn g tk co hf ha hkw I s0 hr .none h
theorem sndE_mk (co : CallOk M r) (mo : MOk M) {x : Str} {c f : Nat} {cd : ClsDef} {fd : FnDef} {args : List Expr} {kws : List Keyword} {es : List SE} {ks : List (Nat × SE)} {p pos : Pos} (hk : Γ.sc.names.lookup x = some .globalImplicit) (hg : Γ.gl x = some (.cls c)) (hc : M.P.clss[c]? = some cd) (hci : cd.init = some f) (hf : M.P.fns[f]? = some fd) (hi : fd.isInit = true)
    (hd : (x == ("__debug__" : Str)) = false) (ha : SndPs M r Γ args es) (hkw : SndKs M r Γ kws ks) : SndE M (up M.P r) Γ (.Call (.Name x p) args kws pos) (.mk c es ks) := fun X W g tk => by
  obtain ⟨u, v, hm, rv, rp⟩ := g.gl x _ hg
  have rp := rp [] (fun _ => False) (fun _ => none)
  simp only [Rep] at rp
  subst rp
  obtain rfl : u = Value.ref (M.clA c) := rv
  refine ⟨fun pins s σ H Q I h => wpAny_Call_Name_kw (ld_glob I (g.gl_ hk) hm ?_ hd)⟩
  obtain ⟨ρ, O, st, s0, hr, h⟩ := h
  simp only [up, evS] at h
  refine cw_keep g tk (by rw [g.K]; exact ((mo.cls c cd hc).make f hci).kp) ha hkw I s0 hr h fun ds zs st2 vs zvs us ws H2 O2 s2 l a1 a2 v1 v2 I2 h => ?_
  simp only [callD, hc, hci, hf, hi, if_true, List.nil_append] at h
  refine mk_call g co mo I2 l.rel (by rw [l.dep]; exact hr) hc hci hf hi (a1.giv l.rel fun e he => List.mem_append_left _ he) (a2.giv l.rel fun e he => List.mem_append_right _ he) (by rw [args_len a2]; simp) v1 v2 (lift_mono h fun p st' q v H' pe => q v H' (pe.later l))
/-- an instance as the callee -/
theorem cw_obj (g : Good M X Γ) (tk : Takes X W) (co : CallOk M r) (mo : MOk M) {c f : Nat} {ns : List Nat} {ds0 : List D} {cd : ClsDef} {se es : List SE} {v0 : V} {u0 : Value} {args : List Expr} {pins : List (Addr × Obj)} {s : Shared} {pos : Pos} {Q : VK}
    (hc : M.P.clss[c]? = some cd) (hcl : cd.meths.lookup M.P.nCall = some f) (ha : SndPs M r Γ args es) (I : Inv X pins σ H s) (s0 : SRel M ρ O st σ H) (hr : Room st.dep X.A) (rv : L2.RelV v0 u0) (hv : Rep M ρ O H (.ins c ns ds0) v0 ∨ ∃ so, se = [so] ∧ Arg1 M ρ O H st σ so (.ins c ns ds0) v0)
    (h : wpR (callT M.P r (.obj (.ins c ns ds0) f) se es [] st) (fun p st' => ∀ v H', PostE M ρ O st σ H p.1 p.2 st' v H' → Q v H') (Bx M W ρ O st σ H)) :
    wpAny (model X.prog X.w) X.A (callWith pos u0 [] (backTo pos (starEach args X.env)) (backToKw pos (keywordEach [] X.env))) (EP X pins σ Q) X.xe s := by
  have hv1 : Rep1 M ρ O H (.ins c ns ds0) v0 := by
    rcases hv with h | ⟨so, _, h⟩
    · exact .inl h
    · exact h.to1 s0
  obtain ⟨a, dx, fs, rfl, ha0, _⟩ := hv1.ins
  obtain rfl : u0 = Value.ref a := rv
  obtain ⟨fd, hf⟩ := (mo.cls c cd hc).mfn _ _ hcl
  have hco := (mo.cls c cd hc).callO f hcl
  rw [← g.K] at hco
  have fin : ∀ {ds st1 vs us H1 O1 s1}, Left M ρ O st σ H O1 st1 H1 → Args M ρ O1 H1 st1 σ es ds vs → Vals vs us → Inv X pins σ H1 s1 → wpR ((pks r [] st1).bind fun zs st => callD M.P r (.obj (.ins c ns ds0) f) (se ++ (es ++ [])) ds [] zs st) (fun p st' => ∀ v H', PostE M ρ O st σ H p.1 p.2 st' v H' → Q v H') (Bx M W ρ O st σ H) →
      (∃ C ox od, PySem.W.InstAt s1.heap a ox C od ∧ ox.data = .plain) ∧ wpAny (model X.prog X.w) X.A (call (.ref a) ([] ++ us)) (EP X pins σ Q) X.xe s1 := fun {ds st1 vs us H1 O1 s1} l a1 v1 I1 h => by
    have hv2 : Rep1 M ρ O1 H1 (.ins c ns ds0) (.ref a) := hv1.left l s0
    obtain ⟨a', dx', fs', e', ha1, _⟩ := hv2.ins
    cases e'
    have ic : StX.InsC X H1 a (M.clA c) := .inr ⟨dx', fs', ha1⟩
    obtain ⟨ox, od, J, hd⟩ := StX.insC_at I1 ic
    refine ⟨⟨_, ox, od, J, hd⟩, wpAny_call (PySem.W.kco_code I1.kIn J hd hco.at_ hco.fn hco.fi ?_)⟩
    have h : wpR (callD M.P r (.obj (.ins c ns ds0) f) (se ++ (es ++ [])) ds [] [] st1) _ _ := h
    simp only [callD, hf, List.isEmpty_nil, if_true] at h
    have m1 : ∀ e ∈ es, e ∈ se ++ (es ++ []) := fun e he => List.mem_append_right _ (List.mem_append_left _ he)
    have rv0 : Rep M ρ (Giv O1 st1 σ (se ++ (es ++ []))) H1 (.ins c ns ds0) (.ref a) := by
      rcases hv with hv | ⟨so, rfl, hv⟩
      · exact (hv.left l s0).mono (fun a h => h.1) (Kp.refl _ _)
      · exact (hv.left l s0).giv l.rel (List.mem_append_left _ List.mem_cons_self)
    have := fn_callC (us := .ref a :: us) (ws := []) (zvs := []) (ks := []) (zs := []) g co I1 l.rel (by rw [l.dep]; exact hr) hf (Reps.cons rv0 (a1.giv l.rel m1)) .nil rfl (.cons rfl v1) .nil (lift_mono h fun p st' q v H' pe => q v H' (pe.later l))
    exact this
  cases args with
  | nil =>
    cases ha
    refine StX.callO_of rfl (PySem.evalArgs_none (fin (ds := []) (vs := []) (us := []) (Left.refl s0) ⟨rfl, rfl⟩ .nil I h))
  | cons e args =>
    refine StX.callO_with ?_ (ha.star X.env) (by cases ha with | cons _ _ hr => exact hr.nostar pos X.env)
    refine thn ((ha.pa X W g tk).run pos pins s σ H (fun vs H1 => ∃ ds st1 O1, Left M ρ O st σ H O1 st1 H1 ∧ Args M ρ O1 H1 st1 σ es ds vs ∧ wpR ((pks r [] st1).bind fun zs st => callD M.P r (.obj (.ins c ns ds0) f) (se ++ (es ++ [])) ds [] zs st) (fun p st' => ∀ v H', PostE M ρ O st σ H p.1 p.2 st' v H' → Q v H') (Bx M W ρ O st σ H)) I ?_) fun us s1 ⟨vs, H1, I1, v1, ds, st1, O1, l1, a1, h⟩ => fin l1 a1 v1 I1 h
    exact ⟨ρ, O, st, s0, hr, h.bind.mono (fun ds st1 h vs H1 ⟨O1, l1, a1⟩ => ⟨ds, st1, O1, l1, a1, h⟩) fun _ _ x => x⟩
end
end TI

end

section
set_option Elab.async false
set_option linter.all false
set_option maxRecDepth 100000
set_option maxHeartbeats 1000000
/-! TI16: methods, values called, attributes. -/
namespace TI
open PySem L2 PySem.Spec PyProof.Rows
section
variable {M : Mt2} {ρ : List Addr} {O O' F : Addr → Prop} {H H' : Hp} {st st' : St} {σ : L2.St} {sto sto' : List D} {X : Cx} {W : WX} {r : Rec} {Γ : Gam}
theorem lookN_fs (mo : MOk M) {m : Nat} : ∀ {ns : List Nat} {ds : List D} {fs : List (Str × V)}, fs.map (·.1) = ns.map M.nm → Reps M ρ O H ds (fs.map (·.2)) →
    match lookN ns ds m with
    | some d => ∃ v, fs.lookup (M.nm m) = some v ∧ Rep M ρ O H d v
    | none => fs.lookup (M.nm m) = none
  | [], ds, fs, e, h => by
    cases fs with
    | nil => simp [lookN]
    | cons a b => simp at e
  | n :: ns, [], fs, e, h => by
    simp only [Reps] at h
    cases fs with
    | nil => simp at e
    | cons a b => simp at h
  | n :: ns, d :: ds, fs, e, h => by
    cases fs with
    | nil => simp at e
    | cons a b =>
      obtain ⟨x, v⟩ := a
      simp only [List.map_cons, List.cons.injEq] at e
      simp only [List.map_cons, Reps] at h
      obtain ⟨v', r', e2, h1, h2⟩ := h
      cases e2
      simp only [lookN]
      by_cases q : n = m
      · subst q
        rw [if_pos rfl]
        exact ⟨v, by simp [e.1], h1⟩
      · rw [if_neg q]
        have := lookN_fs mo (m := m) e.2 h2
        have hb : (M.nm m == x) = false := by
          rw [e.1, beq_eq_false_iff_ne]
          exact fun z => q (mo.inj _ _ z.symm)
        split at this
        · obtain ⟨w, h3, h4⟩ := this
          exact ⟨w, by simp [List.lookup, hb, h3], h4⟩
        · simpa [List.lookup, hb] using this
/-- a closure as the callee -/
theorem cw_clo (g : Good M X Γ) (tk : Takes X W) (co : CallOk M r) {l : Nat} {cs : List D} {se es : List SE} {v0 : V} {u0 : Value} {args : List Expr} {pins : List (Addr × Obj)} {s : Shared} {pos : Pos} {Q : VK}
    (hv : Rep M ρ O H (.clo l cs) v0) (ha : SndPs M r Γ args es) (I : Inv X pins σ H s) (s0 : SRel M ρ O st σ H) (hr : Room st.dep X.A) (rv : L2.RelV v0 u0)
    (h : wpR (callT M.P r (.clo l cs) se es [] st) (fun p st' => ∀ v H', PostE M ρ O st σ H p.1 p.2 st' v H' → Q v H') (Bx M W ρ O st σ H)) :
    wpAny (model X.prog X.w) X.A (callWith pos u0 [] (backTo pos (starEach args X.env)) (backToKw pos (keywordEach [] X.env))) (EP X pins σ Q) X.xe s := by
  have hv' := hv
  simp only [Rep] at hv'
  obtain ⟨f, ws, rfl, ca, _⟩ := hv'
  obtain rfl : u0 = Value.ref f := rv
  have fnat : ∀ {H1 s1 O1}, Inv X pins σ H1 s1 → Rep M ρ O1 H1 (.clo l cs) (.ref f) → PySem.W.FnAt f s1.heap := fun {H1 s1 O1} I1 hv => by
    simp only [Rep] at hv
    obtain ⟨f', ws, e, ⟨cl, pm, ctv, c', h1, _⟩, _⟩ := hv
    cases e
    obtain ⟨z, _, _⟩ := I1.hok f _ h1.2
    exact ⟨_, _, _, _, z⟩
  have fin : ∀ {ds st1 vs us H1 O1 s1}, Left M ρ O st σ H O1 st1 H1 → Args M ρ O1 H1 st1 σ es ds vs → Vals vs us → Inv X pins σ H1 s1 → wpR ((pks r [] st1).bind fun zs st => callD M.P r (.clo l cs) (se ++ (es ++ [])) ds [] zs st) (fun p st' => ∀ v H', PostE M ρ O st σ H p.1 p.2 st' v H' → Q v H') (Bx M W ρ O st σ H) →
      PySem.W.FnAt f s1.heap ∧ wpAny (model X.prog X.w) X.A (call (.ref f) ([] ++ us)) (EP X pins σ Q) X.xe s1 := fun {ds st1 vs us H1 O1 s1} lf a1 v1 I1 h => by
    have hv2 := hv.left lf s0
    refine ⟨fnat I1 hv2, ?_⟩
    have h : wpR (callD M.P r (.clo l cs) (se ++ (es ++ [])) ds [] [] st1) _ _ := h
    simp only [callD, List.isEmpty_nil, if_true] at h
    unfold doLam at h
    split at h
    · exact h.elim
    rename_i k hk
    split at h
    · rename_i d fr sto' hcall
      have hz : sto' = [] := by
        cases sto' with
        | nil => rfl
        | cons a t => exact (co.nostoL hcall).elim
      subst hz
      have m1 : ∀ e ∈ es, e ∈ se ++ (es ++ []) := fun e he => List.mem_append_right _ (List.mem_append_left _ he)
      have so := lf.rel.so.mono (fun a (h : Giv O1 st1 σ (se ++ (es ++ [])) a) => h.1) (giv_rho lf.rel)
      have hr1 : Room (k + 1) X.A := by
        have hk : st1.dep = k + 1 := hk
        rw [← hk, lf.dep]; exact hr
      have e0 := I1.env0
      rw [g.prog, g.w, g.K, g.mg, g.base] at e0
      have run := co.lam l k X.A X.stack s1 H1 ρ (Giv O1 st1 σ (se ++ (es ++ []))) f us vs ds cs d fr Q hr1 e0 v1 (hv2.mono (fun a h => h.1) (Kp.refl _ _)) (a1.giv lf.rel m1) so.nil hcall fun v H' p => (h.ok v H' ((after_ok (pen := false) lf.rel p).later lf))
      rw [← g.prog, ← g.w] at run
      refine wpAny_call (codeAny_mono run fun r s' hq => ?_)
      cases r with
      | error e => exact (show False from hq).elim
      | ok fl =>
        cases fl with
        | ret u => exact I1.after hq
        | next => exact False.elim hq
        | brk => exact False.elim hq
        | cont => exact False.elim hq
    · exact h.elim
  cases args with
  | nil =>
    cases ha
    obtain ⟨q1, q2⟩ := fin (ds := []) (vs := []) (us := []) (Left.refl s0) ⟨rfl, rfl⟩ .nil I h
    exact PySem.W.callWith_F0 q1 q2
  | cons e args =>
    refine PySem.W.callWith_F (fnat I hv) ?_ (ha.star X.env) (by cases ha with | cons _ _ hr => exact hr.nostar pos X.env)
    refine thn ((ha.pa X W g tk).run pos pins s σ H (fun vs H1 => ∃ ds st1 O1, Left M ρ O st σ H O1 st1 H1 ∧ Args M ρ O1 H1 st1 σ es ds vs ∧ wpR ((pks r [] st1).bind fun zs st => callD M.P r (.clo l cs) (se ++ (es ++ [])) ds [] zs st) (fun p st' => ∀ v H', PostE M ρ O st σ H p.1 p.2 st' v H' → Q v H') (Bx M W ρ O st σ H)) I ?_) fun us s1 ⟨vs, H1, I1, v1, ds, st1, O1, l1, a1, h⟩ => fin l1 a1 v1 I1 h
    exact ⟨ρ, O, st, s0, hr, h.bind.mono (fun ds st1 h vs H1 ⟨O1, l1, a1⟩ => ⟨ds, st1, O1, l1, a1, h⟩) fun _ _ x => x⟩
/-- a value as the callee -/
theorem cw_val (g : Good M X Γ) (tk : Takes X W) (co : CallOk M r) (mo : MOk M) {d0 : D} {t : Tgt} {se es : List SE} {v0 : V} {u0 : Value} {args : List Expr} {pins : List (Addr × Obj)} {s : Shared} {pos : Pos} {Q : VK}
    (ht : tgtOf M.P d0 = some t) (ha : SndPs M r Γ args es) (I : Inv X pins σ H s) (s0 : SRel M ρ O st σ H) (hr : Room st.dep X.A) (rv : L2.RelV v0 u0) (hv : Rep M ρ O H d0 v0 ∨ ∃ so, se = [so] ∧ Arg1 M ρ O H st σ so d0 v0)
    (h : wpR (callT M.P r t se es [] st) (fun p st' => ∀ v H', PostE M ρ O st σ H p.1 p.2 st' v H' → Q v H') (Bx M W ρ O st σ H)) :
    wpAny (model X.prog X.w) X.A (callWith pos u0 [] (backTo pos (starEach args X.env)) (backToKw pos (keywordEach [] X.env))) (EP X pins σ Q) X.xe s := by
  have hv1 : Rep1 M ρ O H d0 v0 := by
    rcases hv with h | ⟨so, _, h⟩
    · exact .inl h
    · exact h.to1 s0
  cases d0 with
  | fn f =>
    simp only [tgtOf] at ht
    obtain ⟨fd, hf, rfl⟩ := Option.map_eq_some_iff.mp ht
    have := hv1.plain rfl
    simp only [Rep] at this
    subst this
    obtain rfl : u0 = Value.ref (M.fnA f) := rv
    exact cw_fn g tk co hf ha .nil I s0 hr .none h
  | ins c ns ds =>
    simp only [tgtOf] at ht
    obtain ⟨cd, hc, ht⟩ := Option.bind_eq_some_iff.mp ht
    obtain ⟨f, hcl, rfl⟩ := Option.map_eq_some_iff.mp ht
    exact cw_obj g tk co mo hc hcl ha I s0 hr rv hv h
  | clo l cs =>
    have hrep := hv1.plain rfl
    simp only [tgtOf, Option.some.injEq] at ht
    subst ht
    exact cw_clo g tk co hrep ha I s0 hr rv h
  | _ => simp [tgtOf] at ht
def NotAttr : Expr → Bool
  | .Attribute _ _ _ => false
  | _ => true
theorem call_eval {fe : Expr} (hn : NotAttr fe = true) (args : List Expr) (kws : List Keyword) (pos : Pos) (env : Env) : eval (.Call fe args kws pos) env = (do callWith pos (← eval fe env) [] (backTo pos (starEach args env)) (backToKw pos (keywordEach kws env))) := by
  cases fe <;> first | rfl | (simp [NotAttr] at hn)
theorem sndE_callV (co : CallOk M r) (mo : MOk M) {fe : Expr} {sf : SE} {args : List Expr} {es : List SE} {pos : Pos} (hf : SndP M r Γ fe sf) (hn : NotAttr fe = true) (ha : SndPs M r Γ args es) : SndE M (up M.P r) Γ (.Call fe args [] pos) (.callV sf es) := fun X W g tk => by
  refine ⟨fun pins s σ H Q I h => ?_⟩
  rw [call_eval hn]
  obtain ⟨ρ, O, st, s0, hr, h⟩ := h
  simp only [up, evS] at h
  refine wpAny_bind (thn ((hf X W g tk).run pins s σ H (fun v H1 => ∃ d st1 O1, Left M ρ O st σ H O1 st1 H1 ∧ Arg1 M ρ O1 H1 st1 σ sf d v ∧ wpR (lift (tgtOf M.P d) st1 fun t => callT M.P r t [sf] es [] st1) (fun p st' => ∀ v H', PostE M ρ O st σ H p.1 p.2 st' v H' → Q v H') (Bx M W ρ O st σ H)) I ?_) fun u s1 ⟨v, H1, I1, rv, d, st1, O1, l, a1, h⟩ => ?_)
  · exact ⟨ρ, O, st, s0, hr, h.bind.mono (fun d st1 h v H1 ⟨O1, l, _, a1⟩ => ⟨d, st1, O1, l, a1, h⟩) fun _ _ x => x⟩
  · obtain ⟨t, ht, h⟩ := h.lift
    refine cw_val g tk co mo ht ha I1 l.rel (by rw [l.dep]; exact hr) rv (.inr ⟨sf, rfl, a1⟩) (h.mono (fun p st' q v H' pe => q v H' (pe.later l)) fun _ _ x => x.later l)
theorem form_ok {args : List Expr} {kws : List Keyword} {es : List SE} {ks : List (Nat × SE)} (ha : SndPs M r Γ args es) (hkw : SndKs M r Γ kws ks) (hl : args.length + kws.length < 29) (pos : Pos) (env : Env) : methodCallForm (args.length + kws.length) (backTo pos (starEach args env)) (backToKw pos (keywordEach kws env)) = true := by
  unfold methodCallForm
  have h1 := ha.nostar pos env
  obtain ⟨w1, _, _⟩ := hkw.words pos env
  rw [w1]
  have h2 : (backTo pos (starEach args env)).all (!·.1) = true := by
    rw [List.all_eq_true]
    rw [List.any_eq_false] at h1
    intro x hx
    have := h1 x hx
    simpa using this
  rw [h2]
  simp only [Bool.true_and, decide_eq_true_eq]
  split <;> omega
theorem meth_eval {o : Expr} {m : Str} {apos pos : Pos} {args : List Expr} {kws : List Keyword} {es : List SE} {ks : List (Nat × SE)} (ha : SndPs M r Γ args es) (hkw : SndKs M r Γ kws ks) (hl : args.length + kws.length < 29) (hb : NoSup o = true) (hli : (apos.endLine == pos.line) = true) (env : Env) :
    eval (.Call (.Attribute o m apos) args kws pos) env = (do
      let ov ← eval o env
      standAt apos.atName
      let (f, first) ← holding [ov] (getMethod ov m (plainOf o env))
      callWith pos f first (backTo pos (starEach args env)) (backToKw pos (keywordEach kws env))) := by
  rw [arm_eval_Call, base_of hb]
  have e : ∀ ov, methodCall o m apos pos env ov (args.length + kws.length) (backTo pos (starEach args env)) (backToKw pos (keywordEach kws env)) = _ := fun ov => mcall_line (form_ok ha hkw hl pos env) hli
  simp only [e]
theorem sndE_mth (co : CallOk M r) (mo : MOk M) {o : Expr} {so : SE} {x : Str} {m : Nat} {apos pos : Pos} {args : List Expr} {kws : List Keyword} {es : List SE} {ks : List (Nat × SE)} (hx : M.nm m = x) (ho : SndP M r Γ o so) (ha : SndPs M r Γ args es) (hkw : SndKs M r Γ kws ks) (hl : args.length + kws.length < 29)
    (hb : NoSup o = true) (hli : (apos.endLine == pos.line) = true) : SndE M (up M.P r) Γ (.Call (.Attribute o x apos) args kws pos) (.mth so m es ks) := fun X W g tk => by
  subst hx
  refine ⟨fun pins s σ H Q I h => ?_⟩
  obtain ⟨ρ, O, st, s0, hr, h⟩ := h
  simp only [up, evS] at h
  refine PySem.W.methodCall_KW (pl := plainOf o X.env) (thn ((ho X W g tk).run pins s σ H (fun v H1 => ∃ d st1 O1, Left M ρ O st σ H O1 st1 H1 ∧ Arg1 M ρ O1 H1 st1 σ so d v ∧ wpR (lift (resolve M.P d m ks.isEmpty) st1 fun t => callT M.P r t [so] es ks st1) (fun p st' => ∀ v H', PostE M ρ O st σ H p.1 p.2 st' v H' → Q v H') (Bx M W ρ O st σ H)) I ?_) fun u s1 ⟨v, H1, I1, rv, d, st1, O1, l, a1, h⟩ => ?_) (meth_eval ha hkw hl hb hli X.env)
  · exact ⟨ρ, O, st, s0, hr, h.bind.mono (fun d st1 h v H1 ⟨O1, l, _, a1⟩ => ⟨d, st1, O1, l, a1, h⟩) fun _ _ x => x⟩
  obtain ⟨t, ht, h⟩ := h.lift
  have h' := h.mono (q := fun p st' => ∀ v H', PostE M ρ O1 st1 σ H1 p.1 p.2 st' v H' → Q v H') (ey := Bx M W ρ O1 st1 σ H1) (fun p st' q v H' pe => q v H' (pe.later l)) fun _ _ x => x.later l
  have hr1 : Room st1.dep X.A := by rw [l.dep]; exact hr
  unfold resolve at ht
  split at ht
  · rename_i c ns ds
    obtain ⟨cd, hc, ht2⟩ := Option.bind_eq_some_iff.mp ht
    clear ht
    have ok := mo.cls c cd hc
    obtain ⟨a, dx, fs, rfl, ha1, hfs, rs⟩ := (a1.to1 l.rel).ins
    obtain rfl : u = Value.ref a := rv
    have hlk := lookN_fs mo (m := m) hfs rs
    split at ht2
    · rename_i w hw
      rw [hw] at hlk
      obtain ⟨vw, hl1, hrep⟩ := hlk
      split at ht2
      · rename_i hfl
        refine getmeth_fld I1 ha1 (by rw [g.K]; exact ok.cl) (by rw [g.K]; exact ok.atts m (by simp only [Bool.and_eq_true] at hfl; simpa using hfl.1)) hl1 fun u s' I' ru => ?_
        cases ks with
        | nil =>
          cases hkw
          exact cw_val g tk co mo ht2 ha I' l.rel hr1 ru (.inl hrep) h'
        | cons k ks => simp at hfl
      · cases ht2
    · rename_i hw
      rw [hw] at hlk
      obtain ⟨f, hf, rfl⟩ := Option.map_eq_some_iff.mp ht2
      obtain ⟨fd, hfd⟩ := ok.mfn m f hf
      refine getmeth_ok I1 ha1 (by rw [g.K]; exact ok.cl) (by rw [g.K]; exact ok.meth m f hf) hlk ?_
      exact cw_fn g tk co hfd ha hkw I1 l.rel hr1 (.some (v := .ref a) rfl a1) h'
  · cases ht
/-! ### attributes -/
theorem SRel.depth (s : SRel M ρ O st σ H) (k : Nat) : SRel M ρ O { st with dep := k } σ H := ⟨s.so, s.len, s.slot, s.inj⟩
theorem PostE.depth {d : D} {fr : Bool} {v : V} {k : Nat} {s' : St} (h : PostE M ρ O { st with dep := k } σ H d fr s' v H') : PostE M ρ O st σ H d fr { s' with dep := st.dep } v H' := by
  obtain ⟨O', l, h1, h2⟩ := h
  refine ⟨O', ⟨l.sub, l.ext, l.slen, rfl, l.rel.depth _, l.env, l.lo, l.low⟩, h1, fun z => ?_⟩
  obtain ⟨a, q1, q2, q3, q4, q5⟩ := h2 z
  exact ⟨a, q1, q2, q3, q4.depth _, q5⟩
theorem sndE_att (co : CallOk M r) (mo : MOk M) {o : Expr} {so : SE} {x : Str} {f : Nat} {pos : Pos} (hx : M.nm f = x) (ho : SndP M r Γ o so) (hb : NoSup o = true) : SndE M (up M.P r) Γ (.Attribute o x pos) (.att so f) := fun X W g tk => by
  subst hx
  refine ⟨fun pins s σ H Q I h => ?_⟩
  obtain ⟨ρ, O, st, s0, hr, h⟩ := h
  simp only [up, evS] at h
  refine attr_of (base_of hb _ _ _) (thn ((ho X W g tk).run pins s σ H (fun v H1 => ∃ d st1 O1, Left M ρ O st σ H O1 st1 H1 ∧ Arg1 M ρ O1 H1 st1 σ so d v ∧ wpR (getAtt M.P r d so f st1) (fun p st' => ∀ v H', PostE M ρ O st σ H p.1 p.2 st' v H' → Q v H') (Bx M W ρ O st σ H)) I ?_) fun u s1 ⟨v, H1, I1, rv, d, st1, O1, l, a1, h⟩ => ?_)
  · exact ⟨ρ, O, st, s0, hr, h.bind.mono (fun d st1 h v H1 ⟨O1, l, _, a1⟩ => ⟨d, st1, O1, l, a1, h⟩) fun _ _ x => x⟩
  have hr1 : Room st1.dep X.A := by rw [l.dep]; exact hr
  unfold getAtt at h
  split at h
  · rename_i c ns ds
    split at h
    · exact h.elim
    rename_i cd hc
    have ok := mo.cls c cd hc
    obtain ⟨a, dx, fs, rfl, ha1, hfs, rs⟩ := (a1.to1 l.rel).ins
    obtain rfl : u = Value.ref a := rv
    have hlk := lookN_fs mo (m := f) hfs rs
    have hcl : Cls X.K (M.clA c) := by rw [g.K]; exact ok.cl
    split at h
    · rename_i hfl
      obtain ⟨w, hw, h⟩ := h.lift
      rw [hw] at hlk
      obtain ⟨vw, hl1, hrep⟩ := hlk
      exact getattr_ok I1 ha1 hcl (by rw [g.K]; exact ok.atts f (by simpa using hfl)) hl1 fun u' s2 I2 ru => ⟨vw, H1, I2, ru, h.ok _ _ (PostE.plain l hrep)⟩
    · split at h
      · exact h.elim
      rename_i hnone
      have hl0 : fs.lookup (M.nm f) = none := by
        cases q : lookN ns ds f with
        | none => rw [q] at hlk; exact hlk
        | some w => rw [q] at hnone; simp at hnone
      split at h
      · rename_i gf hp
        split at h
        · exact h.elim
        rename_i fd hfd
        split at h
        · rename_i k hsh hk
          obtain ⟨p, hpo⟩ := ok.prop f gf hp
          have ff := co.fact gf fd hfd
          have hm : ∃ sh ∈ fd.shapes, sh.1 = 1 ∧ sh.2.1 = [] ∧ sh.2.2 = [.pos 0] := by
            unfold shapeOf at hsh
            obtain ⟨sh, h3, h5⟩ := Option.map_eq_some_iff.mp hsh
            have h4 := List.find?_some h3
            simp only [Bool.and_eq_true, beq_iff_eq] at h4
            exact ⟨sh, List.mem_of_find?_eq_some h3, h4.1, h4.2, h5⟩
          obtain ⟨sh, m1, m2, m3, m4⟩ := hm
          unfold doCall at h
          rw [hfd] at h
          simp only at h
          split at h
          · exact h.elim
          rename_i hi
          have hi : fd.isInit = false := by simpa using hi
          split at h
          · exact h.elim
          rename_i k'
          split at h
          · rename_i d' fr sto' hcall
            have hnp : fd.np = 1 := by
              have := ff.shl sh m1
              rw [hi, m4] at this
              simpa using this.symm
            have hbi : L2.Binds X.K (M.fdat gf) (M.pn gf) [] := fun s us hin hlen => by
              have hl1 : us.length = 1 := by
                rw [List.append_nil, ff.len, hnp] at hlen; exact hlen
              obtain ⟨bs, b1, b2⟩ := ff.bnd hi sh m1 s us [] (by rw [← g.K]; exact hin) (by rw [hl1, m2]) (by rw [m3]; rfl)
              rw [m4] at b1
              rw [m3] at b2
              match us, hl1 with
              | [u1], _ =>
                simp [selB] at b1
                subst b1
                exact b2
            have hk2 : st1.dep = k' + 2 := hk
            refine getprop_ok (CX := CXN) (E := EN) I1 ha1 hcl (by rw [g.K]; exact hpo) (fnok_at g (co.fn gf fd k' hfd hi)) (by rw [hk2] at hr1; exact hr1) hbi .nil (fun _ _ _ _ _ _ _ h => h.elim) ?_
            have s1' := l.rel.depth (k' + 1)
            refine ⟨ρ, Giv O1 st1 σ [so], _, [.ins c ns ds], d', fr, sto', fd, hfd, by rw [hnp]; rfl, hcall, ?_, .one (a1.giv l.rel List.mem_cons_self), fun v H' p => ?_⟩
            · have so' := l.rel.so.mono (fun a (h : Giv O1 st1 σ [so] a) => h.1) (giv_rho l.rel)
              split
              · exact so'
              · exact so'.nil
            · exact wpR.ok h v H' (((after_ok (es := [so]) s1' p).depth).later l)
          · exact h.elim
        · exact h.elim
      · obtain ⟨w, hw, h⟩ := h.lift
        obtain ⟨vw, uw, hcon, hrep⟩ := ok.con f w hw
        exact getcon_ok I1 ha1 hcl (by rw [g.K]; exact hcon) hl0 fun s2 I2 => ⟨vw, H1, I2, hcon.rel, h.ok _ _ (PostE.plain l (hrep _ _ _))⟩
  · exact h.elim
end
end TI

end

section
set_option Elab.async false
set_option linter.all false
set_option maxRecDepth 100000
set_option maxHeartbeats 1000000
/-! TI17: targets, and what is walked. -/
namespace TI
open PySem L2 PySem.Spec PyProof.Rows
mutual
def slotsOf : ST → List Nat
  | .nm i => [i]
  | .tp ts => slotsOfs ts
def slotsOfs : List ST → List Nat
  | [] => []
  | t :: ts => slotsOf t ++ slotsOfs ts
end
mutual
inductive TgOk (Γ : Gam) : Expr → ST → Prop where
  | nm {x : Str} {i : Nat} {pos : Pos} : Γ.N[i]? = some x → Loc Γ.sc x → (Γ.fc x = true ∨ Γ.sc.names.lookup x = some .local) → TgOk Γ (.Name x pos) (.nm i)
  | tp {es : List Expr} {ts : List ST} {k : Nat} {pos : Pos} : TgsOk Γ es ts → TgOk Γ (.Tuple es k pos) (.tp ts)
inductive TgsOk (Γ : Gam) : List Expr → List ST → Prop where
  | nil : TgsOk Γ [] []
  | cons {e : Expr} {es : List Expr} {t : ST} {ts : List ST} : TgOk Γ e t → TgsOk Γ es ts → TgsOk Γ (e :: es) (t :: ts)
end
section
variable {M : Mt2} {ρ : List Addr} {O O' F : Addr → Prop} {H H' : Hp} {st st' : St} {σ σ' : L2.St} {sto sto' : List D} {X : Cx} {W : WX} {r : Rec} {Γ : Gam}
structure AsgOk (ts : List Nat) (st : St) (σ : L2.St) (st' : St) (σ' : L2.St) : Prop where
  sto : st'.sto = st.sto
  dep : st'.dep = st.dep
  lo : st'.lo = st.lo
  len : σ'.length = σ.length
  at_ : ∀ i : Nat, (st'.env[i]? = st.env[i]? ∧ σ'[i]? = σ[i]?) ∨ ((i ∈ ts ∧ st.lo ≤ i) ∧ ∃ d, st'.env[i]? = some (some (false, d)))
theorem AsgOk.refl {ts : List Nat} : AsgOk ts st σ st σ := ⟨rfl, rfl, rfl, rfl, fun _ => .inl ⟨rfl, rfl⟩⟩
theorem AsgOk.trans {a b : List Nat} {st1 st2 : St} {σ1 σ2 : L2.St} (h : AsgOk a st σ st1 σ1) (g : AsgOk b st1 σ1 st2 σ2) : AsgOk (a ++ b) st σ st2 σ2 := by
  refine ⟨g.sto.trans h.sto, g.dep.trans h.dep, g.lo.trans h.lo, g.len.trans h.len, fun i => ?_⟩
  rcases g.at_ i with ⟨g1, g2⟩ | ⟨g1, g2⟩
  · rcases h.at_ i with ⟨h1, h2⟩ | ⟨h1, d, h2⟩
    · exact .inl ⟨g1.trans h1, g2.trans h2⟩
    · exact .inr ⟨⟨List.mem_append_left _ h1.1, h1.2⟩, d, g1.trans h2⟩
  · exact .inr ⟨⟨List.mem_append_right _ g1.1, by rw [← h.lo]; exact g1.2⟩, g2⟩
def gT (M : Mt2) (t : ST) : TG := fun v σ H Q => ∃ ρ O st d st', SRel M ρ O st σ H ∧ Rep M ρ O H d v ∧ asg t d false st = some st' ∧ ∀ σ', SRel M ρ O st' σ' H → AsgOk (slotsOf t) st σ st' σ' → Q σ' H
def gTs (M : Mt2) (ts : List ST) : TGs := fun vs σ H Q => ∃ ρ O st ds st', SRel M ρ O st σ H ∧ Reps M ρ O H ds vs ∧ asgs ts ds st = some st' ∧ ∀ σ', SRel M ρ O st' σ' H → AsgOk (slotsOfs ts) st σ st' σ' → Q σ' H
theorem _root_.L2.PG.or {X : Cx} {tg : Expr} {g g' : TG} (h : PG X tg g) (h' : PG X tg g') : PG X tg (fun v σ H Q => g v σ H Q ∨ g' v σ H Q) := ⟨fun pins s σ H v u Q I r q => q.elim (h.run pins s σ H v u Q I r) (h'.run pins s σ H v u Q I r)⟩
theorem _root_.L2.PG.imp {X : Cx} {tg : Expr} {g g' : TG} (h : PG X tg g) (i : ∀ v σ H Q, g' v σ H Q → g v σ H Q) : PG X tg g' := ⟨fun pins s σ H v u Q I r q => h.run pins s σ H v u Q I r (i v σ H Q q)⟩
theorem _root_.L2.PGs.imp {X : Cx} {tg : List Expr} {g g' : TGs} (h : PGs X tg g) (i : ∀ v σ H Q, g' v σ H Q → g v σ H Q) : PGs X tg g' := ⟨fun pins s σ H v u Q I r q => h.run pins s σ H v u Q I r (i v σ H Q q)⟩
theorem tg_each {e : Expr} {t : ST} (h : TgOk Γ e t) (es : List Expr) (env : Env) : assignEach (e :: es) env = (false, assign e env) :: assignEach es env := by
  cases h <;> rfl
theorem tgs_len {es : List Expr} {ts : List ST} (h : TgsOk Γ es ts) (env : Env) : (assignEach es env).length = ts.length ∧ (assignEach es env).findIdx? (·.1) = none := by
  induction es generalizing ts with
  | nil => cases h; exact ⟨rfl, rfl⟩
  | cons e es ih =>
    cases h with
    | cons h1 h2 =>
      obtain ⟨q1, q2⟩ := ih h2
      rw [tg_each h1]
      refine ⟨by simp [q1], ?_⟩
      simp only [List.findIdx?_cons]
      simp [q2]
theorem asgs_len : ∀ {ts : List ST} {ds : List D} {st st' : St}, asgs ts ds st = some st' → ds.length = ts.length
  | [], [], _, _, _ => rfl
  | [], _ :: _, _, _, h => by simp [asgs] at h
  | _ :: _, [], _, _, h => by simp [asgs] at h
  | t :: ts, d :: ds, st, st', h => by
    simp only [asgs] at h
    obtain ⟨st1, _, h⟩ := Option.bind_eq_some_iff.mp h
    simp [asgs_len h]
theorem set_asgOk {i : Nat} {d : D} {v : V} (hlo : st.lo ≤ i) (hl : i < st.env.length) (h : st.env.length = σ.length) : AsgOk [i] st σ (setv st i false d) (σ.set i (some v)) := by
  refine ⟨rfl, rfl, rfl, by simp, fun j => ?_⟩
  by_cases e : i = j
  · subst e
    exact .inr ⟨⟨by simp, hlo⟩, d, by simp [setv, List.getElem?_set_self hl]⟩
  · exact .inl ⟨by simp [setv, List.getElem?_set_ne e], by simp [List.getElem?_set_ne e]⟩
mutual
theorem TgOk.pg (g : Good M X Γ) : ∀ {e : Expr} {t : ST}, TgOk Γ e t → PG X e (gT M t)
  | _, .nm i, .nm h1 h2 h3 => by
    refine (pg_name (X := X) g.nd (by rw [g.N]; exact h1) (by rw [g.sc]; exact h2) (h3.imp (g.fn _) (by rw [g.sc]; exact id))).imp fun v σ H Q h => ?_
    obtain ⟨ρ, O, st, d, st', s, rv, ha, q⟩ := h
    simp only [asg] at ha
    split at ha
    · rename_i hl
      cases ha
      exact q _ (s.setv (own := false) ⟨fun _ => rv, fun z => by cases z⟩ fun z => by cases z) (set_asgOk hl.1 hl.2 s.len)
    · cases ha
  | _, .tp ts, .tp hs => by
    have p := TgsOk.pgs g hs
    have hl := tgs_len hs X.env
    refine ((pg_tup g.calm p hl.1 hl.2).or (pg_unl g.calm p hl.1 hl.2)).imp fun v σ H Q h => ?_
    obtain ⟨ρ, O, st, d, st', s, rv, ha, q⟩ := h
    simp only [asg] at ha
    split at ha
    · obtain ⟨a, vs, rfl, hp, rs⟩ := (show Rep1 M ρ O H _ v from .inl rv).tup
      exact .inl ⟨a, vs, rfl, SqT.of hp, by rw [← rs.length, asgs_len ha], ρ, O, st, _, st', s, rs, ha, q⟩
    · obtain ⟨a, vs, rfl, hp, rs⟩ := (show Rep1 M ρ O H _ v from .inl rv).lst
      exact .inr ⟨a, vs, rfl, SqL.of hp, by rw [← rs.length, asgs_len ha], ρ, O, st, _, st', s, rs, ha, q⟩
    · cases ha
theorem TgsOk.pgs (g : Good M X Γ) : ∀ {es : List Expr} {ts : List ST}, TgsOk Γ es ts → PGs X es (gTs M ts)
  | _, [], .nil => by
    refine pgs_nil.imp fun vs σ H Q h => ?_
    obtain ⟨ρ, O, st, ds, st', s, rv, ha, q⟩ := h
    cases ds with
    | nil =>
      simp only [asgs] at ha
      cases ha
      simp only [Reps] at rv
      exact ⟨rv, q _ s AsgOk.refl⟩
    | cons a b => simp [asgs] at ha
  | _, t :: ts, .cons h1 h2 => by
    refine (pgs_cons (TgOk.pg g h1) (TgsOk.pgs g h2) (by rw [tg_each h1]; rfl)).imp fun vs σ H Q h => ?_
    obtain ⟨ρ, O, st, ds, st', s, rv, ha, q⟩ := h
    cases ds with
    | nil => simp [asgs] at ha
    | cons d ds =>
      simp only [asgs] at ha
      obtain ⟨st1, ha1, ha2⟩ := Option.bind_eq_some_iff.mp ha
      simp only [Reps] at rv
      obtain ⟨v, w, rfl, r1, r2⟩ := rv
      exact ⟨v, w, rfl, ρ, O, st, d, st1, s, r1, ha1, fun σ1 s1 a1 => ⟨ρ, O, st1, ds, st', s1, r2, ha2, fun σ2 s2 a2 => q σ2 s2 (a1.trans a2)⟩⟩
end
end
end TI

end

section
set_option Elab.async false
set_option linter.all false
set_option maxRecDepth 100000
set_option maxHeartbeats 1000000
/-! TI18: what is walked. -/
namespace TI
open PySem L2 PySem.Spec PyProof.Rows
/-- a later moment: what was not the frame's own stands, what is the frame's own was so, or is new -/
structure Later (O1 : Addr → Prop) (H1 : Hp) (O : Addr → Prop) (H : Hp) : Prop where
  keep : ∀ b u, ¬ O1 b → notTbl u → H1 b = some u → H b = some u
  grow : ∀ a, O a → O1 a ∨ H1 a = none
  trk : ∀ a, O a → ∃ o, H a = some o
  dom : ∀ b, H b = none → H1 b = none
structure IterOk (M : Mt2) (ρ : List Addr) (O1 : Addr → Prop) (H1 : Hp) (ds : List D) (J : It) : Prop where
  go : ∀ i O H, i < ds.length → Later O1 H1 O H → J.go i H
  stop : ∀ O H, Later O1 H1 O H → J.stop ds.length H
  yld : ∀ i O H x H', i < ds.length → Later O1 H1 O H → J.yld i H x H' → Ext M (fun _ => False) H H' ∧ ∃ d, ds[i]? = some d ∧ Rep M ρ O H' d x
section
variable {M : Mt2} {ρ : List Addr} {O O1 O' F : Addr → Prop} {H H1 H' : Hp} {st st' : St} {σ σ' : L2.St} {sto sto' : List D} {X : Cx} {W : WX} {r : Rec} {Γ : Gam}
theorem Later.kp (l : Later O1 H1 O H) : Kp (fun a => O1 a ∨ H1 a = none) H1 H := by
  have n : ∀ {a}, ¬ (O1 a ∨ H1 a = none) → ¬ O1 a := fun h z => h (.inl z)
  refine ⟨fun a u h t q => ?_, fun a vs h q => l.keep a _ (n h) trivial q, fun a vs h q => l.keep a _ (n h) trivial q, fun a C dx fs h q => l.keep a _ (n h) trivial q, fun a h q => l.keep a _ (n h) trivial q, fun a h q => l.keep a _ (n h) trivial q, fun a φ h q => l.keep a _ (n h) trivial q⟩
  rcases q with q | ⟨o, q⟩
  · exact .inl (l.keep a u (n h) t q)
  · exact .inr ⟨o, l.keep a _ (n h) trivial q⟩
theorem Later.rep (l : Later O1 H1 O H) {d : D} {v : V} (h : Rep M ρ O1 H1 d v) : Rep M ρ O H d v := (h.avoidS (O' := fun a => O1 a ∨ H1 a = none) fun _ z => z).mono l.grow l.kp
theorem Later.reps (l : Later O1 H1 O H) {d : List D} {v : List V} (h : Reps M ρ O1 H1 d v) : Reps M ρ O H d v := (h.avoidS (O' := fun a => O1 a ∨ H1 a = none) fun _ z => z).mono l.grow l.kp
theorem Rep.grow (e : Ext M (fun _ => False) H H') {d : D} {v : V} (h : Rep M ρ O H d v) : Rep M ρ O H' d v := h.ext e (fun _ z => z.elim) fun _ z => z
theorem Reps.grow (e : Ext M (fun _ => False) H H') {d : List D} {v : List V} (h : Reps M ρ O H d v) : Reps M ρ O H' d v := h.ext e (fun _ z => z.elim) fun _ z => z
/-- a new pair -/
theorem rep_pair (l : Later O1 H1 O H) {T : Addr} {x y : V} {a b : D} (hT : H T = none) (ra : Rep M ρ O H a x) (rb : Rep M ρ O H b y) : Ext M (fun _ => False) H (upd H T (.tup [x, y])) ∧ Rep M ρ O (upd H T (.tup [x, y])) (.tup [a, b]) (.ref T) := by
  have e : Ext M (fun _ => False) H (upd H T (.tup [x, y])) := Ext.new hT
  refine ⟨e, ?_⟩
  simp only [Rep]
  refine ⟨T, [x, y], rfl, ⟨fun z => ?_, upd_same⟩, .cons (ra.grow e) (.cons (rb.grow e) .nil)⟩
  obtain ⟨o, ho⟩ := l.trk T z
  rw [hT] at ho; cases ho
theorem iter_list {K : PySem.W.Frag} {a : Addr} {ds : List D} {vs : List V} (hn : ¬ O1 a) (ha : H1 a = some (.lst vs)) (rs : Reps M ρ O1 H1 ds vs) : IterOk M ρ O1 H1 ds (Itl K a) := by
  have w := walk_list (K := K) (a := a) (xs := vs)
  have q : ∀ {O H}, Later O1 H1 O H → SqL K H a vs := fun l => SqL.of (l.keep a _ hn trivial ha)
  have hl := rs.length
  refine ⟨fun i O H hi l => w.goes i H (by omega) (q l), fun O H l => by rw [hl]; exact w.stops H (q l), fun i O H x H' hi l y => ?_⟩
  obtain ⟨rfl, hx⟩ := w.yields i H x H' (by omega) (q l) y
  obtain ⟨v, g1, g2⟩ := (l.reps rs).get (i := i) (d := ds[i]) (by simp [hi])
  rw [hx] at g1; cases g1
  exact ⟨Ext.refl _ _, _, by simp [hi], g2⟩
theorem iter_tup {K : PySem.W.Frag} {a : Addr} {ds : List D} {vs : List V} (hn : ¬ O1 a) (ha : H1 a = some (.tup vs)) (rs : Reps M ρ O1 H1 ds vs) : IterOk M ρ O1 H1 ds (Itt K a) := by
  have w := walk_tup (K := K) (a := a) (xs := vs)
  have q : ∀ {O H}, Later O1 H1 O H → SqT K H a vs := fun l => SqT.of (l.keep a _ hn trivial ha)
  have hl := rs.length
  refine ⟨fun i O H hi l => w.goes i H (by omega) (q l), fun O H l => by rw [hl]; exact w.stops H (q l), fun i O H x H' hi l y => ?_⟩
  obtain ⟨rfl, hx⟩ := w.yields i H x H' (by omega) (q l) y
  obtain ⟨v, g1, g2⟩ := (l.reps rs).get (i := i) (d := ds[i]) (by simp [hi])
  rw [hx] at g1; cases g1
  exact ⟨Ext.refl _ _, _, by simp [hi], g2⟩
theorem iter_str {x : List Nat} : IterOk M ρ O1 H1 (x.map fun c => .str [c]) (Its ⟨x.toArray⟩) := by
  have w := walk_str (z := ⟨x.toArray⟩)
  have hs : (⟨x.toArray⟩ : Str).cps.size = x.length := by simp
  refine ⟨fun i O H hi l => w.goes i H (by rw [hs]; simpa using hi) trivial, fun O H l => by have := w.stops H trivial; rw [hs] at this; simpa using this, fun i O H v H' hi l y => ?_⟩
  obtain ⟨rfl, c, hc, rfl⟩ := w.yields i H v H' (by rw [hs]; simpa using hi) trivial y
  have hc : x[i]? = some c := by simpa using hc
  exact ⟨Ext.refl _ _, .str [c], by simp [hc], by simp [Rep]⟩
theorem iter_rng {lo : Int} {n : Nat} : IterOk M ρ O1 H1 ((List.range n).map fun (k : Nat) => .int (lo + (k : Int))) (Itr lo n) := by
  have w := walk_range (lo := lo) (n := n)
  refine ⟨fun i O H hi l => w.goes i H (by simpa using hi) trivial, fun O H l => by simpa using w.stops H trivial, fun i O H v H' hi l y => ?_⟩
  have hi : i < n := by simpa using hi
  obtain ⟨rfl, rfl⟩ := w.yields i H v H' hi trivial y
  exact ⟨Ext.refl _ _, .int (lo + i), by simp [hi], by simp [Rep]⟩
theorem iter_rngC {lo c : Int} {n : Nat} : IterOk M ρ O1 H1 ((List.range n).map fun (k : Nat) => .int (lo + (k : Int) * c)) (Itc lo c n) := by
  have w := walk_rangeC (lo := lo) (c := c) (n := n)
  refine ⟨fun i O H hi l => w.goes i H (by simpa using hi) trivial, fun O H l => by simpa using w.stops H trivial, fun i O H v H' hi l y => ?_⟩
  have hi : i < n := by simpa using hi
  obtain ⟨rfl, rfl⟩ := w.yields i H v H' hi trivial y
  exact ⟨Ext.refl _ _, .int (lo + i * c), by simp [hi], by simp [Rep]⟩
theorem iter_enum {K : PySem.W.Frag} {a : Addr} {ds : List D} {vs : List V} (hn : ¬ O1 a) (ha : H1 a = some (.lst vs)) (rs : Reps M ρ O1 H1 ds vs) : IterOk M ρ O1 H1 (ds.zipIdx.map fun q => .tup [.int q.2, q.1]) (Ite K a) := by
  have w := walk_enum (K := K) (a := a) (xs := vs)
  have q : ∀ {O H}, Later O1 H1 O H → SqL K H a vs := fun l => SqL.of (l.keep a _ hn trivial ha)
  have hl := rs.length
  have hlen : (ds.zipIdx.map fun q => (D.tup [.int q.2, q.1])).length = vs.length := by simp [hl]
  refine ⟨fun i O H hi l => w.goes i H (by omega) (q l), fun O H l => by rw [hlen]; exact w.stops H (q l), fun i O H x H' hi l y => ?_⟩
  obtain ⟨T, x0, y0, rfl, hT, rfl, e1, e2⟩ := w.yields i H x H' (by omega) (q l) y
  cases e1
  have e2 : vs[i]? = some y0 := e2
  have hi' : i < ds.length := by omega
  obtain ⟨v, g1, g2⟩ := (l.reps rs).get (i := i) (d := ds[i]) (by simp [hi'])
  rw [e2] at g1; cases g1
  obtain ⟨p1, p2⟩ := rep_pair l hT (a := .int i) (x := .int i) (by simp [Rep]) g2
  exact ⟨p1, _, by simp [hi'], p2⟩
theorem iter_zip {K : PySem.W.Frag} {a b : Addr} {ds es : List D} {vs ws : List V} (hn : ¬ O1 a) (hm : ¬ O1 b) (ha : H1 a = some (.lst vs)) (hb : H1 b = some (.lst ws)) (rs : Reps M ρ O1 H1 ds vs) (qs : Reps M ρ O1 H1 es ws) : IterOk M ρ O1 H1 ((ds.zip es).map fun q => .tup [q.1, q.2]) (Itz K a b) := by
  have hl := rs.length
  have hl2 := qs.length
  have w := walk_zip (K := K) (a := a) (b := b) (xs := vs) (ys := ws) rfl
  have q : ∀ {O H}, Later O1 H1 O H → SqL K H a vs ∧ SqL K H b ws := fun l => ⟨SqL.of (l.keep a _ hn trivial ha), SqL.of (l.keep b _ hm trivial hb)⟩
  have hlen : ((ds.zip es).map fun q => (D.tup [q.1, q.2])).length = min vs.length ws.length := by simp [hl, hl2]
  refine ⟨fun i O H hi l => w.goes i H (by omega) (q l), fun O H l => by rw [hlen]; exact w.stops H (q l), fun i O H x H' hi l y => ?_⟩
  obtain ⟨T, x0, y0, rfl, hT, rfl, e1, e2⟩ := w.yields i H x H' (by omega) (q l) y
  have e1 : vs[i]? = some x0 := e1
  have e2 : ws[i]? = some y0 := e2
  have h1 : i < ds.length := by omega
  have h2 : i < es.length := by omega
  obtain ⟨v, g1, g2⟩ := (l.reps rs).get (i := i) (d := ds[i]) (by simp [h1])
  rw [e1] at g1; cases g1
  obtain ⟨v', g3, g4⟩ := (l.reps qs).get (i := i) (d := es[i]) (by simp [h2])
  rw [e2] at g3; cases g3
  obtain ⟨p1, p2⟩ := rep_pair l hT g2 g4
  exact ⟨p1, _, by rw [List.getElem?_map, List.getElem?_eq_getElem (by simp; omega)]; simp, p2⟩
theorem iter_zipT {K : PySem.W.Frag} {a b : Addr} {ds es : List D} {vs ws : List V} (hn : ¬ O1 a) (hm : ¬ O1 b) (ha : H1 a = some (.tup vs)) (hb : H1 b = some (.tup ws)) (rs : Reps M ρ O1 H1 ds vs) (qs : Reps M ρ O1 H1 es ws) : IterOk M ρ O1 H1 ((ds.zip es).map fun q => .tup [q.1, q.2]) (RZ.ItzT K a b) := by
  have hl := rs.length
  have hl2 := qs.length
  have q : ∀ {O H}, Later O1 H1 O H → SqT K H a vs ∧ SqT K H b ws := fun l => ⟨SqT.of (l.keep a _ hn trivial ha), SqT.of (l.keep b _ hm trivial hb)⟩
  have hlen : ((ds.zip es).map fun q => (D.tup [q.1, q.2])).length = min vs.length ws.length := by simp [hl, hl2]
  refine ⟨fun i O H hi l => ⟨vs, ws, vs[i]'(by omega), ws[i]'(by omega), (q l).1, (q l).2, by simp, by simp⟩, fun O H l => ⟨vs, ws, (q l).1, (q l).2, by omega⟩, fun i O H x H' hi l y => ?_⟩
  obtain ⟨T, x0, y0, rfl, hT, rfl, e1, e2⟩ := y
  have e1 := e1 vs (q l).1
  have e2 := e2 ws (q l).2
  have h1 : i < ds.length := by omega
  have h2 : i < es.length := by omega
  obtain ⟨v, g1, g2⟩ := (l.reps rs).get (i := i) (d := ds[i]) (by simp [h1])
  rw [e1] at g1; cases g1
  obtain ⟨v', g3, g4⟩ := (l.reps qs).get (i := i) (d := es[i]) (by simp [h2])
  rw [e2] at g3; cases g3
  obtain ⟨p1, p2⟩ := rep_pair l hT g2 g4
  exact ⟨p1, _, by rw [List.getElem?_map, List.getElem?_eq_getElem (by simp; omega)]; simp, p2⟩
/-! ### the readings -/
def tI (M : Mt2) (X : Cx) (W : WX) (r : Rec) (si : SI) : TI := fun σ H R => ∃ ρ O st, SRel M ρ O st σ H ∧ Room st.dep X.A ∧ wpR (iterS r si st) (fun ds st' => ∀ J H' O', Left M ρ O st σ H O' st' H' → IterOk M ρ O' H' ds J → R J H') (Bx M W ρ O st σ H)
def SndI (M : Mt2) (r : Rec) (Γ : Gam) (tg iter : Expr) (si : SI) : Prop := ∀ X W, Good M X Γ → Takes X W → PI X tg iter (tI M X W r si)
theorem _root_.L2.PI.imp {X : Cx} {tg e : Expr} {t t' : TI} (h : PI X tg e t) (i : ∀ σ H R, t' σ H R → t σ H R) : PI X tg e t' := ⟨fun pins s σ H R I hw => h.run pins s σ H R I (i σ H R hw)⟩
theorem pi_any {tg l : Expr} {tl : TE} (hl : PE X l tl) : PI X tg l (fun σ H R => tl σ H fun x H1 => (∃ a, x = .ref a ∧ (∃ xs, SqL X.K H1 a xs) ∧ R (Itl X.K a) H1) ∨ (∃ a, x = .ref a ∧ (∃ xs, SqT X.K H1 a xs) ∧ R (Itt X.K a) H1) ∨ ∃ z, x = .str z ∧ R (Its z) H1) := by
  refine ⟨fun pins s σ H R I h => ?_⟩
  refine thn (hl.run pins s σ H _ I h) fun v s1 ⟨x, H1, I1, r1, q1⟩ => ?_
  rcases q1 with ⟨a, e, ⟨xs, hq⟩, q⟩ | ⟨a, e, ⟨xs, hq⟩, q⟩ | ⟨z, ex, q⟩
  · subst e
    cases r1
    obtain ⟨its, rv, p, hz⟩ := I1.list hq
    refine wpAny_pyIter_list p.isList ?_
    refine ⟨s1.heap.objs.size, [s1.heap.objs.size], _, _, H1, rfl, I1.kept (t' := s1.toks) fun b o e => Heap.get?_push_of_some _ e, turn_list a _, ⟨_, Heap.get?_push_size _ rfl, rfl, rfl⟩, fun b hb => ?_, q⟩
    have e : b = s1.heap.objs.size := by simpa using hb
    subst e
    exact I1.fpOk (Nat.le_refl _) (I1.hok.fresh (Nat.le_refl _))
  · subst e
    cases r1
    obtain ⟨its, rv, p, hz⟩ := I1.tuple hq
    refine wpAny_pyIter_tuple (show s1.heap.IsTuple a its.toArray from p) ?_
    refine ⟨s1.heap.objs.size, [s1.heap.objs.size], _, _, H1, rfl, I1.kept (t' := s1.toks) fun b o e => Heap.get?_push_of_some _ e, turn_tuple a _, ⟨_, Heap.get?_push_size _ rfl, rfl, rfl⟩, fun b hb => ?_, q⟩
    have e : b = s1.heap.objs.size := by simpa using hb
    subst e
    exact I1.fpOk (Nat.le_refl _) (I1.hok.fresh (Nat.le_refl _))
  · subst ex
    obtain ⟨t, rfl⟩ := r1
    cases ha : z.cps.all (· < 128)
    · exact wpAny_pyIter_wide ha (pi_one (tk := s1.toks) I1 _ (turn_str _ z t "str_iterator" (.inr rfl)) ⟨_, Heap.get?_push_size _ rfl, rfl, rfl⟩ q)
    · exact wpAny_pyIter_ascii ha (pi_one (tk := s1.toks) I1 _ (turn_str _ z t "str_ascii_iterator" (.inl rfl)) ⟨_, Heap.get?_push_size _ rfl, rfl, rfl⟩ q)
theorem sndI_of {tg e : Expr} {se : SE} (he : SndE M r Γ e se) : SndI M r Γ tg e (.of se) := fun X W g tk => by
  refine (pi_any (he X W g tk)).imp fun σ H R h => ?_
  obtain ⟨ρ, O, st, s, hr, h⟩ := h
  simp only [iterS] at h
  refine ⟨ρ, O, st, s, hr, h.bind.mono (fun p st1 h v H1 q => ?_) fun _ _ x => x⟩
  obtain ⟨O1, l1, r1⟩ := q.toRep
  split at h
  · rename_i e
    rw [e] at r1
    simp only [Rep] at r1
    obtain ⟨a, vs, rfl, n, rs⟩ := r1
    exact .inl ⟨a, rfl, ⟨vs, SqL.of n.2⟩, h.ok _ _ _ l1 (iter_list n.1 n.2 rs)⟩
  · rename_i e
    rw [e] at r1
    simp only [Rep] at r1
    obtain ⟨a, vs, rfl, n, rs⟩ := r1
    exact .inr (.inl ⟨a, rfl, ⟨vs, SqT.of n.2⟩, h.ok _ _ _ l1 (iter_tup n.1 n.2 rs)⟩)
  · rename_i e
    rw [e] at r1
    simp only [Rep] at r1
    subst r1
    exact .inr (.inr ⟨_, rfl, h.ok _ _ _ l1 iter_str⟩)
  · exact h.elim
theorem SndEs.star {e : Expr} {es : List Expr} {ses : List SE} (h : SndEs M r Γ (e :: es) ses) (env : Env) : starEach (e :: es) env = (false, eval e env) :: starEach es env := by cases h with | cons hn _ _ => exact star_of hn es env
theorem SndEs.tail {e : Expr} {es : List Expr} {ses : List SE} (h : SndEs M r Γ (e :: es) ses) : ∃ ses', SndEs M r Γ es ses' := by cases h with | cons _ _ h => exact ⟨_, h⟩
theorem SndEs.nostar {es : List Expr} {ses : List SE} (h : SndEs M r Γ es ses) (pos : Pos) (env : Env) : (backTo pos (starEach es env)).any (·.1) = false := by
  induction h with
  | nil => rfl
  | @cons e es se ses hn _ _ ih =>
    rw [star_of hn es env]
    simp only [backTo, List.map_cons, List.any_cons] at ih ⊢
    simpa using ih
theorem reps_nil {vs : List V} (h : Reps M ρ O H [] vs) : vs = [] := by simpa [Reps] using h
theorem reps_int {ds : List D} {i : Int} {vs : List V} (h : Reps M ρ O H (.int i :: ds) vs) : ∃ w, vs = .int i :: w ∧ Reps M ρ O H ds w := by
  simp only [Reps] at h
  obtain ⟨v, w, rfl, h1, h2⟩ := h
  simp only [Rep] at h1
  exact ⟨w, by rw [h1], h2⟩
theorem sndI_rng1 {tg a : Expr} {sa : SE} {p pos : Pos} (hk : Γ.sc.names.lookup ("range" : Str) = some .globalImplicit) (hg : Γ.gl ("range" : Str) = none) (ha : SndEs M r Γ [a] [sa]) : SndI M r Γ tg (.Call (.Name "range" p) [a] [] pos) (.rng1 sa) := fun X W g tk => by
  refine (pi_range1 (g.gl_ hk) (g.nogl _ hg (by decide +kernel)) (ha.pa X W g tk) (ha.star X.env)).imp fun σ H R h => ?_
  obtain ⟨ρ, O, st, s, hr, h⟩ := h
  simp only [iterS] at h
  refine ⟨ρ, O, st, s, hr, h.bind.mono (fun ds st1 h vs H1 ⟨O1, l1, r1⟩ => ?_) fun _ _ x => x⟩
  split at h
  · split at h
    · rename_i hn
      simp only [Bool.and_eq_true, decide_eq_true_eq] at hn
      obtain ⟨w, rfl, r2⟩ := reps_int r1
      obtain rfl := reps_nil r2
      exact ⟨_, rfl, hn.1, hn.2, h.ok _ _ _ l1 iter_rng⟩
    · exact h.elim
  · exact h.elim
theorem sndI_rng2 {tg a b : Expr} {sa sb : SE} {p pos : Pos} (hk : Γ.sc.names.lookup ("range" : Str) = some .globalImplicit) (hg : Γ.gl ("range" : Str) = none) (ha : SndEs M r Γ [a, b] [sa, sb]) : SndI M r Γ tg (.Call (.Name "range" p) [a, b] [] pos) (.rng2 sa sb) := fun X W g tk => by
  have hb : starEach [b] X.env = [(false, eval b X.env)] := by obtain ⟨_, q⟩ := ha.tail; exact q.star X.env
  refine (pi_range2 (g.gl_ hk) (g.nogl _ hg (by decide +kernel)) (ha.pa X W g tk) ((ha.star X.env).trans (by rw [hb])) hb).imp fun σ H R h => ?_
  obtain ⟨ρ, O, st, s, hr, h⟩ := h
  simp only [iterS] at h
  refine ⟨ρ, O, st, s, hr, h.bind.mono (fun ds st1 h vs H1 ⟨O1, l1, r1⟩ => ?_) fun _ _ x => x⟩
  split at h
  · split at h
    · rename_i hn
      simp only [Bool.and_eq_true, decide_eq_true_eq] at hn
      obtain ⟨w, rfl, r2⟩ := reps_int r1
      obtain ⟨w, rfl, r3⟩ := reps_int r2
      obtain rfl := reps_nil r3
      exact ⟨_, _, rfl, ⟨hn.1.2, hn.2, hn.1.1.1, hn.1.1.2⟩, h.ok _ _ _ l1 iter_rng⟩
    · exact h.elim
  · exact h.elim
theorem sndI_rng3 {tg a b c : Expr} {sa sb sc : SE} {p pos : Pos} (hk : Γ.sc.names.lookup ("range" : Str) = some .globalImplicit) (hg : Γ.gl ("range" : Str) = none) (ha : SndEs M r Γ [a, b, c] [sa, sb, sc]) : SndI M r Γ tg (.Call (.Name "range" p) [a, b, c] [] pos) (.rng3 sa sb sc) := fun X W g tk => by
  obtain ⟨_, q⟩ := ha.tail
  refine (pi_range3 (g.gl_ hk) (g.nogl _ hg (by decide +kernel)) (ha.pa X W g tk) (ha.star X.env) (q.nostar pos X.env)).imp fun σ H R h => ?_
  obtain ⟨ρ, O, st, s, hr, h⟩ := h
  simp only [iterS] at h
  refine ⟨ρ, O, st, s, hr, h.bind.mono (fun ds st1 h vs H1 ⟨O1, l1, r1⟩ => ?_) fun _ _ x => x⟩
  split at h
  · split at h
    · rename_i hn
      simp only [Bool.and_eq_true, decide_eq_true_eq] at hn
      obtain ⟨w, rfl, r2⟩ := reps_int r1
      obtain ⟨w, rfl, r3⟩ := reps_int r2
      obtain ⟨w, rfl, r4⟩ := reps_int r3
      obtain rfl := reps_nil r4
      exact ⟨_, _, _, _, rfl, ⟨hn.1.1, hn.1.2, hn.2, rangeSize_toNat _ _ _⟩, h.ok _ _ _ l1 iter_rngC⟩
    · exact h.elim
  · exact h.elim
theorem sndI_enum {e : Expr} {se : SE} {p pos tpos : Pos} {elts : List Expr} {kk : Nat} (hk : Γ.sc.names.lookup ("enumerate" : Str) = some .globalImplicit) (hg : Γ.gl ("enumerate" : Str) = none) (ha : SndEs M r Γ [e] [se]) : SndI M r Γ (.Tuple elts kk tpos) (.Call (.Name "enumerate" p) [e] [] pos) (.enum se) := fun X W g tk => by
  refine (pi_enum (g.gl_ hk) (g.nogl _ hg (by decide +kernel)) (ha.pa X W g tk) (ha.star X.env)).imp fun σ H R h => ?_
  obtain ⟨ρ, O, st, s, hr, h⟩ := h
  simp only [iterS] at h
  refine ⟨ρ, O, st, s, hr, h.bind.mono (fun ds st1 h vs H1 ⟨O1, l1, r1⟩ => ?_) fun _ _ x => x⟩
  split at h
  · simp only [Reps] at r1
    obtain ⟨v, w, rfl, r1, rfl⟩ := r1
    simp only [Rep] at r1
    obtain ⟨a, vs, rfl, n, rs⟩ := r1
    exact ⟨a, vs, rfl, SqL.of n.2, h.ok _ _ _ l1 (iter_enum n.1 n.2 rs)⟩
  · exact h.elim
theorem sndI_zip {e e2 : Expr} {se se2 : SE} {p pos tpos : Pos} {elts : List Expr} {kk : Nat} (hk : Γ.sc.names.lookup ("zip" : Str) = some .globalImplicit) (hg : Γ.gl ("zip" : Str) = none) (ha : SndEs M r Γ [e, e2] [se, se2]) : SndI M r Γ (.Tuple elts kk tpos) (.Call (.Name "zip" p) [e, e2] [] pos) (.zip se se2) := fun X W g tk => by
  obtain ⟨_, q⟩ := ha.tail
  refine (RZ.pi_zipA (g.gl_ hk) (g.nogl _ hg (by decide +kernel)) (ha.pa X W g tk) (ha.star X.env) (q.nostar pos X.env)).imp fun σ H R h => ?_
  obtain ⟨ρ, O, st, s, hr, h⟩ := h
  simp only [iterS] at h
  refine ⟨ρ, O, st, s, hr, h.bind.mono (fun ds st1 h vs H1 ⟨O1, l1, r1⟩ => ?_) fun _ _ x => x⟩
  split at h
  · simp only [Reps] at r1
    obtain ⟨v, w, rfl, r1, v2, w2, rfl, r2, rfl⟩ := r1
    simp only [Rep] at r1 r2
    obtain ⟨a, vs, rfl, n, rs⟩ := r1
    obtain ⟨b, ws, rfl, n2, rs2⟩ := r2
    exact ⟨a, b, vs, ws, rfl, .inl ⟨SqL.of n.2, SqL.of n2.2, h.ok _ _ _ l1 (iter_zip n.1 n2.1 n.2 n2.2 rs rs2)⟩⟩
  · simp only [Reps] at r1
    obtain ⟨v, w, rfl, r1, v2, w2, rfl, r2, rfl⟩ := r1
    simp only [Rep] at r1 r2
    obtain ⟨a, vs, rfl, n, rs⟩ := r1
    obtain ⟨b, ws, rfl, n2, rs2⟩ := r2
    exact ⟨a, b, vs, ws, rfl, .inr ⟨SqT.of n.2, SqT.of n2.2, h.ok _ _ _ l1 (iter_zipT n.1 n2.1 n.2 n2.2 rs rs2)⟩⟩
  · exact h.elim
end
end TI

end

section
set_option Elab.async false
set_option linter.all false
set_option maxRecDepth 100000
set_option maxHeartbeats 1000000
/-! TI19: comprehensions. -/
namespace TI
open PySem L2 PySem.Spec PyProof.Rows
theorem wipeE_len (env : List (Option (Bool × D))) : ∀ vs : List Nat, (wipeE env vs).length = env.length
  | [] => rfl
  | v :: vs => by simp only [wipeE, List.length_set, wipeE_len env vs]
theorem backE_len (old env : List (Option (Bool × D))) : ∀ vs : List Nat, (backE old env vs).length = env.length
  | [] => rfl
  | v :: vs => by simp only [backE, List.length_set, backE_len old env vs]
theorem wipeE_out {env : List (Option (Bool × D))} {i : Nat} : ∀ {vs : List Nat}, i ∉ vs → (wipeE env vs)[i]? = env[i]?
  | [], _ => rfl
  | v :: vs, h => by
    simp only [List.mem_cons, not_or] at h
    simp only [wipeE]
    rw [List.getElem?_set_ne (Ne.symm h.1), wipeE_out h.2]
theorem wipeE_in {env : List (Option (Bool × D))} {i : Nat} : ∀ {vs : List Nat}, i ∈ vs → ∀ p, (wipeE env vs)[i]? ≠ some (some p)
  | v :: vs, h, p => by
    simp only [wipeE]
    by_cases e : v = i
    · subst e
      by_cases hl : v < (wipeE env vs).length
      · rw [List.getElem?_set_self hl]; simp
      · rw [List.getElem?_eq_none (by simpa using hl)]; simp
    · rw [List.getElem?_set_ne e]
      rcases List.mem_cons.mp h with z | z
      · exact absurd z.symm e
      · exact wipeE_in z p
theorem backE_out {old env : List (Option (Bool × D))} {i : Nat} : ∀ {vs : List Nat}, i ∉ vs → (backE old env vs)[i]? = env[i]?
  | [], _ => rfl
  | v :: vs, h => by
    simp only [List.mem_cons, not_or] at h
    simp only [backE]
    rw [List.getElem?_set_ne (Ne.symm h.1), backE_out h.2]
theorem backE_in {old env : List (Option (Bool × D))} {i : Nat} (hl : old.length = env.length) : ∀ {vs : List Nat}, i ∈ vs → (backE old env vs)[i]? = old[i]?
  | v :: vs, h => by
    simp only [backE]
    by_cases e : v = i
    · subst e
      by_cases hi : v < (backE old env vs).length
      · rw [List.getElem?_set_self hi]
        have : v < old.length := by rw [backE_len] at hi; omega
        simp [List.getElem?_eq_getElem this]
      · rw [List.getElem?_eq_none (by simpa using hi), List.getElem?_eq_none]
        rw [backE_len] at hi; omega
    · rw [List.getElem?_set_ne e]
      rcases List.mem_cons.mp h with z | z
      · exact absurd z.symm e
      · exact backE_in hl z
theorem wipe_in {σ : L2.St} {i : Nat} : ∀ {vs : List Nat}, i ∈ vs → ∀ p, (wipe σ vs)[i]? ≠ some (some p) := fun h p e => (wipe_some e).2 h
section
variable {M : Mt2} {ρ : List Addr} {O O1 O' F : Addr → Prop} {H H1 H' : Hp} {st st1 st' : St} {σ σ' : L2.St} {sto sto' : List D} {X : Cx} {W : WX} {r : Rec} {Γ : Gam}
theorem SRel.wiped (s : SRel M ρ O st σ H) (vs : List Nat) : SRel M ρ O { st with env := wipeE st.env vs } (wipe σ vs) H := by
  refine ⟨s.so, by show (wipeE st.env vs).length = _; rw [wipeE_len, wipe_length]; exact s.len, fun i own d h => ?_, fun i j d d' a hi hj si sj => ?_⟩
  · have h : (wipeE st.env vs)[i]? = some (some (own, d)) := h
    by_cases hv : i ∈ vs
    · exact absurd h (wipeE_in hv _)
    · rw [wipeE_out hv] at h
      rw [wipe_out hv]
      exact s.slot i own d h
  · have hi : (wipeE st.env vs)[i]? = _ := hi
    have hj : (wipeE st.env vs)[j]? = _ := hj
    by_cases vi : i ∈ vs
    · exact absurd hi (wipeE_in vi _)
    · by_cases vj : j ∈ vs
      · exact absurd hj (wipeE_in vj _)
      · rw [wipeE_out vi] at hi
        rw [wipeE_out vj] at hj
        rw [wipe_out vi] at si
        rw [wipe_out vj] at sj
        exact s.inj i j d d' a hi hj si sj
/-- an own thing that no slot holds is written -/
theorem SRel.write {D0 : Addr} {o : HO} (s : SRel M ρ O st σ H) (hO : O D0) (hr : D0 ∉ ρ) (hs : ∀ (i : Nat) (d : D), st.env[i]? = some (some (true, d)) → σ[i]? ≠ some (some (.ref D0))) (ht : ownO o) (hn : ∀ vs, ¬ (o = .tup vs)) : SRel M ρ O st σ (upd H D0 o) := by
  have kp : Kp O H (upd H D0 o) := by
    have ne : ∀ {a}, ¬ O a → a ≠ D0 := fun h z => h (z ▸ hO)
    refine ⟨fun a u h t q => ?_, fun a vs h q => by rw [upd_ne (ne h)]; exact q, fun a vs h q => by rw [upd_ne (ne h)]; exact q, fun a C dx fs h q => by rw [upd_ne (ne h)]; exact q, fun a h q => by rw [upd_ne (ne h)]; exact q, fun a h q => by rw [upd_ne (ne h)]; exact q, fun a φ h q => by rw [upd_ne (ne h)]; exact q⟩
    rcases q with q | ⟨o', q⟩
    · exact .inl (by rw [upd_ne (ne h)]; exact q)
    · exact .inr ⟨o', by rw [upd_ne (ne h)]; exact q⟩
  refine ⟨⟨s.so.rho, s.so.nd, fun a h => ?_, fun p hp => tab_upd (fun u hu => by obtain ⟨o', h1, h2⟩ := s.so.trk D0 hO; rw [hu] at h1; cases h1; exact h2) (s.so.tab p hp), fun a vs h q => ?_, fun i d h => ?_⟩, s.len, fun i own d h => ?_, s.inj⟩
  · by_cases e : a = D0
    · subst e; exact ⟨o, upd_same, ht⟩
    · rw [upd_ne e]; exact s.so.trk a h
  · by_cases e : a = D0
    · subst e; rw [upd_same] at q; cases q; exact hn vs rfl
    · rw [upd_ne e] at q; exact s.so.notup a vs h q
  · obtain ⟨a, xs, vs, h1, h2, h3, h4⟩ := s.so.at_ i d h
    have : a ≠ D0 := fun e => hr (e ▸ List.mem_of_getElem? h1)
    exact ⟨a, xs, vs, h1, h2, by rw [upd_ne this]; exact h3, h4.mono (fun _ z => z) kp⟩
  · obtain ⟨v, g1, g2, g3⟩ := s.slot i own d h
    refine ⟨v, g1, fun z => (g2 z).mono (fun _ z => z) kp, fun z => ?_⟩
    obtain ⟨a, q1, q2, q3, q4⟩ := g3 z
    subst z
    have : a ≠ D0 := fun e => hs i d h (by rw [g1, q1, e])
    exact ⟨a, q1, q2, q3, q4.mono (fun _ z => z) kp fun u hu => by rw [upd_ne this]; exact hu⟩
/-- amid a comprehension: own the block's slots, D0 what is built; (O1, st1, σ, H1) its start -/
structure LI (M : Mt2) (ρ : List Addr) (own : List Nat) (D0 : Addr) (O1 : Addr → Prop) (st1 : St) (σ : L2.St) (H1 : Hp) (O : Addr → Prop) (st : St) (H : Hp) : Prop where
  rel : SRel M ρ O { st with env := wipeE st.env own } (wipe σ own) H
  env : ∀ j : Nat, j ∉ own → st1.env[j]? = st.env[j]? ∨ ∃ d, st1.env[j]? = some (some (true, d)) ∧ st.env[j]? = some (some (false, d))
  len : st.env.length = st1.env.length
  low : ∀ a, O1 a → O a ∨ ∃ (j : Nat) (d : D), j ∉ own ∧ st1.env[j]? = some (some (true, d)) ∧ st.env[j]? = some (some (false, d)) ∧ σ[j]? = some (some (.ref a))
  sub : ∀ a, O a → O1 a ∨ a = D0
  has : O D0
  ext : Ext M (Wr ρ st1.sto) H1 H
  slen : st.sto.length = st1.sto.length
  dep : st.dep = st1.dep
  lo : st.lo = st1.lo
  nd : ∀ (i : Nat) (d : D), i ∉ own → st.env[i]? = some (some (true, d)) → σ[i]? ≠ some (some (.ref D0))
  rho : D0 ∉ ρ
theorem LI.later {own : List Nat} {D0 : Addr} (h : LI M ρ own D0 O1 st1 σ H1 O st H) (s1 : SRel M ρ O1 st1 σ H1) (hD : H1 D0 = none) : Later O1 H1 O H :=
  ⟨fun b u n t q => h.ext.keep b u (fun w => n (s1.so.wr b w)) t q, fun a ha => (h.sub a ha).imp id fun e => by rw [e]; exact hD, fun a ha => (let ⟨o, ho, _⟩ := h.rel.so.trk a ha; ⟨o, ho⟩), h.ext.dom⟩
theorem LI.init {own : List Nat} {D0 : Addr} {o : HO} (s1 : SRel M ρ O1 st1 σ H1) (hD : H1 D0 = none) (ht : ownO o) (hn : ∀ vs, ¬ (o = .tup vs)) : LI M ρ own D0 O1 st1 σ H1 (fun b => O1 b ∨ b = D0) st1 (upd H1 D0 o) := by
  refine ⟨(s1.own hD ht hn).wiped own, fun _ _ => .inl rfl, rfl, fun a h => .inl (.inl h), fun a h => h, .inr rfl, Ext.new hD, rfl, rfl, rfl, fun i d _ h e => ?_, fun z => ?_⟩
  · obtain ⟨v, g1, _, g3⟩ := s1.slot i _ _ h
    rw [e] at g1; cases g1
    obtain ⟨a, q1, q2, _⟩ := g3 rfl
    cases q1
    obtain ⟨o', ho, _⟩ := s1.so.trk _ q2
    rw [hD] at ho; cases ho
  · obtain ⟨o', ho, _⟩ := s1.so.trk _ (s1.so.rho _ z)
    rw [hD] at ho; cases ho
theorem LI.heap {own : List Nat} {D0 : Addr} (h : LI M ρ own D0 O1 st1 σ H1 O st H) (e : Ext M (fun _ => False) H H') : LI M ρ own D0 O1 st1 σ H1 O st H' :=
  ⟨h.rel.grow e, h.env, h.len, h.low, h.sub, h.has, h.ext.trans e fun _ z => z.elim, h.slen, h.dep, h.lo, h.nd, h.rho⟩
/-- the target's names are set, something is evaluated -/
theorem LI.step {own : List Nat} {D0 : Addr} {ts : List Nat} {O2 : Addr → Prop} {st2 st3 : St} {σ2 : L2.St} {H2 : Hp} (h : LI M ρ own D0 O1 st1 σ H1 O st H) (hts : ∀ i ∈ ts, i ∈ own) (a : AsgOk ts { st with env := wipeE st.env own } (wipe σ own) st2 σ2) (l : Left M ρ O st2 σ2 H O2 st3 H2) : wipe σ2 own = wipe σ own ∧ LI M ρ own D0 O1 st1 σ H1 O2 st3 H2 := by
  have hσ : ∀ {j : Nat}, j ∉ own → σ2[j]? = σ[j]? ∧ st2.env[j]? = st.env[j]? := fun {j} hj => by
    rcases a.at_ j with ⟨q1, q2⟩ | ⟨q1, _⟩
    · have q1 : st2.env[j]? = (wipeE st.env own)[j]? := q1
      rw [wipeE_out hj] at q1
      rw [wipe_out hj] at q2
      exact ⟨q2, q1⟩
    · exact absurd (hts j q1.1) hj
  have hw : wipe σ2 own = wipe σ own := by
    apply List.ext_getElem?
    intro j
    by_cases hj : j ∈ own
    · have e1 : (wipe σ2 own).length = (wipe σ own).length := by
        rw [wipe_length, a.len]
      by_cases hl : j < (wipe σ own).length
      · have key : ∀ τ : L2.St, j < (wipe τ own).length → (wipe τ own)[j]? = some none := fun τ ht => by
          rw [List.getElem?_eq_getElem ht]
          cases q : (wipe τ own)[j] with
          | none => rfl
          | some v => exact absurd (show (wipe τ own)[j]? = some (some v) by rw [List.getElem?_eq_getElem ht, q]) (wipe_in hj v)
        rw [key σ hl, key σ2 (by omega)]
      · rw [List.getElem?_eq_none (by omega), List.getElem?_eq_none (by omega)]
    · rw [wipe_out hj, wipe_out hj]
      exact (hσ hj).1
  have notown : ∀ {j : Nat} {d : D}, st2.env[j]? = some (some (true, d)) → j ∉ own ∧ st.env[j]? = some (some (true, d)) := fun {j d} hj => by
    rcases a.at_ j with ⟨q1, _⟩ | ⟨_, d', q2⟩
    · have q1 : st2.env[j]? = (wipeE st.env own)[j]? := q1
      rw [hj] at q1
      by_cases hv : j ∈ own
      · exact absurd q1.symm (wipeE_in hv _)
      · rw [wipeE_out hv] at q1
        exact ⟨hv, q1.symm⟩
    · rw [hj] at q2; cases q2
  have hown : ∀ {j : Nat} {d : D}, st3.env[j]? = some (some (true, d)) → j ∉ own ∧ st.env[j]? = some (some (true, d)) := fun hj => notown (l.env.own hj)
  refine ⟨hw, ⟨by rw [← hw]; exact l.rel.wiped own, fun j hj => ?_, ?_, fun b hb => ?_, fun b hb => h.sub b (l.sub b hb), ?_, ?_, ?_, ?_, ?_, fun i d hi hd => ?_, h.rho⟩⟩
  · have q := (hσ hj).2
    rcases l.env j with e | ⟨d, e1, e2⟩
    · rcases h.env j hj with g | ⟨d, g1, g2⟩
      · exact .inl (by rw [g, ← q, e])
      · exact .inr ⟨d, g1, by rw [← e, q]; exact g2⟩
    · rw [q] at e1
      rcases h.env j hj with g | ⟨d', g1, g2⟩
      · exact .inr ⟨d, g.trans e1, e2⟩
      · rw [g2] at e1; cases e1
  · have h1 : st3.env.length = σ2.length := l.rel.len
    have h2 : σ2.length = (wipe σ own).length := a.len
    have h3 : (wipeE st.env own).length = (wipe σ own).length := h.rel.len
    rw [wipeE_len] at h3
    have h4 := h.len
    omega
  · rcases h.low b hb with g | ⟨j, d, g0, g1, g2, g3⟩
    · rcases l.low b g with q | ⟨j, d, q1, q2, q3⟩
      · exact .inl q
      · obtain ⟨n1, n2⟩ := notown q1
        refine .inr ⟨j, d, n1, ?_, q2, by rw [← (hσ n1).1]; exact q3⟩
        rcases h.env j n1 with e | ⟨d', e1, e2⟩
        · rw [e]; exact n2
        · rw [n2] at e2; cases e2
    · have q : st2.env[j]? = some (some (false, d)) := by rw [(hσ g0).2]; exact g2
      obtain ⟨o', w1, w2⟩ := l.env.slot q
      cases o' with
      | true => cases w2 rfl
      | false => exact .inr ⟨j, d, g0, g1, w1, g3⟩
  · rcases l.low D0 h.has with q | ⟨j, d, q1, q2, q3⟩
    · exact q
    · obtain ⟨n1, n2⟩ := notown q1
      exact absurd (by rw [← (hσ n1).1]; exact q3) (h.nd j d n1 n2)
  · exact h.ext.trans l.ext fun b w => w.len (by rw [a.sto]; exact Nat.le_of_eq h.slen)
  · rw [l.slen, a.sto]; exact h.slen
  · rw [l.dep, a.dep]; exact h.dep
  · rw [l.lo, a.lo]; exact h.lo
  · obtain ⟨n1, n2⟩ := hown hd
    exact h.nd i d n1 n2
/-- the built thing is written -/
theorem LI.write {own : List Nat} {D0 : Addr} {o : HO} (h : LI M ρ own D0 O1 st1 σ H1 O st H) (hD : H1 D0 = none) (ht : ownO o) (hn : ∀ vs, ¬ (o = .tup vs)) : LI M ρ own D0 O1 st1 σ H1 O st (upd H D0 o) := by
  refine ⟨h.rel.write h.has h.rho (fun i d hi => ?_) ht hn, h.env, h.len, h.low, h.sub, h.has, ⟨fun b u n t q => ?_, fun b q => ?_, fun z => tabs_upd (fun u hu => by obtain ⟨o', h1, h2⟩ := h.rel.so.trk D0 h.has; rw [hu] at h1; cases h1; exact h2) (h.ext.tab z)⟩, h.slen, h.dep, h.lo, h.nd, h.rho⟩
  · have hi : (wipeE st.env own)[i]? = some (some (true, d)) := hi
    by_cases hv : i ∈ own
    · exact absurd hi (wipeE_in hv _)
    · rw [wipeE_out hv] at hi
      rw [wipe_out hv]
      exact h.nd i d hv hi
  · rw [upd_ne (ne_of_none q hD)]; exact h.ext.keep b u n t q
  · by_cases e : b = D0
    · subst e; rw [upd_same] at q; cases q
    · rw [upd_ne e] at q; exact h.ext.dom b q
theorem LI.kp {own : List Nat} {D0 : Addr} {o : HO} (h : LI M ρ own D0 O1 st1 σ H1 O st H) : Kp O H (upd H D0 o) := by
  have ne : ∀ {a}, ¬ O a → a ≠ D0 := fun q z => q (z ▸ h.has)
  refine ⟨fun a u h t q => ?_, fun a vs h q => by rw [upd_ne (ne h)]; exact q, fun a vs h q => by rw [upd_ne (ne h)]; exact q, fun a C dx fs h q => by rw [upd_ne (ne h)]; exact q, fun a h q => by rw [upd_ne (ne h)]; exact q, fun a h q => by rw [upd_ne (ne h)]; exact q, fun a φ h q => by rw [upd_ne (ne h)]; exact q⟩
  rcases q with q | ⟨o', q⟩
  · exact .inl (by rw [upd_ne (ne h)]; exact q)
  · exact .inr ⟨o', by rw [upd_ne (ne h)]; exact q⟩
/-- the end -/
theorem LI.final {own : List Nat} {D0 : Addr} {d : D} (h : LI M ρ own D0 O1 st1 σ H1 O st H) (s1 : SRel M ρ O1 st1 σ H1) (hD : H1 D0 = none) (ow : Own M ρ O H d D0) : PostE M ρ O1 st1 σ H1 d true { st with env := backE st1.env st.env own } (.ref D0) H := by
  have lt := h.later s1 hD
  have hO1 : ∀ a, O1 a → a ≠ D0 := fun a ha e => by
    obtain ⟨o, ho, _⟩ := s1.so.trk a ha
    rw [e, hD] at ho; cases ho
  have hset : ∀ a, ((O a ∧ a ≠ D0) ∨ a = D0) ↔ O a := fun a => ⟨fun z => z.elim (·.1) fun e => e ▸ h.has, fun z => by
    by_cases e : a = D0
    · exact .inr e
    · exact .inl ⟨z, e⟩⟩
  have env : EnvLe st1.env (backE st1.env st.env own) := fun j => by
    by_cases hj : j ∈ own
    · exact .inl (backE_in h.len.symm hj).symm
    · rw [backE_out hj]; exact h.env j hj
  have slot1 : ∀ {j : Nat} {d : D}, (backE st1.env st.env own)[j]? = some (some (true, d)) → st1.env[j]? = some (some (true, d)) := fun hj => env.own hj
  have rel : SRel M ρ O { st with env := backE st1.env st.env own } σ H := by
    refine ⟨h.rel.so, ?_, fun j o' d' hj => ?_, fun i j d d' a hi hj si sj => s1.inj i j d d' a (slot1 hi) (slot1 hj) si sj⟩
    · show (backE st1.env st.env own).length = _
      rw [backE_len, h.len]; exact s1.len
    · have hj : (backE st1.env st.env own)[j]? = some (some (o', d')) := hj
      by_cases hv : j ∈ own
      · rw [backE_in h.len.symm hv] at hj
        obtain ⟨v, g1, g2, g3⟩ := s1.slot j o' d' hj
        refine ⟨v, g1, fun z => lt.rep (g2 z), fun z => ?_⟩
        obtain ⟨a, q1, q2, q3, q4⟩ := g3 z
        subst q1
        have oa : O a := by
          rcases h.low a q2 with w | ⟨j', d2, w0, w1, w2, w3⟩
          · exact w
          · subst z
            exact absurd (s1.inj j j' _ _ a hj w1 g1 w3 ▸ hv) w0
        refine ⟨a, rfl, oa, q3, ?_⟩
        exact (q4.avoidS (O' := fun a => O1 a ∨ H1 a = none) fun _ z => z).mono lt.grow lt.kp fun u hu => h.ext.keep a u (fun w => q3 w.sub) (by
          obtain ⟨u', hu', tu⟩ := own_notTbl q4
          rw [hu] at hu'; cases hu'; exact tu) hu
      · rw [backE_out hv] at hj
        have := h.rel.slot j o' d' (by show (wipeE st.env own)[j]? = _; rw [wipeE_out hv]; exact hj)
        rw [wipe_out hv] at this
        exact this
  refine ⟨fun a => O a ∧ a ≠ D0, ⟨fun a ha => (h.sub a ha.1).elim id fun e => absurd e ha.2, h.ext, h.slen, h.dep, ?_, env, h.lo, fun a ha => ?_⟩, (fun z => by cases z), fun _ => ⟨D0, rfl, fun z => z.2 rfl, hD, ?_, ?_⟩⟩
  · refine ⟨rel.so.mono (fun a z => z.1) fun a ha => ⟨rel.so.rho a ha, fun e => h.rho (e ▸ ha)⟩, rel.len, fun j o' d' hj => ?_, rel.inj⟩
    obtain ⟨v, g1, g2, g3⟩ := rel.slot j o' d' hj
    refine ⟨v, g1, fun z => (g2 z).mono (fun a z => z.1) (Kp.refl _ _), fun z => ?_⟩
    obtain ⟨a, q1, q2, q3, q4⟩ := g3 z
    subst z
    refine ⟨a, q1, ⟨q2, fun e => ?_⟩, q3, q4.mono (fun a z => z.1) (Kp.refl _ _) fun _ z => z⟩
    subst e
    obtain ⟨v', w1, _, w3⟩ := s1.slot j _ _ (slot1 hj)
    rw [g1] at w1; cases w1
    obtain ⟨b, e1, e2, _⟩ := w3 rfl
    rw [q1] at e1; cases e1
    exact hO1 _ e2 rfl
  · rcases h.low a ha with w | ⟨j, d2, w0, w1, w2, w3⟩
    · exact .inl ⟨w, hO1 a ha⟩
    · exact .inr ⟨j, d2, w1, by show (backE st1.env st.env own)[j]? = _; rw [backE_out w0]; exact w2, w3⟩
  · have : (fun b => (O b ∧ b ≠ D0) ∨ b = D0) = O := funext fun a => propext (hset a)
    rw [this]; exact rel
  · have : (fun b => (O b ∧ b ≠ D0) ∨ b = D0) = O := funext fun a => propext (hset a)
    rw [this]; exact ow
end
end TI

end

section
set_option Elab.async false
set_option linter.all false
set_option maxRecDepth 100000
set_option maxHeartbeats 1000000
/-! TI20: comprehensions, the rules. -/
namespace TI
open PySem L2 PySem.Spec PyProof.Rows
def Gam.blk (Γ : Gam) (scope : Scope) : Gam := ⟨Γ.N, relS scope Γ.sc, Γ.gl, fun x => scope.names.lookup x == some .cell, none⟩
section
variable {M : Mt2} {ρ : List Addr} {O O1 O' F : Addr → Prop} {H H1 H' : Hp} {st st1 st' : St} {σ σ' : L2.St} {sto sto' : List D} {X : Cx} {W : WX} {r : Rec} {Γ : Gam}
theorem Good.blk (g : Good M X Γ) (s : Shared) (H : Hp) (scope : Scope) (cl : List (Str × Addr)) (C : Addr) (fp : List Addr) : Good M (X.blk s H scope (compEnvC scope cl C X.env) fp) (Γ.blk scope) :=
  ⟨g.K, g.prog, g.w, g.mg, g.base, g.N, g.nd, by show relS scope X.env.scope = relS scope Γ.sc; rw [g.sc], g.calm, g.gl, g.nogl, fun _ h => h, fun _ _ h => by cases h⟩
def W0 : WX := fun _ _ _ _ => False
def tTs (M : Mt2) (X : Cx) (W : WX) (r : Rec) (ifs : List SE) : TT := fun σ H Q => ∃ ρ O st, SRel M ρ O st σ H ∧ Room st.dep X.A ∧ wpR (tsts r ifs st) (fun b st' => ∀ H' O', Left M ρ O st σ H O' st' H' → Q b H') (Bx M W ρ O st σ H)
def SndTs (M : Mt2) (r : Rec) (Γ : Gam) (ifs : List Expr) (ses : List SE) : Prop := ∀ X W, Good M X Γ → Takes X W → PTs X ifs (tTs M X W r ses)
theorem _root_.L2.PTs.imp {X : Cx} {e : List Expr} {t t' : TT} (h : PTs X e t) (i : ∀ σ H Q, t' σ H Q → t σ H Q) : PTs X e t' := ⟨fun pins s σ H Q I hw => h.run pins s σ H Q I (i σ H Q hw)⟩
theorem sndTs_nil : SndTs M r Γ [] [] := fun X W g tk => by
  refine pts_nil.imp fun σ H Q h => ?_
  obtain ⟨ρ, O, st, s, hr, h⟩ := h
  exact wpR.ok (show wpR (R.ok true st) _ _ from h) H O (Left.refl s)
theorem sndTs_one {e : Expr} {se : SE} (he : SndT M r Γ e se) : SndTs M r Γ [e] [se] := fun X W g tk => by
  refine (pts_one (he X W g tk)).imp fun σ H Q h => ?_
  obtain ⟨ρ, O, st, s, hr, h⟩ := h
  have h : wpR ((r.tst se st).bind fun b st => if b then tsts r [] st else .ok false st) _ _ := h
  refine ⟨ρ, O, st, s, hr, h.bind.mono (fun b st1 h H1 O1 l => ?_) fun _ _ x => x⟩
  cases b with
  | true => exact wpR.ok (show wpR (R.ok true st1) _ _ from h) H1 O1 l
  | false => exact wpR.ok (show wpR (R.ok false st1) _ _ from h) H1 O1 l
theorem noExc_wp {α : Type} {x : R α} {p : α → St → Prop} {ex : D → St → Prop} (h : wpR x.noExc p ex) : wpR x p fun _ _ => False := by
  cases x with
  | ok a s => exact h
  | exc e s => exact h
  | no => exact h
theorem wpR.ex0 {α : Type} {x : R α} {p : α → St → Prop} {ex : D → St → Prop} (h : wpR x p fun _ _ => False) : wpR x p ex := h.mono (fun _ _ q => q) fun _ _ q => q.elim
theorem sndE_lc {tg iter elt : Expr} {ifs : List Expr} {scope : Scope} {pos : Pos} {own : List (Str × Nat)} {stg : ST} {si : SI} {sifs : List SE} {se : SE} (hi : SndI M r Γ tg iter si) (ok : BlkOk Γ.N Γ.sc scope own) (ht : TgOk (Γ.blk scope) tg stg) (hsub : ∀ i ∈ slotsOf stg, i ∈ own.map (·.2))
    (hifs : SndTs M r (Γ.blk scope) ifs sifs) (he : SndE M r (Γ.blk scope) elt se) (hs : ∀ env x, foldedSetIterable iter env x = pure x) : SndE M (up M.P r) Γ (.ListComp elt [⟨tg, iter, ifs, 0⟩] scope pos) (.lc (own.map (·.2)) se stg si sifs) := fun X W g tk => by
  have gb := fun s H C cl fp => g.blk s H scope cl C fp
  have tk0 : ∀ s H C cl fp, Takes (X.blk s H scope (compEnvC scope cl C X.env) fp) W0 := fun s H C cl fp => LamX.takes0
  refine (pe_lc (te := tE M X W0 r se) (tt := tTs M X W0 r sifs) g.calm g.nd (hi X W g tk) (by rw [g.N, g.sc]; exact ok) (fun s H C cl fp => ht.pg (gb s H C cl fp)) (fun s H C cl fp => hifs _ W0 (gb s H C cl fp) (tk0 s H C cl fp)) (fun s H C cl fp => he _ W0 (gb s H C cl fp) (tk0 s H C cl fp)) (hs X.env)).imp fun σ H Q h => ?_
  obtain ⟨ρ, O, st, s, hr, h⟩ := h
  simp only [up, evS] at h
  refine ⟨ρ, O, st, s, hr, h.bind.mono (fun ds st1 h J H1 O1 l1 it D0 hD => ?_) fun _ _ x => x⟩
  generalize hown : own.map (·.2) = ow at h hsub ⊢
  have s1 := l1.rel
  have h := noExc_wp h.bind
  have hr1 : Room st1.dep X.A := by rw [l1.dep]; exact hr
  refine ⟨fun i m H => m = ds.length - i ∧ i ≤ ds.length ∧ ∃ O2 st2 acc accV, LI M ρ ow D0 O1 st1 σ H1 O2 st2 H ∧ H D0 = some (.lst accV) ∧ Reps M ρ O2 H acc accV ∧
    wpR (lcLoop r ow se stg sifs (ds.drop i) st2) (fun rest st' => wpR (if okLen (acc ++ rest) then R.ok (D.lst (acc ++ rest), true) { st' with env := backE st1.env st'.env ow } else .no) (fun p st' => ∀ v H', PostE M ρ O st σ _ p.1 p.2 st' v H' → Q v H') (Bx M W ρ O st σ _)) (fun _ _ => False),
    ⟨ds.length, by simp, Nat.zero_le _, _, st1, [], [], LI.init s1 hD trivial (fun _ z => by cases z), upd_same, .nil, by simpa using h⟩, ?_⟩
  rintro i m H2 ⟨rfl, hi, O2, st2, acc, accV, li, hacc, racc, hk⟩
  have lt := li.later s1 hD
  by_cases hlt : i < ds.length
  · refine .inr ⟨it.go i O2 H2 hlt lt, fun H' => ∃ O3 st3 acc accV, LI M ρ ow D0 O1 st1 σ H1 O3 st3 H' ∧ H' D0 = some (.lst accV) ∧ Reps M ρ O3 H' acc accV ∧
      wpR (lcLoop r ow se stg sifs (ds.drop (i + 1)) st3) (fun rest st' => wpR (if okLen (acc ++ rest) then R.ok (D.lst (acc ++ rest), true) { st' with env := backE st1.env st'.env ow } else .no) (fun p st' => ∀ v H', PostE M ρ O st σ _ p.1 p.2 st' v H' → Q v H') (Bx M W ρ O st σ _)) (fun _ _ => False),
      fun H' q => ⟨ds.length - (i + 1), by omega, rfl, hlt, q⟩, fun x H3 y => ?_⟩
    obtain ⟨e3, d, hd, rd⟩ := it.yld i O2 H2 x H3 hlt lt y
    have hdrop : ds.drop i = d :: ds.drop (i + 1) := by
      rw [List.drop_eq_getElem_cons hlt]
      rw [List.getElem?_eq_getElem hlt] at hd
      cases hd; rfl
    rw [hdrop] at hk
    simp only [lcLoop] at hk
    obtain ⟨st3, ha, hk⟩ := hk.lift
    have li3 := li.heap e3
    refine ⟨ρ, O2, _, d, st3, li3.rel, rd, ha, fun σ3 s3 a3 => ?_⟩
    refine ⟨(li3.step hsub a3 (Left.refl s3)).1, ρ, O2, st3, s3, by rw [a3.dep]; show Room st2.dep X.A; rw [li.dep]; exact hr1, (hk.bind.mono (fun b st4 hk H4 O4 l4 => ?_) fun _ _ q => q.elim)⟩
    have li4 := (li3.step hsub a3 l4).2
    have hD3 : H3 D0 = some (.lst accV) := e3.keep D0 _ (fun z => z) trivial hacc
    have keepD : ∀ {O5 : Addr → Prop} {st5 : St} {H5 : Hp}, Left M ρ O2 st3 σ3 H3 O5 st5 H5 → H5 D0 = some (.lst accV) := fun l => l.ext.keep D0 _ (fun w => li.rho w.sub) trivial hD3
    have racc3 : Reps M ρ O2 H3 acc accV := racc.grow e3
    cases b with
    | false =>
      simp only [Bool.false_eq_true, if_false] at hk ⊢
      exact ⟨O4, st4, acc, accV, li4, keepD l4, racc3.left l4 s3, hk⟩
    | true =>
      simp only [if_true] at hk ⊢
      refine ⟨ρ, O4, st4, l4.rel, by rw [l4.dep, a3.dep]; show Room st2.dep X.A; rw [li.dep]; exact hr1, (hk.bind.mono (fun p st5 hk v H5 q => ?_) fun _ _ q => q.elim)⟩
      obtain ⟨O5, l5, rv⟩ := q.toRep
      have l45 := l4.trans l5
      have li5 := (li3.step hsub a3 l45).2
      have racc5 := racc3.left l45 s3
      have hk := hk.bind
      have hlen : acc.length + 1 ≤ lenMax := by
        cases q : lcLoop r ow se stg sifs (ds.drop (i + 1)) st5 with
        | ok rest st6 =>
          rw [q] at hk
          have hk : wpR (if okLen (acc ++ (p.1 :: rest)) then _ else R.no) _ _ := hk
          split at hk
          · rename_i hz
            simp only [okLen, List.length_append, List.length_cons, decide_eq_true_eq] at hz
            omega
          · exact hk.elim
        | exc e s => rw [q] at hk; exact hk.elim
        | no => rw [q] at hk; exact hk.elim
      have := sz_line
      refine ⟨accV, keepD l45, by rw [← racc.length]; omega, O5, st5, acc ++ [p.1], accV ++ [v], li5.write hD trivial (fun _ z => by cases z), upd_same, (racc5.append (.one rv)).mono (fun _ z => z) li5.kp, ?_⟩
      refine hk.mono (fun rest st6 q => ?_) fun _ _ q => q
      have e : acc ++ [p.1] ++ rest = acc ++ (p.1 :: rest) := by simp
      rw [e]
      exact q
  · have e : i = ds.length := by omega
    subst e
    refine .inl ⟨it.stop O2 H2 lt, ?_⟩
    rw [List.drop_length] at hk
    have hk : wpR (if okLen (acc ++ []) then R.ok (D.lst (acc ++ []), true) { st2 with env := backE st1.env st2.env ow } else .no) _ _ := hk
    split at hk
    · rw [List.append_nil] at hk
      exact hk.ok _ _ ((li.final (d := .lst acc) s1 hD ⟨accV, hacc, racc⟩).later l1)
    · exact hk.elim
theorem sndE_dc {tg iter kx vx : Expr} {ifs : List Expr} {scope : Scope} {pos : Pos} {own : List (Str × Nat)} {stg : ST} {si : SI} {sifs : List SE} {sk sv : SE} (hi : SndI M r Γ tg iter si) (ok : BlkOk Γ.N Γ.sc scope own) (ht : TgOk (Γ.blk scope) tg stg) (hsub : ∀ i ∈ slotsOf stg, i ∈ own.map (·.2))
    (hifs : SndTs M r (Γ.blk scope) ifs sifs) (hkx : SndE M r (Γ.blk scope) kx sk) (hvx : SndE M r (Γ.blk scope) vx sv) (hs : ∀ env x, foldedSetIterable iter env x = pure x) : SndE M (up M.P r) Γ (.DictComp kx vx [⟨tg, iter, ifs, 0⟩] scope pos) (.dc (own.map (·.2)) sk sv stg si sifs) := fun X W g tk => by
  have gb := fun s H C cl fp => g.blk s H scope cl C fp
  have tk0 : ∀ s H C cl fp, Takes (X.blk s H scope (compEnvC scope cl C X.env) fp) W0 := fun s H C cl fp => LamX.takes0
  refine (pe_dc (tk := tE M X W0 r sk) (tv := tE M X W0 r sv) (tt := tTs M X W0 r sifs) g.calm g.nd (hi X W g tk) (by rw [g.N, g.sc]; exact ok) (fun s H C cl fp => ht.pg (gb s H C cl fp)) (fun s H C cl fp => hifs _ W0 (gb s H C cl fp) (tk0 s H C cl fp)) (fun s H C cl fp => hkx _ W0 (gb s H C cl fp) (tk0 s H C cl fp)) (fun s H C cl fp => hvx _ W0 (gb s H C cl fp) (tk0 s H C cl fp)) (hs X.env)).imp fun σ H Q h => ?_
  obtain ⟨ρ, O, st, s, hr, h⟩ := h
  simp only [up, evS] at h
  refine ⟨ρ, O, st, s, hr, h.bind.mono (fun ds st1 h J H1 O1 l1 it D0 hD => ?_) fun _ _ x => x⟩
  generalize hown : own.map (·.2) = ow at h hsub ⊢
  have s1 := l1.rel
  have h := noExc_wp h.bind
  have hr1 : Room st1.dep X.A := by rw [l1.dep]; exact hr
  refine ⟨fun i m H => m = ds.length - i ∧ i ≤ ds.length ∧ ∃ O2 st2 ks vs kl accV, LI M ρ ow D0 O1 st1 σ H1 O2 st2 H ∧ H D0 = some (.dK (kl.zip accV)) ∧ toKeys ks = some kl ∧ kl.length = accV.length ∧ Reps M ρ O2 H vs accV ∧
    wpR (dcLoop r ow sk sv stg sifs (ds.drop i) ks vs st2) (fun p st' => wpR (R.ok (D.dct p.1 p.2, true) { st' with env := backE st1.env st'.env ow }) (fun p st' => ∀ v H', PostE M ρ O st σ _ p.1 p.2 st' v H' → Q v H') (Bx M W ρ O st σ _)) (fun _ _ => False),
    ⟨ds.length, by simp, Nat.zero_le _, _, st1, [], [], [], [], LI.init s1 hD trivial (fun _ z => by cases z), upd_same, rfl, rfl, .nil, by simpa using h⟩, ?_⟩
  rintro i m H2 ⟨rfl, hi, O2, st2, ks, vs, kl, accV, li, hacc, hkl, hle, racc, hk⟩
  have lt := li.later s1 hD
  by_cases hlt : i < ds.length
  · refine .inr ⟨it.go i O2 H2 hlt lt, fun H' => ∃ O3 st3 ks vs kl accV, LI M ρ ow D0 O1 st1 σ H1 O3 st3 H' ∧ H' D0 = some (.dK (kl.zip accV)) ∧ toKeys ks = some kl ∧ kl.length = accV.length ∧ Reps M ρ O3 H' vs accV ∧
      wpR (dcLoop r ow sk sv stg sifs (ds.drop (i + 1)) ks vs st3) (fun p st' => wpR (R.ok (D.dct p.1 p.2, true) { st' with env := backE st1.env st'.env ow }) (fun p st' => ∀ v H', PostE M ρ O st σ _ p.1 p.2 st' v H' → Q v H') (Bx M W ρ O st σ _)) (fun _ _ => False),
      fun H' q => ⟨ds.length - (i + 1), by omega, rfl, hlt, q⟩, fun x H3 y => ?_⟩
    obtain ⟨e3, d, hd, rd⟩ := it.yld i O2 H2 x H3 hlt lt y
    have hdrop : ds.drop i = d :: ds.drop (i + 1) := by
      rw [List.drop_eq_getElem_cons hlt]
      rw [List.getElem?_eq_getElem hlt] at hd
      cases hd; rfl
    rw [hdrop] at hk
    simp only [dcLoop] at hk
    obtain ⟨st3, ha, hk⟩ := hk.lift
    have li3 := li.heap e3
    refine ⟨ρ, O2, _, d, st3, li3.rel, rd, ha, fun σ3 s3 a3 => ?_⟩
    refine ⟨(li3.step hsub a3 (Left.refl s3)).1, ρ, O2, st3, s3, by rw [a3.dep]; show Room st2.dep X.A; rw [li.dep]; exact hr1, (hk.bind.mono (fun b st4 hk H4 O4 l4 => ?_) fun _ _ q => q.elim)⟩
    have li4 := (li3.step hsub a3 l4).2
    have hD3 : H3 D0 = some (.dK (kl.zip accV)) := e3.keep D0 _ (fun z => z) trivial hacc
    have keepD : ∀ {O5 : Addr → Prop} {st5 : St} {H5 : Hp}, Left M ρ O2 st3 σ3 H3 O5 st5 H5 → H5 D0 = some (.dK (kl.zip accV)) := fun l => l.ext.keep D0 _ (fun w => li.rho w.sub) trivial hD3
    have racc3 : Reps M ρ O2 H3 vs accV := racc.grow e3
    have room4 : Room st4.dep X.A := by rw [l4.dep, a3.dep]; show Room st2.dep X.A; rw [li.dep]; exact hr1
    cases b with
    | false =>
      simp only [Bool.false_eq_true, if_false] at hk ⊢
      exact ⟨O4, st4, ks, vs, kl, accV, li4, keepD l4, hkl, hle, racc3.left l4 s3, hk⟩
    | true =>
      simp only [if_true] at hk ⊢
      refine ⟨ρ, O4, st4, l4.rel, room4, (hk.bind.mono (fun p st5 hk v H5 q => ?_) fun _ _ q => q.elim)⟩
      obtain ⟨O5, l5, rk⟩ := q.toRep
      refine ⟨ρ, O5, st5, l5.rel, by rw [l5.dep]; exact room4, (hk.bind.mono (fun p2 st6 hk v2 H6 q2 => ?_) fun _ _ q => q.elim)⟩
      obtain ⟨O6, l6, rv⟩ := q2.toRep
      have l46 := (l4.trans l5).trans l6
      have li6 := (li3.step hsub a3 l46).2
      have racc6 := racc3.left l46 s3
      split at hk
      · rename_i hc
        simp only [Bool.and_eq_true, decide_eq_true_eq] at hc
        have hkey : ∃ k, toKey p.1 = some k ∧ v = kV k := by
          rcases keyOk_or hc.1.1 with ⟨k, e⟩ | ⟨xs, kk, e, _⟩
          · exact ⟨k, e, toKey_kV e rk⟩
          · have := hc.1.2
            rw [e] at this
            simp [isIn.sameK] at this
        obtain ⟨k, ek, rfl⟩ := hkey
        obtain ⟨k1, k2⟩ := toKeys_at hkl
        obtain ⟨kl', vs', m1, m2, m3, m4, m5⟩ := put_map (fun h1 h2 => eqD_key h1 h2) ek rv k1 k2 hle racc6
        have := sz_line
        refine ⟨kl.zip accV, k, rfl, keepD l46, by rw [List.length_zip]; omega, O6, st6, _, _, kl', vs', li6.write hD trivial (fun _ z => by cases z), by rw [upd_same, m1], toKeys_of m2 m3, m4, m5.mono (fun _ z => z) li6.kp, hk⟩
      · exact hk.elim
  · have e : i = ds.length := by omega
    subst e
    refine .inl ⟨it.stop O2 H2 lt, ?_⟩
    rw [List.drop_length] at hk
    simp only [dcLoop] at hk
    exact hk.ok.ok _ _ ((li.final (d := .dct ks vs) s1 hD ⟨accV, racc, .inl ⟨kl, hkl, hle, hacc⟩⟩).later l1)
end
end TI

end

section
set_option Elab.async false
set_option linter.all false
set_option maxRecDepth 100000
set_option maxHeartbeats 1000000
/-! TI21: the frame's relation, statements. -/
namespace TI
open PySem L2 PySem.Spec PyProof.Rows
/-- amid a def's body that was entered at H0; F: what the callers own -/
structure FR (M : Mt2) (ρ : List Addr) (F : Addr → Prop) (H0 : Hp) (O : Addr → Prop) (st : St) (σ : L2.St) (H : Hp) : Prop where
  rel : SRel M ρ O st σ H
  ext : Ext M (Wr ρ st.sto) H0 H
  low : ∀ a, F a → O a
  fdom : ∀ a, F a → H0 a ≠ none
  rho : ∀ a ∈ ρ, F a
  new : ∀ (i : Nat) (d : D) (a : Addr), st.env[i]? = some (some (true, d)) → σ[i]? = some (some (.ref a)) → H0 a = none
structure Stp (M : Mt2) (ρ : List Addr) (F : Addr → Prop) (H0 : Hp) (O : Addr → Prop) (st : St) (σ : L2.St) (H : Hp) (O' : Addr → Prop) (st' : St) (σ' : L2.St) (H' : Hp) : Prop where
  fr : FR M ρ F H0 O' st' σ' H'
  lt : Later O H O' H'
  dep : st'.dep = st.dep
  slen : st'.sto.length = st.sto.length
  lo : st'.lo = st.lo
  pin : ∀ i : Nat, i < st.lo → σ'[i]? = σ[i]?
/-- a value that leaves -/
def RetV (M : Mt2) (ρ : List Addr) (H0 : Hp) (O : Addr → Prop) (H : Hp) (d : D) (fr : Bool) (v : V) : Prop :=
  (fr = false → Rep M ρ O H d v) ∧ (fr = true → ∃ a, v = .ref a ∧ O a ∧ a ∉ ρ ∧ H0 a = none ∧ Own M ρ O H d a)
def PostS (M : Mt2) (ρ : List Addr) (F : Addr → Prop) (H0 : Hp) (O : Addr → Prop) (st : St) (σ : L2.St) (H : Hp) (D : Ends) (f : Fl) (st' : St) : Prop :=
  ∀ O' σ' H', Stp M ρ F H0 O st σ H O' st' σ' H' → match f with
    | .nx => D.nx σ' H'
    | .brk => D.bk σ' H'
    | .ct => D.ct σ' H'
    | .ret d fr => ∀ v, RetV M ρ H0 O' H' d fr v → D.rt v H'
section
variable {M : Mt2} {ρ : List Addr} {O O1 O2 O' F : Addr → Prop} {H H0 H1 H2 H' : Hp} {st st1 st2 st' : St} {σ σ1 σ' : L2.St} {sto sto' : List D} {X : Cx} {W : WX} {r : Rec} {Γ : Gam}
theorem Later.refl (s : SRel M ρ O st σ H) : Later O H O H := ⟨fun _ _ _ _ q => q, fun _ h => .inl h, fun a h => let ⟨o, ho, _⟩ := s.so.trk a h; ⟨o, ho⟩, fun _ h => h⟩
theorem Later.trans (a : Later O H O1 H1) (b : Later O1 H1 O2 H2) : Later O H O2 H2 := by
  refine ⟨fun x u n t q => b.keep x u (fun z => ?_) t (a.keep x u n t q), fun x h => ?_, b.trk, fun x h => a.dom x (b.dom x h)⟩
  · rcases a.grow x z with w | w
    · exact n w
    · rw [w] at q; cases q
  · rcases b.grow x h with w | w
    · exact a.grow x w
    · exact .inr (a.dom x w)
theorem Left.lt (l : Left M ρ O st σ H O' st' H') (s : SRel M ρ O st σ H) : Later O H O' H' :=
  ⟨fun b u n t q => l.ext.keep b u (fun w => n (s.so.wr b w)) t q, fun a h => .inl (l.sub a h), fun a h => let ⟨o, ho, _⟩ := l.rel.so.trk a h; ⟨o, ho⟩, l.ext.dom⟩
theorem FR.left (f : FR M ρ F H0 O st σ H) (l : Left M ρ O st σ H O' st' H') : FR M ρ F H0 O' st' σ H' := by
  have hs : st'.sto.length = st.sto.length := l.slen
  refine ⟨l.rel, ⟨fun b u n t q => ?_, fun b q => f.ext.dom b (l.ext.dom b q), fun z => l.ext.tab (f.ext.tab z)⟩, fun a ha => ?_, f.fdom, f.rho, fun i d a hi hs => f.new i d a (l.env.own hi) hs⟩
  · have n' : ¬ Wr ρ st.sto b := fun w => n (w.len (by omega))
    exact l.ext.keep b u n' t (f.ext.keep b u n' t q)
  · rcases l.low a (f.low a ha) with w | ⟨i, d, h1, _, h3⟩
    · exact w
    · exact absurd (f.new i d a h1 h3) (f.fdom a ha)
theorem Left.stp (f : FR M ρ F H0 O st σ H) (l : Left M ρ O st σ H O' st' H') : Stp M ρ F H0 O st σ H O' st' σ H' := ⟨f.left l, l.lt f.rel, l.dep, l.slen, l.lo, fun _ _ => rfl⟩
theorem Stp.refl (f : FR M ρ F H0 O st σ H) : Stp M ρ F H0 O st σ H O st σ H := ⟨f, Later.refl f.rel, rfl, rfl, rfl, fun _ _ => rfl⟩
theorem Stp.trans (a : Stp M ρ F H0 O st σ H O1 st1 σ1 H1) (b : Stp M ρ F H0 O1 st1 σ1 H1 O2 st2 σ' H2) : Stp M ρ F H0 O st σ H O2 st2 σ' H2 := ⟨b.fr, a.lt.trans b.lt, b.dep.trans a.dep, b.slen.trans a.slen, b.lo.trans a.lo, fun i hi => (b.pin i (by rw [a.lo]; exact hi)).trans (a.pin i hi)⟩
theorem PostS.later (a : Stp M ρ F H0 O st σ H O1 st1 σ1 H1) {D : Ends} {f : Fl} (p : PostS M ρ F H0 O st σ H D f st2) : PostS M ρ F H0 O1 st1 σ1 H1 D f st2 := fun O' σ' H' s => p O' σ' H' (a.trans s)
def tSs (M : Mt2) (X : Cx) (r : Rec) (ss : List SS) : TS := fun D σ H => ∃ ρ F H0 O st, FR M ρ F H0 O st σ H ∧ Room st.dep X.A ∧ wpR (r.ex ss st) (PostS M ρ F H0 O st σ H D) (fun _ _ => False)
def tS1 (M : Mt2) (X : Cx) (r : Rec) (s : SS) : TS := fun D σ H => ∃ ρ F H0 O st, FR M ρ F H0 O st σ H ∧ Room st.dep X.A ∧ wpR (ex1 M.P r s st) (PostS M ρ F H0 O st σ H D) (fun _ _ => False)
/-- .. and where a loop may stand -/
structure GoodS (M : Mt2) (X : Cx) (Γ : Gam) : Prop extends Good M X Γ where
  pass : PassesOwn (model X.prog X.w) X.A X.env X.xe
  kind : Γ.sc.kind = .function
def SndSs (M : Mt2) (r : Rec) (Γ : Gam) (b : List Stmt) (ss : List SS) : Prop := ∀ X, GoodS M X Γ → PSs X b (tSs M X r ss)
def SndS (M : Mt2) (r : Rec) (Γ : Gam) (b : Stmt) (s : SS) : Prop := ∀ X, GoodS M X Γ → PS X b (tS1 M X r s)
theorem _root_.L2.PS.imp {X : Cx} {b : Stmt} {t t' : TS} (h : PS X b t) (i : ∀ D σ H, t' D σ H → t D σ H) : PS X b t' := ⟨fun pins s σ H D I hw => h.run pins s σ H D I (i D σ H hw)⟩
theorem _root_.L2.PSs.imp {X : Cx} {b : List Stmt} {t t' : TS} (h : PSs X b t) (i : ∀ D σ H, t' D σ H → t D σ H) : PSs X b t' := ⟨fun pins s σ H D I hw => h.run pins s σ H D I (i D σ H hw)⟩
theorem tk0 : Takes X W0 := LamX.takes0
/-- statements one behind the other -/
inductive SndL (M : Mt2) (r : Rec) (Γ : Gam) : List Stmt → List SS → Prop where
  | nil : SndL M r Γ [] []
  | cons {b : Stmt} {bs : List Stmt} {s : SS} {ss : List SS} : SndS M r Γ b s → SndL M r Γ bs ss → SndL M r Γ (b :: bs) (s :: ss)
def tL (M : Mt2) (X : Cx) (r : Rec) (ss : List SS) : TS := fun D σ H => ∃ ρ F H0 O st, FR M ρ F H0 O st σ H ∧ Room st.dep X.A ∧ wpR (exS M.P r ss st) (PostS M ρ F H0 O st σ H D) (fun _ _ => False)
theorem SndL.pss {bs : List Stmt} {ss : List SS} (h : SndL M r Γ bs ss) (g : GoodS M X Γ) : PSs X bs (tL M X r ss) := by
  induction h with
  | nil =>
    refine pss_nil.imp fun D σ H h => ?_
    obtain ⟨ρ, F, H0, O, st, f, hr, h⟩ := h
    exact wpR.ok (show wpR (R.ok Fl.nx st) _ _ from h) O σ H (Stp.refl f)
  | @cons b bs s ss hb _ ih =>
    refine (pss_cons (hb X g) ih).imp fun D σ H h => ?_
    obtain ⟨ρ, F, H0, O, st, f, hr, h⟩ := h
    simp only [exS] at h
    refine ⟨ρ, F, H0, O, st, f, hr, h.bind.mono (fun fl st1 h O1 σ1 H1 s1 => ?_) fun _ _ x => x⟩
    cases fl with
    | nx => exact ⟨ρ, F, H0, O1, st1, s1.fr, by rw [s1.dep]; exact hr, h.mono (fun fl st2 q => q.later s1) fun _ _ x => x⟩
    | brk => exact wpR.ok (show wpR (R.ok Fl.brk st1) _ _ from h) O1 σ1 H1 s1
    | ct => exact wpR.ok (show wpR (R.ok Fl.ct st1) _ _ from h) O1 σ1 H1 s1
    | ret d fr => exact wpR.ok (show wpR (R.ok (Fl.ret d fr) st1) _ _ from h) O1 σ1 H1 s1
theorem sndSs_of {bs : List Stmt} {ss : List SS} (h : SndL M r Γ bs ss) : SndSs M (up M.P r) Γ bs ss := fun X g => h.pss g
/-! ### plain statements -/
theorem sndS_pass {pos : Pos} : SndS M r Γ (.Pass pos) .pass := fun X g => by
  refine ps_pass.imp fun D σ H h => ?_
  obtain ⟨ρ, F, H0, O, st, f, hr, h⟩ := h
  exact wpR.ok (show wpR (R.ok Fl.nx st) _ _ from h) O σ H (Stp.refl f)
theorem sndS_brk {pos : Pos} : SndS M r Γ (.Break pos) .brk := fun X g => by
  refine ps_break.imp fun D σ H h => ?_
  obtain ⟨ρ, F, H0, O, st, f, hr, h⟩ := h
  exact wpR.ok (show wpR (R.ok Fl.brk st) _ _ from h) O σ H (Stp.refl f)
theorem sndS_ct {pos : Pos} : SndS M r Γ (.Continue pos) .ct := fun X g => by
  refine ps_continue.imp fun D σ H h => ?_
  obtain ⟨ρ, F, H0, O, st, f, hr, h⟩ := h
  exact wpR.ok (show wpR (R.ok Fl.ct st) _ _ from h) O σ H (Stp.refl f)
def notComp : Expr → Bool
  | .ListComp _ _ _ _ => false
  | .SetComp _ _ _ _ => false
  | .DictComp _ _ _ _ _ => false
  | _ => true
theorem sw_no {e : Expr} (h : notComp e = true) (t : Option Expr) (l : Nat) (env : Env) : swapsWith e t l env = pure false := by
  cases e <;> first | rfl | (simp [notComp] at h)
theorem sndS_expr {e : Expr} {se : SE} {pos : Pos} (he : SndE M r Γ e se) (hn : notComp e = true) : SndS M r Γ (.Expr e pos) (.expr se) := fun X g => by
  refine (ps_expr (he X W0 g.toGood tk0) (sw_no hn _ _ _)).imp fun D σ H h => ?_
  obtain ⟨ρ, F, H0, O, st, f, hr, h⟩ := h
  simp only [ex1] at h
  refine ⟨ρ, O, st, f.rel, hr, (h.bind.mono (fun p st1 h v H1 q => ?_) fun _ _ x => x.elim)⟩
  obtain ⟨O1, l, _⟩ := q.toRep
  exact h.ok O1 σ H1 (l.stp f)
theorem sndS_if {c : Expr} {sc : SE} {a b : List Stmt} {sa sb : List SS} {pos : Pos} (hc : SndT M r Γ c sc) (ha : SndSs M r Γ a sa) (hb : SndSs M r Γ b sb) : SndS M r Γ (.If c a b pos) (.ife sc sa sb) := fun X g => by
  refine (ps_if (hc X W0 g.toGood tk0) (ha X g) (hb X g)).imp fun D σ H h => ?_
  obtain ⟨ρ, F, H0, O, st, f, hr, h⟩ := h
  simp only [ex1] at h
  refine ⟨ρ, O, st, f.rel, hr, (h.bind.mono (fun k st1 h H1 O1 l => ?_) fun _ _ x => x.elim)⟩
  have s1 := l.stp f
  cases k with
  | true => exact iteT ⟨ρ, F, H0, O1, st1, s1.fr, by rw [s1.dep]; exact hr, wpR.mono (show wpR (r.ex sa st1) _ _ from h) (fun fl st2 q => q.later s1) fun _ _ x => x⟩
  | false => exact iteF ⟨ρ, F, H0, O1, st1, s1.fr, by rw [s1.dep]; exact hr, wpR.mono (show wpR (r.ex sb st1) _ _ from h) (fun fl st2 q => q.later s1) fun _ _ x => x⟩
theorem sndS_retN {pos : Pos} : SndS M r Γ (.Return none pos) (.ret none) := fun X g => by
  refine ps_retN.imp fun D σ H h => ?_
  obtain ⟨ρ, F, H0, O, st, f, hr, h⟩ := h
  exact wpR.ok (show wpR (R.ok (Fl.ret .non false) st) _ _ from h) O σ H (Stp.refl f) .non ⟨fun _ => by simp [Rep], fun z => by cases z⟩
theorem sndS_retV {x : Str} {i : Nat} {p pos : Pos} (hN : Γ.N[i]? = some x) (hv : Vis Γ.sc x) (hd : (x == ("__debug__" : Str)) = false) (hc : (x == ("__classdict__" : Str)) = false) : SndS M r Γ (.Return (some (.Name x p)) pos) (.ret (some (.var i))) := fun X g => by
  refine (ps_ret (pe_var (i := i) (by rw [g.N]; exact hN) (by rw [g.sc]; exact hv) hd hc)).imp fun D σ H h => ?_
  obtain ⟨ρ, F, H0, O, st, f, hr, h⟩ := h
  simp only [ex1] at h
  obtain ⟨⟨own, d⟩, e, h⟩ := h.lift
  obtain ⟨v, h1, h2, h3⟩ := f.rel.slot i own d (slot_at e)
  refine ⟨v, h1, h.ok O σ H (Stp.refl f) v ⟨h2, fun z => ?_⟩⟩
  obtain ⟨a, q1, q2, q3, q4⟩ := h3 z
  subst z
  exact ⟨a, q1, q2, q3, f.new i d a (slot_at e) (by rw [h1, q1]), q4⟩
theorem ex1_ret {P : Prg} {se : SE} (hn : ∀ i, se ≠ .var i) : ex1 P r (.ret (some se)) st = (r.ev se st).bind fun p st => R.ok (Fl.ret p.1 p.2) st := by
  cases se <;> first | rfl | exact absurd rfl (hn _)
theorem sndS_ret {e : Expr} {se : SE} {pos : Pos} (he : SndE M r Γ e se) (hn : ∀ i, se ≠ .var i) : SndS M r Γ (.Return (some e) pos) (.ret (some se)) := fun X g => by
  refine (ps_ret (he X W0 g.toGood tk0)).imp fun D σ H h => ?_
  obtain ⟨ρ, F, H0, O, st, f, hr, h⟩ := h
  rw [ex1_ret hn] at h
  refine ⟨ρ, O, st, f.rel, hr, (h.bind.mono (fun p st1 h v H1 q => ?_) fun _ _ x => x.elim)⟩
  obtain ⟨O1, l, h1, h2⟩ := q
  have f1 := f.left l
  cases hfr : p.2 with
  | false =>
    rw [hfr] at h
    exact h.ok O1 σ H1 (l.stp f) v ⟨fun _ => h1 hfr, fun z => by cases z⟩
  | true =>
    rw [hfr] at h
    obtain ⟨a, rfl, na, ha, s2, ow⟩ := h2 hfr
    have ha0 : H0 a = none := f.ext.dom a ha
    have hr2 : a ∉ ρ := fun z => by
      obtain ⟨o, ho, _⟩ := f.rel.so.trk a (f.rel.so.rho a z)
      rw [ha] at ho; cases ho
    refine h.ok (fun b => O1 b ∨ b = a) σ H1 ⟨⟨s2, f1.ext, fun b hb => .inl (f1.low b hb), f.fdom, f.rho, f1.new⟩, ?_, l.dep, l.slen, l.lo, fun _ _ => rfl⟩ (.ref a) ⟨(fun z => by cases z), fun _ => ⟨a, rfl, .inr rfl, hr2, ha0, ow⟩⟩
    have lt := l.lt f.rel
    exact ⟨lt.keep, fun b hb => hb.elim (lt.grow b) fun e => .inr (by rw [e]; exact ha), fun b hb => let ⟨o, ho, _⟩ := s2.so.trk b hb; ⟨o, ho⟩, lt.dom⟩
end
end TI

end

section
set_option Elab.async false
set_option linter.all false
set_option maxRecDepth 100000
set_option maxHeartbeats 1000000
/-! TI22: assignments. -/
namespace TI
open PySem L2 PySem.Spec PyProof.Rows
section
variable {M : Mt2} {ρ : List Addr} {O O1 O2 O' F : Addr → Prop} {H H0 H1 H2 H' : Hp} {st st1 st2 st' : St} {σ σ1 σ' : L2.St} {sto sto' : List D} {X : Cx} {W : WX} {r : Rec} {Γ : Gam}
/-- a fresh or plain value goes into a slot -/
theorem set_stp {i : Nat} {d : D} {fr : Bool} {v : V} (hlo : st1.lo ≤ i) (f : FR M ρ F H0 O st σ H) (p : PostE M ρ O st σ H d fr st1 v H1) : ∃ O2, Stp M ρ F H0 O st σ H O2 (setv st1 i (fr && isMut d) d) (σ.set i (some v)) H1 := by
  obtain ⟨O1, l, h1, h2⟩ := p
  have f1 := f.left l
  cases fr with
  | false =>
    refine ⟨O1, ⟨f1.rel.setv (own := false) ⟨fun _ => h1 rfl, fun z => (by cases z)⟩ (fun z => by cases z), f1.ext, f1.low, f1.fdom, f1.rho, fun j e a hj hs => ?_⟩, l.lt f.rel, l.dep, l.slen, l.lo, fun j hj => List.getElem?_set_ne (by have := l.lo; omega)⟩
    simp only [setv] at hj
    by_cases e : i = j
    · subst e
      by_cases hl : i < st1.env.length
      · rw [List.getElem?_set_self hl] at hj; cases hj
      · rw [List.getElem?_eq_none (by simpa using hl)] at hj; cases hj
    · rw [List.getElem?_set_ne e] at hj hs
      exact f1.new j _ a hj hs
  | true =>
    obtain ⟨a, rfl, na, ha, s2, ow⟩ := h2 rfl
    have hm : isMut d = true := ow.mut
    rw [hm]
    have ha0 : H0 a = none := f.ext.dom a ha
    have hr2 : a ∉ ρ := fun z => by
      obtain ⟨o, ho, _⟩ := f.rel.so.trk a (f.rel.so.rho a z)
      rw [ha] at ho; cases ho
    have lt := l.lt f.rel
    have hslot : ∀ (j : Nat) (e : D), st1.env[j]? = some (some (true, e)) → σ[j]? ≠ some (some (.ref a)) := fun j e hj hs => by
      obtain ⟨v, g1, _, g3⟩ := f1.rel.slot j _ _ hj
      rw [hs] at g1; cases g1
      obtain ⟨b, e1, e2, _⟩ := g3 rfl
      cases e1
      exact na e2
    refine ⟨fun b => O1 b ∨ b = a, ⟨s2.setv (own := true) ⟨fun z => (by cases z), fun _ => ⟨a, rfl, .inr rfl, hr2, ow⟩⟩ fun _ j e _ hj => hslot j e hj, f1.ext, fun b hb => .inl (f1.low b hb), f1.fdom, f1.rho, fun j e b hj hs => ?_⟩, ⟨lt.keep, fun b hb => hb.elim (lt.grow b) fun e => .inr (by rw [e]; exact ha), fun b hb => (let ⟨o, ho, _⟩ := s2.so.trk b hb; ⟨o, ho⟩), lt.dom⟩, l.dep, l.slen, l.lo, fun j hj => List.getElem?_set_ne (by have := l.lo; omega)⟩
    simp only [setv] at hj
    by_cases e : i = j
    · subst e
      by_cases hl : i < st1.env.length
      · rw [List.getElem?_set_self (by rw [← f1.rel.len]; exact hl)] at hs
        cases hs; exact ha0
      · rw [List.getElem?_eq_none (by simpa using hl)] at hj; cases hj
    · rw [List.getElem?_set_ne e] at hj hs
      exact f1.new j _ b hj hs
/-- plain values into the target's slots -/
theorem asg_stp {ts : List Nat} (f : FR M ρ F H0 O st σ H) (s : SRel M ρ O st' σ' H) (a : AsgOk ts st σ st' σ') : Stp M ρ F H0 O st σ H O st' σ' H := by
  refine ⟨⟨s, by rw [a.sto]; exact f.ext, f.low, f.fdom, f.rho, fun i d b hi hs => ?_⟩, Later.refl f.rel, a.dep, by rw [a.sto], a.lo, fun i hi => ?_⟩
  · rcases a.at_ i with ⟨q1, q2⟩ | ⟨_, d', q⟩
    · exact f.new i d b (by rw [← q1]; exact hi) (by rw [← q2]; exact hs)
    · rw [hi] at q; cases q
  · rcases a.at_ i with ⟨_, q2⟩ | ⟨q, _⟩
    · exact q2
    · have := q.2; omega
theorem sw_cell {e : Expr} {x : Str} {p : Pos} {l : Nat} {env : Env} (h : notComp e = true ∨ env.scope.names.lookup x ≠ some .local) : swapsWith e (some (.Name x p)) l env = pure false := by
  rcases h with h | h
  · exact sw_no h _ _ _
  · have hk : (env.kindOf x == some .local) = false := by
      rw [beq_eq_false_iff_ne]; exact h
    unfold swapsWith
    cases e <;> first | rfl | (simp only [hk]; simp)
theorem sndS_set {e : Expr} {se : SE} {x : Str} {i : Nat} {p pos : Pos} (he : SndE M r Γ e se) (hN : Γ.N[i]? = some x) (hx : Loc Γ.sc x) (hf : Γ.fc x = true ∨ Γ.sc.names.lookup x = some .local) (hc : notComp e = true ∨ Γ.sc.names.lookup x ≠ some .local) : SndS M r Γ (.Assign [.Name x p] e pos) (.asg (.nm i) se) := fun X g => by
  refine (ps_set g.nd (by rw [g.N]; exact hN) (by rw [g.sc]; exact hx) (he X W0 g.toGood tk0) (sw_cell (by rw [g.sc]; exact hc)) (hf.imp (g.fn _) (by rw [g.sc]; exact id))).imp fun D σ H h => ?_
  obtain ⟨ρ, F, H0, O, st, f, hr, h⟩ := h
  simp only [ex1] at h
  refine ⟨ρ, O, st, f.rel, hr, (h.bind.mono (fun p st1 h v H1 q => ?_) fun _ _ x => x.elim)⟩
  obtain ⟨st2, ha, h⟩ := h.lift
  simp only [asg] at ha
  split at ha
  · rename_i hlo
    cases ha
    obtain ⟨O2, s2⟩ := set_stp (i := i) hlo.1 f q
    exact h.ok O2 _ H1 s2
  · cases ha
/-- a, b, .. = e -/
theorem sndS_unp {e : Expr} {se : SE} {es : List Expr} {ts : List ST} {k : Nat} {p pos : Pos} (he : SndE M r Γ e se) (ht : TgsOk Γ es ts) (hc : ∀ env, swapsWith e (some (.Tuple es k p)) pos.line env = pure false) (hw : ∀ env, swappedStores [.Tuple es k p] e env = pure none) : SndS M r Γ (.Assign [.Tuple es k p] e pos) (.asg (.tp ts) se) := fun X g => by
  have tgo : TgOk Γ (.Tuple es k p) (.tp ts) := .tp ht
  refine (ps_asg (he X W0 g.toGood tk0) (tgo.pg g.toGood) (hc X.env) (hw X.env) (by rw [tg_each tgo]; rfl)).imp fun D σ H h => ?_
  obtain ⟨ρ, F, H0, O, st, f, hr, h⟩ := h
  simp only [ex1] at h
  refine ⟨ρ, O, st, f.rel, hr, (h.bind.mono (fun p st1 h v H1 q => ?_) fun _ _ x => x.elim)⟩
  obtain ⟨st2, ha, h⟩ := h.lift
  obtain ⟨O1, l, rv⟩ := q.toRep
  have ha : asg (.tp ts) p.1 false st1 = some st2 := by
    simp only [asg] at ha ⊢
    exact ha
  refine ⟨ρ, O1, st1, p.1, st2, l.rel, rv, ha, fun σ2 s2 a2 => h.ok O1 σ2 H1 ((l.stp f).trans (asg_stp (f.left l) s2 a2))⟩
/-! ### aug -/
theorem augop_int {op : Operator} {d e c : D} (h : augop op d e = some c) : ∃ a b k, d = .int a ∧ e = .int b ∧ c = .int k := by
  unfold augop at h
  split at h
  · cases h; exact ⟨_, _, _, rfl, rfl, rfl⟩
  · cases h; exact ⟨_, _, _, rfl, rfl, rfl⟩
  · cases h
theorem sndS_aug {op : Operator} {e : Expr} {se : SE} {x : Str} {i : Nat} {p pos : Pos} (he : SndE M r Γ e se) (hop : op = .Add ∨ op = .Sub) (hN : Γ.N[i]? = some x) (hx : Loc Γ.sc x) (hf : Γ.fc x = true ∨ Γ.sc.names.lookup x = some .local) : SndS M r Γ (.AugAssign (.Name x p) op e pos) (.aug i op se) := fun X g => by
  have hip : PIp X op (fun x y H Q => ∃ a b d, augop op (.int a) (.int b) = some (.int d) ∧ x = .int a ∧ y = .int b ∧ Q (.int d) H) := by
    intro pins s σ H x y v u Q I r1 r2 h
    obtain ⟨a, b, d, e, rfl, rfl, q⟩ := h
    rcases hop with rfl | rfl
    · simp only [augop] at e; cases e
      exact ip_add pins s σ H _ _ v u Q I r1 r2 ⟨a, b, rfl, rfl, q⟩
    · simp only [augop] at e; cases e
      exact ip_sub pins s σ H _ _ v u Q I r1 r2 ⟨a, b, rfl, rfl, q⟩
  refine (ps_aug g.nd (by rw [g.N]; exact hN) (by rw [g.sc]; exact hx) (he X W0 g.toGood tk0) hip (hf.imp (g.fn _) (by rw [g.sc]; exact id))).imp fun D σ H h => ?_
  obtain ⟨ρ, F, H0, O, st, f, hr, h⟩ := h
  simp only [ex1] at h
  obtain ⟨⟨own, d⟩, e1, h⟩ := h.lift
  obtain ⟨v, h1, h2, h3⟩ := f.rel.slot i own d (slot_at e1)
  refine ⟨v, h1, ρ, O, st, f.rel, hr, (h.bind.mono (fun p st1 h w H1 q => ?_) fun _ _ x => x.elim)⟩
  obtain ⟨d2, ha, h⟩ := h.lift
  have hv : (∃ a, v = .int a ∧ d = .int a) ∧ ∃ b c, p.1 = .int b ∧ d2 = .int c := by
    have hd : ∃ a b c, d = .int a ∧ p.1 = .int b ∧ d2 = .int c := by
      exact augop_int ha
    obtain ⟨a, b, c, rfl, e2, e3⟩ := hd
    refine ⟨⟨a, ?_, rfl⟩, b, c, e2, e3⟩
    cases own with
    | false => have := h2 rfl; simpa [Rep] using this
    | true =>
      obtain ⟨_, _, _, _, ow⟩ := h3 rfl
      exact ow.elim
  obtain ⟨⟨a, rfl, rfl⟩, b, c, eb, rfl⟩ := hv
  obtain ⟨O1, l, rv⟩ := q.toRep
  rw [eb] at rv ha
  simp only [Rep] at rv
  subst rv
  refine ⟨a, b, c, ha, rfl, rfl, ?_⟩
  have pe : PostE M ρ O st σ H (.int c) false st1 (.int c) H1 := PostE.plain l (by simp [Rep])
  split at h
  · rename_i hlo
    obtain ⟨O2, s2⟩ := set_stp (i := i) hlo f pe
    exact h.ok O2 _ H1 s2
  · exact h.elim
end
end TI

end

section
set_option Elab.async false
set_option linter.all false
set_option maxRecDepth 100000
set_option maxHeartbeats 1000000
/-! TI23: writing own things. -/
namespace TI
open PySem L2 PySem.Spec PyProof.Rows
section
variable {M : Mt2} {ρ : List Addr} {O O1 O2 O' F : Addr → Prop} {H H0 H1 H2 H' : Hp} {st st1 st2 st' : St} {σ σ1 σ' : L2.St} {sto sto' : List D} {X : Cx} {W : WX} {r : Rec} {Γ : Gam}
theorem kp_upd {a : Addr} {o : HO} (hO : O a) : Kp O H (upd H a o) := by
  have ne : ∀ {b}, ¬ O b → b ≠ a := fun q z => q (z ▸ hO)
  refine ⟨fun a u h t q => ?_, fun a vs h q => by rw [upd_ne (ne h)]; exact q, fun a vs h q => by rw [upd_ne (ne h)]; exact q, fun a C dx fs h q => by rw [upd_ne (ne h)]; exact q, fun a h q => by rw [upd_ne (ne h)]; exact q, fun a h q => by rw [upd_ne (ne h)]; exact q, fun a φ h q => by rw [upd_ne (ne h)]; exact q⟩
  rcases q with q | ⟨o', q⟩
  · exact .inl (by rw [upd_ne (ne h)]; exact q)
  · exact .inr ⟨o', by rw [upd_ne (ne h)]; exact q⟩
theorem StoOk.tabU (s : StoOk M ρ O sto H) {a P : Addr} {o : HO} {q : Str} (oa : O a) (h : LamX.TabS H P q) : LamX.TabS (upd H a o) P q :=
  tab_upd (fun u hu => by obtain ⟨o', h1, h2⟩ := s.trk a oa; rw [hu] at h1; cases h1; exact h2) h
theorem write_stp {i : Nat} {d d' : D} {a : Addr} {o : HO} (f : FR M ρ F H0 O st σ H) (hi : st.env[i]? = some (some (true, d))) (hs : σ[i]? = some (some (.ref a))) (ht : ownO o) (hn : ∀ vs, ¬ (o = .tup vs)) (ow' : Own M ρ O (upd H a o) d' a) :
    Stp M ρ F H0 O st σ H O (setv st i true d') σ (upd H a o) := by
  have s := f.rel
  obtain ⟨v, g1, _, g3⟩ := s.slot i _ _ hi
  rw [hs] at g1; cases g1
  obtain ⟨a', e1, oa, na, ow⟩ := g3 rfl
  cases e1
  have kp : Kp O H (upd H a o) := kp_upd oa
  have hl : i < st.env.length := (List.getElem?_eq_some_iff.mp hi).1
  have ha0 : H0 a = none := f.new i d a hi hs
  have other : ∀ {j : Nat} {e : D} {b : Addr}, j ≠ i → st.env[j]? = some (some (true, e)) → σ[j]? = some (some (.ref b)) → b ≠ a := fun {j e b} hj h1 h2 e' => by
    subst e'
    exact hj (s.inj j i e d b h1 hi h2 hs)
  have slotE : ∀ {j : Nat} {own : Bool} {e : D}, (setv st i true d').env[j]? = some (some (own, e)) → (j = i ∧ own = true ∧ e = d') ∨ (j ≠ i ∧ st.env[j]? = some (some (own, e))) := fun {j own e} h => by
    simp only [setv] at h
    by_cases q : i = j
    · subst q
      rw [List.getElem?_set_self hl] at h
      cases h
      exact .inl ⟨rfl, rfl, rfl⟩
    · rw [List.getElem?_set_ne q] at h
      exact .inr ⟨Ne.symm q, h⟩
  refine ⟨⟨⟨⟨s.so.rho, s.so.nd, fun b h => ?_, fun p hp => s.so.tabU oa (s.so.tab p hp), fun b vs h q => ?_, fun j e h => ?_⟩, by simp [setv, s.len], fun j own e h => ?_, fun j k e e' b hj hk sj sk => ?_⟩, ⟨fun b u n t q => ?_, fun b q => ?_, fun z p hp => s.so.tabU oa (f.ext.tab z p hp)⟩, f.low, f.fdom, f.rho, fun j e b hj hsj => ?_⟩, ⟨fun b u n t q => ?_, fun b h => .inl h, fun b h => ?_, fun b q => ?_⟩, rfl, rfl, rfl, fun _ _ => rfl⟩
  · by_cases e : b = a
    · subst e; exact ⟨o, upd_same, ht⟩
    · rw [upd_ne e]; exact s.so.trk b h
  · by_cases e : b = a
    · subst e; rw [upd_same] at q; cases q; exact hn vs rfl
    · rw [upd_ne e] at q; exact s.so.notup b vs h q
  · obtain ⟨b, xs, vs, h1, h2, h3, h4⟩ := s.so.at_ j e h
    have : b ≠ a := fun e => na (e ▸ List.mem_of_getElem? h1)
    exact ⟨b, xs, vs, h1, h2, by rw [upd_ne this]; exact h3, h4.mono (fun _ z => z) kp⟩
  · rcases slotE h with ⟨rfl, rfl, rfl⟩ | ⟨hj, h⟩
    · exact ⟨.ref a, hs, (fun z => by cases z), fun _ => ⟨a, rfl, oa, na, ow'⟩⟩
    · obtain ⟨v, g1, g2, g3⟩ := s.slot j own e h
      refine ⟨v, g1, fun z => (g2 z).mono (fun _ z => z) kp, fun z => ?_⟩
      subst z
      obtain ⟨b, q1, q2, q3, q4⟩ := g3 rfl
      have : b ≠ a := other hj h (by rw [g1, q1])
      exact ⟨b, q1, q2, q3, q4.mono (fun _ z => z) kp fun u hu => by rw [upd_ne this]; exact hu⟩
  · have own1 : ∀ {j : Nat} {e : D}, (setv st i true d').env[j]? = some (some (true, e)) → ∃ e', st.env[j]? = some (some (true, e')) := fun {j e} h => by
      rcases slotE h with ⟨rfl, _, _⟩ | ⟨_, h⟩
      · exact ⟨d, hi⟩
      · exact ⟨e, h⟩
    obtain ⟨e1, h1⟩ := own1 hj
    obtain ⟨e2, h2⟩ := own1 hk
    exact s.inj j k e1 e2 b h1 h2 sj sk
  · have : b ≠ a := fun e => by rw [e, ha0] at q; cases q
    rw [upd_ne this]; exact f.ext.keep b u n t q
  · by_cases e : b = a
    · subst e; rw [upd_same] at q; cases q
    · rw [upd_ne e] at q; exact f.ext.dom b q
  · rcases slotE hj with ⟨rfl, _, _⟩ | ⟨_, h⟩
    · exact f.new j d b hi hsj
    · exact f.new j e b h hsj
  · have : b ≠ a := fun e => n (e ▸ oa)
    rw [upd_ne this]; exact q
  · by_cases e : b = a
    · subst e; exact ⟨o, upd_same⟩
    · rw [upd_ne e]
      obtain ⟨u, hu, _⟩ := s.so.trk b h
      exact ⟨u, hu⟩
  · by_cases e : b = a
    · subst e; rw [upd_same] at q; cases q
    · rw [upd_ne e] at q; exact q
theorem own_slot {i : Nat} {d : D} (s : SRel M ρ O st σ H) (hi : st.env[i]? = some (some (true, d))) : ∃ a, σ[i]? = some (some (.ref a)) ∧ O a ∧ a ∉ ρ ∧ Own M ρ O H d a := by
  obtain ⟨v, g1, _, g3⟩ := s.slot i _ _ hi
  obtain ⟨a, rfl, oa, na, ow⟩ := g3 rfl
  exact ⟨a, g1, oa, na, ow⟩
/-- the slot is as it was ahead of an evaluation, but for being handed on -/
theorem Left.slot_own (l : Left M ρ O st σ H O' st' H') {i : Nat} {d : D} (h : st'.env[i]? = some (some (true, d))) : st.env[i]? = some (some (true, d)) := l.env.own h
theorem sndS_app {e : Expr} {se : SE} {x : Str} {i : Nat} {p apos cpos pos : Pos} (he : SndE M r Γ e se) (hst : NotStar e) (hN : Γ.N[i]? = some x) (hv : Vis Γ.sc x) (hd : (x == ("__debug__" : Str)) = false) (hc : (x == ("__classdict__" : Str)) = false) (hli : (apos.endLine == cpos.line) = true) :
    SndS M r Γ (.Expr (.Call (.Attribute (.Name x p) "append" apos) [e] [] cpos) pos) (.app i se) := fun X g => by
  have hes : SndEs M r Γ [e] [se] := .cons hst he .nil
  have pv := pe_var (X := X) (pos := p) (i := i) (by rw [g.N]; exact hN) (by rw [g.sc]; exact hv) hd hc
  have pb := pe_bm (X := X) (cpos := cpos) (apos := apos) (name := "append") F.plainAttrs_list F.slot_list_append F.type_list_append mt_append pv (hes.pa X W0 g.toGood tk0) (base_of rfl _ _ _) (by rw [star_of hst]; rfl) hli (star_of hst _ _) rfl
  refine (ps_expr pb (sw_no rfl _ _ _)).imp fun D σ H h => ?_
  obtain ⟨ρ, F, H0, O, st, f, hr, h⟩ := h
  simp only [ex1] at h
  split at h
  · rename_i xs0 hs0
    obtain ⟨a0, hσ, oa0, _, vs0, ha0, _⟩ := own_slot f.rel (slot_at hs0)
    refine ⟨.ref a0, hσ, .inl ⟨rfl, vs0, SqL.of ha0⟩, ρ, O, st, f.rel, hr, ?_⟩
    have hb := h.bind
    have : wpR (evs r [se] st) (fun ds st1 => ∃ d, ds = [d] ∧ wpR (lift (append i d st1) st1 fun st => R.ok Fl.nx st) (PostS M ρ F H0 O st σ H D) fun _ _ => False) (Bx M W0 ρ O st σ H) := by
      simp only [evs]
      cases q : r.ev se st with
      | ok p st1 => rw [q] at hb; exact ⟨p.1, rfl, hb⟩
      | exc e s => rw [q] at hb; exact hb.elim
      | no => rw [q] at hb; exact hb.elim
    refine this.mono (fun ds st1 ⟨d, hd, h⟩ vs H1 ⟨O1, l, rs⟩ => ?_) fun _ _ x => x
    subst hd
    simp only [Reps] at rs
    obtain ⟨v, w, rfl, rv, rfl⟩ := rs
    obtain ⟨st2, ha, h⟩ := h.lift
    unfold append at ha
    split at ha
    · rename_i xs hs1
      split at ha
      · rename_i hlen
        cases ha
        have f1 := f.left l
        obtain ⟨a, hσ1, oa, na, vs, ha1, rxs⟩ := own_slot f1.rel (slot_at hs1)
        rw [hσ] at hσ1; cases hσ1
        have := sz_line
        refine ⟨a0, vs, v, rfl, rfl, ha1, by rw [← rxs.length]; omega, ?_⟩
        have kp : Kp O1 H1 (upd H1 a0 (.lst (vs ++ [v]))) := kp_upd oa
        exact h.ok O1 σ _ ((l.stp f).trans (write_stp f1 (slot_at hs1) hσ trivial (fun _ z => by cases z) ⟨vs ++ [v], upd_same, (rxs.append (.one rv)).mono (fun _ z => z) kp⟩))
      · cases ha
    · cases ha
  · exact h.elim
theorem sto_stp {k : Nat} {a : Addr} {xs xs' : List D} {vs' : List V} (f : FR M ρ F H0 O st σ H) (hk : st.sto[k]? = some (.lst xs)) (ha : ρ[k]? = some a) (rs : Reps M ρ O H xs' vs') : Stp M ρ F H0 O st σ H O { st with sto := st.sto.set k (.lst xs') } σ (upd H a (.lst vs')) := by
  have s := f.rel
  have hm : a ∈ ρ := List.mem_of_getElem? ha
  have oa : O a := s.so.rho a hm
  have kp : Kp O H (upd H a (.lst vs')) := kp_upd oa
  have hl : k < st.sto.length := (List.getElem?_eq_some_iff.mp hk).1
  have wr : Wr ρ st.sto a := ⟨k, hl, ha⟩
  refine ⟨⟨⟨⟨s.so.rho, s.so.nd, fun b h => ?_, fun p hp => s.so.tabU oa (s.so.tab p hp), fun b vs h q => ?_, fun j e h => ?_⟩, s.len, fun j own e h => ?_, s.inj⟩, ⟨fun b u n t q => ?_, fun b q => ?_, fun z p hp => s.so.tabU oa (f.ext.tab z p hp)⟩, f.low, f.fdom, f.rho, f.new⟩, ⟨fun b u n t q => ?_, fun b h => .inl h, fun b h => ?_, fun b q => ?_⟩, rfl, by simp, rfl, fun _ _ => rfl⟩
  · by_cases e : b = a
    · subst e; exact ⟨_, upd_same, trivial⟩
    · rw [upd_ne e]; exact s.so.trk b h
  · by_cases e : b = a
    · subst e; rw [upd_same] at q; cases q
    · rw [upd_ne e] at q; exact s.so.notup b vs h q
  · have h : (st.sto.set k (.lst xs'))[j]? = some e := h
    by_cases q : k = j
    · subst q
      rw [List.getElem?_set_self hl] at h
      cases h
      exact ⟨a, xs', vs', ha, rfl, upd_same, rs.mono (fun _ z => z) kp⟩
    · rw [List.getElem?_set_ne q] at h
      obtain ⟨b, ys, ws, h1, h2, h3, h4⟩ := s.so.at_ j e h
      have : b ≠ a := fun e => by
        subst e
        have h1' := (List.getElem?_eq_some_iff.mp h1)
        have ha' := (List.getElem?_eq_some_iff.mp ha)
        obtain ⟨l1, e1⟩ := h1'
        obtain ⟨l2, e2⟩ := ha'
        have nd := List.pairwise_iff_getElem.mp s.so.nd
        rcases Nat.lt_or_gt_of_ne q with z | z
        · exact nd k j l2 l1 z (e2.trans e1.symm)
        · exact nd j k l1 l2 z (e1.trans e2.symm)
      exact ⟨b, ys, ws, h1, h2, by rw [upd_ne this]; exact h3, h4.mono (fun _ z => z) kp⟩
  · obtain ⟨v, g1, g2, g3⟩ := s.slot j own e h
    refine ⟨v, g1, fun z => (g2 z).mono (fun _ z => z) kp, fun z => ?_⟩
    obtain ⟨b, q1, q2, q3, q4⟩ := g3 z
    have : b ≠ a := fun e => q3 (e ▸ hm)
    exact ⟨b, q1, q2, q3, q4.mono (fun _ z => z) kp fun u hu => by rw [upd_ne this]; exact hu⟩
  · have n' : ¬ Wr ρ st.sto b := fun w => n (w.len (by simp))
    have : b ≠ a := fun e => n' (e ▸ wr)
    rw [upd_ne this]; exact f.ext.keep b u n' t q
  · by_cases e : b = a
    · subst e; rw [upd_same] at q; cases q
    · rw [upd_ne e] at q; exact f.ext.dom b q
  · have : b ≠ a := fun e => n (e ▸ oa)
    rw [upd_ne this]; exact q
  · by_cases e : b = a
    · subst e; exact ⟨_, upd_same⟩
    · rw [upd_ne e]
      obtain ⟨u, hu, _⟩ := s.so.trk b h
      exact ⟨u, hu⟩
  · by_cases e : b = a
    · subst e; rw [upd_same] at q; cases q
    · rw [upd_ne e] at q; exact q
/-! ### x[i] = e -/
theorem PS.of_run {b : Stmt} {t : TS} (h : ∀ (pins : List (Addr × Obj)) (s : Shared) (σ : L2.St) (H : Hp) (D : Ends), Inv X pins σ H s → t D σ H → wpAny (model X.prog X.w) X.A (exec b X.env) (SP X pins D) X.xe s) : PS X b t := ⟨h⟩
def rSet (M : Mt2) (X : Cx) (i : Nat) (σ : L2.St) : TSet := fun o k v H Q => ∃ ρ F H0 O st dk dv st2, X.A.units + 64 < cLine ∧ FR M ρ F H0 O st σ H ∧ σ[i]? = some (some o) ∧ Rep1 M ρ O H dk k ∧ Rep M ρ O H dv v ∧ setItem i dk dv st = some st2 ∧ ∀ O' H', Stp M ρ F H0 O st σ H O' st2 σ H' → Q H'
theorem pset_any {i : Nat} {σ0 : L2.St} : PSet X (rSet M X i σ0) := by
  intro pins s σ H o k v ov iv u Q I ro ri rv h
  obtain ⟨ρ, F, H0, O, st, dk, dv, st2, hu, f, hσ, rk, rvd, hset, q⟩ := h
  unfold setItem at hset
  split at hset
  · rename_i xs hs
    cases dk with
    | int n =>
      simp only at hset
      obtain ⟨j, hj, e⟩ := Option.map_eq_some_iff.mp hset
      subst e
      obtain ⟨a, hσ1, oa, na, vs, ha, rxs⟩ := own_slot f.rel (slot_at hs)
      rw [hσ] at hσ1; cases hσ1
      cases rk.int
      have kp : Kp O H (upd H a (.lst (vs.set j v))) := kp_upd oa
      exact set_list pins s σ H _ _ v ov iv u Q I ro ri rv ⟨a, vs, n, j, rfl, rfl, ha, by rw [← rxs.length]; exact hj, q O _ (write_stp f (slot_at hs) hσ trivial (fun _ z => by cases z) ⟨vs.set j v, upd_same, (rxs.set j rvd).mono (fun _ z => z) kp⟩)⟩
    | _ => simp at hset
  · rename_i ks ds hs
    split at hset
    · rename_i hc
      simp only [Bool.and_eq_true] at hc
      obtain ⟨⟨hk1, hk2⟩, hk3⟩ := hc
      cases hset
      obtain ⟨a, hσ1, oa, na, vs, rds, hobj⟩ := own_slot f.rel (slot_at hs)
      rw [hσ] at hσ1; cases hσ1
      cases (show ov = Value.ref a from ro)
      have hlen : ks.length < sizeLine := by
        have := sz_line
        simp only [okLen, List.length_cons, decide_eq_true_eq] at hk3
        omega
      have plain : ∀ {k0 : Key}, toKey dk = some k0 → ∀ {kl : List Key} {H2 : Hp}, Inv X pins σ H2 s → H2 a = some (.dK (kl.zip vs)) → (∀ o, upd H2 a o = upd H a o) → toKeys ks = some kl → kl.length = vs.length → wpAny (model X.prog X.w) X.A (PySem.setItem (.ref a) iv u) (fun _ s' => ∃ H', Inv X pins σ H' s' ∧ Q H') X.xe s := fun {k0} hk {kl H2} I2 h2 hu2 hkl hle => by
        have ev : k = kV k0 := toKey_kV hk (rk.plain (by cases dk <;> simp [toKey] at hk <;> rfl))
        subst ev
        obtain ⟨k1, k2⟩ := toKeys_at hkl
        obtain ⟨kl', vs', m1, m2, m3, m4, m5⟩ := put_map (fun h1 h2 => eqD_key h1 h2) hk rvd k1 k2 hle rds
        refine d_setItem (by omega) I2 (DPut.k h2 (by rw [List.length_zip]; omega)) ri rv fun s' I' => ⟨_, I', ?_⟩
        rw [hu2]
        exact q O _ (write_stp f (slot_at hs) hσ trivial (fun _ z => by cases z) ⟨vs', m5.mono (fun _ z => z) (kp_upd oa), .inl ⟨kl', toKeys_of m2 m3, m4, by rw [upd_same, m1]⟩⟩)
      have tupl : ∀ {k0 : List Key} {xs : List D}, dk = .tup xs → toKeyT dk = some k0 → ∀ {kl : List (List Key)} {H2 : Hp}, Inv X pins σ H2 s → H2 a = some (.dT (kl.zip vs)) → (∀ b o, b ≠ a → H b = some o → H2 b = some o) → (∀ o, upd H2 a o = upd H a o) → toKeyTs ks = some kl → kl.length = vs.length → wpAny (model X.prog X.w) X.A (PySem.setItem (.ref a) iv u) (fun _ s' => ∃ H', Inv X pins σ H' s' ∧ Q H') X.xe s := fun {k0 xs} hx hk {kl H2} I2 h2 hkeep hu2 hkl hle => by
        subst hx
        obtain ⟨b, kvs, rfl, hb, rkv⟩ := rk.tup
        have hkk : toKeys xs = some k0 := hk
        have : kvs = k0.map kV := keys_reps hkk rkv
        subst this
        have hba : b ≠ a := fun e => by
          subst e
          obtain ⟨o, ho, _⟩ := f.rel.so.trk _ oa
          exact f.rel.so.notup _ _ oa hb
        obtain ⟨k1, k2⟩ := toKeyTs_at hkl
        obtain ⟨kl', vs', m1, m2, m3, m4, m5⟩ := put_map (fun h1 h2 => eqD_keyT h1 h2) hk rvd k1 k2 hle rds
        refine d_setItem (by omega) I2 (DPut.t h2 (hkeep b _ hba hb) (by rw [List.length_zip]; omega)) ri rv fun s' I' => ⟨_, I', ?_⟩
        rw [hu2]
        exact q O _ (write_stp f (slot_at hs) hσ trivial (fun _ z => by cases z) ⟨vs', m5.mono (fun _ z => z) (kp_upd oa), .inr ⟨kl', toKeyTs_of m2 m3, m4, by rw [upd_same, m1]⟩⟩)
      rcases keyOk_or hk1 with ⟨k0, hk⟩ | ⟨xs, k0, hx, hk⟩
      · rcases hobj with ⟨kl, hkl, hle, hob⟩ | ⟨kl, hkl, hle, hob⟩
        · exact plain hk I hob (fun _ => rfl) hkl hle
        · have e := sameK_key hkl hk hk2
          subst e
          simp [toKeyTs] at hkl
          subst hkl
          have hv : vs = [] := by cases vs with | nil => rfl | cons a b => simp at hle
          subst hv
          exact plain hk (dt_dk I hob) (kl := []) (by rw [upd_same]; rfl) (fun o => upd_upd) rfl rfl
      · rcases hobj with ⟨kl, hkl, hle, hob⟩ | ⟨kl, hkl, hle, hob⟩
        · have e := sameK_tup hkl (xs := xs) (by rw [← hx]; exact hk2)
          subst e
          simp [toKeys] at hkl
          subst hkl
          have hv : vs = [] := by cases vs with | nil => rfl | cons a b => simp at hle
          subst hv
          exact tupl hx hk (dk_dt I hob) (kl := []) (by rw [upd_same]; rfl) (fun b o hb e => by rw [upd_ne hb]; exact e) (fun o => upd_upd) rfl rfl
        · exact tupl hx hk I hob (fun _ _ _ e => e) (fun _ => rfl) hkl hle
    · cases hset
  · rename_i own k hs
    split at hset
    · rename_i xs n hk
      obtain ⟨j, hj, e⟩ := Option.map_eq_some_iff.mp hset
      subst e
      obtain ⟨a, xs', vs, g1, g2, g3, g4⟩ := f.rel.so.at_ _ _ hk
      cases g2
      obtain ⟨v0, s1, s2, s3⟩ := f.rel.slot i _ _ (slot_at hs)
      rw [hσ] at s1; cases s1
      have hro : o = .ref a := by
        cases own with
        | true => obtain ⟨_, _, _, _, ow⟩ := s3 rfl; exact ow.elim
        | false =>
          have := s2 rfl
          simp only [Rep] at this
          obtain ⟨a', e1, e2⟩ := this
          rw [g1] at e1; cases e1
          exact e2
      subst hro
      cases rk.int
      exact set_list pins s σ H _ _ v ov iv u Q I ro ri rv ⟨a, vs, n, j, rfl, rfl, g3, by rw [← g4.length]; exact hj, q O _ (sto_stp f hk g1 (g4.set j rvd))⟩
    · cases hset
  · cases hset
theorem assign_sub {o i : Expr} {pos : Pos} {env : Env} (hi : ∀ a b c d, i ≠ .Slice a b c d) (v : Value) : assign (.Subscript o i pos) env v = (do
      let ov ← holding [v] (eval o env)
      let iv ← holding [v, ov] (eval i env)
      standAt pos
      holding [v, ov, iv] (PySem.setItem ov iv v)
      release [v, ov, iv] []) := by
  cases i <;> first | rfl | exact absurd rfl (hi _ _ _ _)
theorem sndS_seti {e k : Expr} {se sk : SE} {x : Str} {i : Nat} {p spos pos : Pos} (he : SndE M r Γ e se) (hk : SndP M r Γ k sk) (hki : ∀ a b c d, k ≠ .Slice a b c d) (hn : notComp e = true) (hN : Γ.N[i]? = some x) (hv : Vis Γ.sc x) (hd : (x == ("__debug__" : Str)) = false) (hc : (x == ("__classdict__" : Str)) = false) :
    SndS M r Γ (.Assign [.Subscript (.Name x p) k spos] e pos) (.seti i sk se) := fun X g => by
  have pv := pe_var (X := X) (pos := p) (i := i) (by rw [g.N]; exact hN) (by rw [g.sc]; exact hv) hd hc
  refine PS.of_run fun pins s σ H D I h => ?_
  have pg := pg_sub (pos := spos) pv (hk X W0 g.toGood tk0) (pset_any (X := X) (M := M) (i := i) (σ0 := σ)) (assign_sub hki)
  have ps := ps_asg (pos := pos) (he X W0 g.toGood tk0) pg (sw_no hn (some (.Subscript (.Name x p) k spos)) pos.line X.env) rfl rfl
  refine ps.run pins s σ H D I ?_
  obtain ⟨ρ, F, H0, O, st, f, hr, h⟩ := h
  simp only [ex1] at h
  obtain ⟨⟨own0, d0⟩, e0, h⟩ := h.lift
  obtain ⟨v0, hσ, _⟩ := f.rel.slot i _ _ (slot_at e0)
  refine ⟨ρ, O, st, f.rel, hr, (h.bind.mono (fun p st1 h v H1 q => ?_) fun _ _ x => x.elim)⟩
  obtain ⟨O1, l, rv⟩ := q.toRep
  have f1 := f.left l
  refine ⟨v0, hσ, ρ, O1, st1, f1.rel, by rw [l.dep]; exact hr, (h.bind.mono (fun dk st2 h w H2 ⟨O2, l2, rk, _⟩ => ?_) fun _ _ x => x.elim)⟩
  obtain ⟨st3, ha, h⟩ := h.lift
  have f2 := f1.left l2
  exact ⟨ρ, F, H0, O2, st2, dk, p.1, st3, hr.units, f2, hσ, rk, rv.left l2 f1.rel, ha, fun O' H' s3 => h.ok O' σ H' (((l.stp f).trans (l2.stp f1)).trans s3)⟩
/-! ### x.f = e -/
theorem putN_fs (mo : MOk M) {m : Nat} {d : D} {v : V} (rv : Rep M ρ O H d v) : ∀ {ns : List Nat} {ds : List D} {fs : List (Str × V)}, fs.map (·.1) = ns.map M.nm → Reps M ρ O H ds (fs.map (·.2)) →
    (putF (M.nm m) v fs).map (·.1) = (putN ns ds m d).1.map M.nm ∧ Reps M ρ O H (putN ns ds m d).2 ((putF (M.nm m) v fs).map (·.2))
  | [], ds, fs, e, h => by
    cases fs with
    | nil =>
      simp only [putN, putF]
      exact ⟨by simp, .one rv⟩
    | cons a b => simp at e
  | n :: ns, [], fs, e, h => by
    simp only [Reps] at h
    cases fs with
    | nil => simp at e
    | cons a b => simp at h
  | n :: ns, d0 :: ds, fs, e, h => by
    cases fs with
    | nil => simp at e
    | cons a b =>
      obtain ⟨x, v1⟩ := a
      simp only [List.map_cons, List.cons.injEq] at e
      simp only [List.map_cons, Reps] at h
      obtain ⟨v', r', e2, h1, h2⟩ := h
      cases e2
      have ih := putN_fs mo (m := m) rv e.2 h2
      by_cases q : n = m
      · subst q
        have hx : x = M.nm n := e.1
        subst hx
        simp only [putN, putF, if_true]
        exact ⟨by simp [e.2], .cons rv h2⟩
      · have hx : ¬ x = M.nm m := fun z => q (mo.inj _ _ (e.1.symm.trans z))
        simp only [putN, putF, if_neg q, if_neg hx]
        exact ⟨by simp [e.1, ih.1], .cons h1 ih.2⟩
theorem sndS_setf (mo : MOk M) {e : Expr} {se : SE} {x y : Str} {i fl : Nat} {p apos pos : Pos} (he : SndE M r Γ e se) (hy : M.nm fl = y) (hn : notComp e = true) (hN : Γ.N[i]? = some x) (hv : Vis Γ.sc x) (hd : (x == ("__debug__" : Str)) = false) (hc : (x == ("__classdict__" : Str)) = false) :
    SndS M r Γ (.Assign [.Attribute (.Name x p) y apos] e pos) (.setf i fl se) := fun X g => by
  subst hy
  have pv := pe_var (X := X) (pos := p) (i := i) (by rw [g.N]; exact hN) (by rw [g.sc]; exact hv) hd hc
  refine (ps_fld pv (he X W0 g.toGood tk0) (sw_no hn _ _ _)).imp fun D σ H h => ?_
  obtain ⟨ρ, F, H0, O, st, f, hr, h⟩ := h
  simp only [ex1] at h
  obtain ⟨⟨own0, d0⟩, e0, h⟩ := h.lift
  obtain ⟨v0, hσ, _⟩ := f.rel.slot i _ _ (slot_at e0)
  refine ⟨ρ, O, st, f.rel, hr, (h.bind.mono (fun p st1 h v H1 q => ?_) fun _ _ x => x.elim)⟩
  obtain ⟨O1, l, rv⟩ := q.toRep
  have f1 := f.left l
  obtain ⟨st3, ha, h⟩ := h.lift
  unfold setFld at ha
  split at ha
  · rename_i c ns ds hs
    obtain ⟨cd, hcd, ha⟩ := Option.bind_eq_some_iff.mp ha
    split at ha
    · rename_i hcond
      simp only [Bool.and_eq_true, decide_eq_true_eq] at hcond
      cases ha
      have ok := mo.cls c cd hcd
      obtain ⟨a, hσ1, oa, na, dx, fs, ha1, hfs, rs⟩ := own_slot f1.rel (slot_at hs)
      rw [hσ] at hσ1; cases hσ1
      have hlen : fs.length = ns.length := by
        have := congrArg List.length hfs
        simpa using this
      have pn := putN_fs mo (m := fl) rv hfs rs
      refine ⟨.ref a, hσ, a, M.clA c, dx, fs, rfl, ha1, by rw [g.K]; exact ok.cl, by rw [g.K]; exact ok.atts fl (by simpa using hcond.1), by omega, ?_⟩
      exact h.ok O1 σ _ ((l.stp f).trans (write_stp f1 (slot_at hs) hσ trivial (fun _ z => by cases z) ⟨dx, _, upd_same, pn.1, pn.2.mono (fun _ z => z) (kp_upd oa)⟩))
    · cases ha
  · cases ha
end
end TI

end

section
set_option Elab.async false
set_option linter.all false
set_option maxRecDepth 100000
set_option maxHeartbeats 1000000
/-! TI24: loops. -/
namespace TI
open PySem L2 PySem.Spec PyProof.Rows
section
variable {M : Mt2} {ρ : List Addr} {O O1 O2 O' F : Addr → Prop} {H H0 H1 H2 H' : Hp} {st st1 st2 st' : St} {σ σ1 σ' : L2.St} {sto sto' : List D} {X : Cx} {W : WX} {r : Rec} {Γ : Gam}
theorem sndS_for {tg iter : Expr} {stg : ST} {si : SI} {body : List Stmt} {sb : List SS} {pos : Pos} (hi : SndI M r Γ tg iter si) (ht : TgOk Γ tg stg) (hb : SndSs M r Γ body sb) (hs : ∀ env x, foldedSetIterable iter env x = pure x) : SndS M r Γ (.For tg iter body [] pos) (.for_ stg si sb) := fun X g => by
  refine (ps_for g.pass g.calm (hi X W0 g.toGood tk0) (ht.pg g.toGood) (hb X g) (hs X.env)).imp fun D σ H h => ?_
  obtain ⟨ρ, F, H0, O, st, f, hr, h⟩ := h
  simp only [ex1] at h
  refine ⟨ρ, O, st, f.rel, hr, (h.bind.mono (fun ds st1 h J H1 O1 l it => ?_) fun _ _ x => x.elim)⟩
  have f1 := f.left l
  have s1 := l.stp f
  refine ⟨fun i m σ' H' => m = ds.length - i ∧ i ≤ ds.length ∧ ∃ O2 st2, Stp M ρ F H0 O1 st1 σ H1 O2 st2 σ' H' ∧ wpR (forLoop r stg sb (ds.drop i) st2) (PostS M ρ F H0 O st σ H D) (fun _ _ => False), ⟨ds.length, by simp, Nat.zero_le _, O1, st1, Stp.refl f1, by simpa using h⟩, ?_⟩
  rintro i m σ2 H2 ⟨rfl, hi, O2, st2, s2, hk⟩
  by_cases hlt : i < ds.length
  · refine .inr ⟨it.go i O2 H2 hlt s2.lt, fun σ' H' => ∃ O3 st3, Stp M ρ F H0 O1 st1 σ H1 O3 st3 σ' H' ∧ wpR (forLoop r stg sb (ds.drop (i + 1)) st3) (PostS M ρ F H0 O st σ H D) (fun _ _ => False), fun σ' H' q => ⟨ds.length - (i + 1), by omega, rfl, hlt, q⟩, fun x H3 y => ?_⟩
    obtain ⟨e3, d, hd, rd⟩ := it.yld i O2 H2 x H3 hlt s2.lt y
    have hdrop : ds.drop i = d :: ds.drop (i + 1) := by
      rw [List.drop_eq_getElem_cons hlt]
      rw [List.getElem?_eq_getElem hlt] at hd
      cases hd; rfl
    rw [hdrop] at hk
    simp only [forLoop] at hk
    obtain ⟨st3, ha, hk⟩ := hk.lift
    have s3 := s2.trans ((Left.grow s2.fr.rel e3).stp s2.fr)
    refine ⟨ρ, O2, st2, d, st3, s3.fr.rel, rd, ha, fun σ3 r3 a3 => ?_⟩
    have s4 := s3.trans (asg_stp s3.fr r3 a3)
    refine ⟨ρ, F, H0, O2, st3, s4.fr, by rw [s4.dep, s1.dep]; exact hr, (hk.bind.mono (fun fl st4 hk O4 σ4 H4 s5 => ?_) fun _ _ x => x)⟩
    have s6 := s4.trans s5
    cases fl with
    | nx => exact ⟨O4, st4, s6, hk⟩
    | ct => exact ⟨O4, st4, s6, hk⟩
    | brk => exact wpR.ok (show wpR (R.ok Fl.nx st4) _ _ from hk) O4 σ4 H4 (s1.trans s6)
    | ret d fr => exact wpR.ok (show wpR (R.ok (Fl.ret d fr) st4) _ _ from hk) O4 σ4 H4 (s1.trans s6)
  · have e : i = ds.length := by omega
    subst e
    refine .inl ⟨it.stop O2 H2 s2.lt, ?_⟩
    rw [List.drop_length] at hk
    exact wpR.ok (show wpR (R.ok Fl.nx st2) _ _ from hk) O2 σ2 H2 (s1.trans s2)
theorem exS_one {P : Prg} {s : SS} {p : Fl → St → Prop} {ex : D → St → Prop} (h : wpR (exS P r [s] st) p ex) : wpR (ex1 P r s st) p ex := by
  simp only [exS] at h
  cases q : ex1 P r s st with
  | ok f st1 =>
    rw [q] at h
    cases f <;> exact h
  | exc e s => rw [q] at h; exact h
  | no => rw [q] at h; exact h
theorem sndS_whl {n : Nat} {c : Expr} {sc : SE} {body : List Stmt} {sb : List SS} {pos : Pos} (hc : ∀ m, m ≤ n → SndT M (lv M.P m) Γ c sc) (hb : ∀ m, m ≤ n → SndSs M (lv M.P m) Γ body sb) : SndS M (lv M.P n) Γ (.While c body [] pos) (.whl sc sb) := fun X g => by
  have pc : PT X c (fun σ H Q => ∃ m, m ≤ n ∧ tT M X W0 (lv M.P m) sc σ H Q) := ⟨fun pins s σ H Q I ⟨m, hm, h⟩ => (hc m hm X W0 g.toGood tk0).run pins s σ H Q I h⟩
  have pb : PSs X body (fun D σ H => ∃ m, m ≤ n ∧ tSs M X (lv M.P m) sb D σ H) := ⟨fun pins s σ H D I ⟨m, hm, h⟩ => (hb m hm X g).run pins s σ H D I h⟩
  refine (ps_while g.pass pc pb).imp fun D σ H h => ?_
  obtain ⟨ρ, F, H0, O, st, f, hr, h⟩ := h
  refine ⟨fun m σ' H' => m ≤ n ∧ ∃ O2 st2, Stp M ρ F H0 O st σ H O2 st2 σ' H' ∧ wpR (ex1 M.P (lv M.P m) (.whl sc sb) st2) (PostS M ρ F H0 O st σ H D) (fun _ _ => False), ⟨n, Nat.le_refl _, O, st, Stp.refl f, h⟩, ?_⟩
  rintro m σ2 H2 ⟨hm, O2, st2, s2, hk⟩
  simp only [ex1] at hk
  refine ⟨m, hm, ρ, O2, st2, s2.fr.rel, by rw [s2.dep]; exact hr, (hk.bind.mono (fun b st3 hk H3 O3 l => ?_) fun _ _ x => x.elim)⟩
  have s3 := s2.trans (l.stp s2.fr)
  cases b with
  | false => exact iteF (wpR.ok (show wpR (R.ok Fl.nx st3) _ _ from hk) O3 σ2 H3 s3)
  | true =>
    simp only [if_true] at hk
    refine iteT ⟨fun σ' H' => ∃ m', m' < m ∧ (m' ≤ n ∧ ∃ O2 st2, Stp M ρ F H0 O st σ H O2 st2 σ' H' ∧ wpR (ex1 M.P (lv M.P m') (.whl sc sb) st2) (PostS M ρ F H0 O st σ H D) (fun _ _ => False)), fun _ _ q => q, m, hm, ρ, F, H0, O3, st3, s3.fr, by rw [s3.dep]; exact hr, (hk.bind.mono (fun fl st4 hk O4 σ4 H4 s5 => ?_) fun _ _ x => x)⟩
    have s6 := s3.trans s5
    have again : wpR ((lv M.P m).ex [.whl sc sb] st4) (PostS M ρ F H0 O st σ H D) (fun _ _ => False) → ∃ m', m' < m ∧ (m' ≤ n ∧ ∃ O2 st2, Stp M ρ F H0 O st σ H O2 st2 σ4 H4 ∧ wpR (ex1 M.P (lv M.P m') (.whl sc sb) st2) (PostS M ρ F H0 O st σ H D) (fun _ _ => False)) := fun q => by
      cases m with
      | zero => exact (show False from q).elim
      | succ m => exact ⟨m, Nat.lt_succ_self _, by omega, O4, st4, s6, exS_one (show wpR (exS M.P (lv M.P m) [.whl sc sb] st4) _ _ from q)⟩
    cases fl with
    | nx => exact again hk
    | ct => exact again hk
    | brk => exact wpR.ok (show wpR (R.ok Fl.nx st4) _ _ from hk) O4 σ4 H4 s6
    | ret d fr => exact wpR.ok (show wpR (R.ok (Fl.ret d fr) st4) _ _ from hk) O4 σ4 H4 s6
end
end TI

end

section
set_option Elab.async false
set_option linter.all false
set_option maxRecDepth 100000
set_option maxHeartbeats 1000000
/-! TI25: a, b, .. = x, y, .. -/
namespace TI
open PySem L2 PySem.Spec PyProof.Rows
/-- values that wait for their slots; Hs: where they were begun -/
inductive Pend (M : Mt2) (ρ : List Addr) (Hs : Hp) (O : Addr → Prop) (st : St) (σ : L2.St) (H : Hp) : List (D × Bool) → List V → Prop where
  | nil : Pend M ρ Hs O st σ H [] []
  | plain {d : D} {v : V} {ps : List (D × Bool)} {vs : List V} : Rep M ρ O H d v → Pend M ρ Hs O st σ H ps vs → Pend M ρ Hs O st σ H ((d, false) :: ps) (v :: vs)
  | own {d : D} {a : Addr} {ps : List (D × Bool)} {vs : List V} : O a → a ∉ ρ → Hs a = none → (∀ (j : Nat) (e : D), st.env[j]? = some (some (true, e)) → σ[j]? ≠ some (some (.ref a))) → Own M ρ O H d a → (∀ (k : Nat) (d' : D), ps[k]? = some (d', true) → vs[k]? ≠ some (.ref a)) → Pend M ρ Hs O st σ H ps vs → Pend M ρ Hs O st σ H ((d, true) :: ps) (.ref a :: vs)
/-- as Left, but there may be new own things -/
structure LeftG (M : Mt2) (ρ : List Addr) (O : Addr → Prop) (st : St) (σ : L2.St) (H : Hp) (O' : Addr → Prop) (st' : St) (H' : Hp) : Prop where
  sub : ∀ a, O' a → O a ∨ H a = none
  ext : Ext M (Wr ρ st.sto) H H'
  slen : st'.sto.length = st.sto.length
  dep : st'.dep = st.dep
  rel : SRel M ρ O' st' σ H'
  env : EnvLe st.env st'.env
  lo : st'.lo = st.lo
  low : ∀ a, O a → O' a ∨ ∃ (i : Nat) (d : D), st.env[i]? = some (some (true, d)) ∧ st'.env[i]? = some (some (false, d)) ∧ σ[i]? = some (some (.ref a))
section
variable {M : Mt2} {ρ : List Addr} {O O1 O2 O' F : Addr → Prop} {H H0 H1 H2 H' Hs : Hp} {st st1 st2 st' : St} {σ σ1 σ' : L2.St} {sto sto' : List D} {X : Cx} {W : WX} {r : Rec} {Γ : Gam}
theorem Left.g (l : Left M ρ O st σ H O' st' H') : LeftG M ρ O st σ H O' st' H' := ⟨fun a h => .inl (l.sub a h), l.ext, l.slen, l.dep, l.rel, l.env, l.lo, l.low⟩
theorem LeftG.trans (a : LeftG M ρ O st σ H O1 st1 H1) (b : LeftG M ρ O1 st1 σ H1 O2 st2 H2) : LeftG M ρ O st σ H O2 st2 H2 :=
  ⟨fun x h => (b.sub x h).elim (a.sub x) fun e => .inr (a.ext.dom x e), a.ext.trans b.ext fun x h => h.len (by rw [a.slen]; exact Nat.le_refl _), b.slen.trans a.slen, b.dep.trans a.dep, b.rel, a.env.trans b.env, b.lo.trans a.lo, fun x h => by
    rcases a.low x h with h1 | ⟨i, d, h1, h2, h3⟩
    · rcases b.low x h1 with h2 | ⟨i, d, g1, g2, g3⟩
      · exact .inl h2
      · exact .inr ⟨i, d, a.env.own g1, g2, g3⟩
    · obtain ⟨o', g1, g2⟩ := b.env.slot h2
      cases o' with
      | false => exact .inr ⟨i, d, h1, g1, h3⟩
      | true => cases g2 rfl⟩
theorem LeftG.lt (l : LeftG M ρ O st σ H O' st' H') (s : SRel M ρ O st σ H) : Later O H O' H' :=
  ⟨fun b u n t q => l.ext.keep b u (fun w => n (s.so.wr b w)) t q, l.sub, fun a h => (let ⟨o, ho, _⟩ := l.rel.so.trk a h; ⟨o, ho⟩), l.ext.dom⟩
theorem LeftG.stp (f : FR M ρ F H0 O st σ H) (l : LeftG M ρ O st σ H O' st' H') : Stp M ρ F H0 O st σ H O' st' σ H' := by
  refine ⟨⟨l.rel, ⟨fun b u n t q => ?_, fun b q => f.ext.dom b (l.ext.dom b q), fun z => l.ext.tab (f.ext.tab z)⟩, fun a ha => ?_, f.fdom, f.rho, fun i d a hi hs => f.new i d a (l.env.own hi) hs⟩, l.lt f.rel, l.dep, l.slen, l.lo, fun _ _ => rfl⟩
  · have hs := l.slen
    have n' : ¬ Wr ρ st.sto b := fun w => n (w.len (by omega))
    exact l.ext.keep b u n' t (f.ext.keep b u n' t q)
  · rcases l.low a (f.low a ha) with w | ⟨i, d, h1, _, h3⟩
    · exact w
    · exact absurd (f.new i d a h1 h3) (f.fdom a ha)
def PostF (M : Mt2) (ρ : List Addr) (O : Addr → Prop) (st : St) (σ : L2.St) (H : Hp) (ps : List (D × Bool)) (st' : St) (vs : List V) (H' : Hp) : Prop := ∃ O', LeftG M ρ O st σ H O' st' H' ∧ Pend M ρ H O' st' σ H' ps vs
def tFs (M : Mt2) (X : Cx) (W : WX) (r : Rec) (ses : List SE) : TA := fun σ H Q => ∃ ρ O st, SRel M ρ O st σ H ∧ Room st.dep X.A ∧ wpR (evf r ses st) (fun ps st' => ∀ vs H', PostF M ρ O st σ H ps st' vs H' → Q vs H') (fun _ _ => False)
theorem Pend.fresh {ps : List (D × Bool)} {vs : List V} (h : Pend M ρ Hs O st σ H ps vs) : ∀ (k : Nat) (d : D) (a : Addr), ps[k]? = some (d, true) → vs[k]? = some (.ref a) → Hs a = none := by
  induction h with
  | nil => intro k d a h; simp at h
  | plain _ _ ih =>
    intro k d a h g
    cases k with
    | zero => simp at h
    | succ k => exact ih k d a (by simpa using h) (by simpa using g)
  | own _ _ hs _ _ _ _ ih =>
    intro k d a h g
    cases k with
    | zero => simp at g; subst g; exact hs
    | succ k => exact ih k d a (by simpa using h) (by simpa using g)
theorem Pend.weak {ps : List (D × Bool)} {vs : List V} {Hs' : Hp} (h : Pend M ρ Hs O st σ H ps vs) (hw : ∀ a, Hs a = none → Hs' a = none) : Pend M ρ Hs' O st σ H ps vs := by
  induction h with
  | nil => exact .nil
  | plain a _ ih => exact .plain a ih
  | own a b c d e f _ ih => exact .own a b (hw _ c) d e f ih
theorem Pend.grow {ps : List (D × Bool)} {vs : List V} (h : Pend M ρ Hs O st σ H ps vs) (e : Ext M (fun _ => False) H H') : Pend M ρ Hs O st σ H' ps vs := by
  induction h with
  | nil => exact .nil
  | plain a _ ih => exact .plain (a.grow e) ih
  | own a b c d w f _ ih => exact .own a b c d (w.ext e (fun _ z => z.elim) (fun _ z => z) fun z => z) f ih
theorem SndEs.paF {es : List Expr} {ses : List SE} (h : SndEs M r Γ es ses) : ∀ X, Good M X Γ → PA X es (tFs M X W0 r ses) := by
  induction h with
  | nil =>
    intro X g
    refine pa_nil.imp fun σ H Q h => ?_
    obtain ⟨ρ, O, st, s, hr, h⟩ := h
    exact wpR.ok (show wpR (R.ok [] st) _ _ from h) [] H ⟨O, (Left.refl s).g, .nil⟩
  | @cons e es se ses hn he _ ih =>
    intro X g
    refine (pa_cons (he X W0 g tk0) (ih X g) (star_of hn es X.env)).imp fun σ H Q h => ?_
    obtain ⟨ρ, O, st, s, hr, h⟩ := h
    have h : wpR ((r.ev se st).bind fun p st => (evf r ses st).bind fun ds st => .ok (p :: ds) st) _ _ := h
    refine ⟨ρ, O, st, s, hr, (h.bind.mono (fun p st1 h v H1 q => ?_) fun _ _ x => x.elim)⟩
    obtain ⟨O1, l1, h1, h2⟩ := q
    obtain ⟨d, fr⟩ := p
    cases fr with
    | false =>
      have rv := h1 rfl
      refine ⟨ρ, O1, st1, l1.rel, by rw [l1.dep]; exact hr, h.bind.mono (fun ps st2 h vs H2 ⟨O2, l2, pd⟩ => ?_) fun _ _ x => x⟩
      exact h.ok _ _ ⟨O2, l1.g.trans l2, .plain ((l2.lt l1.rel).rep rv) (pd.weak l1.ext.dom)⟩
    | true =>
      obtain ⟨a, rfl, na, ha, s2, ow⟩ := h2 rfl
      have hra : a ∉ ρ := fun z => by
        obtain ⟨o, ho, _⟩ := s.so.trk a (s.so.rho a z)
        rw [ha] at ho; cases ho
      have lg : LeftG M ρ O st σ H (fun b => O1 b ∨ b = a) st1 H1 := ⟨fun b hb => hb.elim (fun hb => .inl (l1.sub b hb)) fun e => .inr (by rw [e]; exact ha), l1.ext, l1.slen, l1.dep, s2, l1.env, l1.lo, fun b hb => (l1.low b hb).imp .inl id⟩
      have hslot : ∀ (j : Nat) (e : D), st1.env[j]? = some (some (true, e)) → σ[j]? ≠ some (some (.ref a)) := fun j e hj hs => by
        obtain ⟨v, g1, _, g3⟩ := l1.rel.slot j _ _ hj
        rw [hs] at g1; cases g1
        obtain ⟨b, e1, e2, _⟩ := g3 rfl
        cases e1
        exact na e2
      refine ⟨ρ, _, st1, s2, by rw [l1.dep]; exact hr, h.bind.mono (fun ps st2 h vs H2 ⟨O2, l2, pd⟩ => ?_) fun _ _ x => x⟩
      have lt := l2.lt s2
      obtain ⟨u, hu, tu⟩ := own_notTbl ow
      have o2 : O2 a := by
        rcases l2.low a (.inr rfl) with w | ⟨i, d', w1, _, w3⟩
        · exact w
        · exact absurd w3 (hslot i d' w1)
      refine h.ok _ _ ⟨O2, lg.trans l2, .own o2 hra ha (fun j e hj => hslot j e (l2.env.own hj)) ?_ (fun k d' hk hv => ?_) (pd.weak l1.ext.dom)⟩
      · exact (ow.avoidS (O' := fun b => (O1 b ∨ b = a) ∨ H1 b = none) fun _ z => z).mono lt.grow lt.kp fun u hu => l2.ext.keep a u (fun w => hra w.sub) (by
          obtain ⟨u', hu', tu⟩ := own_notTbl ow
          rw [hu] at hu'; cases hu'; exact tu) hu
      · have := pd.fresh k d' a hk hv
        rw [hu] at this; cases this
def sets (σ : L2.St) : List Nat → List V → L2.St
  | i :: is, v :: vs => sets (σ.set i (some v)) is vs
  | _, _ => σ
/-- the waiting values go into their slots -/
theorem pend_stp : ∀ {is : List Nat} {ps : List (D × Bool)} {vs : List V} {st : St} {σ : L2.St} {st' : St}, FR M ρ F H0 O st σ H → (∀ a, Hs a = none → H0 a = none) → Pend M ρ Hs O st σ H ps vs → asgN is ps st = some st' → vs.length = is.length ∧ Stp M ρ F H0 O st σ H O st' (sets σ is vs) H
  | [], ps, vs, st, σ, st', f, h0, pd, ha => by
    cases pd with
    | nil => simp only [asgN] at ha; cases ha; exact ⟨rfl, Stp.refl f⟩
    | plain _ _ => simp [asgN] at ha
    | own _ _ _ _ _ _ _ => simp [asgN] at ha
  | i :: is, ps, vs, st, σ, st', f, h0, pd, ha => by
    cases pd with
    | nil => simp [asgN] at ha
    | @plain d v ps vs rv pd =>
      simp only [asgN] at ha
      split at ha
      · rename_i hl0
        obtain ⟨hlo, hl⟩ := hl0
        simp only [Bool.false_and] at ha
        have f1 : FR M ρ F H0 O (setv st i false d) (σ.set i (some v)) H := by
          refine ⟨f.rel.setv (own := false) ⟨fun _ => rv, fun z => (by cases z)⟩ (fun z => by cases z), f.ext, f.low, f.fdom, f.rho, fun j e a hj hs => ?_⟩
          simp only [setv] at hj
          by_cases e' : i = j
          · subst e'; rw [List.getElem?_set_self hl] at hj; cases hj
          · rw [List.getElem?_set_ne e'] at hj hs; exact f.new j _ a hj hs
        have pd1 : Pend M ρ Hs O (setv st i false d) (σ.set i (some v)) H ps vs := by
          clear ha
          induction pd with
          | nil => exact .nil
          | plain a _ ih => exact .plain a ih
          | own a b c d' e g _ ih =>
            refine .own a b c (fun j x hj hs => ?_) e g ih
            simp only [setv] at hj
            by_cases e' : i = j
            · subst e'; rw [List.getElem?_set_self hl] at hj; cases hj
            · rw [List.getElem?_set_ne e'] at hj hs; exact d' j x hj hs
        obtain ⟨q1, q2⟩ := pend_stp f1 h0 pd1 ha
        refine ⟨by simp [q1], ⟨q2.fr, q2.lt, q2.dep, q2.slen, q2.lo, fun j hj => (q2.pin j hj).trans (List.getElem?_set_ne (by omega))⟩⟩
      · cases ha
    | @own d a ps vs oa na hs nd ow hd pd =>
      simp only [asgN] at ha
      split at ha
      · rename_i hl0
        obtain ⟨hlo, hl⟩ := hl0
        rw [ow.mut] at ha
        simp only [Bool.and_self] at ha
        have hl2 : i < σ.length := by rw [← f.rel.len]; exact hl
        have f1 : FR M ρ F H0 O (setv st i true d) (σ.set i (some (.ref a))) H := by
          refine ⟨f.rel.setv (own := true) ⟨fun z => (by cases z), fun _ => ⟨a, rfl, oa, na, ow⟩⟩ (fun _ j e _ hj => nd j e hj), f.ext, f.low, f.fdom, f.rho, fun j e b hj hsj => ?_⟩
          simp only [setv] at hj
          by_cases e' : i = j
          · subst e'; rw [List.getElem?_set_self hl2] at hsj; cases hsj; exact h0 a hs
          · rw [List.getElem?_set_ne e'] at hj hsj; exact f.new j _ b hj hsj
        have pd1 : Pend M ρ Hs O (setv st i true d) (σ.set i (some (.ref a))) H ps vs := by
          clear ha
          induction pd with
          | nil => exact .nil
          | plain x _ ih => exact .plain x (ih fun k d' h1 h2 => hd (k + 1) d' (by simpa using h1) (by simpa using h2))
          | @own d2 a2 ps2 vs2 x1 x2 x3 x4 x5 x6 _ ih =>
            refine .own x1 x2 x3 (fun j x hj hsj => ?_) x5 x6 (ih fun k d' h1 h2 => hd (k + 1) d' (by simpa using h1) (by simpa using h2))
            simp only [setv] at hj
            by_cases e' : i = j
            · subst e'
              rw [List.getElem?_set_self hl2] at hsj
              cases hsj
              exact hd 0 d2 (by simp) (by simp)
            · rw [List.getElem?_set_ne e'] at hj hsj; exact x4 j x hj hsj
        obtain ⟨q1, q2⟩ := pend_stp f1 h0 pd1 ha
        refine ⟨by simp [q1], ⟨q2.fr, q2.lt, q2.dep, q2.slen, q2.lo, fun j hj => (q2.pin j hj).trans (List.getElem?_set_ne (by omega))⟩⟩
      · cases ha
end
end TI

end

section
set_option Elab.async false
set_option linter.all false
set_option maxRecDepth 100000
set_option maxHeartbeats 1000000
/-! TI26: a, b, .. = x, y, ..: the rules. -/
namespace TI
open PySem L2 PySem.Spec PyProof.Rows
section
variable {M : Mt2} {ρ : List Addr} {O O1 O2 O' F : Addr → Prop} {H H0 H1 H2 H' Hs : Hp} {st st1 st2 st' : St} {σ σ1 σ' : L2.St} {sto sto' : List D} {X : Cx} {W : WX} {r : Rec} {Γ : Gam}
theorem blockK {env : Env} (hk : env.scope.kind = .function) : (env.blockKind != .function) = false := by
  unfold Env.blockKind; rw [hk]; rfl
theorem swap2 {env : Env} {x y : Str} {px py pt pt2 : Pos} {kt k2 : Nat} {a b : Expr} (hk : env.scope.kind = .function) (hx : env.scope.names.lookup x = some .local) (hy : env.scope.names.lookup y = some .local) (hl : (py.line == px.line) = true) (hxy : ([x, y].eraseDups.length == 2) = true)
    (ha : NotStar a) (hb : NotStar b) (hf : [a, b].all (foldedForSure 8) = false) (hc : [a, b].all (constantsAlone 8) = false) : swappedStores [.Tuple [.Name x px, .Name y py] kt pt] (.Tuple [a, b] k2 pt2) env = pure (some [x, y]) := by
  have hsa : ∀ e : Expr, NotStar e → (match e with | .Starred .. => true | _ => false) = false := fun e h => by cases e <;> first | rfl | exact h.elim
  have kx : (env.kindOf x == some .local) = true := beq_iff_eq.mpr hx
  have ky : (env.kindOf y == some .local) = true := beq_iff_eq.mpr hy
  have e2 : [x, y].eraseDups.length = 2 := beq_iff_eq.mp hxy
  unfold swappedStores
  simp only [List.length_cons, List.length_nil, List.any_cons, List.any_nil, hsa a ha, hsa b hb, blockK hk, List.head?_cons, Option.map_some, Expr.pos, Option.getD_some, List.filterMap_cons, kx, ky, hl, List.filterMap_nil, hf, hc, e2, beq_self_eq_true, Bool.and_true, if_true]
  simp
  rintro (h | h)
  · exact absurd ((hsa a ha).symm.trans h) (by simp)
  · exact absurd ((hsa b hb).symm.trans h) (by simp)
theorem swap3 {env : Env} {x y z : Str} {px py pz pt pt2 : Pos} {kt k2 : Nat} {a b c : Expr} (hk : env.scope.kind = .function) (hx : env.scope.names.lookup x = some .local) (hy : env.scope.names.lookup y = some .local) (hz : env.scope.names.lookup z = some .local) (hl : (py.line == px.line) = true) (hl2 : (pz.line == px.line) = true) (hxy : ([x, y, z].eraseDups.length == 3) = true)
    (ha : NotStar a) (hb : NotStar b) (hcs : NotStar c) (hf : [a, b, c].all (foldedForSure 8) = false) (hc : [a, b, c].all (constantsAlone 8) = false) : swappedStores [.Tuple [.Name x px, .Name y py, .Name z pz] kt pt] (.Tuple [a, b, c] k2 pt2) env = pure (some [x, y, z]) := by
  have hsa : ∀ e : Expr, NotStar e → (match e with | .Starred .. => true | _ => false) = false := fun e h => by cases e <;> first | rfl | exact h.elim
  have kx : (env.kindOf x == some .local) = true := beq_iff_eq.mpr hx
  have ky : (env.kindOf y == some .local) = true := beq_iff_eq.mpr hy
  have kz : (env.kindOf z == some .local) = true := beq_iff_eq.mpr hz
  have e2 : [x, y, z].eraseDups.length = 3 := beq_iff_eq.mp hxy
  unfold swappedStores
  simp only [List.length_cons, List.length_nil, List.any_cons, List.any_nil, hsa a ha, hsa b hb, hsa c hcs, blockK hk, List.head?_cons, Option.map_some, Expr.pos, Option.getD_some, List.filterMap_cons, kx, ky, kz, hl, hl2, List.filterMap_nil, hf, hc, e2, beq_self_eq_true, Bool.and_true, if_true]
  simp
  rintro (h | h | h)
  · exact absurd ((hsa a ha).symm.trans h) (by simp)
  · exact absurd ((hsa b hb).symm.trans h) (by simp)
  · exact absurd ((hsa c hcs).symm.trans h) (by simp)
theorem swapN {env : Env} {ts vs : List Expr} {kt k2 : Nat} {pt pt2 : Pos} (h : (ts.length == 2 || ts.length == 3) = false) : swappedStores [.Tuple ts kt pt] (.Tuple vs k2 pt2) env = pure none := by
  unfold swappedStores
  simp only [h, Bool.not_false, Bool.true_or, if_true]
theorem swapC {env : Env} {ts vs : List Expr} {kt k2 : Nat} {pt pt2 : Pos} (h : (vs.length != ts.length) = true) : swappedStores [.Tuple ts kt pt] (.Tuple vs k2 pt2) env = pure none := by
  unfold swappedStores
  simp only [h, Bool.or_true, Bool.true_or, if_true]
theorem swapO {env : Env} {ts : List Expr} {e : Expr} {kt : Nat} {pt : Pos} (h : ∀ vs k p, e ≠ .Tuple vs k p) : swappedStores [.Tuple ts kt pt] e env = pure none := by
  unfold swappedStores
  cases e <;> first | rfl | exact absurd rfl (h _ _ _)
def isStarE : Expr → Bool
  | .Starred .. => true
  | _ => false
/-- no stores are swapped -/
def swN (sc : Scope) (ts vs : List Expr) : Bool := (!(ts.length == 2 || ts.length == 3) || vs.length != ts.length) || vs.any isStarE ||
  (let names := ts.filterMap fun
    | .Name id pos => if sc.names.lookup id == some .local && pos.line == (ts.head?.map (·.pos.line)).getD 0 then some id else none
    | _ => none
   names.length != ts.length || names.eraseDups.length != names.length) || vs.all (foldedForSure 8)
theorem swG {env : Env} {sc : Scope} {ts vs : List Expr} {kt k2 : Nat} {pt pt2 : Pos} (hs : env.scope = sc) (h : swN sc ts vs = true) : swappedStores [.Tuple ts kt pt] (.Tuple vs k2 pt2) env = pure none := by
  subst hs
  unfold swappedStores
  simp only
  split
  · rfl
  rename_i c1
  split
  · rfl
  rename_i c2
  split
  · rfl
  rename_i c3
  split
  · rfl
  rename_i c4
  exfalso
  unfold swN at h
  simp only [Bool.or_eq_true] at h c1 c3
  rcases h with ((h | h) | h) | h
  · exact c1 (.inl h)
  · exact c2 h
  · exact c3 h
  · exact c4 h
theorem sndS_par2 {x y : Str} {px py pt pt2 pos : Pos} {kt k2 : Nat} {i j : Nat} {a b : Expr} {sa sb : SE} (hes : SndEs M r Γ [a, b] [sa, sb]) (hi : Γ.N[i]? = some x) (hj : Γ.N[j]? = some y) (hij : i ≠ j) (hx : Γ.sc.names.lookup x = some .local) (hy : Γ.sc.names.lookup y = some .local) (hl : (py.line == px.line) = true) (hxy : ([x, y].eraseDups.length == 2) = true)
    (hf : [a, b].all (foldedForSure 8) = false) (hc : [a, b].all (constantsAlone 8) = false) : SndS M r Γ (.Assign [.Tuple [.Name x px, .Name y py] kt pt] (.Tuple [a, b] k2 pt2) pos) (.par [i, j] [sa, sb]) := fun X g => by
  have na : NotStar a := by cases hes with | cons h _ _ => exact h
  have nb : NotStar b := by cases hes with | cons _ _ h => cases h with | cons h _ _ => exact h
  refine (ps_par g.calm g.nd (by rw [g.N]; exact hi) (by rw [g.N]; exact hj) hij (by rw [g.sc]; exact hx) (by rw [g.sc]; exact hy) (hes.paF X g.toGood) (swap2 (by rw [g.sc]; exact g.kind) (by rw [g.sc]; exact hx) (by rw [g.sc]; exact hy) hl hxy na nb hf hc)).imp fun D σ H h => ?_
  obtain ⟨ρ, F, H0, O, st, f, hr, h⟩ := h
  simp only [ex1] at h
  refine ⟨ρ, O, st, f.rel, hr, h.bind.mono (fun ps st1 h vs H1 ⟨O1, l, pd⟩ => ?_) fun _ _ x => x⟩
  obtain ⟨st2, ha, h⟩ := h.lift
  have s1 := l.stp f
  obtain ⟨q1, q2⟩ := pend_stp s1.fr (fun a h => f.ext.dom a h) pd ha
  match vs, q1 with
  | [v, w], _ => exact ⟨v, w, rfl, h.ok O1 _ H1 (s1.trans q2)⟩
theorem sndS_par3 {x y z : Str} {px py pz pt pt2 pos : Pos} {kt k2 : Nat} {i j k : Nat} {a b c : Expr} {sa sb sc : SE} (hes : SndEs M r Γ [a, b, c] [sa, sb, sc]) (hi : Γ.N[i]? = some x) (hj : Γ.N[j]? = some y) (hk : Γ.N[k]? = some z) (hij : i ≠ j) (hik : i ≠ k) (hjk : j ≠ k) (hx : Γ.sc.names.lookup x = some .local) (hy : Γ.sc.names.lookup y = some .local) (hz : Γ.sc.names.lookup z = some .local)
    (hl : (py.line == px.line) = true) (hl2 : (pz.line == px.line) = true) (hxy : ([x, y, z].eraseDups.length == 3) = true) (hf : [a, b, c].all (foldedForSure 8) = false) (hc : [a, b, c].all (constantsAlone 8) = false) : SndS M r Γ (.Assign [.Tuple [.Name x px, .Name y py, .Name z pz] kt pt] (.Tuple [a, b, c] k2 pt2) pos) (.par [i, j, k] [sa, sb, sc]) := fun X g => by
  have na : NotStar a := by cases hes with | cons h _ _ => exact h
  have nb : NotStar b := by cases hes with | cons _ _ h => cases h with | cons h _ _ => exact h
  have nc : NotStar c := by cases hes with | cons _ _ h => cases h with | cons _ _ h => cases h with | cons h _ _ => exact h
  refine (ps_par3 g.calm g.nd (by rw [g.N]; exact hi) (by rw [g.N]; exact hj) (by rw [g.N]; exact hk) hij hik hjk (by rw [g.sc]; exact hx) (by rw [g.sc]; exact hy) (by rw [g.sc]; exact hz) (hes.paF X g.toGood) (swap3 (by rw [g.sc]; exact g.kind) (by rw [g.sc]; exact hx) (by rw [g.sc]; exact hy) (by rw [g.sc]; exact hz) hl hl2 hxy na nb nc hf hc)).imp fun D σ H h => ?_
  obtain ⟨ρ, F, H0, O, st, f, hr, h⟩ := h
  simp only [ex1] at h
  refine ⟨ρ, O, st, f.rel, hr, h.bind.mono (fun ps st1 h vs H1 ⟨O1, l, pd⟩ => ?_) fun _ _ x => x⟩
  obtain ⟨st2, ha, h⟩ := h.lift
  have s1 := l.stp f
  obtain ⟨q1, q2⟩ := pend_stp s1.fr (fun a h => f.ext.dom a h) pd ha
  match vs, q1 with
  | [u, v, w], _ => exact ⟨u, v, w, rfl, h.ok O1 _ H1 (s1.trans q2)⟩
/-! ### more than three -/
inductive NmsOk (Γ : Gam) : List Expr → List Nat → Prop where
  | nil : NmsOk Γ [] []
  | cons {x : Str} {i : Nat} {pos : Pos} {es : List Expr} {is : List Nat} : Γ.N[i]? = some x → Loc Γ.sc x → (Γ.fc x = true ∨ Γ.sc.names.lookup x = some .local) → NmsOk Γ es is → NmsOk Γ (.Name x pos :: es) (i :: is)
def gNs (is : List Nat) : TGs := fun vs σ H Q => vs.length = is.length ∧ Q (sets σ is vs) H
theorem NmsOk.pgs {es : List Expr} {is : List Nat} (h : NmsOk Γ es is) (g : Good M X Γ) : PGs X es (gNs is) := by
  induction h with
  | nil =>
    refine pgs_nil.imp fun vs σ H Q h => ?_
    obtain ⟨h1, h2⟩ := h
    cases vs with
    | nil => exact ⟨rfl, h2⟩
    | cons a b => simp at h1
  | @cons x i pos es is h1 h2 h3 _ ih =>
    refine (pgs_cons (pg_name (X := X) (pos := pos) g.nd (by rw [g.N]; exact h1) (by rw [g.sc]; exact h2) (h3.imp (g.fn _) (by rw [g.sc]; exact id))) ih rfl).imp fun vs σ H Q h => ?_
    obtain ⟨h1, h2⟩ := h
    cases vs with
    | nil => simp at h1
    | cons v vs => exact ⟨v, vs, rfl, by simpa using h1, h2⟩
theorem NmsOk.len {es : List Expr} {is : List Nat} (h : NmsOk Γ es is) (env : Env) : (assignEach es env).length = is.length ∧ (assignEach es env).findIdx? (·.1) = none := by
  induction h with
  | nil => exact ⟨rfl, rfl⟩
  | @cons x i pos es is _ _ _ _ ih =>
    have e : assignEach (.Name x pos :: es) env = (false, assign (.Name x pos) env) :: assignEach es env := rfl
    rw [e]
    refine ⟨by simp [ih.1], ?_⟩
    simp only [List.findIdx?_cons]
    simp [ih.2]
theorem sndS_parT {ts vs : List Expr} {is : List Nat} {ses : List SE} {kt k2 : Nat} {pt pt2 pos : Pos} (hes : SndEs M r Γ vs ses) (hn : NmsOk Γ ts is) (hlen : is.length ≤ 100) (hw : ∀ env : Env, env.scope = Γ.sc → swappedStores [.Tuple ts kt pt] (.Tuple vs k2 pt2) env = pure none) : SndS M r Γ (.Assign [.Tuple ts kt pt] (.Tuple vs k2 pt2) pos) (.par is ses) := fun X g => by
  have hl := hn.len X.env
  have pg := pg_tup (X := X) (pos := pt) (k := kt) g.calm (hn.pgs g.toGood) hl.1 hl.2
  refine (ps_asg (pos := pos) (pe_tup (x1 := k2) (pos := pt2) (hes.paF X g.toGood)) pg (sw_no (e := .Tuple vs k2 pt2) rfl (some (.Tuple ts kt pt)) pos.line X.env) (hw X.env g.sc) rfl).imp fun D σ H h => ?_
  obtain ⟨ρ, F, H0, O, st, f, hr, h⟩ := h
  simp only [ex1] at h
  refine ⟨ρ, O, st, f.rel, hr, h.bind.mono (fun ps st1 h vs H1 ⟨O1, l, pd⟩ => ?_) fun _ _ x => x⟩
  obtain ⟨st2, ha, h⟩ := h.lift
  have s1 := l.stp f
  have q1 := (pend_stp s1.fr (fun a h => f.ext.dom a h) pd ha).1
  have : 100 ≤ sizeLine := by decide
  refine ⟨by omega, fun T hT => ?_⟩
  have e : Ext M (fun _ => False) H1 (upd H1 T (.tup vs)) := Ext.new hT
  have lg := Left.grow s1.fr.rel e
  have s2 := s1.trans (lg.stp s1.fr)
  have pd2 : Pend M ρ H O1 st1 σ (upd H1 T (.tup vs)) ps vs := pd.grow e
  obtain ⟨_, q2⟩ := pend_stp s2.fr (fun a h => f.ext.dom a h) pd2 ha
  exact ⟨T, vs, rfl, SqT.of upd_same, q1, q1, h.ok O1 _ _ (s2.trans q2)⟩
end
end TI

end

section
set_option Elab.async false
set_option linter.all false
set_option maxRecDepth 100000
set_option maxHeartbeats 1000000
/-! TI27: {k: v}. -/
namespace TI
open PySem L2 PySem.Spec PyProof.Rows
section
variable {M : Mt2} {ρ : List Addr} {O O1 O2 O' F : Addr → Prop} {H H0 H1 H2 H' Hs : Hp} {st st1 st2 st' : St} {σ σ1 σ' : L2.St} {sto sto' : List D} {X : Cx} {W : WX} {r : Rec} {Γ : Gam}
def onePair (Q : V → V → Hp → Prop) : List (V × V) → Hp → Prop
  | [(y, z)], H => Q y z H
  | _, _ => False
/-- {k: v}, k a tuple -/
theorem pe_dispT {k v : Expr} {tk tv : TE} {pos : Pos} (hu : X.A.units + 64 < cLine) (hk : PE X k tk) (hv : PE X v tv) : PE X (.Dict [some k] [v] pos) (fun σ H Q => ∀ p, H p = none → tk σ (upd H p (.dK [])) fun y H1 => tv σ H1 fun z H2 =>
    H2 p = some (.dK []) ∧ ∃ (kk : List Key) (b : Addr), y = .ref b ∧ H2 b = some (.tup (kk.map kV)) ∧ Q (.ref p) (upd H2 p (.dT [(kk, z)]))) := by
  refine ⟨fun pins s σ H Q I q => ?_⟩
  have hn := I.hok.fresh (Nat.le_refl s.heap.objs.size)
  have I1 := I.laid (a := s.heap.objs.size) (o := .dK []) (h' := s.heap.push { cls := .type "dict", data := .dict #[] }) (t' := s.toks) (fun _ _ q => Heap.get?_push_of_some _ q) (Nat.le_refl _) (dk_empty s.heap I.big)
  have pps := pps_cons (pos := pos) hk hv pps_nil
  have hw := pps.run pins _ σ _ (onePair fun y z H2 => H2 s.heap.objs.size = some (.dK []) ∧ ∃ (kk : List Key) (b : Addr), y = .ref b ∧ H2 b = some (.tup (kk.map kV)) ∧ Q (.ref s.heap.objs.size) (upd H2 s.heap.objs.size (.dT [(kk, z)]))) I1 (q _ hn)
  rw [arm_eval_Dict, zip_pairTrees [some k] [v] X.env pos rfl rfl, dictDisplay_pairs (pairTrees [some k] [v] X.env pos) (by simp [pairTrees]) (by simp [pairTrees])]
  refine wpAny_bind (wpAny_standAt (wpAny_bind ?_))
  unfold subDict
  refine wpAny_bind (wpAny_alloc ?_)
  refine wpAny_bind (wpAny_holding ?_)
  rw [if_pos (by simp [pairTrees])]
  refine wpAny_bind (thn hw fun ws s2 ⟨ps, H2, I2, rel, hq⟩ => ?_)
  match ps, ws, rel, hq with
  | [(y, z)], _, .cons (b := w) ⟨r1, r2⟩ .nil, ⟨e, kk, b, ey, eb, q2⟩ =>
    subst ey
    obtain ⟨u1, u2⟩ := w
    cases (show u1 = Value.ref b from r1)
    have I3 := dk_dt I2 e
    have hba : b ≠ s.heap.objs.size := ne_of eb e (by intro z; cases z)
    have eb3 : (upd H2 s.heap.objs.size (.dT [])) b = some (.tup (kk.map kV)) := by rw [upd_ne hba]; exact eb
    have e3 : (upd H2 s.heap.objs.size (.dT [])) s.heap.objs.size = some (.dT []) := upd_same
    obtain ⟨zz, hd, xs, rel3, dd⟩ := dt_of I3.hok e3
    cases rel3
    refine wpAny_holding ?_
    refine wpAny_bind ?_
    rw [List.forIn_cons]
    have hroom : X.A.units < cLine := by omega
    refine wpAny_bind (wpAny_bind (wpAny_dictSet_heap (hsz := Nat.zero_le _) hroom (key_of I3.hok eb3) dd fun h' dd' hs => wpAny_pure ?_))
    show wpAny _ _ (forIn [] PUnit.unit _) _ _ _
    rw [List.forIn_nil]
    refine wpAny_pure (wpAny_pure (wpAny_pure ?_))
    obtain ⟨o, es, ep, ho, h2, h3, h4, _, h5⟩ := dd'
    refine wpAny_pure ⟨.ref s.heap.objs.size, upd H2 s.heap.objs.size (.dT [(kk, z)]), ?_, rfl, q2⟩
    have hw' := d_write (t' := s2.toks + (tupleKind (mixKind X.prog X.w)).draws kk) (ob := .dT [(kk, z)]) I3 (by rw [e3]; exact True.intro) hs ⟨o, ho⟩ (by
      refine ⟨by show 1 ≤ sizeLine; decide, hd, [(kk, b, u2)], .cons ⟨rfl, ?_, r2⟩ .nil, o, es, ep, ho, h2, h3, h4, h5⟩
      rw [upd_ne hba, upd_ne hba]; exact eb)
    rw [upd_upd] at hw'
    exact hw'
/-- amid a display: the new dict stands empty -/
theorem dct_core {sk sv : SE} {t : Bool} {Q : VK} (s0 : SRel M ρ O st σ H) (hr : Room st.dep X.A) {p : Addr} (hp : H p = none) (h : wpR ((r.ev sk st).bind fun p st => (r.ev sv st).bind fun q st => if keyOk p.1 && (isTup p.1 == t) then R.ok (D.dct [p.1] [q.1], true) st else .no) (fun p st' => ∀ v H', PostE M ρ O st σ H p.1 p.2 st' v H' → Q v H') (fun _ _ => False))
    {RR : V → V → Hp → Prop} (hR : ∀ dk dv y z H2, keyOk dk = true → isTup dk = t → H2 p = some (.dK []) → (∃ O2, Rep M ρ O2 H2 dk y) → (∀ o, ownO o → (∀ vs, ¬ (o = .tup vs)) → (∀ O2, O2 p → Rep M ρ O2 H2 dv z → Own M ρ O2 (upd H2 p o) (.dct [dk] [dv]) p) → Q (.ref p) (upd H2 p o)) → RR y z H2) :
    tE M X W r sk σ (upd H p (.dK [])) fun y H1 => tE M X W r sv σ H1 fun z H2 => RR y z H2 := by
  have li := LI.init (own := []) (o := .dK []) s0 hp trivial (fun _ z => by cases z)
  have s1 : SRel M ρ (fun b => O b ∨ b = p) st σ (upd H p (.dK [])) := li.rel
  refine ⟨ρ, _, st, s1, hr, h.bind.mono (fun a st1 h y H1 q => ?_) fun _ _ x => x.elim⟩
  obtain ⟨O1, l1, rk⟩ := q.toRep
  refine ⟨ρ, O1, st1, l1.rel, by rw [l1.dep]; exact hr, h.bind.mono (fun b st2 h z H2 q => ?_) fun _ _ x => x.elim⟩
  obtain ⟨O2, l2, rv⟩ := q.toRep
  split at h
  · rename_i hc
    simp only [Bool.and_eq_true, beq_iff_eq] at hc
    have l := l1.trans l2
    have li2 := (li.step (ts := []) (fun _ h => by cases h) AsgOk.refl l).2
    have hD : H2 p = some (.dK []) := l.ext.keep p _ (fun w => li.rho w.sub) trivial upd_same
    refine hR a.1 b.1 y z H2 hc.1 hc.2 hD ⟨O2, rk.left l2 l1.rel⟩ fun o ht hn how => ?_
    have li3 := li2.write (o := o) hp ht hn
    have pe := li3.final s0 hp (how O2 li2.has rv)
    exact h.ok _ _ pe
  · exact h.elim
theorem sndE_dctT {k v : Expr} {sk sv : SE} {pos : Pos} (hk : SndE M r Γ k sk) (hv : SndE M r Γ v sv) : SndE M (up M.P r) Γ (.Dict [some k] [v] pos) (.dct1 true sk sv) := fun X W g tk => by
  refine ⟨fun pins s σ H Q I h => ?_⟩
  obtain ⟨ρ, O, st, s0, hr, h⟩ := h
  simp only [up, evS] at h
  refine (pe_dispT (pos := pos) hr.units (hk X W g tk) (hv X W g tk)).run pins s σ H Q I fun p hp => ?_
  refine dct_core s0 hr hp (noExc_wp h) fun dk dv y z H2 ok tu hD ⟨O2, rk⟩ hq => ⟨hD, ?_⟩
  rcases keyOk_or ok with ⟨k0, hk0⟩ | ⟨xs, k0, rfl, hk0⟩
  · cases dk <;> simp [toKey, isTup] at hk0 tu
  · simp only [Rep] at rk
    obtain ⟨b, ws, rfl, hb, rb⟩ := rk
    have hw : ws = k0.map kV := keys_reps (by simpa [toKeyT] using hk0) rb
    subst hw
    refine ⟨k0, b, rfl, hb.2, hq _ trivial (fun _ z => by cases z) fun O3 hO rv => ?_⟩
    exact ⟨[z], .one (rv.mono (fun _ z => z) (kp_upd hO)), .inr ⟨[k0], by simp [toKeyTs, hk0], rfl, upd_same⟩⟩
theorem sndE_dctK {k v : Expr} {sk sv : SE} {pos : Pos} (hk : SndE M r Γ k sk) (hv : SndE M r Γ v sv) : SndE M (up M.P r) Γ (.Dict [some k] [v] pos) (.dct1 false sk sv) := fun X W g tk => by
  refine ⟨fun pins s σ H Q I h => ?_⟩
  obtain ⟨ρ, O, st, s0, hr, h⟩ := h
  simp only [up, evS] at h
  refine (pe_disp (pos := pos) (pps_cons (hk X W g tk) (hv X W g tk) pps_nil) rfl rfl (by simp) (by simp)).run pins s σ H Q I fun p hp => ?_
  refine dct_core (RR := fun y z H2 => H2 p = some (.dK []) ∧ ∃ kvs : List (Key × V), [(y, z)] = kvs.map (fun kv => (kV kv.1, kv.2)) ∧ kvs.length ≤ 15 ∧ Q (.ref p) (upd H2 p (.dK (mergeK [] kvs)))) s0 hr hp (noExc_wp h) fun dk dv y z H2 ok tu hD ⟨O2, rk⟩ hq => ⟨hD, ?_⟩
  rcases keyOk_or ok with ⟨k0, hk0⟩ | ⟨xs, k0, rfl, hk0⟩
  · have ey : y = kV k0 := toKey_kV hk0 rk
    subst ey
    refine ⟨[(k0, z)], rfl, by simp, ?_⟩
    have em : mergeK [] [(k0, z)] = [(k0, z)] := rfl
    rw [em]
    exact hq _ trivial (fun _ z => by cases z) fun O3 hO rv => ⟨[z], .one (rv.mono (fun _ z => z) (kp_upd hO)), .inl ⟨[k0], by simp [toKeys, hk0], rfl, upd_same⟩⟩
  · simp [isTup] at tu
end
end TI

end

section
set_option Elab.async false
set_option linter.all false
set_option maxRecDepth 100000
set_option maxHeartbeats 1000000
/-! TI28: a def's body keeps its promise. -/
namespace TI
open PySem L2 PySem.Spec PyProof.Rows
section
variable {M : Mt2} {ρ : List Addr} {O O1 O2 O' F : Addr → Prop} {H H0 H1 H2 H' Hs : Hp} {st st1 st2 st' : St} {σ σ1 σ' : L2.St} {sto sto' : List D} {X : Cx} {W : WX} {r : Rec} {Γ : Gam}
/-- the frame at a def's entry -/
theorem start_rel {ds : List D} {vs : List V} {N : List Str} {n k : Nat} (so : StoOk M ρ F sto H) (rs : Reps M ρ F H ds vs) (hn : n = N.length) (hl : ds.length ≤ n) : SRel M ρ F ⟨start ds n, sto, k, 0⟩ (L2.start N vs) H := by
  have hlen := rs.length
  refine ⟨so, ?_, fun i own d h => ?_, fun i j d d' a h => ?_⟩
  · simp only [start, L2.start, List.length_append, List.length_map, List.length_replicate]; omega
  · have h : (start ds n)[i]? = some (some (own, d)) := h
    unfold start at h
    by_cases hi : i < ds.length
    · rw [List.getElem?_append_left (by simpa using hi), List.getElem?_map] at h
      cases q : ds[i]? with
      | none => rw [q] at h; cases h
      | some x =>
        rw [q] at h
        simp at h
        obtain ⟨rfl, rfl⟩ := h
        obtain ⟨v, g1, g2⟩ := rs.get q
        refine ⟨v, ?_, fun _ => g2, fun z => by cases z⟩
        unfold L2.start
        rw [List.getElem?_append_left (by simp; omega), List.getElem?_map, g1]; rfl
    · rw [List.getElem?_append_right (by simpa using hi), List.getElem?_replicate] at h
      split at h <;> cases h
  · have h : (start ds n)[i]? = some (some (true, d)) := h
    unfold start at h
    by_cases hi : i < ds.length
    · rw [List.getElem?_append_left (by simpa using hi), List.getElem?_map] at h
      cases q : ds[i]? with
      | none => rw [q] at h; cases h
      | some x => rw [q] at h; simp at h
    · rw [List.getElem?_append_right (by simpa using hi), List.getElem?_replicate] at h
      split at h <;> cases h
/-- what the module tells, as the static context has it -/
structure MgOk (M : Mt2) (G : Str → Option D) : Prop where
  gl : ∀ x d, G x = some d → ∃ u v, M.mg x = some u ∧ L2.RelV v u ∧ ∀ ρ O H, Rep M ρ O H d v
  nogl : ∀ x, G x = none → bltB x = true → M.mg x = none
theorem good_cx {N : List Str} {ps : List Str} {qual : Str} {scope : Scope} {f : Addr} {cd : Value} {A : Around} {outer : List Env} {s : Shared} {H : Hp} {E : XK} {gl : Str → Option D} {fc : Str → Bool} (S : FnScope N ps scope) (mg : MgOk M gl) : GoodS M (cxOf CXN M.prog M.w M.K M.mg M.base N qual scope f cd A outer s H E) ⟨N, scope, gl, fc, some (qual ++ ".<locals>.", cd)⟩ where
  K := rfl
  prog := rfl
  w := rfl
  mg := rfl
  base := rfl
  N := rfl
  nd := S.nd
  sc := rfl
  calm := rfl
  gl := mg.gl
  nogl := mg.nogl
  fn := fun _ _ => rfl
  mak := fun q c h => by cases h; exact ⟨rfl, rfl⟩
  pass := passes_of rfl
  kind := S.kind
/-- what is known of a def's text -/
structure FnText (M : Mt2) (f : Nat) (fd : FnDef) (N : List Str) (body : List Stmt) (scope : Scope) (gl : Str → Option D) (qual : Str) (cdv : Value) : Prop where
  ex : ∃ (name : Str) (params : Arguments) (dV kV doc pm : Value) (an od : Option Addr) (ct oc : Value) (osl : Array (Option Value)), M.fdat f = PySem.W.fnOf name qual params body scope dV kV doc pm an cdv ct ∧
    M.K.lookup (M.fnA f) = some ⟨oc, od, .func (PySem.W.fnOf name qual params body scope dV kV doc pm an cdv ct), osl⟩ ∧ PySem.W.codeIn M.K cdv qual = true
  sc : FnScope N (M.pn f) scope
  slots : fd.slots = N.length
  np : (M.pn f).length = fd.np
  mg : MgOk M gl
theorem fn_body {f k n : Nat} {fd : FnDef} {N : List Str} {body : List Stmt} {scope : Scope} {gl : Str → Option D} {fc : Str → Bool} {qual : Str} {cdv : Value} (t : FnText M f fd N body scope gl qual cdv) (hf : M.P.fns[f]? = some fd) (hb : SndSs M (lv M.P n) ⟨N, scope, gl, fc, some (qual ++ ".<locals>.", cdv)⟩ body fd.body) :
    FnOk M.prog M.w M.K M.mg M.base CXN (k + 1) (M.fnA f) (M.fdat f) (M.pn f) (spF M (lv M.P (n + 1)) f k) := by
  obtain ⟨name, params, dV, kV, doc, pm, an, od, ct, oc, osl, e1, lk, hcd⟩ := t.ex
  rw [e1]
  have hN : (M.pn f).length ≤ N.length := by have := congrArg List.length t.sc.pre; rw [List.length_take] at this; omega
  refine fn_of lk hcd t.sc (fun vs H Q E h => ?_) fun A outer s H vs Q E hr h => ⟨_, hb _ (good_cx t.sc t.mg), ?_⟩
  · obtain ⟨ρ, F, sto, ds, d, fr, sto', fd', h1, h2, h3, h4, h5, h6⟩ := h
    rw [hf] at h1; cases h1
    rw [← h5.length, h2, t.np]
  · obtain ⟨ρ, F, sto, ds, d, fr, sto', fd', h1, h2, h3, so, rs, hq⟩ := h
    rw [hf] at h1; cases h1
    have h3 : callS M.P (lv M.P n) f ds sto k = .ok d fr sto' := h3
    unfold callS at h3
    rw [hf] at h3
    simp only [h2, if_true] at h3
    have rel := start_rel (k := k) so rs t.slots (by rw [t.slots, h2, ← t.np]; exact hN)
    have fr0 : FR M ρ F H F ⟨start ds fd.slots, sto, k, 0⟩ (L2.start N vs) H := by
      refine ⟨rel, Ext.refl _ _, fun _ h => h, fun a ha => ?_, so.rho, fun i d a hi hs => ?_⟩
      · obtain ⟨o, ho, _⟩ := so.trk a ha
        rw [ho]; simp
      · obtain ⟨v, _, _, g3⟩ := rel.slot i _ _ hi
        exfalso
        have h : (start ds fd.slots)[i]? = some (some (true, d)) := hi
        unfold start at h
        by_cases hi : i < ds.length
        · rw [List.getElem?_append_left (by simpa using hi), List.getElem?_map] at h
          cases q : ds[i]? with
          | none => rw [q] at h; cases h
          | some x => rw [q] at h; simp at h
        · rw [List.getElem?_append_right (by simpa using hi), List.getElem?_replicate] at h
          split at h <;> cases h
    refine ⟨ρ, F, H, F, _, fr0, hr, ?_⟩
    cases q : (lv M.P n).ex fd.body ⟨start ds fd.slots, sto, k, 0⟩ with
    | no => rw [q] at h3; simp at h3
    | exc e s => rw [q] at h3; simp at h3
    | ok fl st' =>
      rw [q] at h3
      have fin : ∀ {O' σ' H'}, Stp M ρ F H F ⟨start ds fd.slots, sto, k, 0⟩ (L2.start N vs) H O' st' σ' H' → StoOk M ρ F st'.sto H' ∧ Ext M (Wr ρ sto) H H' ∧ st'.sto.length = sto.length := fun {O' σ' H'} s => by
        have hs := s.slen
        refine ⟨s.fr.rel.so.mono s.fr.low so.rho, ⟨fun b u n t q => s.fr.ext.keep b u (fun w => n (w.len (by rw [hs]; exact Nat.le_refl _))) t q, s.fr.ext.dom, s.fr.ext.tab⟩, hs⟩
      cases fl with
      | nx =>
        simp only at h3
        cases h3
        intro O' σ' H' s
        obtain ⟨f1, f2, f3⟩ := fin s
        exact hq .non H' ⟨f3, f2, f1, fun _ => by simp [Rep], fun z => by cases z⟩
      | brk => simp at h3
      | ct => simp at h3
      | ret d1 fr1 =>
        simp only at h3
        cases h3
        intro O' σ' H' s v rv
        obtain ⟨f1, f2, f3⟩ := fin s
        refine hq v H' ⟨f3, f2, f1, fun z => (rv.1 z).mono s.fr.low (Kp.refl _ _), fun z => ?_⟩
        obtain ⟨a, e1, oa, na, ha, ow⟩ := rv.2 z
        refine ⟨a, e1, ha, s.fr.rel.so.mono (fun b hb => hb.elim (s.fr.low b) fun e => e ▸ oa) fun b hb => .inl (so.rho b hb), ow.mono (fun b hb => hb.elim (s.fr.low b) fun e => e ▸ oa) (Kp.refl _ _) fun _ q => q⟩
end
end TI

end

section
set_option Elab.async false
set_option linter.all false
set_option maxRecDepth 100000
set_option maxHeartbeats 1000000
/-! TI29: __init__ keeps its promise. -/
namespace TI
open PySem L2 PySem.Spec PyProof.Rows
section
variable {M : Mt2} {ρ : List Addr} {O O1 O2 O' F : Addr → Prop} {H H0 H1 H2 H' Hs : Hp} {st st1 st2 st' : St} {σ σ1 σ' : L2.St} {sto sto' : List D} {X : Cx} {W : WX} {r : Rec} {Γ : Gam}
theorem start_false {ds : List D} {n i : Nat} {d : D} : (start ds n)[i]? ≠ some (some (true, d)) := fun h => by
  unfold start at h
  by_cases hi : i < ds.length
  · rw [List.getElem?_append_left (by simpa using hi), List.getElem?_map] at h
    cases q : ds[i]? with
    | none => rw [q] at h; cases h
    | some x => rw [q] at h; simp at h
  · rw [List.getElem?_append_right (by simpa using hi), List.getElem?_replicate] at h
    split at h <;> cases h
theorem startI_fr {ds : List D} {vs : List V} {N : List Str} {n k c : Nat} {x dx : Addr} (so : StoOk M ρ F [] H0) (rs : Reps M ρ F H0 ds vs) (hn : n = N.length) (hl : ds.length + 1 ≤ n) (hx : H0 x = none) (hdx : H0 dx = none) (hne : dx ≠ x) :
    FR M ρ F H0 (fun b => F b ∨ b = x) ⟨some (true, .ins c [] []) :: start ds (n - 1), [], k, 1⟩ (L2.start N (.ref x :: vs)) (upd (upd H0 dx (.own x)) x (.ins (M.clA c) dx [])) := by
  have e1 : Ext M (fun _ => False) H0 (upd H0 dx (.own x)) := Ext.new hdx
  have hx1 : (upd H0 dx (.own x)) x = none := by rw [upd_ne (Ne.symm hne)]; exact hx
  have so1 := so.grow e1
  have so2 := so1.own (o := .ins (M.clA c) dx []) hx1 trivial (fun _ z => by cases z)
  have e2 : Ext M (fun _ => False) (upd H0 dx (.own x)) (upd (upd H0 dx (.own x)) x (.ins (M.clA c) dx [])) := Ext.new hx1
  have rs2 : Reps M ρ (fun b => F b ∨ b = x) (upd (upd H0 dx (.own x)) x (.ins (M.clA c) dx [])) ds vs := ((rs.grow e1).avoid hx1).grow e2
  have hFx : ∀ a, F a → H0 a ≠ none := fun a ha => by obtain ⟨o, ho, _⟩ := so.trk a ha; rw [ho]; simp
  have hρ : x ∉ ρ := fun z => hFx x (so.rho x z) hx
  have hσ0 : (L2.start N (V.ref x :: vs))[0]? = some (some (.ref x)) := rfl
  have rel : SRel M ρ (fun b => F b ∨ b = x) ⟨some (true, .ins c [] []) :: start ds (n - 1), [], k, 1⟩ (L2.start N (.ref x :: vs)) (upd (upd H0 dx (.own x)) x (.ins (M.clA c) dx [])) := by
    have hlen := rs.length
    refine ⟨so2, ?_, fun i own d h => ?_, fun i j d d' a hi hj _ _ => ?_⟩
    · simp only [start, L2.start, List.length_append, List.length_map, List.length_replicate, List.length_cons]; omega
    · cases i with
      | zero =>
        simp at h
        obtain ⟨rfl, rfl⟩ := h
        exact ⟨.ref x, hσ0, (fun z => by cases z), fun _ => ⟨x, rfl, .inr rfl, hρ, dx, [], upd_same, rfl, .nil⟩⟩
      | succ i =>
        have h : (start ds (n - 1))[i]? = some (some (own, d)) := by simpa using h
        unfold start at h
        by_cases hi : i < ds.length
        · rw [List.getElem?_append_left (by simpa using hi), List.getElem?_map] at h
          cases q : ds[i]? with
          | none => rw [q] at h; cases h
          | some y =>
            rw [q] at h
            simp at h
            obtain ⟨rfl, rfl⟩ := h
            obtain ⟨v, g1, g2⟩ := rs2.get q
            refine ⟨v, ?_, fun _ => g2, fun z => by cases z⟩
            show ((V.ref x :: vs).map some ++ _)[i + 1]? = _
            rw [List.getElem?_append_left (by simp; omega), List.getElem?_map, List.getElem?_cons_succ, g1]; rfl
        · rw [List.getElem?_append_right (by simpa using hi), List.getElem?_replicate] at h
          split at h <;> cases h
    · have z : ∀ {i : Nat} {d : D}, (some (true, D.ins c [] []) :: start ds (n - 1))[i]? = some (some (true, d)) → i = 0 := fun {i d} h => by
        cases i with
        | zero => rfl
        | succ i => exact absurd (by simpa using h) (start_false (ds := ds) (n := n - 1) (i := i) (d := d))
      rw [z hi, z hj]
  refine ⟨rel, (e1.trans e2 fun _ z => z).weak fun _ z => z.elim, fun a h => .inl h, hFx, so.rho, fun i d a hi hs => ?_⟩
  cases i with
  | zero => rw [hσ0] at hs; cases hs; exact hx
  | succ i => exact absurd (by simpa using hi) (start_false (ds := ds) (n := n - 1) (i := i) (d := d))
theorem fn_bodyI {c f k n : Nat} {fd : FnDef} {N : List Str} {body : List Stmt} {scope : Scope} {gl : Str → Option D} {fc : Str → Bool} {qual : Str} {cdv : Value} (t : FnText M f fd N body scope gl qual cdv) (hf : M.P.fns[f]? = some fd) (hb : SndSs M (lv M.P n) ⟨N, scope, gl, fc, some (qual ++ ".<locals>.", cdv)⟩ body fd.body) :
    FnOk M.prog M.w M.K M.mg M.base CXN (k + 1) (M.fnA f) (M.fdat f) (M.pn f) (spI M (lv M.P (n + 1)) c f k) := by
  obtain ⟨name, params, dV, kV, doc, pm, an, od, ct, oc, osl, e1, lk, hcd⟩ := t.ex
  rw [e1]
  have hN : (M.pn f).length ≤ N.length := by have := congrArg List.length t.sc.pre; rw [List.length_take] at this; omega
  refine fn_of lk hcd t.sc (fun vs H Q E h => ?_) fun A outer s H vs Q E hr h => ⟨_, hb _ (good_cx t.sc t.mg), ?_⟩
  · obtain ⟨ρ, F, ds, d, fr, fd', x, dx, vs', H0, h1, h2, h3, rfl, rfl, hx, hdx, hne, so, rs, hq⟩ := h
    rw [hf] at h1; cases h1
    rw [List.length_cons, ← rs.length, h2, t.np]
  · obtain ⟨ρ, F, ds, d, fr, fd', x, dx, vs', H0, h1, h2, h3, rfl, rfl, hx, hdx, hne, so, rs, hq⟩ := h
    rw [hf] at h1; cases h1
    have h3 : iniS M.P (lv M.P n) c f ds k = .ok d fr [] := h3
    unfold iniS at h3
    rw [hf] at h3
    simp only [h2, if_true] at h3
    have fr0 := startI_fr (k := k) (c := c) so rs t.slots (by rw [t.slots]; have := t.np; omega) hx hdx hne
    have rho := so.rho
    refine ⟨ρ, F, H0, _, _, fr0, hr, ?_⟩
    cases q : (lv M.P n).ex fd.body ⟨some (true, .ins c [] []) :: start ds (fd.slots - 1), [], k, 1⟩ with
    | no => rw [q] at h3; simp at h3
    | exc e s => rw [q] at h3; simp at h3
    | ok fl st' =>
      rw [q] at h3
      cases fl with
      | brk => simp at h3
      | ct => simp at h3
      | ret d1 fr1 => simp at h3
      | nx =>
        simp only at h3
        split at h3
        · rename_i own d1 hs
          cases h3
          intro O' σ' H' s
          have hsl : st'.sto = [] := List.length_eq_zero_iff.mp s.slen
          have so' : StoOk M ρ F [] H' := by
            have := s.fr.rel.so.mono s.fr.low rho
            rwa [hsl] at this
          have ext : Ext M (Wr ρ []) H0 H' := by
            have := s.fr.ext
            rwa [hsl] at this
          obtain ⟨v, hv, p1, p2⟩ := s.fr.rel.slot 0 _ _ (slot_at hs)
          have hx0 : σ'[0]? = some (some (.ref x)) := s.pin 0 Nat.zero_lt_one
          rw [hx0] at hv; cases hv
          refine hq H' ⟨rfl, ext, so', fun z => (p1 z).mono s.fr.low (Kp.refl _ _), fun z => ?_⟩
          obtain ⟨a, e1, oa, na, ow⟩ := p2 z
          cases e1
          refine ⟨x, rfl, hx, ?_, ow.mono (fun b hb => hb.elim (s.fr.low b) fun e => e ▸ oa) (Kp.refl _ _) fun _ q => q⟩
          have := s.fr.rel.so.mono (O' := fun b => F b ∨ b = x) (fun b hb => hb.elim (s.fr.low b) fun e => e ▸ oa) fun b hb => .inl (rho b hb)
          rwa [hsl] at this
        · cases h3
end
end TI

end

section
set_option Elab.async false
set_option linter.all false
set_option maxRecDepth 100000
set_option maxHeartbeats 1000000
/-! TI31: cells that are known for a while. -/
namespace TI
open PySem L2 PySem.Spec PyProof.Rows
/-- without the objects of L -/
def dlt (L : Addr → Option Obj) (H : Hp) : Hp := fun b => match L b with | some _ => none | none => H b
/-- with the objects of L -/
def adx (L : Addr → Option Obj) (H : Hp) : Hp := fun b => match L b with | some o => some (IsO b o) | none => H b
section
variable {L : Addr → Option Obj} {H H' H'' : Hp} {P : Program} {w : World} {h h' : Heap}
theorem dlt_none {b : Addr} (e : L b = none) : dlt L H b = H b := by unfold dlt; rw [e]
theorem dlt_some {b : Addr} {o : Obj} (e : L b = some o) : dlt L H b = none := by unfold dlt; rw [e]
theorem adx_none {b : Addr} (e : L b = none) : adx L H b = H b := by unfold adx; rw [e]
theorem adx_some {b : Addr} {o : Obj} (e : L b = some o) : adx L H b = some (IsO b o) := by unfold adx; rw [e]
theorem L_none {Y : Prop} {b : Addr} (hL : ∀ o, L b = some o → False) : L b = none := by
  cases e : L b with
  | none => rfl
  | some o => exact (hL o e).elim
theorem dlt_at {b : Addr} {u : HO} (hL : ∀ b o, L b = some o → H b = some (IsO b o)) (e : H b = some u) (n : ∀ φ, u ≠ .ext φ) : dlt L H b = some u := by
  rw [dlt_none (L_none (Y := True) fun o z => ?_)]; exact e
  have := hL b o z
  rw [e] at this
  exact n _ (Option.some.inj this)
theorem hok_dlt (x : HOk P w H h) (hL : ∀ b o, L b = some o → H b = some (IsO b o)) : HOk P w (dlt L H) h := fun a u e => by
  have e1 : L a = none := L_none (Y := True) fun o z => by rw [dlt_some z] at e; cases e
  rw [dlt_none e1] at e
  exact (x a u e).stay (fun _ _ _ q => q) (fun b q => dlt_at hL q fun φ z => by cases z) fun b xs q => dlt_at hL q fun φ z => by cases z
theorem hok_adx (x : HOk P w H h) (hL : ∀ b o, L b = some o → H b = none ∧ h.get? b = some o) : HOk P w (adx L H) h := fun a u e => by
  cases q : L a with
  | some o =>
    rw [adx_some q] at e
    cases e
    obtain ⟨_, h2⟩ := hL a o q
    exact ⟨h2, ⟨o, h2⟩, fun h1 h2 p st => st o p⟩
  | none =>
    rw [adx_none q] at e
    have k : ∀ b v, H b = some v → adx L H b = some v := fun b v z => by
      rw [adx_none (L_none (Y := True) fun o q => by rw [(hL b o q).1] at z; cases z)]; exact z
    exact (x a u e).stay (fun _ _ _ q => q) (fun b z => k _ _ z) fun b xs z => k _ _ z
theorem un_dlt {fs : List Addr} (u : Un fs [] (dlt L H) H'' h h') (hL : ∀ b o, L b = some o → H b = some (IsO b o)) : Un fs [] H (adx L H'') h h' := by
  have nL : ∀ b, H b = none → L b = none := fun b n => L_none (Y := True) fun o z => by rw [hL b o z] at n; cases n
  have nX : ∀ b v, H b = some v → (∀ φ, v ≠ .ext φ) → L b = none := fun b v e n => L_none (Y := True) fun o z => by
    rw [hL b o z] at e; exact n _ (Option.some.inj e).symm
  refine ⟨fun b o e n hb hx => u.keep b o e (by rw [dlt_none (nL b n)]; exact n) hb hx, fun b o e n hb hx => u.slot b o e (by rw [dlt_none (nL b n)]; exact n) hb hx, fun b o e n hx => ?_, u.there, fun b xs e => ?_, fun b o v e => ?_, fun b ps e => ?_⟩
  · rw [adx_none (nL b n)]
    exact u.free b o e (by rw [dlt_none (nL b n)]; exact n) hx
  · have q := nX b _ e fun φ z => by cases z
    rw [adx_none q]; exact u.tups b xs (by rw [dlt_none q]; exact e)
  · have q := nX b _ e fun φ z => by cases z
    rw [adx_none q]; exact u.frzs b o v (by rw [dlt_none q]; exact e)
  · have q := nX b _ e fun φ z => by cases z
    rw [adx_none q]; exact u.tbls b ps (by rw [dlt_none q]; exact e)
theorem un_adx {fs : List Addr} (u : Un fs [] (adx L H) H' h h') (hL : ∀ b o, L b = some o → H b = none ∧ h.get? b = some o ∧ b ∉ fs) (hk : ∀ b o, L b = some o → h'.get? b = some o) : Un fs [] H (dlt L H') h h' := by
  have nX : ∀ b v, H b = some v → L b = none := fun b v e => L_none (Y := True) fun o z => by rw [(hL b o z).1] at e; cases e
  refine ⟨fun b o e n hb hx => ?_, fun b o e n hb hx => ?_, fun b o e n hx => ?_, u.there, fun b xs e => ?_, fun b o v e => ?_, fun b ps e => ?_⟩
  · cases q : L b with
    | some o' =>
      have := (hL b o' q).2.1
      rw [e] at this; cases this
      exact hk b _ q
    | none => exact u.keep b o e (by rw [adx_none q]; exact n) hb hx
  · have q : L b = none := L_none (Y := True) fun o z => (hL b o z).2.2 hb
    exact u.slot b o e (by rw [adx_none q]; exact n) hb hx
  · cases q : L b with
    | some o' => exact dlt_some q
    | none => rw [dlt_none q]; exact u.free b o e (by rw [adx_none q]; exact n) hx
  · rw [dlt_none (nX b _ e)]; exact u.tups b xs (by rw [adx_none (nX b _ e)]; exact e)
  · rw [dlt_none (nX b _ e)]; exact u.frzs b o v (by rw [adx_none (nX b _ e)]; exact e)
  · rw [dlt_none (nX b _ e)]; exact u.tbls b ps (by rw [adx_none (nX b _ e)]; exact e)
theorem ce_dlt {outer : List Env} {s s' : Shared} {Q Q0 : VK} {u : Value} (x : L2.CE outer P w (dlt L H) s Q0 u s') (hL : ∀ b o, L b = some o → H b = some (IsO b o) ∧ s.heap.get? b = some o ∧ b ∉ frs outer)
    (hq : ∀ v H'', (∀ b o, L b = some o → H'' b = none) → Q0 v H'' → Q v (adx L H'')) : L2.CE outer P w H s Q u s' := by
  obtain ⟨v, H'', os, bare, un, hok, rv, q⟩ := x
  have n0 : ∀ b o, L b = some o → H'' b = none := fun b o z => un.free b o (hL b o z).2.1 (dlt_some z) (by simp)
  refine ⟨v, adx L H'', os, bare, un_dlt un fun b o z => (hL b o z).1, hok_adx hok fun b o z => ⟨n0 b o z, ?_⟩, rv, hq v H'' n0 q⟩
  exact un.keep b o (hL b o z).2.1 (dlt_some z) (hL b o z).2.2 (by simp)
theorem ce_adx {outer : List Env} {s s' : Shared} {Q Q0 : VK} {u : Value} (x : L2.CE outer P w (adx L H) s Q0 u s') (hL : ∀ b o, L b = some o → H b = none ∧ s.heap.get? b = some o ∧ b ∉ frs outer)
    (hq : ∀ v H', HOk P w H' s'.heap → Q0 v H' → (∀ b o, L b = some o → H' b = some (IsO b o)) ∧ Q v (dlt L H')) : L2.CE outer P w H s Q u s' := by
  obtain ⟨v, H', os, bare, un, hok, rv, q⟩ := x
  obtain ⟨q1, q2⟩ := hq v H' hok q
  exact ⟨v, dlt L H', os, bare, un_adx un hL fun b o z => (hok b _ (q1 b o z)).1, hok_dlt hok q1, rv, q2⟩
theorem env0_dlt {K : PySem.W.Frag} {mg : Str → Option Value} {base : Heap} {A : Around} {outer : List Env} {s : Shared} (e : Env0 P w K mg base A outer s H) (hL : ∀ b o, L b = some o → H b = some (IsO b o)) : Env0 P w K mg base A outer s (dlt L H) := by
  have n : ∀ b, H b = none → dlt L H b = none := fun b z => by
    cases q : L b with
    | some o => exact dlt_some q
    | none => rw [dlt_none q]; exact z
  exact ⟨e.frames, e.mod, fun b o q => ⟨(e.bs b o q).1, n b (e.bs b o q).2⟩, e.bsz, e.funs, fun b q => n b (e.frf b q), hok_dlt e.hok hL, e.bare⟩
theorem env0_adx {K : PySem.W.Frag} {mg : Str → Option Value} {base : Heap} {A : Around} {outer : List Env} {s : Shared} (e : Env0 P w K mg base A outer s H) (hL : ∀ b o, L b = some o → H b = none ∧ s.heap.get? b = some o ∧ b ∉ frs outer) (hb : ∀ b o, L b = some o → base.get? b = none) : Env0 P w K mg base A outer s (adx L H) := by
  refine ⟨e.frames, e.mod, fun b o q => ⟨(e.bs b o q).1, ?_⟩, e.bsz, e.funs, fun b q => ?_, hok_adx e.hok fun b o z => ⟨(hL b o z).1, (hL b o z).2.1⟩, e.bare⟩
  · rw [adx_none (L_none (Y := True) fun o' z => by rw [hb b o' z] at q; cases q)]
    exact (e.bs b o q).2
  · rw [adx_none (L_none (Y := True) fun o' z => (hL b o' z).2.2 q)]
    exact e.frf b q
end
section
variable {M : Mt2} {ρ : List Addr} {O O' F : Addr → Prop} {H H' H'' : Hp} {L : Addr → Option Obj} {sto : List D}
mutual
/-- what holds no closure does not lean on cells -/
theorem Rep.dlt (hL : ∀ b o, L b = some o → H b = some (IsO b o)) : ∀ {d : D} {v : V}, noClo d = true → Rep M ρ O H d v → Rep M ρ O (dlt L H) d v
  | .non, _, _, h => by simpa [Rep] using h
  | .bl _, _, _, h => by simpa [Rep] using h
  | .int _, _, _, h => by simpa [Rep] using h
  | .str _, _, _, h => by simpa [Rep] using h
  | .tup xs, v, c, h => by
    simp only [Rep] at h ⊢
    obtain ⟨a, vs, e, n, r⟩ := h
    exact ⟨a, vs, e, ⟨n.1, dlt_at hL n.2 fun _ z => by cases z⟩, Reps.dlt hL (by simpa [noClo] using c) r⟩
  | .lst xs, v, c, h => by
    simp only [Rep] at h ⊢
    obtain ⟨a, vs, e, n, r⟩ := h
    exact ⟨a, vs, e, ⟨n.1, dlt_at hL n.2 fun _ z => by cases z⟩, Reps.dlt hL (by simpa [noClo] using c) r⟩
  | .dct ks ds, v, c, h => by
    simp only [Rep] at h ⊢
    obtain ⟨a, vs, e, r, q⟩ := h
    refine ⟨a, vs, e, Reps.dlt hL (by simpa [noClo] using c) r, ?_⟩
    rcases q with ⟨kl, h1, h2, n, z⟩ | ⟨kl, h1, h2, n, z⟩
    · refine .inl ⟨kl, h1, h2, ⟨n.1, ?_⟩, fun y => dlt_at hL (z y) fun _ z => by cases z⟩
      rcases n.2 with q | ⟨o, q⟩
      · exact .inl (dlt_at hL q fun _ z => by cases z)
      · exact .inr ⟨o, dlt_at hL q fun _ z => by cases z⟩
    · refine .inr ⟨kl, h1, h2, ⟨n.1, ?_⟩, fun y => dlt_at hL (z y) fun _ z => by cases z⟩
      rcases n.2 with q | ⟨o, q⟩
      · exact .inl (dlt_at hL q fun _ z => by cases z)
      · exact .inr ⟨o, dlt_at hL q fun _ z => by cases z⟩
  | .ins _ ns ds, v, c, h => by
    simp only [Rep] at h ⊢
    obtain ⟨a, dx, fs, e, n, h1, r⟩ := h
    exact ⟨a, dx, fs, e, ⟨n.1, dlt_at hL n.2 fun _ z => by cases z⟩, h1, Reps.dlt hL (by simpa [noClo] using c) r⟩
  | .fn _, _, _, h => by simpa [Rep] using h
  | .cls _, _, _, h => by simpa [Rep] using h
  | .ty _, _, _, h => by simpa [Rep] using h
  | .clo _ _, _, c, _ => by simp [noClo] at c
  | .ref _, _, _, h => by simpa [Rep] using h
  | .scr ns, _, _, h => by
    simp only [Rep] at h ⊢
    obtain ⟨a, e, h⟩ := h
    refine ⟨a, e, h.imp (fun ⟨n, r⟩ => ⟨n, ?_⟩) id⟩
    rcases r with q | ⟨o, q⟩
    · exact .inl (dlt_at hL q fun _ z => by cases z)
    · exact .inr ⟨o, dlt_at hL q fun _ z => by cases z⟩
theorem Reps.dlt (hL : ∀ b o, L b = some o → H b = some (IsO b o)) : ∀ {ds : List D} {vs : List V}, noClos ds = true → Reps M ρ O H ds vs → Reps M ρ O (dlt L H) ds vs
  | [], _, _, h => by simpa [Reps] using h
  | d :: ds, vs, c, h => by
    simp only [Reps, noClos, Bool.and_eq_true] at h c ⊢
    obtain ⟨v, r, e, h1, h2⟩ := h
    exact ⟨v, r, e, Rep.dlt hL c.1 h1, Reps.dlt hL c.2 h2⟩
end
theorem Own.dlt {d : D} {a : Addr} (hL : ∀ b o, L b = some o → H b = some (IsO b o)) (c : noClo d = true) (h : Own M ρ O H d a) : Own M ρ O (dlt L H) d a := by
  cases d with
  | lst xs => obtain ⟨vs, e, r⟩ := h; exact ⟨vs, dlt_at hL e fun _ z => (by cases z), r.dlt hL (by simpa [noClo] using c)⟩
  | dct ks ds =>
    obtain ⟨vs, r, q⟩ := h
    refine ⟨vs, r.dlt hL (by simpa [noClo] using c), ?_⟩
    rcases q with ⟨kl, h1, h2, e⟩ | ⟨kl, h1, h2, e⟩
    · exact .inl ⟨kl, h1, h2, dlt_at hL e fun _ z => by cases z⟩
    · exact .inr ⟨kl, h1, h2, dlt_at hL e fun _ z => by cases z⟩
  | ins _ ns ds => obtain ⟨dx, fs, e, h1, r⟩ := h; exact ⟨dx, fs, dlt_at hL e fun _ z => (by cases z), h1, r.dlt hL (by simpa [noClo] using c)⟩
  | _ => exact h.elim
theorem adx_at (n : ∀ b o, L b = some o → H b = none) {b : Addr} {u : HO} (e : H b = some u) : adx L H b = some u := by
  rw [adx_none (L_none (Y := True) fun o z => by rw [n b o z] at e; cases e)]; exact e
theorem kp_adx (n : ∀ b o, L b = some o → H b = none) : Kp O H (adx L H) := by
  refine ⟨fun a u _ _ q => ?_, fun a vs _ q => adx_at n q, fun a vs _ q => adx_at n q, fun a C dx fs _ q => adx_at n q, fun a _ q => adx_at n q, fun a _ q => adx_at n q, fun a φ _ q => adx_at n q⟩
  rcases q with q | ⟨o, q⟩
  · exact .inl (adx_at n q)
  · exact .inr ⟨o, adx_at n q⟩
theorem tabs_adx {T : List (Addr × Str)} (n : ∀ b o, L b = some o → H b = none) (h : LamX.Tabs T H) : LamX.Tabs T (adx L H) := h.ext fun b o e => adx_at n e
/-- L holds no code object -/
def NoCode (L : Addr → Option Obj) (H : Hp) : Prop := ∀ c q, H c = some (LamX.CodeO c q) → L c = none
theorem noCode {P : Program} {w : World} {h : Heap} (hok : HOk P w H h) (hL : ∀ b o, L b = some o → h.get? b = some o ∧ ∃ u, o.data = .cell u) : NoCode L H := fun c q e => L_none (Y := True) fun o z => by
  obtain ⟨⟨oc, vs, t, h1, h2, _⟩, _⟩ := hok c _ e
  obtain ⟨g1, u, g2⟩ := hL c o z
  rw [h1] at g1; cases g1
  rw [h2] at g2; cases g2
theorem tabs_dlt {T : List (Addr × Str)} (hL : ∀ b o, L b = some o → H b = some (IsO b o)) (nc : NoCode L H) (h : LamX.Tabs T H) : LamX.Tabs T (dlt L H) := fun p hp => by
  obtain ⟨ps, h1, h2, h3⟩ := h p hp
  refine ⟨ps, dlt_at hL h1 fun _ z => (by cases z), h2, fun pos cv hc => ?_⟩
  obtain ⟨c, e1, e2⟩ := h3 pos cv hc
  exact ⟨c, e1, by rw [dlt_none (nc c _ e2)]; exact e2⟩
theorem StoOk.dlt (s : StoOk M ρ O [] H) (hL : ∀ b o, L b = some o → H b = some (IsO b o)) (nc : NoCode L H) : StoOk M ρ O [] (dlt L H) := by
  have k : ∀ a, O a → ∃ o, H a = some o ∧ ownO o ∧ TI.dlt L H a = some o := fun a h => by
    obtain ⟨o, h1, h2⟩ := s.trk a h
    exact ⟨o, h1, h2, dlt_at hL h1 fun φ z => by rw [z] at h2; exact h2⟩
  refine ⟨s.rho, s.nd, fun a h => ?_, tabs_dlt hL nc s.tab, fun a vs h q => ?_, fun i d h => by simp at h⟩
  · obtain ⟨o, h1, h2, h3⟩ := k a h
    exact ⟨o, h3, h2⟩
  · obtain ⟨o, h1, h2, h3⟩ := k a h
    rw [h3] at q; cases q; exact h2
theorem StoOk.adx (s : StoOk M ρ O [] H) (n : ∀ b o, L b = some o → H b = none) : StoOk M ρ O [] (adx L H) := by
  refine ⟨s.rho, s.nd, fun a h => ?_, tabs_adx n s.tab, fun a vs h q => ?_, fun i d h => by simp at h⟩
  · obtain ⟨o, h1, h2⟩ := s.trk a h
    exact ⟨o, adx_at n h1, h2⟩
  · obtain ⟨o, h1, h2⟩ := s.trk a h
    rw [adx_at n h1] at q; cases q; exact s.notup a vs h h1
/-- a closure's body was run without its cells -/
theorem PostC.adx {d : D} {fr : Bool} {v : V} (hL : ∀ b o, L b = some o → H b = some (IsO b o)) (hF : ∀ b o, L b = some o → ¬ F b) (nc : NoCode L H) (n : ∀ b o, L b = some o → H'' b = none) (ht : LamX.Tabs M.T H) (p : PostC M ρ F [] (TI.dlt L H) d fr [] v H'') : PostC M ρ F [] H d fr [] v (TI.adx L H'') := by
  refine ⟨rfl, ⟨fun b u w t q => ?_, fun b q => ?_, fun z => ?_⟩, p.so.adx n, fun z => (p.plain z).mono (fun _ z => z) (kp_adx n), fun z => ?_⟩
  · cases e : L b with
    | some o =>
      have := hL b o e
      rw [q] at this; cases this
      exact adx_some e
    | none => rw [adx_none e]; exact p.ext.keep b u w t (by rw [dlt_none e]; exact q)
  · cases e : L b with
    | some o => rw [adx_some e] at q; cases q
    | none =>
      rw [adx_none e] at q
      have := p.ext.dom b q
      rw [dlt_none e] at this; exact this
  · exact tabs_adx n (p.ext.tab (tabs_dlt hL nc z))
  · obtain ⟨a, e1, e2, e3, e4⟩ := p.own z
    have ha : H a = none := by
      cases e : L a with
      | some o =>
        -- the new thing cannot stand where a cell stands
        obtain ⟨o', h1, _⟩ := e3.trk a (.inr rfl)
        rw [n a o e] at h1; cases h1
      | none => rw [dlt_none e] at e2; exact e2
    exact ⟨a, e1, ha, e3.adx n, e4.mono (fun _ z => z) (kp_adx n) fun u hu => adx_at n hu⟩
/-- a def was run with the cells of closures known -/
theorem PostC.dlt {d : D} {fr : Bool} {v : V} (n : ∀ b o, L b = some o → H b = none) (hL : ∀ b o, L b = some o → H' b = some (IsO b o)) (nc : NoCode L H') (c : noClo d = true) (p : PostC M ρ F [] (TI.adx L H) d fr [] v H') : PostC M ρ F [] H d fr [] v (TI.dlt L H') := by
  have dl : ∀ {b : Addr} {u : HO}, H b = some u → L b = none := fun {b u} e => L_none (Y := True) fun o z => by rw [n b o z] at e; cases e
  refine ⟨rfl, ⟨fun b u w t q => ?_, fun b q => ?_, fun z => ?_⟩, p.so.dlt hL nc, fun z => (p.plain z).dlt hL c, fun z => ?_⟩
  · rw [dlt_none (dl q)]
    exact p.ext.keep b u w t (by rw [adx_none (dl q)]; exact q)
  · cases e : L b with
    | some o => exact n b o e
    | none =>
      rw [dlt_none e] at q
      have := p.ext.dom b q
      rw [adx_none e] at this; exact this
  · exact tabs_dlt hL nc (p.ext.tab (tabs_adx n z))
  · obtain ⟨a, e1, e2, e3, e4⟩ := p.own z
    have ha : H a = none := by
      cases e : L a with
      | some o => exact n a o e
      | none => rw [adx_none e] at e2; exact e2
    exact ⟨a, e1, ha, e3.dlt hL nc, e4.dlt hL c⟩
end
end TI

end

section
set_option Elab.async false
set_option linter.all false
set_option maxRecDepth 100000
set_option maxHeartbeats 1000000
/-! TI32: a closure's body keeps its promise. -/
namespace TI
open PySem L2 PySem.Spec PyProof.Rows
structure LamText (M : Mt2) (l : Nat) (ld : LamDef) (N : List Str) (gl : Str → Option D) : Prop where
  sc : NdefX.NScope N (M.lam l).ps (M.lam l).fr (M.lam l).scope
  slots : ld.slots = N.length
  np : (M.lam l).ps.length = ld.ps
  nc : (M.lam l).fr.length = ld.cs
  mg : MgOk M gl
  bind : ∀ (q : Str) (cl : List (Str × Addr)) (pm cv ctv : Value) (us : List Value), us.length = ld.ps → bindArgs (PySem.W.kla_fn "<lambda>" q (M.lam l).params (M.lam l).body (M.lam l).scope cl pm cv ctv) ⟨us, []⟩ = pure ((M.lam l).ps.zip us)
section
variable {M : Mt2} {ρ : List Addr} {O O' F : Addr → Prop} {H H' H'' : Hp} {sto : List D}
theorem start_eq {N : List Str} {vs ws : List V} : NdefX.startF N vs (ws.map some) = L2.start N (vs ++ ws) := by
  unfold NdefX.startF L2.start
  rw [List.map_append, List.append_assoc, List.length_append, List.length_map, Nat.sub_sub]
theorem lam_body {l k n : Nat} {ld : LamDef} {N : List Str} {gl : Str → Option D} (t : LamText M l ld N gl) (hl : M.P.lams[l]? = some ld) (hb : SndE M (lv M.P n) ⟨N, (M.lam l).scope, gl, fun _ => false, none⟩ (M.lam l).body ld.body) : LamOk M (lv M.P (n + 1)) l k := by
  intro A outer s H ρ F f us vs ds cs d fr Q hr e0 rv hclo rds so hcall hq
  have hcall : lamS M.P (lv M.P n) l cs ds k = .ok d fr [] := hcall
  unfold lamS at hcall
  rw [hl] at hcall
  simp only at hcall
  split at hcall
  · rename_i hc
    obtain ⟨c1, c2, c3, c4⟩ := hc
    cases q : (lv M.P n).ev ld.body ⟨start (ds ++ cs) ld.slots, [], k, 0⟩ with
    | no => rw [q] at hcall; cases hcall
    | exc e s => rw [q] at hcall; cases hcall
    | ok p st' =>
      rw [q] at hcall
      simp only at hcall
      cases hcall
      simp only [Rep] at hclo
      obtain ⟨f', ws, e, ⟨cl, pm, ctv, c', h1, h2, hlen, h4, h5, h6⟩, rcs⟩ := hclo
      cases e
      obtain ⟨hfo, _, _⟩ := e0.hok f _ h1.2
      obtain ⟨⟨oc, cvs, tk, hoc, hdc, hvc⟩, _, _⟩ := e0.hok c' _ h2.2
      -- the cells
      obtain ⟨L, hL1, hL2⟩ : ∃ L : Addr → Option Obj, (∀ b o, L b = some o → H b = some (IsO b o) ∧ ¬ F b ∧ ∃ u, o.data = .cell (some u)) ∧ ∀ y c, cl.lookup y = some c → L c ≠ none := by
        classical
        refine ⟨fun b => if h : ∃ o, H b = some (IsO b o) ∧ ¬ F b ∧ ∃ u, o.data = .cell (some u) then some (Classical.choose h) else none, fun b o e => ?_, fun y c e => ?_⟩
        · simp only at e
          split at e
          · rename_i h
            cases e
            exact Classical.choose_spec h
          · cases e
        · obtain ⟨i, hi⟩ := List.mem_iff_getElem?.mp (h5 y c e)
          obtain ⟨c2, oc2, v, u, g1, g2, g3, g4, g5⟩ := h4 i y hi
          rw [e] at g1; cases g1
          simp only
          rw [dif_pos ⟨oc2, g5.2, g5.1, u, g4⟩]
          simp
      have hLH : ∀ b o, L b = some o → H b = some (IsO b o) := fun b o z => (hL1 b o z).1
      have hLh : ∀ b o, L b = some o → s.heap.get? b = some o := fun b o z => (e0.hok b _ (hLH b o z)).1
      have nc : NoCode L H := noCode e0.hok fun b o z => ⟨hLh b o z, let ⟨u, hu⟩ := (hL1 b o z).2.2; ⟨_, hu⟩⟩
      have hLf : ∀ b o, L b = some o → b ∉ frs outer := fun b o z hb => by
        have := e0.frf b hb
        rw [hLH b o z] at this; cases this
      have e1 := env0_dlt e0 hLH
      have so1 := so.dlt hLH nc
      have rds1 := rds.dlt hLH c3
      have rcs1 := rcs.dlt hLH c4
      have C : NdefX.CellsAt cl (M.lam l).fr (ws.map some) s.heap (dlt L H) := by
        refine ⟨by rw [List.length_map]; exact hlen, fun y c e => ?_, h6, fun i y e => ?_⟩
        · cases z : L c with
          | none => exact absurd z (hL2 y c e)
          | some o =>
            obtain ⟨u, hu⟩ := (hL1 c o z).2.2
            exact ⟨dlt_some z, _, o, hLh c o z, hu⟩
        · obtain ⟨c2, oc2, v, u, g1, g2, g3, g4, g5⟩ := h4 i y e
          refine ⟨c2, g1, fun v' hv' => ?_⟩
          rw [List.getElem?_map, g2] at hv'
          cases hv'
          exact ⟨u, g3, oc2, (e0.hok c2 _ g5.2).1, g4⟩
      have lim : s.heap.NoLimit := e0.mod.nolimit.keeps fun b o e => (e0.bs b o e).1
      have hvl : vs.length = (M.lam l).ps.length := by rw [t.np, ← c1, rds.length]
      refine PySem.W.kla_callFunE hr.depth hfo rfl t.sc.co t.sc.gen rfl ⟨c', oc, cvs, tk, rfl, hoc, hdc, hvc⟩ ?_
      rw [t.bind _ _ _ _ _ us (by rw [← rv.length, ← rds.length, c1])]
      refine wpAny_pure (wpAny_newFunctionEnv t.sc.nocell (fun y hy => t.sc.par _ (List.of_mem_zip hy).1) (fun h₁ hns hsb => ⟨lim.fresh _ hsb, ?_⟩) t.sc.kind)
      let FF : NdefX.NF := ⟨"<lambda>", (M.lam l).qual, (M.lam l).params, [], (M.lam l).scope, cl, c'⟩
      show codeAny _ _ (.expr (M.lam l).body (NdefX.envF FF f s.heap.objs.size)) _ _
      have kp : ∀ b o, s.heap.get? b = some o → h₁.get? b = some o := fun b o e => hsb.extBut b o (Nat.ne_of_lt (Heap.lt_size e)) (Heap.get?_push_of_some _ e)
      have J := NdefX.inv_startN (CX := CXN) (E := EN) (F := FF) (f := f) (tk := s.toks + ((M.lam l).ps.zip us).length) t.sc hr.hd e1 hvl rv C hns kp
      have good : Good M (NdefX.ncx CXN M.prog M.w M.K M.mg M.base N FF f A outer s (dlt L H) EN) ⟨N, (M.lam l).scope, gl, fun _ => false, none⟩ := ⟨rfl, rfl, rfl, rfl, rfl, rfl, t.sc.nd, rfl, rfl, t.mg.gl, t.mg.nogl, (fun _ z => by cases z), fun _ _ z => by cases z⟩
      have rel : SRel M ρ F ⟨start (ds ++ cs) ld.slots, [], k, 0⟩ (L2.start N (vs ++ ws)) (dlt L H) := start_rel so1 (rds1.append rcs1) t.slots (by
        rw [List.length_append, t.slots, c1, c2, ← t.np, ← t.nc]
        have := congrArg List.length t.sc.pre
        rw [List.length_take, List.length_append] at this
        omega)
      rw [start_eq] at J
      refine PySem.W.kla_codeExpr (wpAny_mono ((hb _ (fun _ _ _ _ => False) good LamX.takes0).run [] _ _ (dlt L H) (fun v H' => PostC M ρ F [] (dlt L H) p.1 p.2 [] v H') J ?_) (fun v s' hq' => ?_) fun e s' hq => hq)
      · refine ⟨ρ, F, _, rel, hr.deeper _, ?_⟩
        rw [q]
        intro v H' ⟨O', lf, p1, p2⟩
        have low : ∀ a, F a → O' a := fun a ha => by
          rcases lf.low a ha with w | ⟨i, d, hi, _⟩
          · exact w
          · exact absurd hi start_false
        have hz : st'.sto = [] := List.length_eq_zero_iff.mp lf.slen
        have hso : StoOk M ρ F [] H' := by
          have := lf.rel.so.mono low so.rho
          rwa [hz] at this
        refine ⟨rfl, lf.ext, hso, fun z => (p1 z).mono low (Kp.refl _ _), fun z => ?_⟩
        obtain ⟨a, g1, g2, g3, g4, g5⟩ := p2 z
        refine ⟨a, g1, g3, ?_, g5.mono (fun b hb => hb.elim (fun h => .inl (low b h)) .inr) (Kp.refl _ _) fun _ z => z⟩
        have := g4.so.mono (O' := fun b => F b ∨ b = a) (fun b hb => hb.elim (fun h => .inl (low b h)) .inr) fun b hb => .inl (so.rho b hb)
        rwa [hz] at this
      · obtain ⟨w', H', J', rw', qq⟩ := hq'
        have ce : L2.CE outer M.prog M.w (dlt L H) s (fun v H' => PostC M ρ F [] (dlt L H) p.1 p.2 [] v H') v s' := ⟨w', H', J'.os, J'.bare, J'.base, J'.hok, rw', qq⟩
        exact ce_dlt ce (fun b o z => ⟨hLH b o z, hLh b o z, hLf b o z⟩) fun v H'' n0 pc => hq v _ (pc.adx hLH (fun b o z => (hL1 b o z).2.1) nc n0 so.tab)
  · cases hcall
end
end TI

end

section
set_option Elab.async false
set_option linter.all false
set_option maxRecDepth 100000
set_option maxHeartbeats 1000000
/-! TI33: lambdas as arguments. -/
namespace TI
open PySem L2 PySem.Spec PyProof.Rows LamX
section
variable {X : Cx} {pins : List (Addr × Obj)} {σ : L2.St} {H : Hp} {s : Shared}
theorem inv_lam {o : Obj} {t' : Nat} (I : Inv X pins σ H s) (hf : o.isFreed = false) : Inv X pins σ (upd H s.heap.objs.size (IsO s.heap.objs.size o)) { s with heap := s.heap.push o, toks := t' } := by
  refine I.laid (a := s.heap.objs.size) (fun b u e => Heap.get?_push_of_some _ e) (Nat.le_refl _) ?_
  have e : (s.heap.push o).get? s.heap.objs.size = some o := Heap.get?_push_size _ hf
  exact ⟨e, ⟨_, e⟩, fun h1 h2 z st => st _ z⟩
/-- a lambda is made, and known from then on -/
theorem lam_make3 {T : List (Addr × Str)} {c P : Addr} {params : Arguments} {body : Expr} {scope : Scope} {pos : Pos} {E : Value → Shared → Prop} {Q : Value → Shared → Prop} (I : Inv X pins σ H s) (TB : TabB X.base X.mg c P) (hcode : X.env.code = .ref c)
    (hm : (P, X.env.qual ++ "<lambda>") ∈ T) (hu : ∀ p ∈ T, p.1 = P → p.2 = X.env.qual ++ "<lambda>") (hT : Tabs T H) (hdef : defaultsOf params X.env = ([], [])) (hfree : ∀ y ∈ scope.names, y.2 = .free → ∃ c, X.env.cells.lookup y.1 = some c)
    (h : ∀ (f c' : Addr) (pm ctv : Value) (H1 : Hp) (s' : Shared), Inv X pins σ H1 s' → ExtN H H1 → (∀ b, H1 b = none → H b = none) → Tabs T H1 → H f = none →
      H1 f = some (IsO f (PySem.W.kla_obj "<lambda>" (X.env.qual ++ "<lambda>") params body scope (cloFrom X.env.cells scope.names []) pm c' ctv)) → H1 c' = some (CodeO c' (X.env.qual ++ "<lambda>")) → Q (.ref f) s') :
    wpAny (model X.prog X.w) X.A (eval (.Lambda params body scope pos) X.env) Q E s := by
  obtain ⟨ps, hP, ht, ha⟩ := hT _ hm
  refine PySem.W.kla_eval hdef ?_
  have bP : s.heap.BuiltinsAt X.mg P := TB.bm.keeps I.bk
  have hP' : s.heap.get? P = some { cls := .none, data := .fields ps } := I.hok P _ hP
  cases hc : codeAmong pos ps.toList with
  | none =>
    refine PySem.W.kla_makeFunction (mg := X.mg) (c := c) (P := P) (ps := ps) (closure_ok hfree) I.ok.glob (I.mod.glob.keeps I.bk) hcode (TB.code.keeps I.bk) hP' ht hc TB.gP bP fun c' ctv h' tk hx hge hlt hrec htb => ?_
    obtain ⟨c2, oc, vs, t, e2, hoc, hd, hv⟩ := hrec
    cases e2
    have nC : H c' = none := I.hok.fresh hge
    have I1 := inv_table (t' := tk) (more := #[rawInt pos.line, rawInt pos.col, .ref c']) (h' := h') I hP (fun b o hb e => hx b o hb e) htb hge ⟨oc, vs, t, hoc, hd, hv⟩
    have hE : ExtN H (upd (upd H P (.tbl (ps ++ #[rawInt pos.line, rawInt pos.col, .ref c']))) c' (CodeO c' (X.env.qual ++ "<lambda>"))) := fun b o e n => by
      rw [upd_ne (ne_of_none e nC), upd_ne (fun z => n ps (Option.some.inj (e.symm.trans (by rw [z]; exact hP))))]
      exact e
    have eL : (ps ++ #[rawInt pos.line, rawInt pos.col, .ref c']).toList = ps.toList ++ [rawInt pos.line, rawInt pos.col, .ref c'] := by simp
    have T1 : Tabs T (upd (upd H P (.tbl (ps ++ #[rawInt pos.line, rawInt pos.col, .ref c']))) c' (CodeO c' (X.env.qual ++ "<lambda>"))) := fun p hp => by
      by_cases hb : p.1 = P
      · rw [hu p hp hb, hb]
        refine ⟨_, by rw [upd_ne (ne_of_none hP nC), upd_same], by rw [eL]; exact PySem.TriplesOk_snoc _ _ _ _ ht, fun p' cv hcv => ?_⟩
        rw [eL] at hcv
        rcases among_app _ ht hcv with z | z
        · obtain ⟨c0, e1, e2⟩ := ha p' cv z
          exact ⟨c0, e1, hE _ _ e2 codeO_ne⟩
        · exact ⟨c', z, upd_same⟩
      · obtain ⟨ps', a1, a2, a3⟩ := hT p hp
        refine ⟨ps', by rw [upd_ne (ne_of_none a1 nC), upd_ne hb]; exact a1, a2, fun p' cv hcv => ?_⟩
        obtain ⟨c0, e1, e2⟩ := a3 p' cv hcv
        exact ⟨c0, e1, hE _ _ e2 codeO_ne⟩
    have nF := I1.hok.fresh (Nat.le_refl _)
    have I2 := inv_lam (o := PySem.W.kla_obj "<lambda>" (X.env.qual ++ "<lambda>") params body scope (cloFrom X.env.cells scope.names []) ((X.mg "__name__").getD .none) c' ctv) (t' := tk) I1 rfl
    refine h h'.objs.size c' ((X.mg "__name__").getD .none) ctv _ _ I2 (fun b o e n => ?_) (fun b e => NdefX.upd_none (NdefX.upd_none (NdefX.upd_none e))) (T1.ext fun b o e => ?_) (I.hok.fresh (Nat.le_trans hge (Nat.le_of_lt hlt))) upd_same ?_
    · have e1 := hE b o e n
      exact (upd_ne (ne_of_none e1 nF)).trans e1
    · exact (upd_ne (ne_of_none e nF)).trans e
    · exact (upd_ne (Nat.ne_of_lt hlt)).trans upd_same
  | some cv =>
    obtain ⟨c', e, hco⟩ := ha pos cv hc
    subst e
    refine PySem.W.kla_makeFunctionHit (mg := X.mg) (c := c) (P := P) (ps := ps) (closure_ok hfree) I.ok.glob (I.mod.glob.keeps I.bk) hcode (TB.code.keeps I.bk) hP' ht hc bP fun ctv h' tk hx hsz => ?_
    have I1 : Inv X pins σ H { s with heap := h', toks := tk } := I.kept hx
    have nF : H h'.objs.size = none := I1.hok.fresh (Nat.le_refl _)
    have I2 := inv_lam (o := PySem.W.kla_obj "<lambda>" (X.env.qual ++ "<lambda>") params body scope (cloFrom X.env.cells scope.names []) ((X.mg "__name__").getD .none) c' ctv) (t' := tk) I1 rfl
    refine h h'.objs.size c' ((X.mg "__name__").getD .none) ctv _ _ I2 (fun b o e n => ?_) (fun b e => NdefX.upd_none e) (hT.ext fun b o e => ?_) nF upd_same ?_
    · exact (upd_ne (ne_of_none e nF)).trans e
    · exact (upd_ne (ne_of_none e nF)).trans e
    · exact (upd_ne (ne_of_none hco nF)).trans hco
end
/-- a lambda's text, as it stands in its maker -/
structure LamHere (M : Mt2) (Γ : Gam) (l : Nat) (params : Arguments) (body : Expr) (scope : Scope) (cs : List Nat) : Prop where
  txt : (M.lam l).params = params ∧ (M.lam l).body = body ∧ (M.lam l).scope = scope
  mak : ∃ q c P, Γ.mak = some (q, .ref c) ∧ q ++ "<lambda>" = (M.lam l).qual ∧ TabB M.base M.mg c P ∧ (P, (M.lam l).qual) ∈ M.T ∧ ∀ p ∈ M.T, p.1 = P → p.2 = (M.lam l).qual
  dfl : ∀ env, defaultsOf params env = ([], [])
  free : ∀ y ∈ scope.names, y.2 = .free → Γ.sc.names.lookup y.1 = some .cell ∨ Γ.sc.names.lookup y.1 = some .free
  all : ∀ y ∈ scope.names, y.2 = .free → y.1 ∈ (M.lam l).fr
  fr : ∀ y ∈ (M.lam l).fr, (y, NameKind.free) ∈ scope.names
  at_ : cs.map (fun j => Γ.N[j]?) = (M.lam l).fr.map some
  fc : ∀ y ∈ (M.lam l).fr, Γ.fc y = true
/-- a lambda just made -/
def LamAt (M : Mt2) (X : Cx) (O : Addr → Prop) (H : Hp) (l : Nat) (f : Addr) : Prop := ∃ (pm ctv : Value) (c' : Addr),
  Yx O H f (fun h => h.get? f = some (PySem.W.kla_obj "<lambda>" (M.lam l).qual (M.lam l).params (M.lam l).body (M.lam l).scope (cloFrom X.env.cells (M.lam l).scope.names []) pm c' ctv)) ∧
  Yx O H c' (fun h => ∃ (oc : Obj) (vs : Array Value) (t : Tok), h.get? c' = some oc ∧ oc.data = .fields vs ∧ vs[1]? = some (.str (M.lam l).qual t))
def LArgs (M : Mt2) (X : Cx) (ρ : List Addr) (O : Addr → Prop) (H : Hp) (st : St) (σ : L2.St) : List SE → List (Option D) → List V → Prop
  | [], xs, vs => xs = [] ∧ vs = []
  | se :: ses, xs, vs => ∃ x r v w, xs = x :: r ∧ vs = v :: w ∧ LArgs M X ρ O H st σ ses r w ∧ ((∃ l cs f, se = .lam l cs ∧ x = none ∧ v = .ref f ∧ LamAt M X O H l f) ∨ ∃ d, isLam se = false ∧ x = some d ∧ Arg1 M ρ O H st σ se d v)
inductive SndLs (M : Mt2) (r : Rec) (Γ : Gam) : List Expr → List SE → Prop where
  | nil : SndLs M r Γ [] []
  | cons {e : Expr} {es : List Expr} {se : SE} {ses : List SE} : NotStar e → isLam se = false → SndP M r Γ e se → SndLs M r Γ es ses → SndLs M r Γ (e :: es) (se :: ses)
  | lam {l : Nat} {params : Arguments} {body : Expr} {scope : Scope} {pos : Pos} {cs : List Nat} {es : List Expr} {ses : List SE} : LamHere M Γ l params body scope cs → SndLs M r Γ es ses → SndLs M r Γ (.Lambda params body scope pos :: es) (.lam l cs :: ses)
section
variable {M : Mt2} {ρ : List Addr} {O O' F : Addr → Prop} {H H' : Hp} {st st' : St} {σ : L2.St} {sto sto' : List D} {X : Cx} {W : WX} {r : Rec} {Γ : Gam}
theorem Yx.left (l : Left M ρ O st σ H O' st' H') (s : SRel M ρ O st σ H) {a : Addr} {φ : Heap → Prop} (h : Yx O H a φ) : Yx O' H' a φ :=
  ⟨fun z => h.1 (l.sub a z), l.ext.keep a _ (fun w => h.1 (s.so.wr a w)) trivial h.2⟩
theorem LamAt.left (l : Left M ρ O st σ H O' st' H') (s : SRel M ρ O st σ H) {k : Nat} {f : Addr} (h : LamAt M X O H k f) : LamAt M X O' H' k f := by
  obtain ⟨pm, ctv, c', h1, h2⟩ := h
  exact ⟨pm, ctv, c', h1.left l s, h2.left l s⟩
theorem LArgs.left (l : Left M ρ O st σ H O' st' H') (s : SRel M ρ O st σ H) : ∀ {ses : List SE} {xs : List (Option D)} {vs : List V}, LArgs M X ρ O H st σ ses xs vs → LArgs M X ρ O' H' st' σ ses xs vs
  | [], _, _, h => h
  | _ :: _, _, _, ⟨x, r, v, w, h1, h2, h3, h4⟩ => ⟨x, r, v, w, h1, h2, h3.left l s, h4.imp (fun ⟨k, cs, f, g1, g2, g3, g4⟩ => ⟨k, cs, f, g1, g2, g3, g4.left l s⟩) fun ⟨d, g1, g2, g3⟩ => ⟨d, g1, g2, g3.left l s⟩⟩
theorem pe_lam {l : Nat} {params : Arguments} {body : Expr} {scope : Scope} {pos : Pos} {cs : List Nat} (g : Good M X Γ) (lh : LamHere M Γ l params body scope cs) :
    PE X (.Lambda params body scope pos) (fun σ H Q => ∃ ρ O st, SRel M ρ O st σ H ∧ ∀ f H1, Left M ρ O st σ H O st H1 → LamAt M X O H1 l f → Q (.ref f) H1) := by
  refine ⟨fun pins s σ H Q I h => ?_⟩
  obtain ⟨ρ, O, st, s0, h⟩ := h
  obtain ⟨q, c, P, m1, m2, m3, m4, m5⟩ := lh.mak
  obtain ⟨e1, e2⟩ := g.mak _ _ m1
  obtain ⟨t1, t2, t3⟩ := lh.txt
  have eq : X.env.qual ++ "<lambda>" = (M.lam l).qual := by rw [e1]; exact m2
  have hfree : ∀ y ∈ scope.names, y.2 = .free → ∃ c, X.env.cells.lookup y.1 = some c := fun y hy e => by
    have := lh.free y hy e
    rw [← g.sc] at this
    rcases this with k | k
    · exact I.ok.has _ (.inl k)
    · exact I.ok.has _ (.inr k)
  refine lam_make3 (T := M.T) (c := c) (P := P) I (by rw [g.base, g.mg]; exact m3) e2 (by rw [eq]; exact m4) (fun p hp hb => by rw [eq]; exact m5 p hp hb) s0.so.tab (lh.dfl _) hfree fun f c' pm ctv H1 s' I1 eN dm T1 f0 f1 c1 => ?_
  have nO : ∀ a, H a = none → ¬ O a := fun a ha z => by
    obtain ⟨o, ho, _⟩ := s0.so.trk a z
    rw [ha] at ho; cases ho
  have ex : Ext M (fun _ => False) H H1 := ⟨fun b u _ t q => eN b u q fun ps z => by rw [z] at t; exact t, dm, fun _ => T1⟩
  have lf : Left M ρ O st σ H O st H1 := Left.grow s0 ex
  refine ⟨.ref f, H1, I1, rfl, h f H1 lf ⟨pm, ctv, c', ⟨nO f f0, ?_⟩, fun z => ?_, ?_⟩⟩
  · rw [f1, eq, ← t1, ← t2, ← t3]; rfl
  · -- a code object is no own thing
    obtain ⟨o, ho, ow⟩ := s0.so.trk c' z
    have := ex.keep c' o (fun z => z) ow.nt ho
    rw [c1] at this; cases this
    exact ow
  · rw [c1, eq]; rfl
/-- the arguments, lambdas among them -/
def tLs (M : Mt2) (X : Cx) (W : WX) (r : Rec) (ses : List SE) : TA := fun σ H Q => ∃ ρ O st, SRel M ρ O st σ H ∧ Room st.dep X.A ∧ wpR (pksL r ses st) (fun xs st' => ∀ vs H', (∃ O', Left M ρ O st σ H O' st' H' ∧ LArgs M X ρ O' H' st' σ ses xs vs) → Q vs H') (Bx M W ρ O st σ H)
theorem pksL_cons {se : SE} {ses : List SE} (h : isLam se = false) : pksL r (se :: ses) st = (pk r se st).bind fun d st => (pksL r ses st).bind fun ds st => .ok (some d :: ds) st := by
  cases se <;> first | rfl | (simp [isLam] at h)
theorem SndLs.pa {es : List Expr} {ses : List SE} (h : SndLs M r Γ es ses) : ∀ X W, Good M X Γ → Takes X W → PA X es (tLs M X W r ses) := by
  induction h with
  | nil =>
    intro X W g tk
    refine pa_nil.imp fun σ H Q h => ?_
    obtain ⟨ρ, O, st, s, hr, h⟩ := h
    exact wpR.ok (show wpR (R.ok [] st) _ _ from h) [] H ⟨O, Left.refl s, rfl, rfl⟩
  | @cons e es se ses hn hl he _ ih =>
    intro X W g tk
    refine (pa_cons (he X W g tk) (ih X W g tk) (star_of hn es X.env)).imp fun σ H Q h => ?_
    obtain ⟨ρ, O, st, s, hr, h⟩ := h
    rw [pksL_cons hl] at h
    refine ⟨ρ, O, st, s, hr, h.bind.mono (fun d st1 h v H1 ⟨O1, l1, r1, a1⟩ => ?_) fun _ _ x => x⟩
    refine ⟨ρ, O1, st1, l1.rel, by rw [l1.dep]; exact hr, h.bind.mono (fun ds st2 h vs H2 ⟨O2, l2, r2⟩ => ?_) fun _ _ x => x.later l1⟩
    exact h.ok _ _ ⟨O2, l1.trans l2, some d, ds, v, vs, rfl, rfl, r2, .inr ⟨d, hl, rfl, a1.left l2 l1.rel⟩⟩
  | @lam l params body scope pos cs es ses lh _ ih =>
    intro X W g tk
    refine (pa_cons (pe_lam (pos := pos) g lh) (ih X W g tk) (star_of (e := .Lambda params body scope pos) trivial es X.env)).imp fun σ H Q h => ?_
    obtain ⟨ρ, O, st, s, hr, h⟩ := h
    have h : wpR ((pksL r ses st).bind fun ds st => .ok (none :: ds) st) _ _ := h
    refine ⟨ρ, O, st, s, fun f H1 l1 la => ?_⟩
    refine ⟨ρ, O, st, l1.rel, hr, h.bind.mono (fun ds st2 h vs H2 ⟨O2, l2, r2⟩ => ?_) fun _ _ x => x.later l1⟩
    exact h.ok _ _ ⟨O2, l1.trans l2, none, ds, .ref f, vs, rfl, rfl, r2, .inl ⟨l, cs, f, rfl, rfl, rfl, la.left l2 l1.rel⟩⟩
theorem SndLs.nostar {es : List Expr} {ses : List SE} (h : SndLs M r Γ es ses) (pos : Pos) (env : Env) : (backTo pos (starEach es env)).any (·.1) = false := by
  induction h with
  | nil => rfl
  | cons hn _ _ _ ih => rw [star_of hn]; simpa [backTo] using ih
  | @lam l params body scope pos cs es ses _ _ ih => rw [star_of (e := .Lambda params body scope pos) trivial]; simpa [backTo] using ih
theorem SndLs.star {e : Expr} {es : List Expr} {ses : List SE} (h : SndLs M r Γ (e :: es) ses) (env : Env) : starEach (e :: es) env = (false, eval e env) :: starEach es env := by
  cases h with
  | cons hn _ _ _ => exact star_of hn es env
  | @lam l params body scope pos cs es ses _ _ => exact star_of (e := .Lambda params body scope pos) trivial es env
end
end TI

end

section
set_option Elab.async false
set_option linter.all false
set_option maxRecDepth 100000
set_option maxHeartbeats 1000000
/-! TI34: a def called with lambdas. -/
namespace TI
open PySem L2 PySem.Spec PyProof.Rows LamX
section
variable {M : Mt2} {ρ : List Addr} {O O' F : Addr → Prop} {H H' : Hp} {st st' : St} {σ : L2.St} {sto sto' : List D} {X : Cx} {W : WX} {r : Rec} {Γ : Gam}
theorem capV_reps {E : List SE} (s : SRel M ρ O st σ H) : ∀ {cs : List Nat} {ds : List D}, (∀ j ∈ cs, SE.var j ∈ E) → capV st cs = some ds → ∃ ws, cs.map (NdefX.slotAt σ) = ws.map some ∧ Reps M ρ (Giv O st σ E) H ds ws
  | [], ds, _, h => by simp [capV] at h; subst h; exact ⟨[], rfl, .nil⟩
  | j :: cs, ds, hm, h => by
    simp only [capV] at h
    split at h
    · rename_i p ds' h1 h2
      cases h
      obtain ⟨own, d⟩ := p
      obtain ⟨ws, e, rs⟩ := capV_reps s (cs := cs) (fun k hk => hm k (List.mem_cons_of_mem _ hk)) h2
      have hi := slot_at h1
      obtain ⟨v, g1, g2, g3⟩ := s.slot j own d hi
      refine ⟨v :: ws, ?_, .cons ?_ rs⟩
      · simp only [List.map_cons, e]
        unfold NdefX.slotAt
        rw [g1]
      · refine Arg1.giv (se := .var j) s (hm j List.mem_cons_self) ?_
        cases own with
        | false => exact .inl (g2 rfl)
        | true => exact .inr ⟨j, rfl, hi, g1⟩
    · cases h
theorem lam_here {es : List SE} {args : List Expr} (h : SndLs M r Γ args es) {l : Nat} {cs : List Nat} (hm : SE.lam l cs ∈ es) : ∃ params body scope, LamHere M Γ l params body scope cs := by
  induction h with
  | nil => cases hm
  | cons _ hl _ _ ih =>
    rcases List.mem_cons.mp hm with e | e
    · subst e; simp [isLam] at hl
    · exact ih e
  | lam lh _ ih =>
    rcases List.mem_cons.mp hm with e | e
    · cases e; exact ⟨_, _, _, lh⟩
    · exact ih e
theorem caps_lam {l : Nat} {cs : List Nat} : ∀ {es : List SE}, SE.lam l cs ∈ es → ∀ j ∈ cs, SE.var j ∈ capsL es
  | [], h, _, _ => by cases h
  | e :: es, h, j, hj => by
    rcases List.mem_cons.mp h with z | z
    · subst z
      exact List.mem_append_left _ (List.mem_map_of_mem hj)
    · have := caps_lam z j hj
      cases e <;> first | exact List.mem_cons_of_mem _ this | exact List.mem_append_right _ this
theorem caps_plain {se : SE} (hl : isLam se = false) : ∀ {es : List SE}, se ∈ es → se ∈ capsL es
  | [], h => by cases h
  | e :: es, h => by
    rcases List.mem_cons.mp h with z | z
    · subst z
      cases se <;> first | exact List.mem_cons_self | (simp [isLam] at hl)
    · have := caps_plain hl z
      cases e <;> first | exact List.mem_cons_of_mem _ this | exact List.mem_append_right _ this
/-- the closure, while its cells are known -/
theorem clo_rep {pins : List (Addr × Obj)} {s : Shared} {l : Nat} {params : Arguments} {body : Expr} {scope : Scope} {cs : List Nat} {E : List SE} {f : Addr} {ds : List D} {L : Addr → Option Obj} (g : Good M X Γ) (I : Inv X pins σ H s) (s0 : SRel M ρ O st σ H) (lh : LamHere M Γ l params body scope cs)
    (hm : ∀ j ∈ cs, SE.var j ∈ E) (la : LamAt M X O H l f) (hcap : capV st cs = some ds) (n : ∀ b o, L b = some o → H b = none)
    (hL : ∀ y ∈ (M.lam l).fr, ∀ c o u, X.env.cells.lookup y = some c → s.heap.get? c = some o → o.data = .cell (some u) → L c = some o) : Rep M ρ (Giv O st σ E) (adx L H) (.clo l ds) (.ref f) := by
  obtain ⟨ws, ew, rs⟩ := capV_reps s0 hm hcap
  obtain ⟨pm, ctv, c', y1, y2⟩ := la
  obtain ⟨t1, t2, t3⟩ := lh.txt
  subst t3
  have hfree : ∀ y ∈ (M.lam l).scope.names, y.2 = .free → X.env.scope.names.lookup y.1 = some .cell ∨ X.env.scope.names.lookup y.1 = some .free := fun y hy e => by
    rw [g.sc]; exact lh.free y hy e
  have caps := NdefX.Caps.made (fr := (M.lam l).fr) (js := cs) I.ok hfree lh.fr (by rw [g.N]; exact lh.at_)
  have C := NdefX.cells_of I caps
  rw [ew] at C
  have nG : ∀ a, Giv O st σ E a → O a := fun a h => h.1
  simp only [Rep]
  refine ⟨f, ws, rfl, ⟨_, pm, ctv, c', ⟨fun z => y1.1 (nG _ z), adx_at n y1.2⟩, ⟨fun z => y2.1 (nG _ z), adx_at n y2.2⟩, by have := C.len; rwa [List.length_map] at this, fun i y e => ?_, fun y c e => ?_, C.inj⟩, rs.mono (fun _ z => z) (kp_adx n)⟩
  · obtain ⟨c, hc, hv⟩ := C.has i y e
    have hi : i < ws.length := by
      have h1 := C.len
      rw [List.length_map] at h1
      rw [h1]; exact (List.getElem?_eq_some_iff.mp e).1
    obtain ⟨u, ru, o, ho, hd⟩ := hv ws[i] (by rw [List.getElem?_map, List.getElem?_eq_getElem hi]; rfl)
    refine ⟨c, o, ws[i], u, hc, List.getElem?_eq_getElem hi, ru, hd, fun z => ?_, ?_⟩
    · obtain ⟨o', ho', _⟩ := s0.so.trk c (nG _ z)
      rw [(C.all y c hc).1] at ho'; cases ho'
    · exact adx_some (hL y (List.mem_of_getElem? e) c o u (caps.sub y c hc) ho hd)
  · rcases cloFrom_mem (PySem.mem_of_lookup e) with z | ⟨z, _⟩
    · cases z
    · exact lh.all _ z rfl
theorem largs_reps {pins : List (Addr × Obj)} {s : Shared} {E es0 : List SE} {L : Addr → Option Obj} (g : Good M X Γ) (I : Inv X pins σ H s) (s0 : SRel M ρ O st σ H) (n : ∀ b o, L b = some o → H b = none)
    (hlam : ∀ l cs, SE.lam l cs ∈ es0 → ∃ params body scope, LamHere M Γ l params body scope cs) (hcs : ∀ l cs, SE.lam l cs ∈ es0 → ∀ j ∈ cs, SE.var j ∈ E) (hpl : ∀ se ∈ es0, isLam se = false → se ∈ E)
    (hL : ∀ l cs, SE.lam l cs ∈ es0 → ∀ y ∈ (M.lam l).fr, ∀ c o u, X.env.cells.lookup y = some c → s.heap.get? c = some o → o.data = .cell (some u) → L c = some o) :
    ∀ {es : List SE} {xs : List (Option D)} {vs : List V} {ds : List D}, (∀ e ∈ es, e ∈ es0) → LArgs M X ρ O H st σ es xs vs → fillL st es xs = some ds → Reps M ρ (Giv O st σ E) (adx L H) ds vs
  | [], _, _, ds, _, ⟨h1, h2⟩, h => by
    subst h1; subst h2
    simp [fillL] at h
    subst h
    exact .nil
  | se :: es, _, _, ds, hm, ⟨x, xr, v, w, h1, h2, h3, h4⟩, h => by
    subst h1; subst h2
    have hm' : ∀ e ∈ es, e ∈ es0 := fun e he => hm e (List.mem_cons_of_mem _ he)
    rcases h4 with ⟨l, cs, f, rfl, rfl, rfl, la⟩ | ⟨d, hl, rfl, a⟩
    · simp only [fillL] at h
      split at h
      · rename_i dl rl h5 h6
        cases h
        obtain ⟨params, body, scope, lh⟩ := hlam l cs (hm _ List.mem_cons_self)
        exact .cons (clo_rep g I s0 lh (hcs l cs (hm _ List.mem_cons_self)) la h5 n (hL l cs (hm _ List.mem_cons_self))) (largs_reps g I s0 n hlam hcs hpl hL hm' h3 h6)
      · cases h
    · have e1 : fillL st (se :: es) (some d :: xr) = match fillL st es xr with | some r => some (d :: r) | _ => none := by
        cases se <;> first | rfl | (simp [isLam] at hl)
      rw [e1] at h
      split at h
      · rename_i rl h6
        cases h
        exact .cons ((a.giv s0 (hpl _ (hm _ List.mem_cons_self) hl)).mono (fun _ z => z) (kp_adx n)) (largs_reps g I s0 n hlam hcs hpl hL hm' h3 h6)
      · cases h
theorem callL_run (g : Good M X Γ) (co : CallOk M r) {f : Nat} {es : List SE} {args : List Expr} {xs : List (Option D)} {vs : List V} {us : List Value} {fd : FnDef} {pins : List (Addr × Obj)} {s : Shared} {Q : VK} {ex : D → St → Prop} (I : Inv X pins σ H s) (s0 : SRel M ρ O st σ H) (hr : Room st.dep X.A)
    (hf : M.P.fns[f]? = some fd) (ha : SndLs M r Γ args es) (a1 : LArgs M X ρ O H st σ es xs vs) (v1 : Vals vs us)
    (h : wpR (callDL M.P r f es xs st) (fun p st' => ∀ v H', PostE M ρ O st σ H p.1 p.2 st' v H' → Q v H') ex) :
    wpAny (model X.prog X.w) X.A (call (.ref (M.fnA f)) us []) (EP X pins σ Q) X.xe s := by
  unfold callDL at h
  rw [hf] at h
  simp only at h
  split at h
  · exact h.elim
  rename_i hpen
  have hpen : fd.pen = false := by simpa using hpen
  obtain ⟨ds, hfill, h⟩ := h.lift
  split at h
  · rename_i p st1 hcd
    split at h
    · rename_i hno
      have ff := co.fact f fd hf
      simp only [callD, hf, Option.toList_none, List.nil_append] at hcd
      unfold lift at hcd
      split at hcd
      · rename_i ds' hb
        obtain ⟨sh, hm, e1, e2, e3⟩ := bindA_sh hb
        unfold doCall at hcd
        rw [hf] at hcd
        simp only at hcd
        split at hcd
        · cases hcd
        rename_i hi
        have hi : fd.isInit = false := by simpa using hi
        split at hcd
        · cases hcd
        rename_i k hk
        split at hcd
        · rename_i d fr sto' hcall
          cases hcd
          rw [hpen] at h
          -- the cells
          obtain ⟨L, hL1, hL2⟩ : ∃ L : Addr → Option Obj, (∀ b o, L b = some o → (∃ l cs y, SE.lam l cs ∈ es ∧ y ∈ (M.lam l).fr ∧ X.env.cells.lookup y = some b) ∧ s.heap.get? b = some o ∧ ∃ u, o.data = .cell (some u)) ∧
              ∀ l cs, SE.lam l cs ∈ es → ∀ y ∈ (M.lam l).fr, ∀ c o u, X.env.cells.lookup y = some c → s.heap.get? c = some o → o.data = .cell (some u) → L c = some o := by
            classical
            refine ⟨fun b => if h : ∃ o, (∃ l cs y, SE.lam l cs ∈ es ∧ y ∈ (M.lam l).fr ∧ X.env.cells.lookup y = some b) ∧ s.heap.get? b = some o ∧ ∃ u, o.data = .cell (some u) then some (Classical.choose h) else none, fun b o e => ?_, fun l cs hl y hy c o u e1 e2 e3 => ?_⟩
            · simp only at e
              split at e
              · rename_i h
                cases e
                exact Classical.choose_spec h
              · cases e
            · have hex : ∃ o, (∃ l cs y, SE.lam l cs ∈ es ∧ y ∈ (M.lam l).fr ∧ X.env.cells.lookup y = some c) ∧ s.heap.get? c = some o ∧ ∃ u, o.data = .cell (some u) := ⟨o, ⟨l, cs, y, hl, hy, e1⟩, e2, u, e3⟩
              simp only
              rw [dif_pos hex]
              exact (Classical.choose_spec hex).2.1.symm.trans e2
          have hab : ∀ b o, L b = some o → X.s_0.heap.objs.size ≤ b := fun b o z => by
            obtain ⟨⟨l, cs, y, m1, m2, m3⟩, _⟩ := hL1 b o z
            obtain ⟨params, body, scope, lh⟩ := lam_here ha m1
            exact I.ok.cab y b (g.fn y (lh.fc y m2)) m3
          have n : ∀ b o, L b = some o → H b = none := fun b o z => by
            obtain ⟨⟨l, cs, y, m1, m2, m3⟩, _⟩ := hL1 b o z
            exact I.freeC y b m3
          have hfs : ∀ b o, L b = some o → b ∉ frs X.stack := fun b o z hb => by
            obtain ⟨⟨l, cs, y, m1, m2, m3⟩, _⟩ := hL1 b o z
            rcases List.mem_cons.mp (I.stkSub b hb) with e | e
            · exact I.cne y b m3 e
            · obtain ⟨_, o', ho', _⟩ := I.ok.funs.mem e
              exact absurd (Nat.lt_of_lt_of_le (Heap.lt_size ho') (hab b o z)) (Nat.lt_irrefl _)
          have hbase : ∀ b o, L b = some o → X.base.get? b = none := fun b o z => Heap.get?_none_of_le (Nat.le_trans I.ok.bsz (hab b o z))
          have e0 := env0_adx I.env0 (fun b o z => ⟨n b o z, (hL1 b o z).2.1, hfs b o z⟩) hbase
          have r1 : Reps M ρ (Giv O st σ (capsL es)) (adx L H) ds vs := largs_reps (es0 := es) g I s0 n (fun l cs hl => lam_here ha hl) (fun l cs hl => caps_lam hl) (fun se hs hl => caps_plain hl hs) hL2 (fun _ h => h) a1 hfill
          obtain ⟨dvs, dv, dr⟩ := ff.dfl
          obtain ⟨vs', q1, q2⟩ := selB_reps r1 .nil (dr _ _ _) e3
          obtain ⟨bs', q3, q4⟩ := selB_vals v1 .nil dv q1
          obtain ⟨bs, q5, q6⟩ := ff.bnd hi sh hm s us [] (by rw [← g.K]; exact I.kIn) (by rw [← v1.length, ← r1.length, e1]) (by rw [e2]; rfl)
          rw [q3] at q5; cases q5
          rw [e2] at q6
          have so : StoOk M ρ (Giv O st σ (capsL es)) [] (adx L H) := ((s0.so.mono (fun a (h : Giv O st σ (capsL es) a) => h.1) (giv_rho s0)).nil).adx n
          have hrk : Room (k + 1) X.A := by
            have hk : st.dep = k + 1 := hk
            rw [hk] at hr; exact hr
          have hsp : spF M r f k vs' (adx L H) (fun v H' => PostC M ρ (Giv O st σ (capsL es)) [] (adx L H) d fr sto' v H') EN := by
            refine ⟨ρ, _, [], ds', d, fr, sto', fd, hf, ?_, hcall, so, q2, fun v H' p => p⟩
            have := ff.shl sh hm
            rw [hi] at this
            rw [selB_len e3]; simpa using this
          refine wpAny_call (codeAny_mono ((fnok_at g (co.fn f fd k hf hi)).run X.A X.stack s (adx L H) ⟨us, []⟩ bs' vs' _ EN hrk e0 q6 q4 hsp) fun r s' hq => ?_)
          cases r with
          | error e => exact (show False from hq).elim
          | ok fl =>
            cases fl with
            | next => exact False.elim hq
            | brk => exact False.elim hq
            | cont => exact False.elim hq
            | ret u =>
              refine I.after (ce_adx hq (fun b o z => ⟨n b o z, (hL1 b o z).2.1, hfs b o z⟩) fun v H' hok pc => ?_)
              have hz : sto' = [] := List.length_eq_zero_iff.mp pc.slen
              subst hz
              have hL' : ∀ b o, L b = some o → H' b = some (IsO b o) := fun b o z => pc.ext.keep b _ (fun w => by obtain ⟨i, hi, _⟩ := w; simp at hi) trivial (adx_some z)
              have nc : NoCode L H' := noCode hok fun b o z => ⟨(hok b _ (hL' b o z)).1, let ⟨u, hu⟩ := (hL1 b o z).2.2; ⟨_, hu⟩⟩
              exact ⟨hL', h.ok v _ (after_ok (es := capsL es) (pen := false) s0 (pc.dlt n hL' nc hno))⟩
        · cases hcd
      · cases hcd
    · exact h.elim
  · exact h.elim
theorem sndE_callL (co : CallOk M r) {x : Str} {f : Nat} {fd : FnDef} {e : Expr} {args : List Expr} {es : List SE} {p pos : Pos} (hk : Γ.sc.names.lookup x = some .globalImplicit) (hg : Γ.gl x = some (.fn f)) (hf : M.P.fns[f]? = some fd) (hd : (x == ("__debug__" : Str)) = false)
    (ha : SndLs M r Γ (e :: args) es) : SndE M (up M.P r) Γ (.Call (.Name x p) (e :: args) [] pos) (.callL f es) := fun X W g tk => by
  obtain ⟨u, v, hm, rv, rp⟩ := g.gl x _ hg
  have rp := rp [] (fun _ => False) (fun _ => none)
  simp only [Rep] at rp
  subst rp
  obtain rfl : u = Value.ref (M.fnA f) := rv
  refine ⟨fun pins s σ H Q I h => wpAny_Call_Name_kw (ld_glob I (g.gl_ hk) hm ?_ hd)⟩
  obtain ⟨ρ, O, st, s0, hr, h⟩ := h
  simp only [up, evS] at h
  have kin : X.K.In X.base := I.ok.mod.kin
  refine PySem.W.callWith_KW (kws := []) kin (by rw [g.K]; exact (co.fact f fd hf).kp) rfl ?_ (by rw [ha.nostar]; rfl) (ha.star X.env)
  refine thn ((ha.pa X W g tk).run pos pins s σ H (fun vs H1 => ∃ xs st1 O1, Left M ρ O st σ H O1 st1 H1 ∧ LArgs M X ρ O1 H1 st1 σ es xs vs ∧ wpR (callDL M.P r f es xs st1) (fun p st' => ∀ v H', PostE M ρ O st σ H p.1 p.2 st' v H' → Q v H') (Bx M W ρ O st σ H)) I ?_) fun us s1 ⟨vs, H1, I1, v1, xs, st1, O1, l1, a1, h⟩ => ?_
  · exact ⟨ρ, O, st, s0, hr, h.bind.mono (fun xs st1 h vs H1 ⟨O1, l1, a1⟩ => ⟨xs, st1, O1, l1, a1, h⟩) fun _ _ x => x⟩
  · refine thn ((pk_nil (X := X)).run pos pins s1 σ H1 (fun zvs H2 => zvs = [] ∧ H2 = H1) I1 ⟨rfl, rfl⟩) fun ws s2 ⟨zvs, H2, I2, v2, e1, e2⟩ => ⟨I2.kIn, ?_⟩
    subst e1
    subst e2
    cases v2
    exact callL_run g co I2 l1.rel (by rw [l1.dep]; exact hr) hf ha a1 v1 (h.mono (fun p st' q v H' pe => q v H' (pe.later l1)) fun _ _ x => x.later l1)
end
end TI

end

section
set_option Elab.async false
set_option linter.all false
set_option maxRecDepth 100000
set_option maxHeartbeats 1000000
/-! TI35: pairs of texts walked. -/
namespace TI
open PySem L2 PySem.Spec PyProof.Rows
/-- n new pairs -/
def Itp (n : Nat) (f : Nat → V × V) : It :=
  ⟨fun i _ => i < n, fun i H v H' => ∃ T, v = .ref T ∧ H T = none ∧ H' = upd H T (.tup [(f i).1, (f i).2]), fun i _ => n ≤ i⟩
theorem turn_wt {P : Program} {w : World} {K : PySem.W.Frag} {elts : List Expr} {kk : Nat} {tpos : Pos} {z : Addr} {fp wr : List Addr} {n : Nat} {Pt : Nat → Array Value → Prop} {St : Nat → Heap → Prop} {Mid : Nat → Addr → Heap → Prop} {f : Nat → V × V}
    (W : ∀ A : Around, A.handled = none → WalksT P w A z fp wr n Pt St Mid) (hm : z ∈ fp) (hP : ∀ i vals, i < n → Pt i vals → ∃ u1 u2, vals = #[u1, u2] ∧ L2.RelV (f i).1 u1 ∧ L2.RelV (f i).2 u2)
    (ho : ∀ i h, St i h → ∀ b ∈ fp, ∃ o, h.get? b = some o ∧ ∀ v, o.data ≠ .cell v) (hfr : ∀ i h h', St i h → (∀ b ∈ fp, ∀ o, h.get? b = some o → h'.get? b = some o) → St i h')
    (hself : ∀ (A : Around) (i : Nat) (s : Shared) (Q : Value → Shared → Prop) (E : Value → Shared → Prop), St i s.heap → Q (.ref z) s → wpAny (model P w) A (pyIter (.ref z)) Q E s) :
    Turn P w K (.Tuple elts kk tpos) (Itp n f) fp z (fun i h => St i h ∧ i ≤ n) where
  mem := hm
  obj := fun i h st b hb => ho i h st.1 b hb
  keep := fun i h h' st k => ⟨hfr i h h' st.1 k, st.2⟩
  item := by
    intro X e1 e2 e3 hc i pins s σ H E I hf st hg
    subst e1 e2 e3
    obtain ⟨st, hin⟩ := st
    have W := W X.A (I.ok.hd hc)
    refine W.item i s _ _ hg st fun T vals h' tk hPt hT htup mid k1 => ⟨_, rfl, W.go elts kk tpos i T { s with heap := h', toks := tk } _ _ mid fun h'' st'' k2 => ?_⟩
    obtain ⟨u1, u2, rfl, r1, r2⟩ := hP i vals hg hPt
    obtain ⟨ot, g1, g2⟩ := htup
    have hT2 : h''.IsTuple T #[u1, u2] := ⟨ot, k2 T ot (W.apart _ _ _ mid) g1, g2⟩
    have new : ObjOk X.prog X.w (upd H T (.tup [(f i).1, (f i).2])) h'' T (.tup [(f i).1, (f i).2]) := ⟨by show 2 ≤ sizeLine; decide, [u1, u2], .cons r1 (.cons r2 .nil), hT2⟩
    have I1 : Inv X pins σ (upd H T (.tup [(f i).1, (f i).2])) { s with heap := h'', toks := tk } := I.turnedNew (t' := tk) (ch := fp) (fun b o hb q => k2 b o (fun y => hb (W.sub b y)) (k1 b o (fun y => hb (W.sub b y)) q)) hf hT new
    refine ⟨.ref T, _, I1, rfl, ⟨T, rfl, I.hok.fresh hT, rfl⟩, ⟨st'', hg⟩, fun b hb => ?_⟩
    obtain ⟨o, hob, _⟩ := ho i _ st b hb
    rw [upd_ne (Nat.ne_of_lt (Nat.lt_of_lt_of_le (Heap.lt_size hob) hT))]
    exact (hf b hb).1
  done := by
    intro X e1 e2 e3 hc i pins s σ H E I hf st hg
    subst e1 e2 e3
    obtain ⟨st, hin⟩ := st
    have W := W X.A (I.ok.hd hc)
    have hi : i = n := Nat.le_antisymm hin hg
    subst hi
    exact W.done s _ _ st fun h' tk k => ⟨rfl, I.turnedL (t' := tk) (ch := fp) (fun b o hb q => k b o (fun y => hb (W.sub b y)) q) hf⟩
  self := fun A i s Q E st h => hself A i s Q E st.1 h
theorem sign_rel {x : Str} {i : Nat} {v : Value} (h : SignAt x i v) : ∃ c, x.cps[i]? = some c ∧ L2.RelV (.str ⟨#[c]⟩) v := by
  obtain ⟨c, u, h1, rfl⟩ := h
  exact ⟨c, h1, u, rfl⟩
def sgn (x : Str) (i : Nat) : V := .str ⟨#[(x.cps[i]?).getD 0]⟩
section
variable {X : Cx}
/-- zip of two texts -/
theorem pi_zipS {e e2 : Expr} {ta : TA} {p pos tpos : Pos} {elts : List Expr} {kk : Nat} (hg : Gl X "zip") (hm : X.mg "zip" = none) (ha : PA X [e, e2] ta)
    (hs : starEach [e, e2] X.env = (false, eval e X.env) :: starEach [e2] X.env) (hpl : (backTo pos (starEach [e2] X.env)).any (·.1) = false) :
    PI X (.Tuple elts kk tpos) (.Call (.Name "zip" p) [e, e2] [] pos) (fun σ H R => ta σ H fun vs H1 => ∃ x y, vs = [.str x, .str y] ∧ R (Itp (min x.cps.size y.cps.size) fun i => (sgn x i, sgn y i)) H1) := by
  refine ⟨fun pins s σ H R I h => ?_⟩
  refine Call_ (ld_blt I hg hm PyProof.Rows.boot_zip (PyProof.Rows.callWith_type1 (thn (ha.run pos pins s σ H _ I h) fun us s1 ⟨vs, H1, I1, r1, q1⟩ => ?_) hs hpl))
  obtain ⟨x, y, ex, q⟩ := q1
  subst ex
  have hus : ∃ t1 t2, us = [.str x t1, .str y t2] := by
    cases r1 with
    | cons ra rr =>
      cases rr with
      | cons rb rr =>
        cases rr
        obtain ⟨t1, rfl⟩ := ra
        obtain ⟨t2, rfl⟩ := rb
        exact ⟨t1, t2, rfl⟩
  clear r1
  obtain ⟨t1, t2, rfl⟩ := hus
  · skip
    refine zip_begins2 (begins_text x t1) (begins_text y t2) trivial trivial fun h' hz hTI hTO g1 g2 hsz hk => wpAny_pyIter_zip hz ?_
    have I2 : Inv X pins σ H1 { s1 with heap := h' } := I1.kept (t' := s1.toks) hk
    have S := zip_sep2 (N := s1.heap.objs.size) (fp1 := []) (fp2 := []) (by simp) (by simp)
    have WW := fun (A : Around) (hA : A.handled = none) => WalksT.zipD2 (prog := X.prog) (w := X.w) (A := A) S (Draws.text (show A.in1.handled = none from hA) s1.heap.objs.size x t1) (Draws.text (show A.in1.handled = none from hA) (s1.heap.objs.size + 1) y t2)
    refine ⟨s1.heap.objs.size + 4, _, _, _, H1, rfl, I2, turn_wt (f := fun i => (sgn x i, sgn y i)) WW List.mem_cons_self ?_ ?_ ?_ ?_, ⟨⟨hz, hTI, ⟨_, _, hTO⟩, ⟨_, g1, rfl, rfl⟩, ⟨_, g2, rfl, rfl⟩⟩, Nat.zero_le _⟩, fun b hb => ?_, q⟩
    · rintro i vals hi ⟨v1, v2, p1, p2, rfl⟩
      obtain ⟨c1, e1, r1⟩ := sign_rel p1
      obtain ⟨c2, e2, r2⟩ := sign_rel p2
      refine ⟨v1, v2, rfl, ?_, ?_⟩
      · simp only [sgn, e1]; exact r1
      · simp only [sgn, e2]; exact r2
    · rintro i h ⟨hz, hTI, ⟨a1, a2, hTO⟩, ⟨o1, e1, _, d1⟩, ⟨o2, e2, _, d2⟩⟩ c hc
      have e' : c = s1.heap.objs.size + 4 ∨ c = s1.heap.objs.size + 2 ∨ c = s1.heap.objs.size + 3 ∨ c = s1.heap.objs.size ∨ c = s1.heap.objs.size + 1 := by simpa using hc
      rcases e' with q | q | q | q | q
      · rw [q]; exact ⟨_, hz, fun v q => nomatch q⟩
      · rw [q]; exact ⟨_, hTI, fun v q => nomatch q⟩
      · rw [q]; exact ⟨_, hTO, fun v q => nomatch q⟩
      · rw [q]; exact ⟨o1, e1, fun v q => by rw [d1] at q; cases q⟩
      · rw [q]; exact ⟨o2, e2, fun v q => by rw [d2] at q; cases q⟩
    · rintro i h h' ⟨hz, hTI, ⟨a1, a2, hTO⟩, ⟨o1, e1, c1, d1⟩, ⟨o2, e2, c2, d2⟩⟩ k
      exact ⟨k _ (by simp) _ hz, k _ (by simp) _ hTI, ⟨a1, a2, k _ (by simp) _ hTO⟩, ⟨o1, k _ (by simp) _ e1, c1, d1⟩, ⟨o2, k _ (by simp) _ e2, c2, d2⟩⟩
    · exact fun A i s Q E st h => wpAny_pyIter_zip st.1 h
    · have e' : b = s1.heap.objs.size + 4 ∨ b = s1.heap.objs.size + 2 ∨ b = s1.heap.objs.size + 3 ∨ b = s1.heap.objs.size ∨ b = s1.heap.objs.size + 1 := by simpa using hb
      have hle : s1.heap.objs.size ≤ b := by
        rcases e' with z | z | z | z | z <;> rw [z] <;> first | exact Nat.le_add_right _ _ | exact Nat.le_refl _
      exact I1.fpOk hle (I1.hok.fresh hle)
/-- enumerate of a text -/
theorem pi_enumS {e : Expr} {ta : TA} {p pos tpos : Pos} {elts : List Expr} {kk : Nat} (hg : Gl X "enumerate") (hm : X.mg "enumerate" = none) (ha : PA X [e] ta) (hs : starEach [e] X.env = [(false, eval e X.env)]) :
    PI X (.Tuple elts kk tpos) (.Call (.Name "enumerate" p) [e] [] pos) (fun σ H R => ta σ H fun vs H1 => ∃ x, vs = [.str x] ∧ R (Itp x.cps.size fun i => (.int i, sgn x i)) H1) := by
  refine ⟨fun pins s σ H R I h => ?_⟩
  refine Call_ (ld_blt I hg hm boot_enumerate (PyProof.Rows.callWith_type1 (thn (ha.run pos pins s σ H _ I h) fun us s1 ⟨vs, H1, I1, r1, q1⟩ => ?_) hs (by rfl)))
  obtain ⟨x, ex, q⟩ := q1
  subst ex
  have hus : ∃ t1, us = [.str x t1] := by
    cases r1 with
    | cons ra rr =>
      cases rr
      obtain ⟨t1, rfl⟩ := ra
      exact ⟨t1, rfl⟩
  clear r1
  obtain ⟨t1, rfl⟩ := hus
  · skip
    refine call_enumerate_str fun h' he hi hsz hk => wpAny_pyIter_enum he ?_
    have I2 : Inv X pins σ H1 { s1 with heap := h' } := I1.kept (t' := s1.toks) hk
    have WW := fun (A : Around) (hA : A.handled = none) => WalksT.enumerateD (prog := X.prog) (w := X.w) (A := A) (Draws.text (show A.in1.handled = none from hA) s1.heap.objs.size x t1) (s1.heap.objs.size + 1) (Nat.succ_ne_self _) (by simp) (by simp)
    refine ⟨s1.heap.objs.size + 1, _, _, _, H1, rfl, I2, turn_wt (f := fun i => (.int i, sgn x i)) WW List.mem_cons_self ?_ ?_ ?_ ?_, ⟨⟨⟨_, he⟩, hi⟩, Nat.zero_le _⟩, fun b hb => ?_, q⟩
    · rintro i vals hi ⟨t, v, p1, rfl⟩
      obtain ⟨c1, e1, r1⟩ := sign_rel p1
      refine ⟨.int i t, v, rfl, ⟨t, rfl⟩, ?_⟩
      simp only [sgn, e1]; exact r1
    · rintro i h ⟨⟨old, he⟩, ⟨o1, e1, _, d1⟩⟩ c hc
      have e' : c = s1.heap.objs.size + 1 ∨ c = s1.heap.objs.size := by simpa using hc
      rcases e' with q | q
      · rw [q]; exact ⟨_, he, fun v q => nomatch q⟩
      · rw [q]; exact ⟨o1, e1, fun v q => by rw [d1] at q; cases q⟩
    · rintro i h h' ⟨⟨old, he⟩, ⟨o1, e1, c1, d1⟩⟩ k
      exact ⟨⟨old, k _ (by simp) _ he⟩, ⟨o1, k _ (by simp) _ e1, c1, d1⟩⟩
    · rintro A i s Q E ⟨⟨old, he⟩, _⟩ h
      exact wpAny_pyIter_enum he h
    · have e' : b = s1.heap.objs.size + 1 ∨ b = s1.heap.objs.size := by simpa using hb
      have hle : s1.heap.objs.size ≤ b := by
        rcases e' with z | z <;> rw [z] <;> first | exact Nat.le_add_right _ _ | exact Nat.le_refl _
      exact I1.fpOk hle (I1.hok.fresh hle)
end
section
variable {M : Mt2} {ρ : List Addr} {O O1 O' F : Addr → Prop} {H H1 H' : Hp} {st st' : St} {σ σ' : L2.St} {sto sto' : List D} {X : Cx} {W : WX} {r : Rec} {Γ : Gam}
theorem iter_itp {ds : List D} {f : Nat → V × V} {g : Nat → D × D} (hd : ∀ i, i < ds.length → ds[i]? = some (.tup [(g i).1, (g i).2])) (hr : ∀ i O H, i < ds.length → Rep M ρ O H (g i).1 (f i).1 ∧ Rep M ρ O H (g i).2 (f i).2) : IterOk M ρ O1 H1 ds (Itp ds.length f) := by
  refine ⟨fun i O H hi l => hi, fun O H l => Nat.le_refl _, fun i O H x H' hi l y => ?_⟩
  obtain ⟨T, rfl, hT, rfl⟩ := y
  obtain ⟨r1, r2⟩ := hr i O H hi
  obtain ⟨p1, p2⟩ := rep_pair l hT r1 r2
  exact ⟨p1, _, hd i hi, p2⟩
theorem sgn_rep {x : List Nat} {i : Nat} : Rep M ρ O H (.str [(x[i]?).getD 0]) (sgn ⟨x.toArray⟩ i) := by
  simp [Rep, sgn]
theorem sndI_zipA {e e2 : Expr} {se se2 : SE} {p pos tpos : Pos} {elts : List Expr} {kk : Nat} (hk : Γ.sc.names.lookup ("zip" : Str) = some .globalImplicit) (hg : Γ.gl ("zip" : Str) = none) (ha : SndEs M r Γ [e, e2] [se, se2]) : SndI M r Γ (.Tuple elts kk tpos) (.Call (.Name "zip" p) [e, e2] [] pos) (.zipA se se2) := fun X W g tk => by
  refine ⟨fun pins s σ H R I h => ?_⟩
  obtain ⟨ρ, O, st, s0, hr, h⟩ := h
  simp only [iterS] at h
  by_cases hc : ∃ x y st1, evs r [se, se2] st = .ok [.str x, .str y] st1
  · obtain ⟨x, y, st1, hev⟩ := hc
    obtain ⟨_, q⟩ := ha.tail
    refine (pi_zipS (g.gl_ hk) (g.nogl _ hg (by decide +kernel)) (ha.pa X W g tk) (ha.star X.env) (q.nostar pos X.env)).run pins s σ H R I ⟨ρ, O, st, s0, hr, ?_⟩
    rw [hev] at h ⊢
    intro vs H1 ⟨O1, l1, r1⟩
    simp only [Reps] at r1
    obtain ⟨v, w, rfl, r1, v2, w2, rfl, r2, rfl⟩ := r1
    simp only [Rep] at r1 r2
    subst r1; subst r2
    refine ⟨_, _, rfl, wpR.ok h _ _ _ l1 ?_⟩
    have hl : min (⟨x.toArray⟩ : Str).cps.size (⟨y.toArray⟩ : Str).cps.size = ((x.zip y).map fun q => D.tup [.str [q.1], .str [q.2]]).length := by simp
    rw [hl]
    refine iter_itp (g := fun i => (.str [(x[i]?).getD 0], .str [(y[i]?).getD 0])) (fun i hi => ?_) fun i O H hi => ⟨sgn_rep, sgn_rep⟩
    simp only [List.length_map, List.length_zip] at hi
    have h1 : i < x.length := by omega
    have h2 : i < y.length := by omega
    simp [List.getElem?_map, List.getElem?_zip_eq_some, h1, h2]
  · refine (sndI_zip (p := p) (pos := pos) (tpos := tpos) (elts := elts) (kk := kk) hk hg ha X W g tk).run pins s σ H R I ⟨ρ, O, st, s0, hr, ?_⟩
    simp only [iterS]
    cases hev : evs r [se, se2] st with
    | no => rw [hev] at h; exact h
    | exc e s1 => rw [hev] at h; exact h
    | ok ds st1 =>
      rw [hev] at h
      simp only [TI.R.bind_ok] at h ⊢
      split at h
      · exact h
      · exact h
      · exact absurd ⟨_, _, _, hev⟩ hc
      · exact h.elim
theorem sndI_enumA {e : Expr} {se : SE} {p pos tpos : Pos} {elts : List Expr} {kk : Nat} (hk : Γ.sc.names.lookup ("enumerate" : Str) = some .globalImplicit) (hg : Γ.gl ("enumerate" : Str) = none) (ha : SndEs M r Γ [e] [se]) : SndI M r Γ (.Tuple elts kk tpos) (.Call (.Name "enumerate" p) [e] [] pos) (.enumA se) := fun X W g tk => by
  refine ⟨fun pins s σ H R I h => ?_⟩
  obtain ⟨ρ, O, st, s0, hr, h⟩ := h
  simp only [iterS] at h
  by_cases hc : ∃ x st1, evs r [se] st = .ok [.str x] st1
  · obtain ⟨x, st1, hev⟩ := hc
    refine (pi_enumS (g.gl_ hk) (g.nogl _ hg (by decide +kernel)) (ha.pa X W g tk) (ha.star X.env)).run pins s σ H R I ⟨ρ, O, st, s0, hr, ?_⟩
    rw [hev] at h ⊢
    intro vs H1 ⟨O1, l1, r1⟩
    simp only [Reps] at r1
    obtain ⟨v, w, rfl, r1, rfl⟩ := r1
    simp only [Rep] at r1
    subst r1
    refine ⟨_, rfl, wpR.ok h _ _ _ l1 ?_⟩
    have hl : (⟨x.toArray⟩ : Str).cps.size = (x.zipIdx.map fun q => D.tup [.int q.2, .str [q.1]]).length := by simp
    rw [hl]
    refine iter_itp (g := fun i => (.int i, .str [(x[i]?).getD 0])) (fun i hi => ?_) fun i O H hi => ⟨by simp [Rep], sgn_rep⟩
    simp only [List.length_map, List.length_zipIdx] at hi
    simp [List.getElem?_map, List.getElem?_zipIdx, hi]
  · refine (sndI_enum (p := p) (pos := pos) (tpos := tpos) (elts := elts) (kk := kk) hk hg ha X W g tk).run pins s σ H R I ⟨ρ, O, st, s0, hr, ?_⟩
    simp only [iterS]
    cases hev : evs r [se] st with
    | no => rw [hev] at h; exact h
    | exc e s1 => rw [hev] at h; exact h
    | ok ds st1 =>
      rw [hev] at h
      simp only [TI.R.bind_ok] at h ⊢
      split at h
      · exact h
      · exact absurd ⟨_, _, hev⟩ hc
      · exact h.elim
end
end TI

end

section
set_option Elab.async false
set_option linter.all false
set_option maxRecDepth 100000
set_option maxHeartbeats 1000000
/-! TI42: what a class's own methods say: len. -/
namespace TI
open PySem L2 PySem.Spec PyProof.Rows
section
variable {X : Cx} {CX : CXT} {k : Nat} {C g a dx : Addr} {fs : List (Str × V)} {fd : FuncData} {ps : List Str} {sp : Sp} {E : XK}
theorem lenown_ok {pins : List (Addr × Obj)} {σ : List (Option V)} {H : Hp} {s : Shared} {Q : VK} {E' : Value → Shared → Prop} (I : Inv X pins σ H s) (ea : H a = some (.ins C dx fs)) (hm : L2.Meth X.K C "__len__" g)
    (F : FnOk X.prog X.w X.K X.mg X.base CX k g fd ps sp) (hr : Room (k + 1) X.A) (hb : L2.Binds X.K fd ps []) (hx : Passes CX X.nox E) (h : sp [.ref a] H (fun v H' => ∃ n : Int, v = .int n ∧ 0 ≤ n ∧ n < 2 ^ 63 ∧ Q (.int n) H') E) :
    wpAny (model X.prog X.w) X.A (call (.builtin "len") [.ref a]) (EP X pins σ Q) E' s := by
  obtain ⟨mA, O, _, _, _, _⟩ := ins_get I.hok ea
  obtain ⟨od, J, _⟩ := O.look
  have hl : ([Value.ref a] ++ ([] : List Value)).length = ps.length := by
    rw [← F.len _ _ _ _ h]
    rfl
  have run : wpAny (model X.prog X.w) X.A.in1 (call (.ref g) [.ref a]) (fun r s' => ∃ (n : Int) (t : Tok), r = .int n t ∧ 0 ≤ n ∧ n < 2 ^ 63 ∧ ∃ H', L2.Inv X pins σ H' s' ∧ Q (.int n) H') E' s := by
    refine wpAny_call ?_
    refine codeAny_mono (F.run _ X.stack s H ⟨[.ref a], []⟩ [.ref a] [.ref a] _ E hr.in1 I.env0.in1 (hb _ [.ref a] I.kIn hl) (.cons rfl .nil) h) fun r s' hq => ?_
    cases r with
    | error er => exact False.elim (hx pins σ H s er s' (I.wish _) hq)
    | ok fl =>
      cases fl with
      | ret u =>
        obtain ⟨v, H', I3, rv, n, rfl, h0, h1, q⟩ := I.after hq
        obtain ⟨t, rfl⟩ := rv
        exact ⟨n, t, rfl, h0, h1, H', I3, q⟩
      | _ => exact hq.elim
  refine Calls.call_function_entry kind_len plain_len entry_len (args_len1 _) (show wpAny _ _ (oneArg "len" _ >>= _) _ _ _ from ?_)
  refine wpAny_bind (wpAny_pure ?_)
  refine wpAny_bind (PySem.W.special_fn I.kIn J hm.at_ (beq_iff_eq.mp hm.fn) (wpAny_mono run (fun r s' hr => ?_) fun _ _ y => y))
  obtain ⟨n, t, rfl, h0, h1, H', I3, q⟩ := hr
  refine wpAny_bind (wpAny_holding (wpAny_pure ?_))
  refine wpAny_bind (wpAny_letGo ?_)
  have c1 : ¬ n < 0 := by omega
  have c2 : ¬ n ≥ 2 ^ 63 := by omega
  simp only [c1, c2, if_false]
  exact wpAny_bind (wpAny_mkInt (wpAny_pure ⟨_, rfl, .int n, H', I3.tok _, ⟨_, rfl⟩, q⟩))
end
section
variable {M : Mt2} {ρ : List Addr} {O O' F : Addr → Prop} {H H' : Hp} {st st' : St} {σ : L2.St} {sto sto' : List D} {X : Cx} {W : WX} {r : Rec} {Γ : Gam}
def rLenA (M : Mt2) (X : Cx) (W : WX) (r : Rec) (m : Nat) (se : SE) (σ : L2.St) (Q0 : VK) : List V → Hp → VK → Prop := fun vs H1 Q => ∃ ρ O st H O1 d st1 v, vs = [v] ∧ SRel M ρ O st σ H ∧ Room st.dep X.A ∧ Left M ρ O st σ H O1 st1 H1 ∧ Arg1 M ρ O1 H1 st1 σ se d v ∧ wpR (lenI M.P r m se d st1) (fun p st' => ∀ v H', PostE M ρ O st σ H p.1 p.2 st' v H' → Q v H') (Bx M W ρ O st σ H)
theorem bf_lenA (co : CallOk M r) (mo : MOk M) (g : Good M X Γ) {m : Nat} (hm : M.nm m = ("__len__" : Str)) {se : SE} {σ0 : L2.St} {Q0 : VK} {pins : List (Addr × Obj)} {s : Shared} {H1 : Hp} {xs : List V} {us : List Value} {Q : VK} (I : Inv X pins σ0 H1 s) (rv : Vals xs us) (h : rLenA M X W r m se σ0 Q0 xs H1 Q) :
    wpAny (model X.prog X.w) X.A (call (.builtin "len") us) (EP X pins σ0 Q) X.xe s := by
  obtain ⟨ρ, O, st, H, O1, d, st1, v, rfl, s0, hr, l, a1, h⟩ := h
  have hr1 : Room st1.dep X.A := by rw [l.dep]; exact hr
  unfold lenI at h
  split at h
  · rename_i c ns ds
    split at h
    · exact h.elim
    rename_i cd hc
    split at h
    · exact h.elim
    rename_i gf hp
    split at h
    · exact h.elim
    rename_i fd hfd
    split at h
    · rename_i k hsh hk
      have ok := mo.cls c cd hc
      obtain ⟨a, dx, fs, rfl, ha1, hfs, rs⟩ := (a1.to1 l.rel).ins
      obtain ⟨u, rfl, ru⟩ := vals1 rv
      obtain rfl : u = Value.ref a := ru
      have hmeth := ok.meth m gf hp
      rw [hm] at hmeth
      have ff := co.fact gf fd hfd
      have hmm : ∃ sh ∈ fd.shapes, sh.1 = 1 ∧ sh.2.1 = [] ∧ sh.2.2 = [.pos 0] := by
        unfold shapeOf at hsh
        obtain ⟨sh, h3, h5⟩ := Option.map_eq_some_iff.mp hsh
        have h4 := List.find?_some h3
        simp only [Bool.and_eq_true, beq_iff_eq] at h4
        exact ⟨sh, List.mem_of_find?_eq_some h3, h4.1, h4.2, h5⟩
      obtain ⟨sh, m1, m2, m3, m4⟩ := hmm
      unfold doCall at h
      rw [hfd] at h
      simp only at h
      split at h
      · exact h.elim
      rename_i hi
      have hi : fd.isInit = false := by simpa using hi
      split at h
      · exact h.elim
      rename_i k'
      split at h
      · rename_i d' fr sto' hcall
        have hnp : fd.np = 1 := by
          have := ff.shl sh m1
          rw [hi, m4] at this
          simpa using this.symm
        have hbi : L2.Binds X.K (M.fdat gf) (M.pn gf) [] := fun s us hin hlen => by
          have hl1 : us.length = 1 := by
            rw [List.append_nil, ff.len, hnp] at hlen; exact hlen
          obtain ⟨bs, b1, b2⟩ := ff.bnd hi sh m1 s us [] (by rw [← g.K]; exact hin) (by rw [hl1, m2]) (by rw [m3]; rfl)
          rw [m4] at b1
          rw [m3] at b2
          match us, hl1 with
          | [u1], _ =>
            simp [selB] at b1
            subst b1
            exact b2
        have hk2 : st1.dep = k' + 2 := hk
        simp only [TI.R.bind_ok] at h
        split at h
        · rename_i n
          split at h
          · rename_i hz
            simp only [Bool.and_eq_true, decide_eq_true_eq] at hz
            refine lenown_ok (CX := CXN) (E := EN) I ha1 (by rw [g.K]; exact hmeth) (fnok_at g (co.fn gf fd k' hfd hi)) (by rw [hk2] at hr1; exact hr1) hbi (fun _ _ _ _ _ _ _ h => h.elim) ?_
            have s1' := l.rel.depth (k' + 1)
            refine ⟨ρ, Giv O1 st1 σ0 [se], _, [.ins c ns ds], .int n, fr, sto', fd, hfd, by rw [hnp]; rfl, hcall, ?_, .one (a1.giv l.rel List.mem_cons_self), fun v H' p => ?_⟩
            · have so' := l.rel.so.mono (fun a (h : Giv O1 st1 σ0 [se] a) => h.1) (giv_rho l.rel)
              split
              · exact so'
              · exact so'.nil
            · have pe := ((after_ok (es := [se]) s1' p).depth).later l
              obtain ⟨O', l', rr⟩ := pe.toRep
              simp only [Rep] at rr
              subst rr
              have hz2 : n < 2 ^ 63 := by have := hz.2; omega
              exact ⟨n, rfl, hz.1, hz2, wpR.ok h _ _ (PostE.plain l' (by simp [Rep]))⟩
          · exact h.elim
        · exact h.elim
      · exact h.elim
    · exact h.elim
  · obtain ⟨⟨d', fr⟩, e, h⟩ := h.lift
    exact bf_len (M := M) pins s σ0 H1 _ us Q I rv ⟨ρ, O1, st1.sto, [d], d', fr, l.rel.so, ⟨v, [], rfl, a1.to1 l.rel, rfl⟩, e, fun v H' pv => h.ok v H' (pv.post l)⟩
theorem sndE_lenA (co : CallOk M r) (mo : MOk M) {e : Expr} {se : SE} {m : Nat} {p pos : Pos} (hm : M.nm m = ("__len__" : Str)) (h : SndPs M r Γ [e] [se]) (hk : Γ.sc.names.lookup ("len" : Str) = some .globalImplicit) (hg : Γ.gl ("len" : Str) = none) :
    SndE M (up M.P r) Γ (.Call (.Name "len" p) [e] [] pos) (.lenA m se) := fun X W g tk => by
  have hmg := g.nogl ("len" : Str) hg (by decide +kernel)
  have hs : starEach [e] X.env = (false, eval e X.env) :: starEach [] X.env := by cases h with | cons hn _ _ => exact star_of hn [] X.env
  refine ⟨fun pins s σ H Q I h0 => ?_⟩
  refine wpAny_Call_Name_kw (ld_blt I (g.gl_ hk) hmg PySem.boot_len ?_ (by decide) (by decide))
  refine PyProof.Rows.callWith_builtin1 (thn ((h.pa X W g tk).run pos pins s σ H (fun vs H1 => rLenA M X W r m se σ Q vs H1 Q) I ?_) fun us s1 ⟨vs, H1, I1, r1, q1⟩ => bf_lenA (W := W) co mo g hm I1 r1 q1) hs rfl
  obtain ⟨ρ, O, st, s0, hr, h0⟩ := h0
  simp only [up, evS] at h0
  refine ⟨ρ, O, st, s0, hr, ?_⟩
  simp only [pks]
  have h1 := h0.bind
  cases hp : TI.pk r se st with
  | no => rw [hp] at h1; exact h1.elim
  | exc e s => rw [hp] at h1; exact h1
  | ok d st1 =>
    rw [hp] at h1
    simp only [TI.R.bind_ok]
    intro vs H1 ⟨O1, l1, a1⟩
    obtain ⟨d', r', v, w, e1, rfl, a2, e2, rfl⟩ := a1
    cases e1
    exact ⟨ρ, O, st, H, O1, d, st1, v, rfl, s0, hr, l1, a2, h1⟩
end
end TI

end

section
set_option Elab.async false
set_option linter.all false
set_option maxRecDepth 100000
set_option maxHeartbeats 1000000
/-! TI30: the text and its code; every level is sound. -/
namespace TI
open PySem L2 PySem.Spec PyProof.Rows
def plainName (x : Str) : Bool := !(x == ("__debug__" : Str)) && !(x == ("__classdict__" : Str))
def noFold : Expr → Bool
  | .Set _ _ _ => false
  | _ => true
def notSlice : Expr → Bool
  | .Slice _ _ _ _ => false
  | _ => true
def notTupE : Expr → Bool
  | .Tuple _ _ _ => false
  | _ => true
def notStar : Expr → Bool
  | .Starred _ _ => false
  | _ => true
/-- a test that goes nowhere -/
def badT : SE := .ite (.cst .non) (.cst .non) (.cst .non)
mutual
inductive CE (M : Mt2) : Gam → Expr → SE → Prop where
  | var {Γ x pos i} : Γ.N[i]? = some x → Vis Γ.sc x → plainName x = true → CE M Γ (.Name x pos) (.var i)
  | glob {Γ x pos d} : Γ.sc.names.lookup x = some .globalImplicit → Γ.gl x = some d → plainName x = true → CE M Γ (.Name x pos) (.cst d)
  | bt {Γ x pos t} : Γ.sc.names.lookup x = some .globalImplicit → Γ.gl x = none → bootBuiltins x = some (.type (btName t)) → x ≠ "__name__" → bltB x = true → plainName x = true → CE M Γ (.Name x pos) (.cst (.ty t))
  | int {Γ i k pos} : CE M Γ (.Constant (.int i) k pos) (.cst (.int i))
  | str {Γ x k pos} : CE M Γ (.Constant (.str x) k pos) (.cst (.str x.cps.toList))
  | bl {Γ b k pos} : CE M Γ (.Constant (.bool b) k pos) (.cst (.bl b))
  | non {Γ k pos} : CE M Γ (.Constant .none k pos) (.cst .non)
  | bin {Γ a b sa sb op pos} : CE M Γ a sa → CE M Γ b sb → CE M Γ (.BinOp a op b pos) (.bin op sa sb)
  | neg {Γ a sa pos} : CE M Γ a sa → CE M Γ (.UnaryOp .USub a pos) (.neg sa)
  | not {Γ a sa pos} : CE M Γ a sa → CE M Γ (.UnaryOp .Not a pos) (.not sa)
  | cmp {Γ a b sa sb op pos} : CE M Γ a sa → CE M Γ b sb → behindInMarks op b = false → CE M Γ (.Compare a [op] [b] pos) (.cmp op sa sb)
  | cmp2 {Γ a b c sa sb sc op op' pos} : CE M Γ a sa → CE M Γ b sb → CE M Γ c sc → lastMarks [op, op'] [b, c] = false → CE M Γ (.Compare a [op, op'] [b, c] pos) (.cmp2 op op' sa sb sc)
  | and2 {Γ a b sa sb pos} : CE M Γ a sa → CE M Γ b sb → CE M Γ (.BoolOp .And [a, b] pos) (.and sa sb)
  | and3 {Γ a b c cs sa sb pos} : CE M Γ a sa → CE M Γ (.BoolOp .And (b :: c :: cs) pos) sb → CE M Γ (.BoolOp .And (a :: b :: c :: cs) pos) (.and sa sb)
  | or2 {Γ a b sa sb pos} : CE M Γ a sa → CE M Γ b sb → CE M Γ (.BoolOp .Or [a, b] pos) (.or sa sb)
  | or3 {Γ a b c cs sa sb pos} : CE M Γ a sa → CE M Γ (.BoolOp .Or (b :: c :: cs) pos) sb → CE M Γ (.BoolOp .Or (a :: b :: c :: cs) pos) (.or sa sb)
  | ite {Γ c a b sc sa sb pos} : CT M Γ c sc → CE M Γ a sa → CE M Γ b sb → CE M Γ (.IfExp c a b pos) (.ite sc sa sb)
  | tup {Γ es ses k pos} : CEs M Γ es ses → CE M Γ (.Tuple es k pos) (.tup ses)
  | lst {Γ es ses pos} : CEs M Γ es ses → CE M Γ (.List es pos) (.lst ses)
  | dctT {Γ k v sk sv pos} : CE M Γ k sk → CE M Γ v sv → CE M Γ (.Dict [some k] [v] pos) (.dct1 true sk sv)
  | dctK {Γ k v sk sv pos} : CE M Γ k sk → CE M Γ v sv → CE M Γ (.Dict [some k] [v] pos) (.dct1 false sk sv)
  | callF {Γ x f fd args kws es ks p pos} : Γ.sc.names.lookup x = some .globalImplicit → Γ.gl x = some (.fn f) → M.P.fns[f]? = some fd → plainName x = true → CEs M Γ args es → CKs M Γ kws ks → CE M Γ (.Call (.Name x p) args kws pos) (.callF f es ks)
  | mk {Γ x c cd f fd args kws es ks p pos} : Γ.sc.names.lookup x = some .globalImplicit → Γ.gl x = some (.cls c) → M.P.clss[c]? = some cd → cd.init = some f → M.P.fns[f]? = some fd → fd.isInit = true → plainName x = true → CEs M Γ args es → CKs M Γ kws ks → CE M Γ (.Call (.Name x p) args kws pos) (.mk c es ks)
  | callV {Γ fe sf args es pos} : CE M Γ fe sf → NotAttr fe = true → CEs M Γ args es → CE M Γ (.Call fe args [] pos) (.callV sf es)
  | bf {Γ b x e es ses p pos} : CEs M Γ (e :: es) ses → bfStr b = x → Γ.sc.names.lookup x = some .globalImplicit → Γ.gl x = none → CE M Γ (.Call (.Name x p) (e :: es) [] pos) (.bf b ses)
  | lenA {Γ m e se p pos} : M.nm m = ("__len__" : Str) → CEs M Γ [e] [se] → Γ.sc.names.lookup ("len" : Str) = some .globalImplicit → Γ.gl ("len" : Str) = none → CE M Γ (.Call (.Name "len" p) [e] [] pos) (.lenA m se)
  | bm {Γ m x o e so se apos pos} : mtStr m = x → CE M Γ o so → CE M Γ e se → notStar e = true → NoSup o = true → (apos.endLine == pos.line) = true → CE M Γ (.Call (.Attribute o x apos) [e] [] pos) (.bm m so se)
  | mth {Γ o so x m args kws es ks apos pos} : M.nm m = x → CE M Γ o so → CEs M Γ args es → CKs M Γ kws ks → args.length + kws.length < 29 → NoSup o = true → (apos.endLine == pos.line) = true → CE M Γ (.Call (.Attribute o x apos) args kws pos) (.mth so m es ks)
  | att {Γ o so x f pos} : M.nm f = x → CE M Γ o so → NoSup o = true → CE M Γ (.Attribute o x pos) (.att so f)
  | sub {Γ a b sa sb pos} : CE M Γ a sa → CE M Γ b sb → PlainIx b → CE M Γ (.Subscript a b pos) (.sub sa sb)
  | sli {Γ a lo hi sa slo shi p pos} : CE M Γ a sa → CO M Γ lo slo → CO M Γ hi shi → CE M Γ (.Subscript a (.Slice lo hi none p) pos) (.sli sa slo shi)
  | lc {Γ tg iter elt ifs scope pos own stg si sifs se} : CI M Γ tg iter si → BlkOk Γ.N Γ.sc scope own → TgOk (Γ.blk scope) tg stg → (∀ i ∈ slotsOf stg, i ∈ own.map (·.2)) → CTs M (Γ.blk scope) ifs sifs → CE M (Γ.blk scope) elt se → noFold iter = true → CE M Γ (.ListComp elt [⟨tg, iter, ifs, 0⟩] scope pos) (.lc (own.map (·.2)) se stg si sifs)
  | dc {Γ tg iter kx vx ifs scope pos own stg si sifs sk sv} : CI M Γ tg iter si → BlkOk Γ.N Γ.sc scope own → TgOk (Γ.blk scope) tg stg → (∀ i ∈ slotsOf stg, i ∈ own.map (·.2)) → CTs M (Γ.blk scope) ifs sifs → CE M (Γ.blk scope) kx sk → CE M (Γ.blk scope) vx sv → noFold iter = true → CE M Γ (.DictComp kx vx [⟨tg, iter, ifs, 0⟩] scope pos) (.dc (own.map (·.2)) sk sv stg si sifs)
  | bad {Γ e} : CE M Γ e (.lam 0 [])
  | callL {Γ x f fd e args es p pos} : Γ.sc.names.lookup x = some .globalImplicit → Γ.gl x = some (.fn f) → M.P.fns[f]? = some fd → plainName x = true → CLs M Γ (e :: args) es → CE M Γ (.Call (.Name x p) (e :: args) [] pos) (.callL f es)
  | fmt {Γ e se pos} : CE M Γ e se → CE M Γ (.FormattedValue e (-1) none pos) (.fmt se)
  | fst {Γ e1 e2 es ses pos} : CJ M Γ (e1 :: e2 :: es) ses → CE M Γ (.JoinedStr (e1 :: e2 :: es) pos) (.fst ses)
  | fst1 {Γ e se pos pos'} : CE M Γ e se → CE M Γ (.JoinedStr [.FormattedValue e (-1) none pos'] pos) (.fmt se)
inductive CEs (M : Mt2) : Gam → List Expr → List SE → Prop where
  | nil {Γ} : CEs M Γ [] []
  | cons {Γ e es se ses} : notStar e = true → CE M Γ e se → CEs M Γ es ses → CEs M Γ (e :: es) (se :: ses)
inductive CLs (M : Mt2) : Gam → List Expr → List SE → Prop where
  | nil {Γ} : CLs M Γ [] []
  | cons {Γ e es se ses} : notStar e = true → isLam se = false → CE M Γ e se → CLs M Γ es ses → CLs M Γ (e :: es) (se :: ses)
  | lam {Γ l params body scope pos cs es ses} : LamHere M Γ l params body scope cs → CLs M Γ es ses → CLs M Γ (.Lambda params body scope pos :: es) (.lam l cs :: ses)
inductive CKs (M : Mt2) : Gam → List Keyword → List (Nat × SE) → Prop where
  | nil {Γ} : CKs M Γ [] []
  | cons {Γ e kpos x n kws se ks} : M.nm n = x → CE M Γ e se → CKs M Γ kws ks → CKs M Γ (⟨some x, e, kpos⟩ :: kws) ((n, se) :: ks)
inductive CJ (M : Mt2) : Gam → List Expr → List SE → Prop where
  | nil {Γ} : CJ M Γ [] []
  | cons {Γ e es se ses} : CE M Γ e se → CJ M Γ es ses → CJ M Γ (e :: es) (se :: ses)
inductive CO (M : Mt2) : Gam → Option Expr → Option SE → Prop where
  | none {Γ} : CO M Γ none none
  | some {Γ e se} : CE M Γ e se → CO M Γ (some e) (some se)
inductive CT (M : Mt2) : Gam → Expr → SE → Prop where
  | not {Γ a sa pos} : CT M Γ a sa → CT M Γ (.UnaryOp .Not a pos) (.not sa)
  | and2 {Γ a b sa sb pos} : CT M Γ a sa → CT M Γ b sb → CT M Γ (.BoolOp .And [a, b] pos) (.and sa sb)
  | and3 {Γ a b c cs sa sb pos} : CT M Γ a sa → CT M Γ (.BoolOp .And (b :: c :: cs) pos) sb → CT M Γ (.BoolOp .And (a :: b :: c :: cs) pos) (.and sa sb)
  | or2 {Γ a b sa sb pos} : CT M Γ a sa → CT M Γ b sb → CT M Γ (.BoolOp .Or [a, b] pos) (.or sa sb)
  | or3 {Γ a b c cs sa sb pos} : CT M Γ a sa → CT M Γ (.BoolOp .Or (b :: c :: cs) pos) sb → CT M Γ (.BoolOp .Or (a :: b :: c :: cs) pos) (.or sa sb)
  | cmp {Γ a b sa sb op pos} : CE M Γ a sa → CE M Γ b sb → behindInMarks op b = false → CT M Γ (.Compare a [op] [b] pos) (.cmp op sa sb)
  | cmp2 {Γ a b c sa sb sc op op' pos} : CE M Γ a sa → CE M Γ b sb → CE M Γ c sc → lastMarks [op, op'] [b, c] = false → CT M Γ (.Compare a [op, op'] [b, c] pos) (.cmp2 op op' sa sb sc)
  | val {Γ a sa} : CE M Γ a sa → PlainT a → PlainS sa → CT M Γ a sa
  | bad {Γ e} : CT M Γ e badT
inductive CTs (M : Mt2) : Gam → List Expr → List SE → Prop where
  | nil {Γ} : CTs M Γ [] []
  | one {Γ e se} : CT M Γ e se → CTs M Γ [e] [se]
inductive CI (M : Mt2) : Gam → Expr → Expr → SI → Prop where
  | of {Γ tg e se} : CE M Γ e se → CI M Γ tg e (.of se)
  | rng1 {Γ tg a sa p pos} : Γ.sc.names.lookup ("range" : Str) = some .globalImplicit → Γ.gl ("range" : Str) = none → CEs M Γ [a] [sa] → CI M Γ tg (.Call (.Name "range" p) [a] [] pos) (.rng1 sa)
  | rng2 {Γ tg a b sa sb p pos} : Γ.sc.names.lookup ("range" : Str) = some .globalImplicit → Γ.gl ("range" : Str) = none → CEs M Γ [a, b] [sa, sb] → CI M Γ tg (.Call (.Name "range" p) [a, b] [] pos) (.rng2 sa sb)
  | rng3 {Γ tg a b c sa sb sc p pos} : Γ.sc.names.lookup ("range" : Str) = some .globalImplicit → Γ.gl ("range" : Str) = none → CEs M Γ [a, b, c] [sa, sb, sc] → CI M Γ tg (.Call (.Name "range" p) [a, b, c] [] pos) (.rng3 sa sb sc)
  | enum {Γ e se p pos tpos elts kk} : Γ.sc.names.lookup ("enumerate" : Str) = some .globalImplicit → Γ.gl ("enumerate" : Str) = none → CEs M Γ [e] [se] → CI M Γ (.Tuple elts kk tpos) (.Call (.Name "enumerate" p) [e] [] pos) (.enum se)
  | zip {Γ e e2 se se2 p pos tpos elts kk} : Γ.sc.names.lookup ("zip" : Str) = some .globalImplicit → Γ.gl ("zip" : Str) = none → CEs M Γ [e, e2] [se, se2] → CI M Γ (.Tuple elts kk tpos) (.Call (.Name "zip" p) [e, e2] [] pos) (.zip se se2)
  | enumA {Γ e se p pos tpos elts kk} : Γ.sc.names.lookup ("enumerate" : Str) = some .globalImplicit → Γ.gl ("enumerate" : Str) = none → CEs M Γ [e] [se] → CI M Γ (.Tuple elts kk tpos) (.Call (.Name "enumerate" p) [e] [] pos) (.enumA se)
  | zipA {Γ e e2 se se2 p pos tpos elts kk} : Γ.sc.names.lookup ("zip" : Str) = some .globalImplicit → Γ.gl ("zip" : Str) = none → CEs M Γ [e, e2] [se, se2] → CI M Γ (.Tuple elts kk tpos) (.Call (.Name "zip" p) [e, e2] [] pos) (.zipA se se2)
end
mutual
inductive CS (M : Mt2) : Gam → Stmt → SS → Prop where
  | pass {Γ pos} : CS M Γ (.Pass pos) .pass
  | bad {Γ b} : CS M Γ b (.rais (.cst .non))
  | brk {Γ pos} : CS M Γ (.Break pos) .brk
  | ct {Γ pos} : CS M Γ (.Continue pos) .ct
  | expr {Γ e se pos} : CE M Γ e se → notComp e = true → CS M Γ (.Expr e pos) (.expr se)
  | app {Γ e se x i p apos cpos pos} : CE M Γ e se → notStar e = true → Γ.N[i]? = some x → Vis Γ.sc x → plainName x = true → (apos.endLine == cpos.line) = true → CS M Γ (.Expr (.Call (.Attribute (.Name x p) "append" apos) [e] [] cpos) pos) (.app i se)
  | retN {Γ pos} : CS M Γ (.Return none pos) (.ret none)
  | retV {Γ x i p pos} : Γ.N[i]? = some x → Vis Γ.sc x → plainName x = true → CS M Γ (.Return (some (.Name x p)) pos) (.ret (some (.var i)))
  | ret {Γ e se pos} : CE M Γ e se → (∀ i, se ≠ .var i) → CS M Γ (.Return (some e) pos) (.ret (some se))
  | ife {Γ c sc a b sa sb pos} : CT M Γ c sc → CSs M Γ a sa → CSs M Γ b sb → CS M Γ (.If c a b pos) (.ife sc sa sb)
  | whl {Γ c sc b sb pos} : CT M Γ c sc → CSs M Γ b sb → CS M Γ (.While c b [] pos) (.whl sc sb)
  | for_ {Γ tg iter stg si b sb pos} : CI M Γ tg iter si → TgOk Γ tg stg → CSs M Γ b sb → noFold iter = true → CS M Γ (.For tg iter b [] pos) (.for_ stg si sb)
  | set {Γ e se x i p pos} : CE M Γ e se → Γ.N[i]? = some x → Loc Γ.sc x → (Γ.fc x = true ∨ Γ.sc.names.lookup x = some .local) → (notComp e = true ∨ Γ.sc.names.lookup x ≠ some .local) → CS M Γ (.Assign [.Name x p] e pos) (.asg (.nm i) se)
  | unp {Γ e se es ts k p pos} : CE M Γ e se → TgsOk Γ es ts → notComp e = true → notTupE e = true → CS M Γ (.Assign [.Tuple es k p] e pos) (.asg (.tp ts) se)
  | aug {Γ op e se x i p pos} : CE M Γ e se → (op = .Add ∨ op = .Sub) → Γ.N[i]? = some x → Loc Γ.sc x → (Γ.fc x = true ∨ Γ.sc.names.lookup x = some .local) → CS M Γ (.AugAssign (.Name x p) op e pos) (.aug i op se)
  | seti {Γ e k se sk x i p spos pos} : CE M Γ e se → CE M Γ k sk → notSlice k = true → notComp e = true → Γ.N[i]? = some x → Vis Γ.sc x → plainName x = true → CS M Γ (.Assign [.Subscript (.Name x p) k spos] e pos) (.seti i sk se)
  | setf {Γ e se x y i fl p apos pos} : CE M Γ e se → M.nm fl = y → notComp e = true → Γ.N[i]? = some x → Vis Γ.sc x → plainName x = true → CS M Γ (.Assign [.Attribute (.Name x p) y apos] e pos) (.setf i fl se)
  | par2 {Γ x y px py pt pt2 pos kt k2 i j a b sa sb} : CEs M Γ [a, b] [sa, sb] → Γ.N[i]? = some x → Γ.N[j]? = some y → i ≠ j → Γ.sc.names.lookup x = some .local → Γ.sc.names.lookup y = some .local → (py.line == px.line) = true → ([x, y].eraseDups.length == 2) = true →
      [a, b].all (foldedForSure 8) = false → [a, b].all (constantsAlone 8) = false → CS M Γ (.Assign [.Tuple [.Name x px, .Name y py] kt pt] (.Tuple [a, b] k2 pt2) pos) (.par [i, j] [sa, sb])
  | par3 {Γ x y z px py pz pt pt2 pos kt k2 i j k a b c sa sb sc} : CEs M Γ [a, b, c] [sa, sb, sc] → Γ.N[i]? = some x → Γ.N[j]? = some y → Γ.N[k]? = some z → i ≠ j → i ≠ k → j ≠ k → Γ.sc.names.lookup x = some .local → Γ.sc.names.lookup y = some .local → Γ.sc.names.lookup z = some .local →
      (py.line == px.line) = true → (pz.line == px.line) = true → ([x, y, z].eraseDups.length == 3) = true → [a, b, c].all (foldedForSure 8) = false → [a, b, c].all (constantsAlone 8) = false → CS M Γ (.Assign [.Tuple [.Name x px, .Name y py, .Name z pz] kt pt] (.Tuple [a, b, c] k2 pt2) pos) (.par [i, j, k] [sa, sb, sc])
  | parN {Γ ts vs is ses kt k2 pt pt2 pos} : CEs M Γ vs ses → NmsOk Γ ts is → is.length ≤ 100 → (ts.length == 2 || ts.length == 3) = false → CS M Γ (.Assign [.Tuple ts kt pt] (.Tuple vs k2 pt2) pos) (.par is ses)
  | parG {Γ ts vs is ses kt k2 pt pt2 pos} : CEs M Γ vs ses → NmsOk Γ ts is → is.length ≤ 100 → swN Γ.sc ts vs = true → CS M Γ (.Assign [.Tuple ts kt pt] (.Tuple vs k2 pt2) pos) (.par is ses)
inductive CSs (M : Mt2) : Gam → List Stmt → List SS → Prop where
  | nil {Γ} : CSs M Γ [] []
  | cons {Γ b bs s ss} : CS M Γ b s → CSs M Γ bs ss → CSs M Γ (b :: bs) (s :: ss)
end
/-! ### every level is sound -/
structure Lvl (M : Mt2) (n : Nat) : Prop where
  e : ∀ {Γ e se}, CE M Γ e se → SndE M (lv M.P n) Γ e se
  t : ∀ {Γ e se}, CT M Γ e se → SndT M (lv M.P n) Γ e se
  w : ∀ {Γ op b c cs pos se}, CT M Γ (.BoolOp op (b :: c :: cs) pos) se → ∀ X W, Good M X Γ → Takes X W → PW X (.BoolOp op (b :: c :: cs) pos) (tT M X W (lv M.P n) se)
  s : ∀ {Γ b ss}, CSs M Γ b ss → SndSs M (lv M.P n) Γ b ss
  co : CallOk M (lv M.P n)
theorem plain_d {x : Str} (h : plainName x = true) : (x == ("__debug__" : Str)) = false ∧ (x == ("__classdict__" : Str)) = false := by
  unfold plainName at h
  simp only [Bool.and_eq_true, Bool.not_eq_true'] at h
  exact h
theorem star_ok {e : Expr} (h : notStar e = true) : NotStar e := by cases e <;> first | trivial | (simp [notStar] at h)
theorem fold_ok {e : Expr} (h : noFold e = true) : ∀ env x, foldedSetIterable e env x = pure x := fun env x => by cases e <;> first | rfl | (simp [noFold] at h)
section
variable {M : Mt2} {n : Nat} {Γ : Gam}
theorem Lvl.p (L : Lvl M n) {e : Expr} {se : SE} (h : CE M Γ e se) : SndP M (lv M.P n) Γ e se := by
  by_cases hv : ∃ i, se = .var i
  · obtain ⟨i, rfl⟩ := hv
    cases h with
    | var h1 h2 h3 => exact sndP_var h1 h2 (plain_d h3).1 (plain_d h3).2
  · exact sndP_of (L.e h) fun i e => hv ⟨i, e⟩
theorem Lvl.ps (L : Lvl M n) : ∀ {es : List Expr} {ses : List SE}, CEs M Γ es ses → SndPs M (lv M.P n) Γ es ses
  | _, _, .nil => .nil
  | _, _, .cons h1 h2 h3 => .cons (star_ok h1) (L.p h2) (L.ps h3)
theorem Lvl.es (L : Lvl M n) : ∀ {es : List Expr} {ses : List SE}, CEs M Γ es ses → SndEs M (lv M.P n) Γ es ses
  | _, _, .nil => .nil
  | _, _, .cons h1 h2 h3 => .cons (star_ok h1) (L.e h2) (L.es h3)
theorem Lvl.ls (L : Lvl M n) : ∀ {es : List Expr} {ses : List SE}, CLs M Γ es ses → SndLs M (lv M.P n) Γ es ses
  | _, _, .nil => .nil
  | _, _, .cons h1 h2 h3 h4 => .cons (star_ok h1) h2 (L.p h3) (L.ls h4)
  | _, _, .lam h1 h2 => .lam h1 (L.ls h2)
theorem Lvl.ks (L : Lvl M n) : ∀ {kws : List Keyword} {ks : List (Nat × SE)}, CKs M Γ kws ks → SndKs M (lv M.P n) Γ kws ks
  | _, _, .nil => .nil
  | _, _, .cons h1 h2 h3 => .cons h1 (L.p h2) (L.ks h3)
theorem Lvl.j (L : Lvl M n) : ∀ {es : List Expr} {ses : List SE}, CJ M Γ es ses → SndJ M (lv M.P n) Γ es ses
  | _, _, .nil => .nil
  | _, _, .cons h1 h2 => .cons (L.e h1) (L.j h2)
theorem Lvl.o (L : Lvl M n) {e : Option Expr} {se : Option SE} (h : CO M Γ e se) : SndO M (lv M.P n) Γ e se := by
  cases h with
  | none => trivial
  | some h => exact L.p h
theorem Lvl.i (L : Lvl M n) {tg it : Expr} {si : SI} (h : CI M Γ tg it si) : SndI M (lv M.P n) Γ tg it si := by
  cases h with
  | of h => exact sndI_of (L.e h)
  | rng1 a b c => exact sndI_rng1 a b (L.es c)
  | rng2 a b c => exact sndI_rng2 a b (L.es c)
  | rng3 a b c => exact sndI_rng3 a b (L.es c)
  | enum a b c => exact sndI_enum a b (L.es c)
  | zip a b c => exact sndI_zip a b (L.es c)
  | enumA a b c => exact sndI_enumA a b (L.es c)
  | zipA a b c => exact sndI_zipA a b (L.es c)
theorem Lvl.ts (L : Lvl M n) {es : List Expr} {ses : List SE} (h : CTs M Γ es ses) : SndTs M (lv M.P n) Γ es ses := by
  cases h with
  | nil => exact sndTs_nil
  | one h => exact sndTs_one (L.t h)
theorem lvl_e (mo : MOk M) (L : Lvl M n) {e : Expr} {se : SE} (h : CE M Γ e se) : SndE M (lv M.P (n + 1)) Γ e se := by
  rw [lv_succ]
  cases h with
  | var h1 h2 h3 => exact sndE_var h1 h2 (plain_d h3).1 (plain_d h3).2
  | glob h1 h2 h3 => exact sndE_glob h1 h2 (plain_d h3).1
  | bt h1 h2 h3 h4 h5 h6 => exact sndE_bt h1 h2 h3 h4 h5 (plain_d h6).1
  | int => exact sndE_int
  | str => exact sndE_str
  | bl => exact sndE_bl
  | non => exact sndE_non
  | bin a b => exact sndE_bin (L.p a) (L.p b)
  | neg a => exact sndE_neg (L.p a)
  | not a => exact sndE_not (L.p a)
  | cmp a b c => exact sndE_cmp (L.p a) (L.p b) c
  | cmp2 a b c d => exact sndE_cmp2 (L.p a) (L.p b) (L.p c) d
  | and2 a b => exact sndE_and (L.p a) (sndE_one (L.e b))
  | and3 a b => exact sndE_and (L.p a) (L.e b)
  | or2 a b => exact sndE_or (L.p a) (sndE_one (L.e b))
  | or3 a b => exact sndE_or (L.p a) (L.e b)
  | ite a b c => exact sndE_ite (L.t a) (L.e b) (L.e c)
  | tup a => exact sndE_tup (L.es a)
  | lst a => exact sndE_lst (L.es a)
  | dctT a b => exact sndE_dctT (L.e a) (L.e b)
  | dctK a b => exact sndE_dctK (L.e a) (L.e b)
  | callF a b c d e f => exact sndE_callF L.co a b c (plain_d d).1 (L.ps e) (L.ks f)
  | mk a b c d e f g h i => exact sndE_mk L.co mo a b c d e f (plain_d g).1 (L.ps h) (L.ks i)
  | callV a b c => exact sndE_callV L.co mo (L.p a) b (L.ps c)
  | bf a b c d => exact sndE_bf mo (L.ps a) b c d
  | lenA a b c d => exact sndE_lenA L.co mo a (L.ps b) c d
  | bm a b c d e f => exact sndE_bm a (L.p b) (L.p c) (star_ok d) e f
  | mth a b c d e f g => exact sndE_mth L.co mo a (L.p b) (L.ps c) (L.ks d) e f g
  | att a b c => exact sndE_att L.co mo a (L.p b) c
  | sub a b c => exact sndE_sub (L.p a) (L.p b) c
  | sli a b c => exact sndE_sli (L.p a) (L.o b) (L.o c)
  | lc a b c d e f g => exact sndE_lc (L.i a) b c d (L.ts e) (L.e f) (fold_ok g)
  | dc a b c d e f g h => exact sndE_dc (L.i a) b c d (L.ts e) (L.e f) (L.e g) (fold_ok h)
  | bad =>
    intro X W g tk
    refine ⟨fun pins s σ H Q I h => ?_⟩
    obtain ⟨_, _, _, _, _, h⟩ := h
    exact False.elim h
  | callL a b c d e => exact sndE_callL L.co a b c (plain_d d).1 (L.ls e)
  | fmt a => exact sndE_fmt (L.p a)
  | fst a => exact sndE_fst (L.j a)
  | fst1 a => exact sndE_fst1 (sndE_fmt (L.p a))
theorem lvl_w (L : Lvl M n) {op : BoolOp} {b c : Expr} {cs : List Expr} {pos : Pos} {se : SE} (h : CT M Γ (.BoolOp op (b :: c :: cs) pos) se) : ∀ X W, Good M X Γ → Takes X W → PW X (.BoolOp op (b :: c :: cs) pos) (tT M X W (lv M.P (n + 1)) se) := by
  rw [lv_succ]
  cases h with
  | and2 a b => exact sndT_and (L.t a) fun X W g tk => pw_and1 (L.t b X W g tk)
  | and3 a b => exact sndT_and (L.t a) (L.w b)
  | or2 a b => exact sndT_or (L.t a) fun X W g tk => pw_or1 (L.t b X W g tk)
  | or3 a b => exact sndT_or (L.t a) (L.w b)
  | val a b c => exact b.elim
  | bad =>
    intro X W g tk
    refine ⟨fun wh pins s σ H Q I h => ?_⟩
    obtain ⟨_, _, _, _, _, h⟩ := h
    exact False.elim h
theorem lvl_t (L : Lvl M n) {e : Expr} {se : SE} (h : CT M Γ e se) : SndT M (lv M.P (n + 1)) Γ e se := by
  have keep := h
  cases h with
  | not a => rw [lv_succ]; exact sndT_not (L.t a)
  | and2 a b => exact fun X W g tk => (lvl_w L keep X W g tk).pt
  | and3 a b => exact fun X W g tk => (lvl_w L keep X W g tk).pt
  | or2 a b => exact fun X W g tk => (lvl_w L keep X W g tk).pt
  | or3 a b => exact fun X W g tk => (lvl_w L keep X W g tk).pt
  | cmp a b c => rw [lv_succ]; exact sndT_cmp (L.p a) (L.p b) c
  | cmp2 a b c d => rw [lv_succ]; exact sndT_cmp2 (L.p a) (L.p b) (L.p c) d
  | val a b c => rw [lv_succ]; exact sndT_val (L.p a) b c
  | bad =>
    rw [lv_succ]
    intro X W g tk
    refine ⟨fun pins s σ H Q I h => ?_⟩
    obtain ⟨_, _, _, _, _, h⟩ := h
    exact False.elim h
theorem lvl_s1 (mo : MOk M) (L : ∀ m, m ≤ n → Lvl M m) {b : Stmt} {s : SS} (h : CS M Γ b s) : SndS M (lv M.P n) Γ b s := by
  have L0 := L n (Nat.le_refl _)
  cases h with
  | pass => exact sndS_pass
  | bad =>
    intro X g
    refine ⟨fun pins s σ H D I h => ?_⟩
    obtain ⟨_, _, _, _, _, _, _, h⟩ := h
    exact False.elim h
  | brk => exact sndS_brk
  | ct => exact sndS_ct
  | expr a b => exact sndS_expr (L0.e a) b
  | app a b c d e f => exact sndS_app (L0.e a) (star_ok b) c d (plain_d e).1 (plain_d e).2 f
  | retN => exact sndS_retN
  | retV a b c => exact sndS_retV a b (plain_d c).1 (plain_d c).2
  | ret a b => exact sndS_ret (L0.e a) b
  | ife a b c => exact sndS_if (L0.t a) (L0.s b) (L0.s c)
  | whl a b => exact sndS_whl (fun m hm => (L m hm).t a) fun m hm => (L m hm).s b
  | for_ a b c d => exact sndS_for (L0.i a) b (L0.s c) (fold_ok d)
  | set a b c d e => exact sndS_set (L0.e a) b c d e
  | unp a b c d => exact sndS_unp (L0.e a) b (fun env => sw_no c _ _ _) fun env => swapO fun vs k p e => by subst e; simp [notTupE] at d
  | aug a b c d e => exact sndS_aug (L0.e a) b c d e
  | seti a b c d e f g => exact sndS_seti (L0.e a) (L0.p b) (fun x y z w e => by subst e; simp [notSlice] at c) d e f (plain_d g).1 (plain_d g).2
  | setf a b c d e f => exact sndS_setf mo (L0.e a) b c d e (plain_d f).1 (plain_d f).2
  | par2 a b c d e f g h i j => exact sndS_par2 (L0.es a) b c d e f g h i j
  | par3 a b c d e f g h i j k l m o p => exact sndS_par3 (L0.es a) b c d e f g h i j k l m o p
  | parG a b c d => exact sndS_parT (L0.es a) b c fun env hs => swG hs d
  | parN a b c d => exact sndS_parT (L0.es a) b c fun env _ => swapN d
theorem lvl_l (mo : MOk M) (L : ∀ m, m ≤ n → Lvl M m) : ∀ {b : List Stmt} {s : List SS}, CSs M Γ b s → SndL M (lv M.P n) Γ b s
  | _, _, .nil => .nil
  | _, _, .cons h1 h2 => .cons (lvl_s1 mo L h1) (lvl_l mo L h2)
theorem lvl_s (mo : MOk M) (L : ∀ m, m ≤ n → Lvl M m) {b : List Stmt} {s : List SS} (h : CSs M Γ b s) : SndSs M (lv M.P (n + 1)) Γ b s := by
  rw [lv_succ]
  exact sndSs_of (lvl_l mo L h)
/-- the whole program: each def's text and its code -/
structure PrgOk (M : Mt2) : Prop where
  mo : MOk M
  fact : ∀ f fd, M.P.fns[f]? = some fd → FnFact M f fd
  text : ∀ f fd, M.P.fns[f]? = some fd → ∃ N body scope gl fc qual cdv, FnText M f fd N body scope gl qual cdv ∧ CSs M ⟨N, scope, gl, fc, some (qual ++ ".<locals>.", cdv)⟩ body fd.body
  lam : ∀ l ld, M.P.lams[l]? = some ld → ∃ N gl, LamText M l ld N gl ∧ CE M ⟨N, (M.lam l).scope, gl, fun _ => false, none⟩ (M.lam l).body ld.body
theorem lvl_all (ok : PrgOk M) : ∀ n, Lvl M n := by
  intro n
  induction n using Nat.strongRecOn with
  | _ n ih =>
    cases n with
    | zero =>
      refine ⟨fun _ X W g tk => ⟨fun pins s σ H Q I h => ?_⟩, fun _ X W g tk => ⟨fun pins s σ H Q I h => ?_⟩, fun _ X W g tk => ⟨fun wh pins s σ H Q I h => ?_⟩, fun _ X g => ⟨fun pins s σ H D I h => ?_⟩, ⟨(fun h => by cases h), (fun l k A outer s H ρ F f us vs ds cs d fr Q _ _ _ _ _ _ h => by cases h), (fun h => by cases h), ok.fact, fun f fd k hf hi => ⟨fun vs H Q E h => ?_, fun A outer s H args us vs Q E hr e0 hb hv h => ?_⟩, fun c cd f fd k hc hci hf hi => ⟨fun vs H Q E h => ?_, fun A outer s H args us vs Q E hr e0 hb hv h => ?_⟩⟩⟩
      · obtain ⟨_, _, _, _, _, h⟩ := h; exact False.elim h
      · obtain ⟨_, _, _, _, _, h⟩ := h; exact False.elim h
      · obtain ⟨_, _, _, _, _, h⟩ := h; exact False.elim h
      · obtain ⟨_, _, _, _, _, _, _, h⟩ := h; exact False.elim h
      · obtain ⟨_, _, _, _, _, _, _, _, _, _, h, _⟩ := h; cases h
      · obtain ⟨_, _, _, _, _, _, _, _, _, _, h, _⟩ := h; cases h
      · obtain ⟨_, _, _, _, _, _, _, _, _, _, _, _, h, _⟩ := h; cases h
      · obtain ⟨_, _, _, _, _, _, _, _, _, _, _, _, h, _⟩ := h; cases h
    | succ n =>
      have L : ∀ m, m ≤ n → Lvl M m := fun m hm => ih m (by omega)
      have L0 := L n (Nat.le_refl _)
      refine ⟨fun h => lvl_e ok.mo L0 h, fun h => lvl_t L0 h, fun h => lvl_w L0 h, fun h => lvl_s ok.mo L h, ⟨fun h => ?_, fun l k => ?_, fun h => ?_, ok.fact, fun f fd k hf hi => ?_, fun c cd f fd k hc hci hf hi => ?_⟩⟩
      · rename_i l cs ds k d fr a t
        have h : lamS M.P (lv M.P n) l cs ds k = .ok d fr (a :: t) := h
        unfold lamS at h
        split at h
        · cases h
        · split at h
          · split at h <;> cases h
          · cases h
      · cases hl : M.P.lams[l]? with
        | none =>
          intro A outer s H ρ F f us vs ds cs d fr Q _ _ _ _ _ _ h
          have h : lamS M.P (lv M.P n) l cs ds k = .ok d fr [] := h
          unfold lamS at h
          rw [hl] at h
          cases h
        | some ld =>
          obtain ⟨N, gl, t, c⟩ := ok.lam l ld hl
          exact lam_body t hl (L0.e c)
      · rename_i c f ds k d fr a l
        have h : iniS M.P (lv M.P n) c f ds k = .ok d fr (a :: l) := h
        unfold iniS at h
        split at h
        · cases h
        · split at h
          · split at h
            · split at h
              · cases h
              · cases h
            · cases h
          · cases h
      · obtain ⟨N, body, scope, gl, fc, qual, cdv, t, c⟩ := ok.text f fd hf
        exact fn_body (fc := fc) t hf (L0.s c)
      · obtain ⟨N, body, scope, gl, fc, qual, cdv, t, c⟩ := ok.text f fd hf
        exact fn_bodyI (fc := fc) t hf (L0.s c)
end
end TI

end

section
set_option Elab.async false
set_option linter.all false
set_option maxRecDepth 100000
set_option maxHeartbeats 1000000
/-! TI36: from the text to its code. -/
namespace TI
open PySem L2 PySem.Spec PyProof.Rows
/-- what a text's code leans on -/
structure Cfg where
  nms : List Str
  nf : Nat
  /-- the classes' __init__s -/
  ini : List (Option Nat)
structure CfgOk (M : Mt2) (C : Cfg) : Prop where
  nm : ∀ (i : Nat) (x : Str), C.nms[i]? = some x → M.nm i = x
  fn : ∀ f, f < C.nf → ∃ fd, M.P.fns[f]? = some fd
  ini : ∀ (c f : Nat), C.ini[c]? = some (some f) → ∃ (cd : ClsDef) (fd : FnDef), M.P.clss[c]? = some cd ∧ cd.init = some f ∧ M.P.fns[f]? = some fd ∧ fd.isInit = true
def bad : SE := .lam 0 []
def ixOf (x : Str) : List Str → Nat → Option Nat
  | [], _ => none
  | y :: ys, i => if x == y then some i else ixOf x ys (i + 1)
theorem ixOf_ok {x : Str} : ∀ {l : List Str} {i j : Nat}, ixOf x l i = some j → i ≤ j ∧ l[j - i]? = some x
  | [], _, _, h => by cases h
  | y :: ys, i, j, h => by
    unfold ixOf at h
    split at h
    · rename_i e
      cases h
      have e : x = y := eq_of_beq e
      exact ⟨Nat.le_refl _, by simp [e]⟩
    · obtain ⟨h1, h2⟩ := ixOf_ok h
      refine ⟨by omega, ?_⟩
      rw [show j - i = (j - (i + 1)) + 1 from by omega]
      simpa using h2
def slotB (Γ : Gam) (x : Str) : Option Nat := match ixOf x Γ.N 0 with
  | some i => match Γ.sc.names.lookup x with
    | some .local => some i
    | some .cell => some i
    | some .free => some i
    | _ => none
  | none => none
theorem slotB_ok {Γ : Gam} {x : Str} {i : Nat} (h : slotB Γ x = some i) : Γ.N[i]? = some x ∧ Vis Γ.sc x := by
  unfold slotB at h
  split at h
  · rename_i j hj
    have h1 := (ixOf_ok hj).2
    split at h
    · rename_i e; cases h; exact ⟨h1, .inl e⟩
    · rename_i e; cases h; exact ⟨h1, .inr (.inl e)⟩
    · rename_i e; cases h; exact ⟨h1, .inr (.inr e)⟩
    · cases h
  · cases h
/-- a slot that may be stored to -/
def slotS (Γ : Gam) (x : Str) : Option Nat := match ixOf x Γ.N 0 with
  | some i => match Γ.sc.names.lookup x with
    | some .local => some i
    | some .cell => if Γ.fc x then some i else none
    | _ => none
  | none => none
theorem slotS_ok {Γ : Gam} {x : Str} {i : Nat} (h : slotS Γ x = some i) : Γ.N[i]? = some x ∧ Loc Γ.sc x ∧ (Γ.fc x = true ∨ Γ.sc.names.lookup x = some .local) := by
  unfold slotS at h
  split at h
  · rename_i j hj
    have h1 := (ixOf_ok hj).2
    split at h
    · rename_i e; cases h; exact ⟨h1, .inl e, .inr e⟩
    · rename_i e
      split at h
      · rename_i f; cases h; exact ⟨h1, .inr e, .inl f⟩
      · cases h
    · cases h
  · cases h
def isGlob (Γ : Gam) (x : Str) : Bool := match Γ.sc.names.lookup x with
  | some .globalImplicit => true
  | _ => false
theorem isGlob_ok {Γ : Gam} {x : Str} (h : isGlob Γ x = true) : Γ.sc.names.lookup x = some .globalImplicit := by
  unfold isGlob at h
  split at h
  · assumption
  · cases h
def isLocal (Γ : Gam) (x : Str) : Bool := match Γ.sc.names.lookup x with
  | some .local => true
  | _ => false
theorem isLocal_ok {Γ : Gam} {x : Str} (h : isLocal Γ x = true) : Γ.sc.names.lookup x = some .local := by
  unfold isLocal at h
  split at h
  · assumption
  · cases h
def btOf (x : Str) : Option Bt := [Bt.int, .str, .bool, .list, .tuple, .dict].find? fun t => Str.ofString (btName t) == x
theorem btOf_ok {x : Str} {t : Bt} (h : btOf x = some t) : bootBuiltins x = some (.type (btName t)) ∧ x ≠ "__name__" ∧ bltB x = true := by
  have e : (Str.ofString (btName t) == x) = true := List.find?_some (p := fun t => Str.ofString (btName t) == x) h
  have e := eq_of_beq e
  subst e
  cases t <;> exact ⟨by decide +kernel, by decide +kernel, by decide +kernel⟩
def bfOf (x : Str) : Option Bf := [Bf.len, .abs, .int, .str, .bool, .isinstance, .all, .any, .sum, .tuple, .list, .min, .max, .sorted, .repr].find? fun b => bfStr b == x
theorem bfOf_ok {x : Str} {b : Bf} (h : bfOf x = some b) : bfStr b = x := eq_of_beq (List.find?_some (p := fun b => bfStr b == x) h)
def mtOf (x : Str) : Option Mt := [Mt.join, .split].find? fun b => mtStr b == x
theorem mtOf_ok {x : Str} {b : Mt} (h : mtOf x = some b) : mtStr b = x := eq_of_beq (List.find?_some (p := fun b => mtStr b == x) h)
def plainTB : Expr → Bool
  | .UnaryOp .Not _ _ => false
  | .BoolOp _ _ _ => false
  | .IfExp _ _ _ _ => false
  | .Compare _ _ _ _ => false
  | _ => true
theorem plainTB_ok {e : Expr} (h : plainTB e = true) : PlainT e := by
  unfold plainTB at h
  split at h
  · cases h
  · cases h
  · cases h
  · cases h
  · rename_i h1 h2 h3 h4
    unfold PlainT
    split
    · exact h1 _ _ rfl
    · exact h2 _ _ _ rfl
    · exact h3 _ _ _ _ rfl
    · exact h4 _ _ _ _ rfl
    · trivial
def plainSB : SE → Bool
  | .not _ => false
  | .and _ _ => false
  | .or _ _ => false
  | .ite _ _ _ => false
  | .cmp _ _ _ => false
  | .cmp2 _ _ _ _ _ => false
  | _ => true
theorem plainSB_ok {e : SE} (h : plainSB e = true) : PlainS e := by cases e <;> first | trivial | (simp [plainSB] at h)
/-! ### targets -/
mutual
def cTg (Γ : Gam) : Nat → Expr → Option ST
  | _, .Name x _ => (slotS Γ x).map .nm
  | n + 1, .Tuple es _ _ => (cTgs Γ n es).map .tp
  | _, _ => none
def cTgs (Γ : Gam) : Nat → List Expr → Option (List ST)
  | _, [] => some []
  | n + 1, e :: es => match cTg Γ n e, cTgs Γ n es with
    | some t, some ts => some (t :: ts)
    | _, _ => none
  | 0, _ :: _ => none
end
mutual
theorem cTg_ok {Γ : Gam} : ∀ {n : Nat} {e : Expr} {t : ST}, cTg Γ n e = some t → TgOk Γ e t
  | n, .Name x p, t, h => by
    cases n <;> (simp only [cTg] at h; obtain ⟨i, hi, rfl⟩ := Option.map_eq_some_iff.mp h; obtain ⟨h1, h2, h3⟩ := slotS_ok hi; exact .nm h1 h2 h3)
  | n + 1, .Tuple es k p, t, h => by
    simp only [cTg] at h
    obtain ⟨ts, hi, rfl⟩ := Option.map_eq_some_iff.mp h
    exact .tp (cTgs_ok hi)
  | 0, .Tuple es k p, t, h => by simp [cTg] at h
  | n, .BoolOp .., t, h => by cases n <;> simp [cTg] at h
  | n, .NamedExpr .., t, h => by cases n <;> simp [cTg] at h
  | n, .BinOp .., t, h => by cases n <;> simp [cTg] at h
  | n, .UnaryOp .., t, h => by cases n <;> simp [cTg] at h
  | n, .Lambda .., t, h => by cases n <;> simp [cTg] at h
  | n, .IfExp .., t, h => by cases n <;> simp [cTg] at h
  | n, .Dict .., t, h => by cases n <;> simp [cTg] at h
  | n, .Set .., t, h => by cases n <;> simp [cTg] at h
  | n, .ListComp .., t, h => by cases n <;> simp [cTg] at h
  | n, .SetComp .., t, h => by cases n <;> simp [cTg] at h
  | n, .DictComp .., t, h => by cases n <;> simp [cTg] at h
  | n, .GeneratorExp .., t, h => by cases n <;> simp [cTg] at h
  | n, .Await .., t, h => by cases n <;> simp [cTg] at h
  | n, .Yield .., t, h => by cases n <;> simp [cTg] at h
  | n, .YieldFrom .., t, h => by cases n <;> simp [cTg] at h
  | n, .Compare .., t, h => by cases n <;> simp [cTg] at h
  | n, .Call .., t, h => by cases n <;> simp [cTg] at h
  | n, .FormattedValue .., t, h => by cases n <;> simp [cTg] at h
  | n, .JoinedStr .., t, h => by cases n <;> simp [cTg] at h
  | n, .Constant .., t, h => by cases n <;> simp [cTg] at h
  | n, .Attribute .., t, h => by cases n <;> simp [cTg] at h
  | n, .Subscript .., t, h => by cases n <;> simp [cTg] at h
  | n, .Starred .., t, h => by cases n <;> simp [cTg] at h
  | n, .List .., t, h => by cases n <;> simp [cTg] at h
  | n, .Slice .., t, h => by cases n <;> simp [cTg] at h
theorem cTgs_ok {Γ : Gam} : ∀ {n : Nat} {es : List Expr} {ts : List ST}, cTgs Γ n es = some ts → TgsOk Γ es ts
  | n, [], ts, h => by cases n <;> (simp [cTgs] at h; subst h; exact .nil)
  | n + 1, e :: es, ts, h => by
    simp only [cTgs] at h
    split at h
    · rename_i t ts' h1 h2
      cases h
      exact .cons (cTg_ok h1) (cTgs_ok h2)
    · cases h
  | 0, e :: es, ts, h => by simp [cTgs] at h
end
def cNms (Γ : Gam) : List Expr → Option (List Nat)
  | [] => some []
  | .Name x _ :: es => match slotS Γ x, cNms Γ es with
    | some i, some is => some (i :: is)
    | _, _ => none
  | _ :: _ => none
theorem cNms_ok {Γ : Gam} : ∀ {es : List Expr} {is : List Nat}, cNms Γ es = some is → NmsOk Γ es is
  | [], is, h => by simp [cNms] at h; subst h; exact .nil
  | e :: es, is, h => by
    unfold cNms at h
    split at h
    · rename_i e1; cases e1
    · rename_i x p es' e1
      cases e1
      split at h
      · rename_i i is' h1 h2
        cases h
        obtain ⟨g1, g2, g3⟩ := slotS_ok h1
        exact .cons g1 g2 g3 (cNms_ok h2)
      · cases h
    · cases h
/-! ### comprehensions' blocks -/
def ownOf (N : List Str) : List (Str × NameKind) → List (Str × Nat)
  | [] => []
  | (x, k) :: ys => match k, ixOf x N 0 with
    | .local, some i => (x, i) :: ownOf N ys
    | .cell, some i => (x, i) :: ownOf N ys
    | _, _ => ownOf N ys
def blkB (N : List Str) (sc scope : Scope) (own : List (Str × Nat)) : Bool :=
  decide (scope.kind = .function) && scope.names.all (fun y => decide (scope.names.lookup y.1 = some y.2)) && own.all (fun p => decide (N[p.2]? = some p.1)) &&
    scope.names.all (fun y => !decide (y.2 = .free) || (decide (sc.names.lookup y.1 = some .cell) || decide (sc.names.lookup y.1 = some .free))) &&
    scope.names.all (fun y => !(decide (y.2 = .local) || decide (y.2 = .cell)) || (decide (y.1 ∈ own.map (·.1)) || decide (y.1 ∉ N)))
theorem blkB_ok {N : List Str} {sc scope : Scope} {own : List (Str × Nat)} (h : blkB N sc scope own = true) : BlkOk N sc scope own := by
  unfold blkB at h
  simp only [Bool.and_eq_true, Bool.or_eq_true, Bool.not_eq_true', decide_eq_true_eq, decide_eq_false_iff_not, List.all_eq_true, Bool.or_eq_false_iff] at h
  obtain ⟨⟨⟨⟨h1, h2⟩, h3⟩, h4⟩, h5⟩ := h
  refine ⟨h1, h2, h3, fun y hy e => (h4 y hy).elim (fun z => absurd e z) id, fun y hy e => (h5 y hy).elim (fun z => ?_) id⟩
  rcases e with e | e
  · exact absurd e z.1
  · exact absurd e z.2
/-! ### one level -/
structure CRec where
  e : Gam → Expr → SE
  t : Gam → Expr → SE
section
variable (C : Cfg) (r : CRec)
def cEs (Γ : Gam) (es : List Expr) : Option (List SE) := if es.all notStar then some (es.map (r.e Γ)) else none
def cKs (Γ : Gam) : List Keyword → Option (List (Nat × SE))
  | [] => some []
  | ⟨some x, e, _⟩ :: ks => match ixOf x C.nms 0, cKs Γ ks with
    | some n, some q => some ((n, r.e Γ e) :: q)
    | _, _ => none
  | _ :: _ => none
def cO (Γ : Gam) : Option Expr → Option SE
  | none => none
  | some e => some (r.e Γ e)
def cTs (Γ : Gam) : List Expr → Option (List SE)
  | [] => some []
  | [e] => some [r.t Γ e]
  | _ => none
def cI (Γ : Gam) (tg it : Expr) : SI := match it with
  | .Call (.Name x _) args [] _ => if isGlob Γ x && (Γ.gl x).isNone then (
      if x == ("range" : Str) then (match args, cEs r Γ args with
        | [_], some [a] => .rng1 a
        | [_, _], some [a, b] => .rng2 a b
        | [_, _, _], some [a, b, c] => .rng3 a b c
        | _, _ => .of (r.e Γ it))
      else if x == ("enumerate" : Str) then (match tg, args, cEs r Γ args with
        | .Tuple _ _ _, [_], some [a] => .enumA a
        | _, _, _ => .of (r.e Γ it))
      else if x == ("zip" : Str) then (match tg, args, cEs r Γ args with
        | .Tuple _ _ _, [_, _], some [a, b] => .zipA a b
        | _, _, _ => .of (r.e Γ it))
      else .of (r.e Γ it)) else .of (r.e Γ it)
  | it => .of (r.e Γ it)
def cName (Γ : Gam) (x : Str) : SE := if plainName x then (match slotB Γ x with
    | some i => .var i
    | none => if isGlob Γ x then (match Γ.gl x with
        | some d => .cst d
        | none => match btOf x with
          | some t => .cst (.ty t)
          | none => bad) else bad) else bad
def cCall (Γ : Gam) (f : Expr) (args : List Expr) (kws : List Keyword) (pos : Pos) : SE := match cEs r Γ args, cKs C r Γ kws with
  | some es, some ks => (match f with
    | .Name x _ => if plainName x then (if isGlob Γ x then (match Γ.gl x with
          | some (.fn f) => if f < C.nf then .callF f es ks else bad
          | some (.cls c) => (match C.ini[c]? with
            | some (some _) => .mk c es ks
            | _ => bad)
          | none => (match args, kws, bfOf x with
            | [_], [], some .len => (match es, ixOf ("__len__" : Str) C.nms 0 with
              | [e], some n => .lenA n e
              | _, _ => .bf .len es)
            | _ :: _, [], some b => .bf b es
            | _, _, _ => bad)
          | _ => bad) else (match kws with
          | [] => .callV (r.e Γ f) es
          | _ => bad)) else bad
    | .Attribute o m apos => if NoSup o && (apos.endLine == pos.line) then (match mtOf m, args, kws with
        | some b, [e], [] => .bm b (r.e Γ o) (r.e Γ e)
        | _, _, _ => match ixOf m C.nms 0 with
          | some n => if args.length + kws.length < 29 then .mth (r.e Γ o) n es ks else bad
          | none => bad) else bad
    | f => (match kws with
      | [] => if NotAttr f then .callV (r.e Γ f) es else bad
      | _ => bad))
  | _, _ => bad
def cSub (Γ : Gam) (a b : Expr) : SE := match b with
  | .Slice lo hi none _ => .sli (r.e Γ a) (cO r Γ lo) (cO r Γ hi)
  | .Slice _ _ _ _ => bad
  | b => .sub (r.e Γ a) (r.e Γ b)
def cLc (Γ : Gam) (elt : Expr) (gs : List Comprehension) (scope : Scope) : SE := match gs with
  | [⟨tg, iter, ifs, 0⟩] => (match cTg (Γ.blk scope) 8 tg, cTs r (Γ.blk scope) ifs with
    | some stg, some sifs => if blkB Γ.N Γ.sc scope (ownOf Γ.N scope.names) && (slotsOf stg).all (fun i => ((ownOf Γ.N scope.names).map (·.2)).contains i) && noFold iter
      then .lc ((ownOf Γ.N scope.names).map (·.2)) (r.e (Γ.blk scope) elt) stg (cI r Γ tg iter) sifs else bad
    | _, _ => bad)
  | _ => bad
def cDc (Γ : Gam) (kx vx : Expr) (gs : List Comprehension) (scope : Scope) : SE := match gs with
  | [⟨tg, iter, ifs, 0⟩] => (match cTg (Γ.blk scope) 8 tg, cTs r (Γ.blk scope) ifs with
    | some stg, some sifs => if blkB Γ.N Γ.sc scope (ownOf Γ.N scope.names) && (slotsOf stg).all (fun i => ((ownOf Γ.N scope.names).map (·.2)).contains i) && noFold iter
      then .dc ((ownOf Γ.N scope.names).map (·.2)) (r.e (Γ.blk scope) kx) (r.e (Γ.blk scope) vx) stg (cI r Γ tg iter) sifs else bad
    | _, _ => bad)
  | _ => bad
def cE1 (Γ : Gam) (e : Expr) : SE := match e with
  | .Name x _ => cName Γ x
  | .Constant (.int i) _ _ => .cst (.int i)
  | .Constant (.str x) _ _ => .cst (.str x.cps.toList)
  | .Constant (.bool b) _ _ => .cst (.bl b)
  | .Constant .none _ _ => .cst .non
  | .BinOp a op b _ => .bin op (r.e Γ a) (r.e Γ b)
  | .UnaryOp .USub a _ => .neg (r.e Γ a)
  | .UnaryOp .Not a _ => .not (r.e Γ a)
  | .Compare a [op] [b] _ => if behindInMarks op b then bad else .cmp op (r.e Γ a) (r.e Γ b)
  | .Compare a [op, op'] [b, c] _ => if lastMarks [op, op'] [b, c] then bad else .cmp2 op op' (r.e Γ a) (r.e Γ b) (r.e Γ c)
  | .BoolOp .And [a, b] _ => .and (r.e Γ a) (r.e Γ b)
  | .BoolOp .And (a :: b :: c :: cs) pos => .and (r.e Γ a) (r.e Γ (.BoolOp .And (b :: c :: cs) pos))
  | .BoolOp .Or [a, b] _ => .or (r.e Γ a) (r.e Γ b)
  | .BoolOp .Or (a :: b :: c :: cs) pos => .or (r.e Γ a) (r.e Γ (.BoolOp .Or (b :: c :: cs) pos))
  | .IfExp c a b _ => .ite (r.t Γ c) (r.e Γ a) (r.e Γ b)
  | .Tuple es _ _ => (match cEs r Γ es with
    | some ses => .tup ses
    | none => bad)
  | .List es _ => (match cEs r Γ es with
    | some ses => .lst ses
    | none => bad)
  | .Dict [some k] [v] _ => if notTupE k then .dct1 false (r.e Γ k) (r.e Γ v) else .dct1 true (r.e Γ k) (r.e Γ v)
  | .Call f args kws pos => cCall C r Γ f args kws pos
  | .Attribute o x _ => if NoSup o then (match ixOf x C.nms 0 with
    | some n => .att (r.e Γ o) n
    | none => bad) else bad
  | .Subscript a b _ => cSub r Γ a b
  | .ListComp elt gs scope _ => cLc r Γ elt gs scope
  | .DictComp kx vx gs scope _ => cDc r Γ kx vx gs scope
  | .FormattedValue e (-1) none _ => .fmt (r.e Γ e)
  | .JoinedStr [.FormattedValue e (-1) none _] _ => .fmt (r.e Γ e)
  | .JoinedStr (e1 :: e2 :: es) _ => .fst ((e1 :: e2 :: es).map (r.e Γ))
  | _ => bad
def cT1 (Γ : Gam) (e : Expr) : SE := match e with
  | .UnaryOp .Not a _ => .not (r.t Γ a)
  | .Compare a [op] [b] _ => if behindInMarks op b then badT else .cmp op (r.e Γ a) (r.e Γ b)
  | .Compare a [op, op'] [b, c] _ => if lastMarks [op, op'] [b, c] then badT else .cmp2 op op' (r.e Γ a) (r.e Γ b) (r.e Γ c)
  | .BoolOp .And [a, b] _ => .and (r.t Γ a) (r.t Γ b)
  | .BoolOp .And (a :: b :: c :: cs) pos => .and (r.t Γ a) (r.t Γ (.BoolOp .And (b :: c :: cs) pos))
  | .BoolOp .Or [a, b] _ => .or (r.t Γ a) (r.t Γ b)
  | .BoolOp .Or (a :: b :: c :: cs) pos => .or (r.t Γ a) (r.t Γ (.BoolOp .Or (b :: c :: cs) pos))
  | e => if plainTB e && plainSB (r.e Γ e) then r.e Γ e else badT
end
def cLv (C : Cfg) : Nat → CRec
  | 0 => ⟨fun _ _ => bad, fun _ _ => badT⟩
  | n + 1 => ⟨cE1 C (cLv C n), cT1 (cLv C n)⟩
end TI

end

section
set_option Elab.async false
set_option linter.all false
set_option maxRecDepth 100000
set_option maxHeartbeats 1000000
/-! TI37: the code is the text's. -/
namespace TI
open PySem L2 PySem.Spec PyProof.Rows
structure CROk (M : Mt2) (r : CRec) : Prop where
  e : ∀ Γ e, CE M Γ e (r.e Γ e)
  t : ∀ Γ e, CT M Γ e (r.t Γ e)
section
variable {M : Mt2} {C : Cfg} {r : CRec} {Γ : Gam}
theorem cEs_map (ok : CROk M r) : ∀ {es : List Expr}, es.all notStar = true → CEs M Γ es (es.map (r.e Γ))
  | [], _ => .nil
  | e :: es, h => by
    simp only [List.all_cons, Bool.and_eq_true] at h
    exact .cons h.1 (ok.e Γ e) (cEs_map ok h.2)
theorem cEs_ok (ok : CROk M r) {es : List Expr} {ses : List SE} (h : cEs r Γ es = some ses) : CEs M Γ es ses := by
  unfold cEs at h
  split at h
  · rename_i q; cases h; exact cEs_map ok q
  · cases h
theorem cJ_map (ok : CROk M r) : ∀ {es : List Expr}, CJ M Γ es (es.map (r.e Γ))
  | [] => .nil
  | e :: es => .cons (ok.e Γ e) (cJ_map ok)
theorem cKs_ok (co : CfgOk M C) (ok : CROk M r) : ∀ {kws : List Keyword} {ks : List (Nat × SE)}, cKs C r Γ kws = some ks → CKs M Γ kws ks
  | [], ks, h => by simp [cKs] at h; subst h; exact .nil
  | ⟨some x, e, p⟩ :: kws, ks, h => by
    simp only [cKs] at h
    split at h
    · rename_i n q h1 h2
      cases h
      exact .cons (co.nm _ _ (ixOf_ok h1).2) (ok.e Γ e) (cKs_ok co ok h2)
    · cases h
  | ⟨none, e, p⟩ :: kws, ks, h => by simp [cKs] at h
theorem cO_ok (ok : CROk M r) {e : Option Expr} : CO M Γ e (cO r Γ e) := by
  cases e with
  | none => exact .none
  | some e => exact .some (ok.e Γ e)
theorem cTs_ok (ok : CROk M r) {es : List Expr} {ses : List SE} (h : cTs r Γ es = some ses) : CTs M Γ es ses := by
  unfold cTs at h
  split at h
  · cases h; exact .nil
  · cases h; exact .one (ok.t _ _)
  · cases h
theorem cI_ok (ok : CROk M r) {tg it : Expr} : CI M Γ tg it (cI r Γ tg it) := by
  unfold cI
  split
  · rename_i x p args pos
    split
    · rename_i h
      simp only [Bool.and_eq_true] at h
      have hg := isGlob_ok h.1
      have hn : Γ.gl x = none := by simpa using h.2
      split
      · rename_i e
        have e := eq_of_beq e
        subst e
        split
        · rename_i h1; exact .rng1 hg hn (cEs_ok ok h1)
        · rename_i h1; exact .rng2 hg hn (cEs_ok ok h1)
        · rename_i h1; exact .rng3 hg hn (cEs_ok ok h1)
        · exact .of (ok.e _ _)
      · split
        · rename_i e
          have e := eq_of_beq e
          subst e
          split
          · rename_i h1; exact .enumA hg hn (cEs_ok ok h1)
          · exact .of (ok.e _ _)
        · split
          · rename_i e
            have e := eq_of_beq e
            subst e
            split
            · rename_i h1; exact .zipA hg hn (cEs_ok ok h1)
            · exact .of (ok.e _ _)
          · exact .of (ok.e _ _)
    · exact .of (ok.e _ _)
  · exact .of (ok.e _ _)
theorem cName_ok {x : Str} {p : Pos} : CE M Γ (.Name x p) (cName Γ x) := by
  unfold cName
  split
  · rename_i hp
    split
    · rename_i i hi
      obtain ⟨h1, h2⟩ := slotB_ok hi
      exact .var h1 h2 hp
    · split
      · rename_i hg
        have hg := isGlob_ok hg
        split
        · rename_i d hd; exact .glob hg hd hp
        · rename_i hd
          split
          · rename_i t ht
            obtain ⟨h1, h2, h3⟩ := btOf_ok ht
            exact .bt hg hd h1 h2 h3 hp
          · exact .bad
      · exact .bad
  · exact .bad
theorem cCall_ok (co : CfgOk M C) (ok : CROk M r) {f : Expr} {args : List Expr} {kws : List Keyword} {pos : Pos} : CE M Γ (.Call f args kws pos) (cCall C r Γ f args kws pos) := by
  unfold cCall
  split
  · rename_i es ks he hk
    have he := cEs_ok ok he
    have hk := cKs_ok co ok hk
    split
    · rename_i x p
      split
      · rename_i hp
        split
        · rename_i hg
          have hg := isGlob_ok hg
          split
          · rename_i g hd
            split
            · rename_i hl
              obtain ⟨fd, hfd⟩ := co.fn g hl
              exact .callF hg hd hfd hp he hk
            · exact .bad
          · rename_i c hd
            split
            · rename_i f hc
              obtain ⟨cd, fd, h1, h2, h3, h4⟩ := co.ini c f hc
              exact .mk hg hd h1 h2 h3 h4 hp he hk
            · exact .bad
          · rename_i hd
            split
            · have hx := bfOf_ok (show bfOf x = some Bf.len by assumption)
              split
              · rename_i hn _
                have hx : x = ("len" : Str) := hx.symm
                subst hx
                cases hk
                exact .lenA (co.nm _ _ (by have := (ixOf_ok hn).2; simpa using this)) he hg hd
              · cases hk
                exact .bf he hx hg hd
            · exact .bf (by assumption) (bfOf_ok (by assumption)) hg hd
            · exact .bad
          · exact .bad
        · split
          · exact .callV (ok.e _ _) rfl he
          · exact .bad
      · exact .bad
    · rename_i o m apos
      split
      · rename_i hh
        simp only [Bool.and_eq_true] at hh
        split
        · refine .bm (mtOf_ok (by assumption)) (ok.e _ _) (ok.e _ _) ?_ hh.1 hh.2
          cases he with | cons h _ _ => exact h
        · split
          · rename_i n hn
            split
            · rename_i hl
              exact .mth (co.nm _ _ (ixOf_ok hn).2) (ok.e _ _) he hk hl hh.1 hh.2
            · exact .bad
          · exact .bad
      · exact .bad
    · split
      · split
        · rename_i hn; exact .callV (ok.e _ _) hn he
        · exact .bad
      · exact .bad
  · exact .bad
theorem plainIx_of {b : Expr} (h : notSlice b = true) : PlainIx b := fun o i => by cases b <;> first | rfl | (simp [notSlice] at h)
theorem cSub_ok (ok : CROk M r) {a b : Expr} {pos : Pos} : CE M Γ (.Subscript a b pos) (cSub r Γ a b) := by
  unfold cSub
  split
  · exact .sli (ok.e _ _) (cO_ok ok) (cO_ok ok)
  · exact .bad
  · rename_i h1 h2
    refine .sub (ok.e _ _) (ok.e _ _) (plainIx_of ?_)
    cases b <;> first | rfl | exact absurd rfl (h2 _ _ _ _)
theorem own_mem {own : List Nat} {l : List Nat} (h : l.all (fun i => own.contains i) = true) : ∀ i ∈ l, i ∈ own := fun i hi => by
  have := List.all_eq_true.mp h i hi
  simpa using this
theorem cLc_ok (ok : CROk M r) {elt : Expr} {gs : List Comprehension} {scope : Scope} {pos : Pos} : CE M Γ (.ListComp elt gs scope pos) (cLc r Γ elt gs scope) := by
  unfold cLc
  split
  · split
    · rename_i stg sifs h1 h2
      split
      · rename_i h
        simp only [Bool.and_eq_true] at h
        exact .lc (cI_ok ok) (blkB_ok h.1.1) (cTg_ok h1) (own_mem h.1.2) (cTs_ok ok h2) (ok.e _ _) h.2
      · exact .bad
    · exact .bad
  · exact .bad
theorem cDc_ok (ok : CROk M r) {kx vx : Expr} {gs : List Comprehension} {scope : Scope} {pos : Pos} : CE M Γ (.DictComp kx vx gs scope pos) (cDc r Γ kx vx gs scope) := by
  unfold cDc
  split
  · split
    · rename_i stg sifs h1 h2
      split
      · rename_i h
        simp only [Bool.and_eq_true] at h
        exact .dc (cI_ok ok) (blkB_ok h.1.1) (cTg_ok h1) (own_mem h.1.2) (cTs_ok ok h2) (ok.e _ _) (ok.e _ _) h.2
      · exact .bad
    · exact .bad
  · exact .bad
theorem cE1_ok (co : CfgOk M C) (ok : CROk M r) {e : Expr} : CE M Γ e (cE1 C r Γ e) := by
  unfold cE1
  split
  · exact cName_ok
  · exact .int
  · exact .str
  · exact .bl
  · exact .non
  · exact .bin (ok.e _ _) (ok.e _ _)
  · exact .neg (ok.e _ _)
  · exact .not (ok.e _ _)
  · split
    · exact .bad
    · rename_i h; exact .cmp (ok.e _ _) (ok.e _ _) (by simpa using h)
  · split
    · exact .bad
    · rename_i h; exact .cmp2 (ok.e _ _) (ok.e _ _) (ok.e _ _) (by simpa using h)
  · exact .and2 (ok.e _ _) (ok.e _ _)
  · exact .and3 (ok.e _ _) (ok.e _ _)
  · exact .or2 (ok.e _ _) (ok.e _ _)
  · exact .or3 (ok.e _ _) (ok.e _ _)
  · exact .ite (ok.t _ _) (ok.e _ _) (ok.e _ _)
  · split
    · rename_i h; exact .tup (cEs_ok ok h)
    · exact .bad
  · split
    · rename_i h; exact .lst (cEs_ok ok h)
    · exact .bad
  · split
    · exact .dctK (ok.e _ _) (ok.e _ _)
    · exact .dctT (ok.e _ _) (ok.e _ _)
  · exact cCall_ok co ok
  · split
    · rename_i hs
      split
      · rename_i n hn; exact .att (co.nm _ _ (ixOf_ok hn).2) (ok.e _ _) hs
      · exact .bad
    · exact .bad
  · exact cSub_ok ok
  · exact cLc_ok ok
  · exact cDc_ok ok
  · exact .fmt (ok.e _ _)
  · exact .fst1 (ok.e _ _)
  · exact .fst (cJ_map ok)
  · exact .bad
theorem cT1_ok (ok : CROk M r) {e : Expr} : CT M Γ e (cT1 r Γ e) := by
  unfold cT1
  split
  · exact .not (ok.t _ _)
  · split
    · exact .bad
    · rename_i h; exact .cmp (ok.e _ _) (ok.e _ _) (by simpa using h)
  · split
    · exact .bad
    · rename_i h; exact .cmp2 (ok.e _ _) (ok.e _ _) (ok.e _ _) (by simpa using h)
  · exact .and2 (ok.t _ _) (ok.t _ _)
  · exact .and3 (ok.t _ _) (ok.t _ _)
  · exact .or2 (ok.t _ _) (ok.t _ _)
  · exact .or3 (ok.t _ _) (ok.t _ _)
  · split
    · rename_i h
      simp only [Bool.and_eq_true] at h
      exact .val (ok.e _ _) (plainTB_ok h.1) (plainSB_ok h.2)
    · exact .bad
theorem cLv_ok (co : CfgOk M C) : ∀ n, CROk M (cLv C n)
  | 0 => ⟨fun _ _ => .bad, fun _ _ => .bad⟩
  | n + 1 => ⟨fun _ _ => cE1_ok co (cLv_ok co n), fun _ _ => cT1_ok (cLv_ok co n)⟩
end
/-! ### statements -/
def isVarS : SE → Bool
  | .var _ => true
  | _ => false
section
variable (C : Cfg) (r : CRec) (g : Gam → List Stmt → List SS)
def badS : SS := .rais (.cst .non)
def cPar (Γ : Gam) (ts vs : List Expr) : SS := if swN Γ.sc ts vs then (match cNms Γ ts, cEs r Γ vs with
    | some is, some ses => if is.length ≤ 100 then .par is ses else badS
    | _, _ => badS) else match ts, vs, cEs r Γ vs with
  | [.Name x px, .Name y py], [a, b], some ses => (match ixOf x Γ.N 0, ixOf y Γ.N 0 with
    | some i, some j => if isLocal Γ x && isLocal Γ y && !(i == j) && (py.line == px.line) && ([x, y].eraseDups.length == 2) && !([a, b].all (foldedForSure 8)) && !([a, b].all (constantsAlone 8)) then .par [i, j] ses else badS
    | _, _ => badS)
  | [.Name x px, .Name y py, .Name z pz], [a, b, c], some ses => (match ixOf x Γ.N 0, ixOf y Γ.N 0, ixOf z Γ.N 0 with
    | some i, some j, some k => if isLocal Γ x && isLocal Γ y && isLocal Γ z && !(i == j) && !(i == k) && !(j == k) && (py.line == px.line) && (pz.line == px.line) && ([x, y, z].eraseDups.length == 3) && !([a, b, c].all (foldedForSure 8)) && !([a, b, c].all (constantsAlone 8)) then .par [i, j, k] ses else badS
    | _, _, _ => badS)
  | ts, _, some ses => (match cNms Γ ts with
    | some is => if decide (is.length ≤ 100) && !(ts.length == 2 || ts.length == 3) then .par is ses else badS
    | none => badS)
  | _, _, _ => badS
def cAsg (Γ : Gam) (tg e : Expr) : SS := match tg with
  | .Name x _ => (match slotS Γ x with
    | some i => if notComp e || !isLocal Γ x then .asg (.nm i) (r.e Γ e) else badS
    | none => badS)
  | .Subscript (.Name x _) k _ => (match slotB Γ x with
    | some i => if notSlice k && notComp e && plainName x then .seti i (r.e Γ k) (r.e Γ e) else badS
    | none => badS)
  | .Attribute (.Name x _) y _ => (match slotB Γ x, ixOf y C.nms 0 with
    | some i, some f => if notComp e && plainName x then .setf i f (r.e Γ e) else badS
    | _, _ => badS)
  | .Tuple ts _ _ => (match e with
    | .Tuple vs _ _ => cPar r Γ ts vs
    | e => (match cTgs Γ 8 ts with
      | some sts => if notComp e && notTupE e then .asg (.tp sts) (r.e Γ e) else badS
      | none => badS))
  | _ => badS
def cExp (Γ : Gam) (e : Expr) : SS := match e with
  | .Call (.Attribute (.Name x _) m apos) [a] [] cpos => if m == ("append" : Str) then (match slotB Γ x with
      | some i => if notStar a && plainName x && (apos.endLine == cpos.line) then .app i (r.e Γ a) else badS
      | none => badS) else .expr (r.e Γ e)
  | e => if notComp e then .expr (r.e Γ e) else badS
def cSt (Γ : Gam) (b : Stmt) : SS := match b with
  | .Pass _ => .pass
  | .Break _ => .brk
  | .Continue _ => .ct
  | .Expr e _ => cExp r Γ e
  | .Return none _ => .ret none
  | .Return (some (.Name x p)) _ => (match slotB Γ x with
    | some i => if plainName x then .ret (some (.var i)) else badS
    | none => if isVarS (r.e Γ (.Name x p)) then badS else .ret (some (r.e Γ (.Name x p))))
  | .Return (some e) _ => if isVarS (r.e Γ e) then badS else .ret (some (r.e Γ e))
  | .If c a b _ => .ife (r.t Γ c) (g Γ a) (g Γ b)
  | .While c b [] _ => .whl (r.t Γ c) (g Γ b)
  | .For tg it b [] _ => (match cTg Γ 8 tg with
    | some stg => if noFold it then .for_ stg (cI r Γ tg it) (g Γ b) else badS
    | none => badS)
  | .Assign [tg] e _ => cAsg C r Γ tg e
  | .AugAssign (.Name x _) op e _ => (match slotS Γ x, op with
    | some i, .Add => .aug i .Add (r.e Γ e)
    | some i, .Sub => .aug i .Sub (r.e Γ e)
    | _, _ => badS)
  | _ => badS
def cSts (Γ : Gam) : List Stmt → List SS
  | [] => []
  | b :: bs => cSt C r g Γ b :: cSts Γ bs
end
/-- n: how deep expressions and blocks may be -/
def cBlk (C : Cfg) (n : Nat) : Nat → Gam → List Stmt → List SS
  | 0 => fun _ b => b.map fun _ => badS
  | m + 1 => cSts C (cLv C n) (cBlk C n m)
section
variable {M : Mt2} {C : Cfg} {r : CRec} {g : Gam → List Stmt → List SS} {Γ : Gam}
theorem notVar {se : SE} (h : isVarS se = false) : ∀ i, se ≠ .var i := fun i e => by subst e; cases h
theorem cPar_ok (ok : CROk M r) {ts vs : List Expr} {kt k2 : Nat} {pt pt2 pos : Pos} : CS M Γ (.Assign [.Tuple ts kt pt] (.Tuple vs k2 pt2) pos) (cPar r Γ ts vs) := by
  unfold cPar
  split
  · rename_i hsw
    split
    · rename_i is ses h1 h2
      split
      · rename_i hl; exact .parG (cEs_ok ok h2) (cNms_ok h1) hl hsw
      · exact .bad
    · exact .bad
  rename_i hsw0
  clear hsw0
  split
  · rename_i x px y py a b ses hs
    have he := cEs_ok ok hs
    split
    · rename_i i j hi hj
      split
      · rename_i h
        simp only [Bool.and_eq_true, Bool.not_eq_true'] at h
        obtain ⟨⟨⟨⟨⟨⟨h1, h2⟩, h3⟩, h4⟩, h5⟩, h6⟩, h7⟩ := h
        cases he with
        | cons n1 c1 he => cases he with
          | cons n2 c2 he =>
            cases he
            exact .par2 (.cons n1 c1 (.cons n2 c2 .nil)) (ixOf_ok hi).2 (ixOf_ok hj).2 (by simpa using h3) (isLocal_ok h1) (isLocal_ok h2) h4 h5 h6 h7
      · exact .bad
    · exact .bad
  · rename_i x px y py z pz a b c ses hs
    have he := cEs_ok ok hs
    split
    · rename_i i j k hi hj hk
      split
      · rename_i h
        simp only [Bool.and_eq_true, Bool.not_eq_true'] at h
        obtain ⟨⟨⟨⟨⟨⟨⟨⟨⟨⟨h1, h2⟩, h3⟩, h4⟩, h5⟩, h6⟩, h7⟩, h8⟩, h9⟩, h10⟩, h11⟩ := h
        cases he with
        | cons n1 c1 he => cases he with
          | cons n2 c2 he => cases he with
            | cons n3 c3 he =>
              cases he
              exact .par3 (.cons n1 c1 (.cons n2 c2 (.cons n3 c3 .nil))) (ixOf_ok hi).2 (ixOf_ok hj).2 (ixOf_ok hk).2 (by simpa using h4) (by simpa using h5) (by simpa using h6) (isLocal_ok h1) (isLocal_ok h2) (isLocal_ok h3) h7 h8 h9 h10 h11
      · exact .bad
    · exact .bad
  · rename_i ses hs
    split
    · rename_i is hi
      split
      · rename_i h
        simp only [Bool.and_eq_true, Bool.not_eq_true', decide_eq_true_eq] at h
        exact .parN (cEs_ok ok (by assumption)) (cNms_ok hi) h.1 h.2
      · exact .bad
    · exact .bad
  · exact .bad
theorem cAsg_ok (co : CfgOk M C) (ok : CROk M r) {tg e : Expr} {pos : Pos} : CS M Γ (.Assign [tg] e pos) (cAsg C r Γ tg e) := by
  unfold cAsg
  split
  · split
    · rename_i i hi
      obtain ⟨h1, h2, h3⟩ := slotS_ok hi
      split
      · rename_i h
        simp only [Bool.or_eq_true, Bool.not_eq_true'] at h
        refine .set (ok.e _ _) h1 h2 h3 (h.imp id fun z e => ?_)
        unfold isLocal at z
        rw [e] at z
        cases z
      · exact .bad
    · exact .bad
  · split
    · rename_i i hi
      obtain ⟨h1, h2⟩ := slotB_ok hi
      split
      · rename_i h
        simp only [Bool.and_eq_true] at h
        exact .seti (ok.e _ _) (ok.e _ _) h.1.1 h.1.2 h1 h2 h.2
      · exact .bad
    · exact .bad
  · split
    · rename_i i f hi hf
      obtain ⟨h1, h2⟩ := slotB_ok hi
      split
      · rename_i h
        simp only [Bool.and_eq_true] at h
        exact .setf (ok.e _ _) (co.nm _ _ (ixOf_ok hf).2) h.1 h1 h2 h.2
      · exact .bad
    · exact .bad
  · split
    · exact cPar_ok ok
    · split
      · rename_i sts ht
        split
        · rename_i h
          simp only [Bool.and_eq_true] at h
          exact .unp (ok.e _ _) (cTgs_ok ht) h.1 h.2
        · exact .bad
      · exact .bad
  · exact .bad
theorem cExp_ok (ok : CROk M r) {e : Expr} {pos : Pos} : CS M Γ (.Expr e pos) (cExp r Γ e) := by
  unfold cExp
  split
  · split
    · rename_i hm
      have hm := eq_of_beq hm
      subst hm
      split
      · rename_i i hi
        obtain ⟨h1, h2⟩ := slotB_ok hi
        split
        · rename_i h
          simp only [Bool.and_eq_true] at h
          exact .app (ok.e _ _) h.1.1 h1 h2 h.1.2 h.2
        · exact .bad
      · exact .bad
    · exact .expr (ok.e _ _) rfl
  · split
    · rename_i h; exact .expr (ok.e _ _) h
    · exact .bad
theorem cSt_ok (co : CfgOk M C) (ok : CROk M r) (hg : ∀ Γ b, CSs M Γ b (g Γ b)) {b : Stmt} : CS M Γ b (cSt C r g Γ b) := by
  unfold cSt
  split
  · exact .pass
  · exact .brk
  · exact .ct
  · exact cExp_ok ok
  · exact .retN
  · split
    · rename_i i hi
      obtain ⟨h1, h2⟩ := slotB_ok hi
      split
      · rename_i hp; exact .retV h1 h2 hp
      · exact .bad
    · split
      · exact .bad
      · rename_i h; exact .ret (ok.e _ _) (notVar (by simpa using h))
  · split
    · exact .bad
    · rename_i h; exact .ret (ok.e _ _) (notVar (by simpa using h))
  · exact .ife (ok.t _ _) (hg _ _) (hg _ _)
  · exact .whl (ok.t _ _) (hg _ _)
  · split
    · rename_i stg ht
      split
      · rename_i h; exact .for_ (cI_ok ok) (cTg_ok ht) (hg _ _) h
      · exact .bad
    · exact .bad
  · exact cAsg_ok co ok
  · split
    · rename_i i hi
      obtain ⟨h1, h2, h3⟩ := slotS_ok hi
      exact .aug (ok.e _ _) (.inl rfl) h1 h2 h3
    · rename_i i hi
      obtain ⟨h1, h2, h3⟩ := slotS_ok hi
      exact .aug (ok.e _ _) (.inr rfl) h1 h2 h3
    · exact .bad
  · exact .bad
theorem cSts_ok (co : CfgOk M C) (ok : CROk M r) (hg : ∀ Γ b, CSs M Γ b (g Γ b)) : ∀ {bs : List Stmt}, CSs M Γ bs (cSts C r g Γ bs)
  | [] => .nil
  | _ :: _ => .cons (cSt_ok co ok hg) (cSts_ok co ok hg)
theorem bad_ok : ∀ {bs : List Stmt}, CSs M Γ bs (bs.map fun _ => badS)
  | [] => .nil
  | _ :: _ => .cons .bad bad_ok
theorem cBlk_ok (co : CfgOk M C) (n : Nat) : ∀ m (Γ : Gam) (b : List Stmt), CSs M Γ b (cBlk C n m Γ b)
  | 0, _, _ => bad_ok
  | m + 1, _, _ => cSts_ok co (cLv_ok co n) (fun Γ b => cBlk_ok co n m Γ b)
end
end TI

end

section
set_option Elab.async false
set_option linter.all false
set_option maxRecDepth 100000
set_option maxHeartbeats 1000000
/-! TI38: a law's program, told; what the head must say of it. -/
namespace TI
open PySem L2 PySem.Spec PyProof.Rows
/-- where a def stands: a global; a class's method; a property's getter -/
inductive Pth where
  | glo (x : Str)
  | met (c m : Str)
  | prp (c m : Str)
def adr (K : PySem.W.Frag) : Pth → Addr
  | .glo x => He.ga K x
  | .met c m => He.ma K (He.ga K c) m
  | .prp c m => match PySem.W.recIn K (He.ma K (He.ga K c) m) "property" with
    | some (.ref g :: _) => g
    | _ => 0
structure FD where
  p : Pth
  name : Str
  qual : Str
  params : Arguments
  body : List Stmt
  scope : Scope
  ps : List Str
  N : List Str
  dfl : List He.Dv
  fd : FnDef
  lams : List Nat
structure CD where
  name : Str
  cd : ClsDef
structure LD where
  t : LamT
  N : List Str
  ld : LamDef
structure Lw where
  nms : List Str
  fns : List FD
  cls : List CD
  lams : List LD
  gl : List (Str × D)
  nCall : Nat
  /-- the defs that make lambdas -/
  mkr : List Nat
def FD0 : FD := ⟨.glo "", "", "", ⟨[], [], none, [], [], none, []⟩, [], ⟨.function, [], false, false, []⟩, [], [], [], ⟨0, [], [], 0, [], false, false⟩, []⟩
def CD0 : CD := ⟨"", {}⟩
def LD0 : LD := ⟨⟨"", ⟨[], [], none, [], [], none, []⟩, .Constant .none 0 ⟨0, 0, 0, 0⟩, ⟨.function, [], false, false, []⟩, [], []⟩, [], ⟨0, 0, 0, bad⟩⟩
def Lw.f (W : Lw) (i : Nat) : FD := (W.fns[i]?).getD FD0
def Lw.c (W : Lw) (i : Nat) : CD := (W.cls[i]?).getD CD0
def Lw.l (W : Lw) (i : Nat) : LD := (W.lams[i]?).getD LD0
def Lw.prg (W : Lw) : Prg := ⟨W.fns.map (·.fd), W.lams.map (·.ld), W.cls.map (·.cd), W.nCall⟩
def Lw.nm (W : Lw) (n : Nat) : Str := match W.nms[n]? with
  | some x => x
  | none => ⟨(List.replicate (n + 1000) 0).toArray⟩
def Lw.glo (W : Lw) (x : Str) : Option D := W.gl.lookup x
def Lw.cfg (W : Lw) : Cfg := ⟨W.nms, W.fns.length, W.cls.map fun c => c.cd.init⟩
def fdAt (K : PySem.W.Frag) (a : Addr) : FuncData := match K.lookup a with
  | some ⟨_, _, .func fd, _⟩ => fd
  | _ => default
def dvAt (K : PySem.W.Frag) (dV : Value) : List Value := match dV with
  | .ref T => match K.lookup T with
    | some ⟨_, _, .seq its _, _⟩ => its.toList
    | _ => []
  | _ => []
def cdAt (K : PySem.W.Frag) (a : Addr) : Addr := match (fdAt K a).code with
  | .ref c => c
  | _ => 0
/-- a maker's code object, its table -/
def Lw.ct (W : Lw) (K : PySem.W.Frag) (f : Nat) : Addr × Addr := (cdAt K (adr K (W.f f).p), He.tabOf K (cdAt K (adr K (W.f f).p)))
def lamQ (q : Str) : Str := (q ++ ".<locals>.") ++ "<lambda>"
def mkM (W : Lw) (K : PySem.W.Frag) (w : World) (mg : Str → Option Value) (base : Heap) (prog : Program) : Mt2 where
  K := K
  P := W.prg
  fnA := fun f => adr K (W.f f).p
  clA := fun c => He.ga K (W.c c).name
  nm := W.nm
  prog := prog
  w := w
  mg := mg
  base := base
  fdat := fun f => fdAt K (adr K (W.f f).p)
  pn := fun f => (W.f f).ps
  dflV := fun f => dvAt K (fdAt K (adr K (W.f f).p)).defaults
  lam := fun l => (W.l l).t
  T := W.mkr.map fun f => ((W.ct K f).2, lamQ (W.f f).qual)
/-! ### the looks -/
def fnWA (K : PySem.W.Frag) (a : Addr) : He.FnW := match K.lookup a with
  | some ⟨_, _, .func fd, _⟩ => some (fd.name, fd.qualname, fd.params, fd.body, fd.scope, fd.globals, fd.closure, fd.builtins)
  | _ => none
def FD.val (d : FD) : He.FnW := some (d.name, d.qual, d.params, .stmts d.body, d.scope, mainGlobals, [], builtinsNs)
def fdB (K : PySem.W.Frag) (d : FD) : Bool := PySem.W.keepIn K (.ref (adr K d.p)) && (match K.lookup (adr K d.p) with
  | some ⟨_, _, .func fd, _⟩ => PySem.W.codeIn K fd.code d.qual && He.dflB K fd.defaults (d.dfl.map (He.Dv.v K))
  | _ => false)
def bts : List Bt := [.int, .str, .bool, .list, .tuple, .dict]
def tns : List String := ["NoneType", "bool", "int", "str", "list", "tuple"]
def btB (K : PySem.W.Frag) : Bool := tns.all fun n => bts.all fun t => decide (PySem.W.kitOne K (.type n) (.type (btName t)) = some (n == btName t || (n == "bool" && t == .int)))
/-- a plain value -/
def dV : D → Option V
  | .non => some .non
  | .bl b => some (.bl b)
  | .int i => some (.int i)
  | .str x => some (.str ⟨x.toArray⟩)
  | _ => none
def conB (K : PySem.W.Frag) (C : Addr) (x : Str) (d : D) : Bool := match dV d, PySem.W.findIn K (.ref C) x with
  | some v, some (some u) => He.relB v u && decide (PySem.W.specialIn K u "__get__" = some none) && !(PySem.W.copiedNames.contains x)
  | _, _ => false
def prpB (K : PySem.W.Frag) (C : Addr) (x : Str) (g : Addr) : Bool := match PySem.W.findIn K (.ref C) x with
  | some (some (.ref p)) => decide (PySem.W.specialIn K (.ref p) "__get__" = some (some (.builtin "property.__get__"))) && decide (PySem.W.takesIn K (.ref p) = some true) && (match PySem.W.recIn K p "property" with
    | some (.ref h :: _) => decide (g = h)
    | _ => false)
  | _ => false
def clB (W : Lw) (K : PySem.W.Frag) (c : CD) : Bool :=
  let C := He.ga K c.name
  PySem.W.plainGet K C Str.empty && PySem.W.hasDictIn K C && PySem.W.plainOver K C && He.eqO (PySem.W.findIn K (.ref C) "__setattr__") (some (some (.builtin "object.__setattr__"))) &&
  He.eqO (PySem.W.findIn K (.ref C) "__class__") (some (some (.builtin "object.__class__"))) && He.eqO (PySem.W.specialIn K (.builtin "object.__class__") "__get__") (some (some (.builtin "getset_descriptor.__get__"))) &&
  decide (PySem.W.takesIn K (.builtin "object.__class__") = some true) && decide (PySem.W.mroIn K C (.type "object") = some true) &&
  W.cls.zipIdx.all (fun q => decide (PySem.W.kitOne K (.ref C) (.ref (He.ga K q.1.name)) = some (c.cd.sups.contains q.2))) &&
  bts.all (fun t => decide (PySem.W.kitOne K (.ref C) (.type (btName t)) = some false)) && tns.all (fun n => decide (PySem.W.kitOne K (.type n) (.ref C) = some false)) &&
  c.cd.flds.all (fun f => He.eqO (PySem.W.findIn K (.ref C) (W.nm f)) (some none)) &&
  c.cd.meths.all (fun q => He.eqO (PySem.W.findIn K (.ref C) (W.nm q.1)) (some (some (.ref (adr K (W.f q.2).p)))) && PySem.W.isFn K (.ref (adr K (W.f q.2).p)) && PySem.W.keepIn K (.ref (adr K (W.f q.2).p)) && decide (q.2 < W.fns.length) && PySem.W.fnIn K (adr K (W.f q.2).p)) &&
  (match c.cd.init with
    | some f => PySem.W.makesIn K C && He.eqO (PySem.W.findIn K (.ref C) "__init__") (some (some (.ref (adr K (W.f f).p)))) && PySem.W.isFn K (.ref (adr K (W.f f).p)) && PySem.W.keepIn K (.ref C)
    | none => true) &&
  c.cd.props.all (fun q => prpB K C (W.nm q.1) (adr K (W.f q.2).p)) && c.cd.cons.all (fun q => conB K C (W.nm q.1) q.2) && decide (W.nm W.nCall = "__call__")
def glB (W : Lw) (K : PySem.W.Frag) (q : Str × D) : Bool := match q.2 with
  | .fn f => He.eqO (PySem.W.nsIn K mainGlobals q.1) (some (some (.ref (adr K (W.f f).p))))
  | .cls c => He.eqO (PySem.W.nsIn K mainGlobals q.1) (some (some (.ref (He.ga K (W.c c).name))))
  | d => match dV d, PySem.W.nsIn K mainGlobals q.1 with
    | some v, some (some u) => He.relB v u
    | _, _ => false
def blB (W : Lw) (K : PySem.W.Frag) : Bool := bltNames.all fun x => (W.gl.lookup x).isSome || He.eqO (PySem.W.nsIn K mainGlobals x) (some none)
def exB (W : Lw) (K : PySem.W.Frag) : Bool := W.fns.all (fdB K) && btB K && W.cls.all (clB W K) && W.gl.all (glB W K) && blB W K
def tbB (W : Lw) (g : Addr → Option Obj) (K : PySem.W.Frag) : Bool := W.mkr.all (fun f => PySem.W.codeHdIn K (W.ct K f).1 (W.ct K f).2 && (match g (W.ct K f).2 with
  | some o => He.emptyTab o
  | none => false)) && decide ((W.mkr.map fun f => (W.ct K f).2).Nodup)
structure Says (W : Lw) (h : Heap) (K : PySem.W.Frag) : Prop where
  fn : W.fns.map (fun d => fnWA K (adr K d.p)) = W.fns.map FD.val
  ex : exB W K = true
  hd : ∀ f ∈ W.mkr, PySem.W.codeHdIn K (W.ct K f).1 (W.ct K f).2 = true
  out : ∀ f ∈ W.mkr, K.lookup (W.ct K f).2 = none
  empty : ∀ f ∈ W.mkr, h.get? (W.ct K f).2 = some { cls := .none, data := .fields #[] }
  nd : (W.mkr.map fun f => (W.ct K f).2).Nodup
abbrev AlL : Type := List He.FnW × Bool
def obsL (n : Nat) (W : Lw) (g : Addr → Option Obj) : AlL := (W.fns.map (fun d => fnWA (He.frT g (He.asD g n)) (adr (He.frT g (He.asD g n)) d.p)), exB W (He.frT g (He.asD g n)) && tbB W g (He.frT g (He.asD g n)))
def valL (W : Lw) : AlL := (W.fns.map FD.val, true)
theorem says_of {n : Nat} {W : Lw} {h : Heap} (e : obsL n W h.get? = valL W) : Says W h (He.frT h.get? (He.asD h.get? n)) := by
  have e1 := congrArg (fun z : AlL => z.1) e
  have e2 : (exB W (He.frT h.get? (He.asD h.get? n)) && tbB W h.get? (He.frT h.get? (He.asD h.get? n))) = true := congrArg (fun z : AlL => z.2) e
  obtain ⟨h1, h2⟩ := He.ba e2
  obtain ⟨h2, h3⟩ := He.ba h2
  have key : ∀ f ∈ W.mkr, PySem.W.codeHdIn (He.frT h.get? (He.asD h.get? n)) (W.ct (He.frT h.get? (He.asD h.get? n)) f).1 (W.ct (He.frT h.get? (He.asD h.get? n)) f).2 = true ∧ ∃ o, h.get? (W.ct (He.frT h.get? (He.asD h.get? n)) f).2 = some o ∧ He.emptyTab o = true := fun f hf => by
    obtain ⟨h3, h4⟩ := He.ba (List.all_eq_true.mp h2 f hf)
    refine ⟨h3, ?_⟩
    cases q : h.get? (W.ct (He.frT h.get? (He.asD h.get? n)) f).2 with
    | none => rw [q] at h4; cases h4
    | some o => rw [q] at h4; exact ⟨o, rfl, h4⟩
  refine ⟨e1, h1, fun f hf => (key f hf).1, fun f hf => ?_, fun f hf => ?_, of_decide_eq_true h3⟩
  · obtain ⟨_, o, q, z⟩ := key f hf
    exact He.frT_none q z
  · obtain ⟨_, o, q, z⟩ := key f hf
    rw [q, He.emptyTab_eq z]
def hookL (n : Nat) (W : Lw) : PySem.W.Hook where
  α := AlL
  obs := fun s => obsL n W s.heap.get?
  val := fun _ => valL W
  says := fun _ h => ∃ K : PySem.W.Frag, K.In h ∧ Says W h K
  of := fun _ _ e => ⟨_, He.frT_in, says_of e⟩
  keeps := fun _ _ _ ⟨K, hK, c⟩ k => ⟨K, PySem.W.Frag.In.keeps hK k, ⟨c.fn, c.ex, c.hd, c.out, fun p hp => k _ _ (c.empty p hp), c.nd⟩⟩
theorem obsL_eq {n : Nat} {W : Lw} {g : Addr → Option Obj} {s : Shared} (h : ∀ a, g a = s.heap.get? a) : obsL n W g = (hookL n W).obs s := by
  have e : g = s.heap.get? := funext h
  rw [e] <;> rfl
end TI

end

section
set_option Elab.async false
set_option linter.all false
set_option maxRecDepth 100000
set_option maxHeartbeats 1000000
/-! TI39: what is said of a law's program makes it sound. -/
namespace TI
open PySem L2 PySem.Spec PyProof.Rows
def LamMk (M : Mt2) (l : Nat) (mk : Option (Str × Value)) : Prop := ∃ q c P, mk = some (q, .ref c) ∧ q ++ "<lambda>" = (M.lam l).qual ∧ LamX.TabB M.base M.mg c P ∧ (P, (M.lam l).qual) ∈ M.T ∧ ∀ p ∈ M.T, p.1 = P → p.2 = (M.lam l).qual
def TxtOk (W : Lw) (d : FD) : Prop := ∀ (M : Mt2) (mk : Option (Str × Value)), CfgOk M W.cfg → (M.lam = fun l => (W.l l).t) → (∀ l ∈ d.lams, LamMk M l mk) → CSs M ⟨d.N, d.scope, W.glo, fun _ => true, mk⟩ d.body d.fd.body
def BndOk (W : Lw) (d : FD) : Prop := ∀ sh ∈ d.fd.shapes, ∀ (kV doc pm : Value) (an : Option Addr) (cdv ct : Value) (T : Addr) (x : Value) (us ws its : List Value), us.length = sh.1 → ws.length = sh.2.1.length → its.length = d.dfl.length →
  ∃ bs, selB us ws its sh.2.2 = some bs ∧ (if d.dfl.isEmpty then bindArgs (PySem.W.fnOf d.name d.qual d.params d.body d.scope .none kV doc pm an cdv ct) ⟨(if d.fd.isInit then [x] else []) ++ us, (sh.2.1.map W.nm).zip ws⟩ = pure (d.ps.zip ((if d.fd.isInit then [x] else []) ++ bs))
    else ∃ k, bindArgs (PySem.W.fnOf d.name d.qual d.params d.body d.scope (.ref T) kV doc pm an cdv ct) ⟨(if d.fd.isInit then [x] else []) ++ us, (sh.2.1.map W.nm).zip ws⟩ = (seqItems? (.ref T) >>= k) ∧ k (some its.toArray) = pure (d.ps.zip ((if d.fd.isInit then [x] else []) ++ bs)))
def LamOkT (W : Lw) (l : LD) : Prop := (∀ M, CfgOk M W.cfg → CE M ⟨l.N, l.t.scope, W.glo, fun _ => false, none⟩ l.t.body l.ld.body) ∧
  ∀ (q : Str) (cl : List (Str × Addr)) (pm cv ctv : Value) (us : List Value), us.length = l.ld.ps → bindArgs (PySem.W.kla_fn "<lambda>" q l.t.params l.t.body l.t.scope cl pm cv ctv) ⟨us, []⟩ = pure (l.t.ps.zip us)
def dvD : He.Dv → D
  | .non => .non
  | .bl b => .bl b
  | .int i => .int i
  | .str x => .str x.cps.toList
  | _ => .ref 0
def dvB : He.Dv → Bool
  | .non => true
  | .bl _ => true
  | .int _ => true
  | .str _ => true
  | _ => false
def fscB (N P : List Str) (sc : Scope) : Bool := decide (sc.kind = .function) && !sc.isCoroutine && !sc.isGenerator && decide N.Nodup && decide (N.take P.length = P) && P.all (fun x => decide (sc.names.lookup x = some .local) || decide (sc.names.lookup x = some .cell)) && sc.names.all (fun y => !decide (y.2 = .free))
theorem fscB_ok {N P : List Str} {sc : Scope} (h : fscB N P sc = true) : FnScope N P sc := by
  unfold fscB at h
  simp only [Bool.and_eq_true, Bool.or_eq_true, Bool.not_eq_true', decide_eq_true_eq, decide_eq_false_iff_not, List.all_eq_true] at h
  obtain ⟨⟨⟨⟨⟨⟨h1, h2⟩, h3⟩, h4⟩, h5⟩, h6⟩, h7⟩ := h
  exact ⟨h1, h2, h3, h4, h5, h6, h7⟩
/-- what can be decided of the texts alone -/
def stB (W : Lw) : Bool :=
  W.fns.all (fun d => fscB d.N d.ps d.scope && (d.fd.slots == d.N.length) && (d.ps.length == d.fd.np) && d.fd.shapes.all (fun sh => sh.2.2.length + (if d.fd.isInit then 1 else 0) == d.fd.np) && d.dfl.all dvB && (d.fd.dfl.length == d.dfl.length) && d.lams.all (fun l => decide ((W.l l).t.qual = lamQ d.qual) && decide (l < W.lams.length))) && W.fns.zipIdx.all (fun q => q.1.lams.isEmpty || decide (q.2 ∈ W.mkr)) &&
  W.mkr.all (fun f => decide (f < W.fns.length)) &&
  W.lams.all (fun l => NdefX.nscB l.N l.t.ps l.t.fr l.t.scope && (l.ld.slots == l.N.length) && (l.t.ps.length == l.ld.ps) && (l.t.fr.length == l.ld.cs)) &&
  W.cls.all (fun c => match c.cd.init with
    | some f => decide (f < W.fns.length) && (W.f f).fd.isInit
    | none => true) &&
  decide W.nms.Nodup && W.nms.all (fun x => decide (x.cps.size < 1000))
structure StOk (W : Lw) : Prop where
  dec : stB W = true
  txt : ∀ d ∈ W.fns, TxtOk W d
  bnd : ∀ d ∈ W.fns, BndOk W d
  dfl : ∀ d ∈ W.fns, d.fd.dfl = d.dfl.map dvD
  lam : ∀ l ∈ W.lams, LamOkT W l
section
variable {W : Lw} {K : PySem.W.Frag} {w : World} {mg : Str → Option Value} {base h : Heap} {prog : Program}
theorem W_f {i : Nat} {d : FD} (e : W.fns[i]? = some d) : W.f i = d := by unfold Lw.f; rw [e]; rfl
theorem W_fm {i : Nat} (e : i < W.fns.length) : W.fns[i]? = some (W.f i) := by unfold Lw.f; rw [List.getElem?_eq_getElem e]; rfl
theorem W_fd {i : Nat} {fd : FnDef} (e : W.prg.fns[i]? = some fd) : ∃ d, W.fns[i]? = some d ∧ d.fd = fd := by
  have e : (W.fns.map (·.fd))[i]? = some fd := e
  rw [List.getElem?_map] at e
  exact Option.map_eq_some_iff.mp e
theorem W_cd {i : Nat} {cd : ClsDef} (e : W.prg.clss[i]? = some cd) : ∃ d, W.cls[i]? = some d ∧ d.cd = cd := by
  have e : (W.cls.map (·.cd))[i]? = some cd := e
  rw [List.getElem?_map] at e
  exact Option.map_eq_some_iff.mp e
theorem W_ld {i : Nat} {ld : LamDef} (e : W.prg.lams[i]? = some ld) : ∃ d, W.lams[i]? = some d ∧ d.ld = ld := by
  have e : (W.lams.map (·.ld))[i]? = some ld := e
  rw [List.getElem?_map] at e
  exact Option.map_eq_some_iff.mp e
theorem W_c {i : Nat} {d : CD} (e : W.cls[i]? = some d) : W.c i = d := by unfold Lw.c; rw [e]; rfl
theorem W_l {i : Nat} {d : LD} (e : W.lams[i]? = some d) : W.l i = d := by unfold Lw.l; rw [e]; rfl
theorem nm_inj (h1 : W.nms.Nodup) (h2 : ∀ x ∈ W.nms, x.cps.size < 1000) : ∀ f g, W.nm f = W.nm g → f = g := by
  intro f g e
  unfold Lw.nm at e
  cases hf : W.nms[f]? with
  | some x =>
    cases hg : W.nms[g]? with
    | some y =>
      rw [hf, hg] at e
      have e : x = y := e
      subst e
      obtain ⟨lf, ef⟩ := List.getElem?_eq_some_iff.mp hf
      obtain ⟨lg, eg⟩ := List.getElem?_eq_some_iff.mp hg
      exact (List.getElem_inj (h₀ := lf) (h₁ := lg) h1).mp (ef.trans eg.symm)
    | none =>
      rw [hf, hg] at e
      have e : x = ⟨(List.replicate (g + 1000) 0).toArray⟩ := e
      have := h2 x (List.mem_of_getElem? hf)
      rw [e] at this
      simp at this
      omega
  | none =>
    cases hg : W.nms[g]? with
    | some y =>
      rw [hf, hg] at e
      have e : (⟨(List.replicate (f + 1000) 0).toArray⟩ : Str) = y := e
      have := h2 y (List.mem_of_getElem? hg)
      rw [← e] at this
      simp at this
      omega
    | none =>
      rw [hf, hg] at e
      have e : (⟨(List.replicate (f + 1000) 0).toArray⟩ : Str) = ⟨(List.replicate (g + 1000) 0).toArray⟩ := e
      have := congrArg (fun x : Str => x.cps.size) e
      simp at this
      exact this
theorem dV_rep {M : Mt2} {d : D} {v : V} (e : dV d = some v) : ∀ ρ O H, Rep M ρ O H d v := fun ρ O H => by
  cases d <;> simp [dV] at e <;> subst e <;> simp [Rep]
theorem dv_rep {M : Mt2} {d : He.Dv} (h : dvB d = true) : ∀ ρ O H, Rep M ρ O H (dvD d) (d.v K) := fun ρ O H => by
  cases d <;> first | (simp [Rep, dvD, He.Dv.v]; done) | (simp [dvB] at h)
theorem dv_reps {M : Mt2} : ∀ {ds : List He.Dv}, ds.all dvB = true → ∀ ρ O H, Reps M ρ O H (ds.map dvD) (ds.map (He.Dv.v K))
  | [], _, _, _, _ => .nil
  | d :: ds, h, ρ, O, H => by
    simp only [List.all_cons, Bool.and_eq_true] at h
    exact .cons (dv_rep h.1 ρ O H) (dv_reps h.2 ρ O H)
theorem exB_ok (h : exB W K = true) : (∀ d ∈ W.fns, fdB K d = true) ∧ btB K = true ∧ (∀ c ∈ W.cls, clB W K c = true) ∧ (∀ q ∈ W.gl, glB W K q = true) ∧ blB W K = true := by
  unfold exB at h
  simp only [Bool.and_eq_true, List.all_eq_true] at h
  exact ⟨h.1.1.1.1, h.1.1.1.2, h.1.1.2, h.1.2, h.2⟩
theorem mg_ok (hgl : ∀ q ∈ W.gl, glB W K q = true) (hbl : blB W K = true) (X : K.In base) (G : base.Ns mainGlobals mg) : MgOk (mkM W K w mg base prog) W.glo := by
  refine ⟨fun x d e => ?_, fun x e hb => ?_⟩
  · have hq := hgl (x, d) (PySem.mem_of_lookup e)
    unfold glB at hq
    split at hq
    · rename_i f hf
      have hf : d = .fn f := hf
      subst hf
      exact ⟨_, .ref (adr K (W.f f).p), PySem.W.mg_of X G (He.eqO_ok hq), rfl, fun _ _ _ => by simp [Rep, mkM]⟩
    · rename_i c hc
      have hc : d = .cls c := hc
      subst hc
      exact ⟨_, .ref (He.ga K (W.c c).name), PySem.W.mg_of X G (He.eqO_ok hq), rfl, fun _ _ _ => by simp [Rep, mkM]⟩
    · split at hq
      · rename_i v u h1 h2
        exact ⟨u, v, PySem.W.mg_of X G h2, He.relB_ok hq, dV_rep h1⟩
      · cases hq
  · unfold blB at hbl
    have hx : x ∈ bltNames := by simpa [bltB] using hb
    have := List.all_eq_true.mp hbl x hx
    have e : W.gl.lookup x = none := e
    rw [e] at this
    exact PySem.W.mg_none_of X G (He.eqO_ok (by simpa using this))
theorem mem_lk {α : Type} : ∀ {l : List (Nat × α)} {m : Nat} {x : α}, l.lookup m = some x → (m, x) ∈ l
  | [], _, _, h => by cases h
  | (n, y) :: l, m, x, h => by
    simp only [List.lookup] at h
    split at h
    · rename_i e
      have e : m = n := by simpa using e
      cases h
      rw [e]
      exact List.mem_cons_self
    · exact List.mem_cons_of_mem _ (mem_lk h)
theorem map_inj {α β : Type} {φ : α → β} : ∀ {l : List α} {a b : α}, (l.map φ).Nodup → a ∈ l → b ∈ l → φ a = φ b → a = b
  | [], _, _, _, h, _, _ => by cases h
  | c :: l, a, b, nd, ha, hb, e => by
    simp only [List.map_cons, List.nodup_cons, List.mem_map, not_exists, not_and] at nd
    rcases List.mem_cons.mp ha with ea | ha2
    · rcases List.mem_cons.mp hb with eb | hb2
      · rw [ea, eb]
      · rw [ea] at e
        exact absurd e.symm (nd.1 b hb2)
    · rcases List.mem_cons.mp hb with eb | hb2
      · rw [eb] at e
        exact absurd e (nd.1 a ha2)
      · exact map_inj nd.2 ha2 hb2 e
theorem cls_ok (hc : ∀ c ∈ W.cls, clB W K c = true) {i : Nat} {c : CD} (e : W.cls[i]? = some c) : ClsOk (mkM W K w mg base prog) i c.cd := by
  have h := hc c (List.mem_of_getElem? e)
  have hC : (mkM W K w mg base prog).clA i = He.ga K c.name := by show He.ga K (W.c i).name = _; rw [W_c e]
  unfold clB at h
  simp only [Bool.and_eq_true, decide_eq_true_eq, List.all_eq_true, Bool.not_eq_true'] at h
  obtain ⟨⟨⟨⟨⟨⟨⟨⟨⟨⟨⟨⟨⟨⟨⟨⟨h1, h2⟩, h3⟩, h4⟩, h5⟩, h6⟩, h7⟩, h8⟩, h9⟩, h10⟩, h11⟩, h12⟩, h13⟩, h14⟩, h15⟩, h16⟩, h17⟩ := h
  have meth : ∀ m f, c.cd.meths.lookup m = some f → Meth K (He.ga K c.name) (W.nm m) (adr K (W.f f).p) ∧ f < W.fns.length ∧ PySem.W.fnIn K (adr K (W.f f).p) = true := fun m f hl => by
    obtain ⟨⟨⟨⟨q1, q2⟩, q3⟩, q4⟩, q5⟩ := h13 (m, f) (mem_lk hl)
    exact ⟨⟨He.eqO_ok q1, q2, q3⟩, q4, q5⟩
  constructor
  · rw [hC]; exact ⟨h1, h2, h3, He.eqO_ok h4⟩
  · rw [hC]; exact He.eqO_ok h5
  · exact He.eqO_ok h6
  · exact h7
  · rw [hC]; exact h8
  · intro c' cd' e'
    obtain ⟨d', q1, q2⟩ := W_cd e'
    rw [hC]
    show PySem.W.kitOne K _ (.ref (He.ga K (W.c c').name)) = _
    rw [W_c q1]
    refine h9 (d', c') ?_
    rw [List.mem_zipIdx_iff_getElem?]
    exact q1
  · intro t
    rw [hC]
    exact h10 t (by cases t <;> decide)
  · intro n hn
    rw [hC]
    exact h11 n hn
  · intro f hf
    rw [hC]
    exact He.eqO_ok (h12 f hf)
  · intro m f hl
    rw [hC]
    exact (meth m f hl).1
  · intro m f hl
    refine ⟨(W.f f).fd, ?_⟩
    show (W.fns.map (·.fd))[f]? = _
    rw [List.getElem?_map, W_fm (meth m f hl).2.1]; rfl
  · intro f hl
    rw [hC]
    obtain ⟨q1, q2, q3⟩ := meth W.nCall f hl
    have := q1.at_
    rw [h17] at this
    exact ⟨this, q1.fn, q3⟩
  · intro f hf
    rw [hC]
    rw [hf] at h14
    simp only [Bool.and_eq_true] at h14
    exact ⟨h14.1.1.1, He.eqO_ok h14.1.1.2, h14.1.2, h14.2⟩
  · intro m f hl
    rw [hC]
    have := h15 (m, f) (mem_lk hl)
    unfold prpB at this
    split at this
    · rename_i p hp
      simp only [Bool.and_eq_true, decide_eq_true_eq] at this
      obtain ⟨⟨a1, a2⟩, a3⟩ := this
      split at a3
      · rename_i g rest hr
        have a3 := of_decide_eq_true a3
        refine ⟨p, hp, a1, a2, rest, ?_⟩
        show PySem.W.recIn K p "property" = some (.ref (adr K (W.f f).p) :: rest)
        rw [hr, a3]
      · cases a3
    · cases this
  · intro m d hl
    rw [hC]
    have := h16 (m, d) (mem_lk hl)
    unfold conB at this
    split at this
    · rename_i v u h1 h2
      simp only [Bool.and_eq_true, decide_eq_true_eq, Bool.not_eq_true'] at this
      exact ⟨v, u, ⟨h2, He.relB_ok this.1.1, this.1.2, this.2⟩, dV_rep h1⟩
    · cases this
theorem fn_at (S : Says W h K) {i : Nat} {d : FD} (e : W.fns[i]? = some d) : ∃ (oc : Value) (od : Option Addr) (dV kV doc pm : Value) (an : Option Addr) (cdv ct : Value) (osl : Array (Option Value)),
    K.lookup (adr K d.p) = some ⟨oc, od, .func (PySem.W.fnOf d.name d.qual d.params d.body d.scope dV kV doc pm an cdv ct), osl⟩ ∧ PySem.W.codeIn K cdv d.qual = true ∧ DflV K dV (d.dfl.map (He.Dv.v K)) ∧ PySem.W.keepIn K (.ref (adr K d.p)) = true := by
  have hf := (exB_ok S.ex).1 d (List.mem_of_getElem? e)
  have e2 : (W.fns.map fun d => fnWA K (adr K d.p))[i]? = (W.fns.map FD.val)[i]? := by rw [S.fn]
  rw [List.getElem?_map, List.getElem?_map, e] at e2
  have e3 : fnWA K (adr K d.p) = d.val := Option.some.inj e2
  unfold fdB at hf
  obtain ⟨kp, c2⟩ := He.ba hf
  unfold fnWA at e3
  cases q : K.lookup (adr K d.p) with
  | none => rw [q] at c2; cases c2
  | some o =>
    obtain ⟨oc, od, dt, osl⟩ := o
    rw [q] at c2 e3
    cases dt with
    | func fd =>
      obtain ⟨n1, n2, n3, n4, n5, n6, n7, n8, n9, n10, n11, n12, n13, n14, n15⟩ := fd
      have e4 : (some (n1, n2, n3, n4, n5, n6, n7, n15) : He.FnW) = some (d.name, d.qual, d.params, .stmts d.body, d.scope, mainGlobals, [], builtinsNs) := e3
      simp only [Option.some.injEq, Prod.mk.injEq] at e4
      obtain ⟨h1, h2, h3, h4, h5, h6, h7, h8⟩ := e4
      subst h1 h2 h3 h4 h5 h6 h7 h8
      have c3 : (PySem.W.codeIn K n13 d.qual && He.dflB K n8 (d.dfl.map (He.Dv.v K))) = true := c2
      obtain ⟨k1, k2⟩ := He.ba c3
      exact ⟨oc, od, n8, n9, n10, n11, n12, n13, n14, osl, rfl, k1, He.dflB_ok k2, kp⟩
    | _ => cases c2
theorem fdAt_of {a : Addr} {oc : Value} {od : Option Addr} {fd : FuncData} {osl : Array (Option Value)} (e : K.lookup a = some ⟨oc, od, .func fd, osl⟩) : fdAt K a = fd := by unfold fdAt; rw [e]
structure StF (W : Lw) (d : FD) : Prop where
  sc : FnScope d.N d.ps d.scope
  slots : d.fd.slots = d.N.length
  np : d.ps.length = d.fd.np
  shl : ∀ sh ∈ d.fd.shapes, sh.2.2.length + (if d.fd.isInit then 1 else 0) = d.fd.np
  dfl : d.dfl.all dvB = true
  lam : ∀ l ∈ d.lams, (W.l l).t.qual = lamQ d.qual ∧ l < W.lams.length
theorem st_f (h : stB W = true) {d : FD} (hd : d ∈ W.fns) : StF W d := by
  unfold stB at h
  simp only [Bool.and_eq_true] at h
  have := List.all_eq_true.mp h.1.1.1.1.1.1 d hd
  simp only [Bool.and_eq_true, List.all_eq_true, decide_eq_true_eq, beq_iff_eq, Bool.or_eq_true, List.isEmpty_iff] at this
  obtain ⟨⟨⟨⟨⟨⟨h1, h2⟩, h3⟩, h4⟩, h5⟩, h6⟩, h7⟩ := this
  exact ⟨fscB_ok h1, h2, h3, h4, List.all_eq_true.mpr h5, h7⟩
theorem st_mkr (h : stB W = true) {i : Nat} {d : FD} (e : W.fns[i]? = some d) (hl : d.lams ≠ []) : i ∈ W.mkr := by
  unfold stB at h
  simp only [Bool.and_eq_true] at h
  have := List.all_eq_true.mp h.1.1.1.1.1.2 (d, i) (by rw [List.mem_zipIdx_iff_getElem?]; exact e)
  simp only [Bool.or_eq_true, List.isEmpty_iff, decide_eq_true_eq] at this
  exact this.elim (fun z => absurd z hl) id
theorem dvAt_of {dV : Value} {dvs : List V} (h : DflV K dV dvs) : Vals dvs (dvAt K dV) ∧ ((dvs = [] ∧ dV = .none) ∨ (dvs ≠ [] ∧ ∃ T o n, dV = .ref T ∧ K.lookup T = some o ∧ o.data = .seq (dvAt K dV).toArray n)) := by
  rcases h with ⟨rfl, rfl⟩ | ⟨hn, T, o, its, n, rfl, lT, oT, rT⟩
  · exact ⟨.nil, .inl ⟨rfl, rfl⟩⟩
  · have e : dvAt K (.ref T) = its := by
      unfold dvAt
      obtain ⟨c, dd, dt, sl⟩ := o
      have oT : dt = .seq its.toArray n := oT
      subst oT
      simp only [lT]
    rw [e]
    exact ⟨rT, .inr ⟨hn, T, o, n, rfl, lT, oT⟩⟩
theorem fact_ok (S : Says W h K) (st : StOk W) {i : Nat} {d : FD} (e : W.fns[i]? = some d) : FnFact (mkM W K w mg base prog) i d.fd := by
  have hd := List.mem_of_getElem? e
  have sf := st_f st.dec hd
  obtain ⟨oc, od, dV, kV, doc, pm, an, cdv, ct, osl, lk, hcd, hdv, kp⟩ := fn_at S e
  obtain ⟨rv, hcase⟩ := dvAt_of hdv
  have eA : (mkM W K w mg base prog).fnA i = adr K d.p := by show adr K (W.f i).p = _; rw [W_f e]
  have eF : (mkM W K w mg base prog).fdat i = PySem.W.fnOf d.name d.qual d.params d.body d.scope dV kV doc pm an cdv ct := by show fdAt K (adr K (W.f i).p) = _; rw [W_f e]; exact fdAt_of lk
  have eD : (mkM W K w mg base prog).dflV i = dvAt K dV := by show dvAt K (fdAt K (adr K (W.f i).p)).defaults = _; rw [W_f e, fdAt_of lk]
  have eP : (mkM W K w mg base prog).pn i = d.ps := by show (W.f i).ps = _; rw [W_f e]
  have bind : ∀ sh ∈ d.fd.shapes, ∀ (s : Shared) (x : Value) (us ws : List Value), K.In s.heap → us.length = sh.1 → ws.length = sh.2.1.length →
      ∃ bs, selB us ws (dvAt K dV) sh.2.2 = some bs ∧ BindsTo s (PySem.W.fnOf d.name d.qual d.params d.body d.scope dV kV doc pm an cdv ct) ⟨(if d.fd.isInit then [x] else []) ++ us, (sh.2.1.map W.nm).zip ws⟩ (d.ps.zip ((if d.fd.isInit then [x] else []) ++ bs)) := by
    intro sh hs s x us ws hin h1 h2
    have hl : (dvAt K dV).length = d.dfl.length := by rw [← rv.length, List.length_map]
    rcases hcase with ⟨c1, rfl⟩ | ⟨c1, T, o, n, rfl, lT, oT⟩
    · obtain ⟨bs, b1, b2⟩ := st.bnd d hd sh hs kV doc pm an cdv ct 0 x us ws _ h1 h2 hl
      have c2 : d.dfl.isEmpty = true := by
        cases q : d.dfl with
        | nil => rfl
        | cons a b => rw [q] at c1; simp at c1
      rw [if_pos c2] at b2
      exact ⟨bs, b1, .of_eq b2⟩
    · obtain ⟨bs, b1, b2⟩ := st.bnd d hd sh hs kV doc pm an cdv ct T x us ws _ h1 h2 hl
      have c2 : ¬ d.dfl.isEmpty = true := by
        cases q : d.dfl with
        | nil => rw [q] at c1; simp at c1
        | cons a b => simp
      rw [if_neg c2] at b2
      obtain ⟨k, b3, b4⟩ := b2
      refine ⟨bs, b1, BindsTo.of_looks fun M => ?_⟩
      rw [b3]
      exact looks_items hin lT oT (.of_pure b4)
  refine ⟨by rw [eP]; exact sf.np, by rw [eA]; exact kp, fun hi sh hs s us ws hin h1 h2 => ?_, fun hi sh hs s x us ws hin h1 h2 => ?_, sf.shl, ⟨d.dfl.map (He.Dv.v K), by rw [eD]; exact rv, fun ρ O H => ?_⟩⟩
  · obtain ⟨bs, b1, b2⟩ := bind sh hs s .none us ws hin h1 h2
    rw [hi] at b2
    rw [eD, eF, eP]
    exact ⟨bs, b1, b2⟩
  · obtain ⟨bs, b1, b2⟩ := bind sh hs s x us ws hin h1 h2
    rw [hi] at b2
    rw [eD, eF, eP]
    exact ⟨bs, b1, b2⟩
  · rw [st.dfl d hd]
    exact dv_reps sf.dfl ρ O H
theorem cfg_ok (st : StOk W) : CfgOk (mkM W K w mg base prog) W.cfg := by
  refine ⟨fun i x e => ?_, fun f hf => ?_, fun c f e => ?_⟩
  · show W.nm i = x
    unfold Lw.nm
    have e : W.nms[i]? = some x := e
    rw [e]
  · refine ⟨(W.f f).fd, ?_⟩
    show (W.fns.map (·.fd))[f]? = _
    rw [List.getElem?_map, W_fm hf]; rfl
  · have e : (W.cls.map fun c => c.cd.init)[c]? = some (some f) := e
    rw [List.getElem?_map] at e
    obtain ⟨d, e1, e2⟩ := Option.map_eq_some_iff.mp e
    have hs := st.dec
    unfold stB at hs
    simp only [Bool.and_eq_true] at hs
    have := List.all_eq_true.mp hs.1.1.2 d (List.mem_of_getElem? e1)
    rw [e2] at this
    simp only [Bool.and_eq_true, decide_eq_true_eq] at this
    refine ⟨d.cd, (W.f f).fd, ?_, e2, ?_, this.2⟩
    · show (W.cls.map (·.cd))[c]? = _
      rw [List.getElem?_map, e1]; rfl
    · show (W.fns.map (·.fd))[f]? = _
      rw [List.getElem?_map, W_fm this.1]; rfl
theorem codeRef {cdv : Value} {q : Str} (h : PySem.W.codeIn K cdv q = true) : ∃ c, cdv = .ref c := He.codeIn_ref h
theorem prg_ok (S : Says W h K) (st : StOk W) (X : K.In base) (G : base.Ns mainGlobals mg) (TB : ∀ f ∈ W.mkr, LamX.TabB base mg (W.ct K f).1 (W.ct K f).2) : PrgOk (mkM W K w mg base prog) := by
  obtain ⟨x1, x2, x3, x4, x5⟩ := exB_ok S.ex
  have hs := st.dec
  unfold stB at hs
  simp only [Bool.and_eq_true, decide_eq_true_eq] at hs
  have mg0 := mg_ok (w := w) (prog := prog) x4 x5 X G
  refine ⟨⟨fun c cd e => ?_, nm_inj hs.1.2 fun x hx => by simpa using List.all_eq_true.mp hs.2 x hx, fun n t hn => ?_⟩, fun f fd e => ?_, fun f fd e => ?_, fun l ld e => ?_⟩
  · obtain ⟨d, q1, q2⟩ := W_cd e
    rw [← q2]
    exact cls_ok x3 q1
  · unfold btB at x2
    have := List.all_eq_true.mp (List.all_eq_true.mp x2 n hn) t (by cases t <;> decide)
    exact of_decide_eq_true this
  · obtain ⟨d, q1, q2⟩ := W_fd e
    rw [← q2]
    exact fact_ok S st q1
  · obtain ⟨d, q1, q2⟩ := W_fd e
    have hd := List.mem_of_getElem? q1
    have sf := st_f st.dec hd
    obtain ⟨oc, od, dV, kV, doc, pm, an, cdv, ct, osl, lk, hcd, hdv, kp⟩ := fn_at S q1
    have eA : (mkM W K w mg base prog).fnA f = adr K d.p := by show adr K (W.f f).p = _; rw [W_f q1]
    have eF : (mkM W K w mg base prog).fdat f = PySem.W.fnOf d.name d.qual d.params d.body d.scope dV kV doc pm an cdv ct := by show fdAt K (adr K (W.f f).p) = _; rw [W_f q1]; exact fdAt_of lk
    have eP : (mkM W K w mg base prog).pn f = d.ps := by show (W.f f).ps = _; rw [W_f q1]
    refine ⟨d.N, d.body, d.scope, W.glo, fun _ => true, d.qual, cdv, ⟨⟨d.name, d.params, dV, kV, doc, pm, an, od, ct, oc, osl, eF, by rw [eA]; exact lk, hcd⟩, by rw [eP]; exact sf.sc, by rw [← q2]; exact sf.slots, by rw [eP, ← q2]; exact sf.np, mg0⟩, ?_⟩
    rw [← q2]
    refine st.txt d hd _ _ (cfg_ok st) rfl fun l hl => ?_
    obtain ⟨l1, l2⟩ := sf.lam l hl
    obtain ⟨c, hc⟩ := codeRef hcd
    subst hc
    have hm := st_mkr st.dec q1 fun z => by rw [z] at hl; cases hl
    have ec : (W.ct K f).1 = c := by
      show cdAt K (adr K (W.f f).p) = c
      unfold cdAt
      rw [W_f q1, fdAt_of lk]
    have eq : (W.f f).qual = d.qual := by rw [W_f q1]
    have tb := TB f hm
    rw [ec] at tb
    refine ⟨d.qual ++ ".<locals>.", c, (W.ct K f).2, rfl, l1.symm, tb, ?_, fun p hp e => ?_⟩
    · show _ ∈ W.mkr.map fun f => ((W.ct K f).2, lamQ (W.f f).qual)
      refine List.mem_map.mpr ⟨f, hm, ?_⟩
      rw [eq]
      exact congrArg _ l1.symm
    · obtain ⟨g, hg, rfl⟩ := List.mem_map.mp hp
      have : g = f := map_inj S.nd hg hm e
      subst this
      show lamQ (W.f g).qual = (W.l l).t.qual
      rw [eq, l1]
  · obtain ⟨d, q1, q2⟩ := W_ld e
    have hl := List.mem_of_getElem? q1
    have := List.all_eq_true.mp hs.1.1.1.2 d hl
    simp only [Bool.and_eq_true, beq_iff_eq] at this
    obtain ⟨⟨⟨h1, h2⟩, h3⟩, h4⟩ := this
    obtain ⟨t1, t2⟩ := st.lam d hl
    have eL : (mkM W K w mg base prog).lam l = d.t := by show (W.l l).t = _; rw [W_l q1]
    refine ⟨d.N, W.glo, ⟨by rw [eL]; exact NdefX.nscope_by h1, by rw [← q2]; exact h2, by rw [eL, ← q2]; exact h3, by rw [eL, ← q2]; exact h4, mg0, ?_⟩, ?_⟩
    · rw [eL, ← q2]; exact t2
    · rw [eL, ← q2]; exact t1 _ (cfg_ok st)
end
end TI

end

section
set_option Elab.async false
set_option linter.all false
set_option maxRecDepth 100000
set_option maxHeartbeats 1000000
/-! TI40: lambdas in a text's code; the law's end. -/
namespace TI
open PySem L2 PySem.Spec PyProof.Rows
/-! ### calls with lambdas -/
def cArgsL (r : CRec) (Γ : Gam) : List Expr → List (Nat × List Nat) → List SE
  | [], _ => []
  | .Lambda _ _ _ _ :: es, q :: ls => .lam q.1 q.2 :: cArgsL r Γ es ls
  | e :: es, ls => r.e Γ e :: cArgsL r Γ es ls
def isLamE : Expr → Bool
  | .Lambda _ _ _ _ => true
  | _ => false
def LamsHere (M : Mt2) (r : CRec) (Γ : Gam) : List Expr → List (Nat × List Nat) → Prop
  | [], _ => True
  | .Lambda params body scope _ :: es, q :: ls => LamHere M Γ q.1 params body scope q.2 ∧ LamsHere M r Γ es ls
  | e :: es, ls => (notStar e = true ∧ isLam (r.e Γ e) = false) ∧ LamsHere M r Γ es ls
theorem cArgsL_ok {M : Mt2} {r : CRec} {Γ : Gam} (ok : CROk M r) : ∀ {es : List Expr} {ls : List (Nat × List Nat)}, LamsHere M r Γ es ls → CLs M Γ es (cArgsL r Γ es ls)
  | [], _, _ => .nil
  | e :: es, ls, h => by
    by_cases hl : isLamE e = true
    · cases e <;> first | (simp [isLamE] at hl; done) | skip
      cases ls with
      | nil => exact .cons h.1.1 h.1.2 (ok.e _ _) (cArgsL_ok ok h.2)
      | cons q ls => exact .lam h.1 (cArgsL_ok ok h.2)
    · have h' : (notStar e = true ∧ isLam (r.e Γ e) = false) ∧ LamsHere M r Γ es ls := by
        cases e <;> first | exact h | (simp [isLamE] at hl)
      have e1 : cArgsL r Γ (e :: es) ls = r.e Γ e :: cArgsL r Γ es ls := by
        cases e <;> first | rfl | (simp [isLamE] at hl)
      rw [e1]
      exact .cons h'.1.1 h'.1.2 (ok.e _ _) (cArgsL_ok ok h'.2)
/-- f(.., lambda .., ..) -/
def cCallL (C : Cfg) (r : CRec) (Γ : Gam) (ls : List (Nat × List Nat)) (e : Expr) : SE := match e with
  | .Call (.Name x _) (a :: as) [] _ => if plainName x && isGlob Γ x then (match Γ.gl x with
    | some (.fn f) => if f < C.nf then .callL f (cArgsL r Γ (a :: as) ls) else bad
    | _ => bad) else bad
  | _ => bad
def argsOf : Expr → List Expr
  | .Call _ as _ _ => as
  | _ => []
theorem cCallL_ok {M : Mt2} {C : Cfg} {r : CRec} {Γ : Gam} (co : CfgOk M C) (ok : CROk M r) {ls : List (Nat × List Nat)} {e : Expr} (h : LamsHere M r Γ (argsOf e) ls) : CE M Γ e (cCallL C r Γ ls e) := by
  unfold cCallL
  split
  · split
    · rename_i hp
      simp only [Bool.and_eq_true] at hp
      split
      · rename_i f hf
        split
        · rename_i hl
          obtain ⟨fd, hfd⟩ := co.fn f hl
          exact .callL (isGlob_ok hp.2) hf hfd hp.1 (cArgsL_ok ok h)
        · exact .bad
      · exact .bad
    · exact .bad
  · exact .bad
/-- x.y = f(.., lambda .., ..); return f(.., lambda .., ..) -/
def cStL (C : Cfg) (r : CRec) (Γ : Gam) (ls : List (Nat × List Nat)) (b : Stmt) : SS := match b with
  | .Assign [.Attribute (.Name x _) y _] e _ => (match slotB Γ x, ixOf y C.nms 0 with
    | some i, some f => if notComp e && plainName x then .setf i f (cCallL C r Γ ls e) else badS
    | _, _ => badS)
  | .Return (some e) _ => if isVarS (cCallL C r Γ ls e) then badS else .ret (some (cCallL C r Γ ls e))
  | _ => badS
def valOf : Stmt → Expr
  | .Assign _ e _ => e
  | .Return (some e) _ => e
  | _ => .Constant .none 0 ⟨0, 0, 0, 0⟩
theorem cStL_ok {M : Mt2} {C : Cfg} {r : CRec} {Γ : Gam} (co : CfgOk M C) (ok : CROk M r) {ls : List (Nat × List Nat)} {b : Stmt} (h : LamsHere M r Γ (argsOf (valOf b)) ls) : CS M Γ b (cStL C r Γ ls b) := by
  unfold cStL
  split
  · split
    · rename_i i f hi hf
      obtain ⟨h1, h2⟩ := slotB_ok hi
      split
      · rename_i q
        simp only [Bool.and_eq_true] at q
        exact .setf (cCallL_ok co ok h) (co.nm _ _ (ixOf_ok hf).2) q.1 h1 h2 q.2
      · exact .bad
    · exact .bad
  · split
    · exact .bad
    · rename_i q
      exact .ret (cCallL_ok co ok h) (notVar (by simpa using q))
  · exact .bad
/-- what can be decided of a lambda in its maker -/
def lamB (Γ : Gam) (t : LamT) (cs : List Nat) : Bool :=
  t.scope.names.all (fun y => !decide (y.2 = .free) || (decide (Γ.sc.names.lookup y.1 = some .cell) || decide (Γ.sc.names.lookup y.1 = some .free))) && t.scope.names.all (fun y => !decide (y.2 = .free) || decide (y.1 ∈ t.fr)) &&
  t.fr.all (fun y => decide ((y, NameKind.free) ∈ t.scope.names)) && decide (cs.map (fun j => Γ.N[j]?) = t.fr.map some) && t.fr.all (fun y => Γ.fc y)
theorem lam_here_of {M : Mt2} {Γ : Gam} {l : Nat} {params : Arguments} {body : Expr} {scope : Scope} {cs : List Nat} (ht : (M.lam l).params = params ∧ (M.lam l).body = body ∧ (M.lam l).scope = scope) (hm : LamMk M l Γ.mak) (hd : ∀ env, defaultsOf params env = ([], [])) (hb : lamB Γ (M.lam l) cs = true) : LamHere M Γ l params body scope cs := by
  obtain ⟨t1, t2, t3⟩ := ht
  subst t1 t2 t3
  unfold lamB at hb
  simp only [Bool.and_eq_true, Bool.or_eq_true, Bool.not_eq_true', decide_eq_true_eq, decide_eq_false_iff_not, List.all_eq_true] at hb
  obtain ⟨⟨⟨⟨h1, h2⟩, h3⟩, h4⟩, h5⟩ := hb
  obtain ⟨q, c, P, m1, m2, m3, m4, m5⟩ := hm
  exact ⟨⟨rfl, rfl, rfl⟩, ⟨q, c, P, m1, m2, m3, m4, m5⟩, hd, fun y hy e => (h1 y hy).elim (fun z => absurd e z) id, fun y hy e => (h2 y hy).elim (fun z => absurd e z) id, h3, h4, h5⟩
theorem ite_of {c p q : Prop} [Decidable c] (hc : c) (hp : p) : if c then p else q := by rw [if_pos hc]; exact hp
theorem ite_no {c p q : Prop} [Decidable c] (hc : ¬ c) (hq : q) : if c then p else q := by rw [if_neg hc]; exact hq
/-! ### the law's end -/
def spLaw (K : PySem.W.Frag) (cs : List (Addr × Addr)) : Sp := fun vs H Q _ => ∃ (a : Addr) (ns : List Int), vs = [.ref a] ∧ ns.length ≤ 63 ∧ (∀ z ∈ ns, Builtin.Int.intBits z ≤ 1048576) ∧ (∀ p ∈ cs, H p.2 = some (.tbl #[])) ∧ SqL K H a (ns.map V.int) ∧ ∀ H', Q (.bl true) H'
theorem law_at {l : PySem.W.OpenLaw} {W : Lw} {K : PySem.W.Frag} {w : World} {mg : Str → Option Value} {h : Heap} {fa : Addr} {i k n : Nat} {x law : Str} {d : FD} (X : K.In h) (G : h.Ns mainGlobals mg) (S : Says W h K) (st : StOk W) (hfa : mg law = some (.ref fa)) (hlaw : (law, D.fn i) ∈ W.gl) (hd : W.fns[i]? = some d)
    (h1 : d.ps = [x]) (h2 : d.fd.isInit = false) (h3 : d.fd.np = 1) (h4 : (1, [], [Sel.pos 0]) ∈ d.fd.shapes) (h5 : d.dfl = [])
    (pure_ : ∀ ns : List Int, ns.length ≤ 63 → (∀ z ∈ ns, Builtin.Int.intBits z ≤ 1048576) → (lv W.prg n).call i [.scr ns] [] k = .ok (.bl true) false []) : LamX.LawAtS l w K CXN (k + 1) 63 x mg fa h := by
  have hfd : W.prg.fns[i]? = some d.fd := by show (W.fns.map (·.fd))[i]? = _; rw [List.getElem?_map, hd]; rfl
  obtain ⟨x1, x2, x3, x4, x5⟩ := exB_ok S.ex
  have hA : fa = adr K d.p := by
    have q := x4 _ hlaw
    have q : He.eqO (PySem.W.nsIn K mainGlobals law) (some (some (.ref (adr K (W.f i).p)))) = true := q
    have := PySem.W.mg_of X G (He.eqO_ok q)
    rw [hfa, W_f hd] at this
    cases this; rfl
  subst hA
  obtain ⟨oc, od, dV, kV, doc, pm, an, cdv, ct, osl, lk, hcd, hdv, kp⟩ := fn_at S hd
  have hdV : dV = .none := by
    rcases hdv with ⟨_, e⟩ | ⟨e, _⟩
    · exact e
    · rw [h5] at e; exact absurd rfl e
  refine ⟨PySem.W.fnOf d.name d.qual d.params d.body d.scope dV kV doc pm an cdv ct, W.mkr.map (W.ct K), spLaw K (W.mkr.map (W.ct K)), fun p hp => ?_, fun p hp => ?_, fun p hp => ?_, fun s u => ?_, fun H a ns q1 q2 q3 q4 => ⟨a, ns, rfl, q1, q2, q3, q4, fun _ => rfl⟩, fun base KB GB TB => ?_⟩
  · obtain ⟨f, hf, rfl⟩ := List.mem_map.mp hp
    exact S.empty f hf
  · obtain ⟨f, hf, rfl⟩ := List.mem_map.mp hp
    exact S.out f hf
  · obtain ⟨f, hf, rfl⟩ := List.mem_map.mp hp
    exact PySem.W.codeHd_of_K X (S.hd f hf)
  · obtain ⟨bs, b1, b2⟩ := st.bnd d (List.mem_of_getElem? hd) _ h4 kV doc pm an cdv ct 0 .none [u] [] [] rfl rfl (by rw [h5]; rfl)
    simp [selB] at b1
    subst b1
    rw [h2, h5, h1] at b2
    rw [hdV]
    exact .of_eq b2
  · have ok := prg_ok (w := w) (prog := l.prog) S st KB GB fun f hf => TB _ (List.mem_map.mpr ⟨f, hf, rfl⟩)
    have F := (lvl_all ok n).co.fn i d.fd k hfd h2
    have eA : (mkM W K w mg base l.prog).fnA i = adr K d.p := by show adr K (W.f i).p = _; rw [W_f hd]
    have eF : (mkM W K w mg base l.prog).fdat i = PySem.W.fnOf d.name d.qual d.params d.body d.scope dV kV doc pm an cdv ct := by show fdAt K (adr K (W.f i).p) = _; rw [W_f hd]; exact fdAt_of lk
    have eP : (mkM W K w mg base l.prog).pn i = [x] := by show (W.f i).ps = _; rw [W_f hd, h1]
    rw [eA, eF, eP] at F
    refine F.imp fun vs H Q E hsp => ?_
    obtain ⟨a, ns, rfl, q1, q2, q3, q4, hQ⟩ := hsp
    refine ⟨[], fun _ => False, [], [.scr ns], .bl true, false, [], d.fd, hfd, by rw [h3]; rfl, pure_ ns q1 q2, ?_, .one ?_, fun v H' p => ?_⟩
    · refine ⟨fun _ h => (by cases h), .nil, fun _ h => False.elim h, fun p hp => ?_, fun _ _ h => False.elim h, fun i d h => by simp at h⟩
      have hp : p ∈ W.mkr.map fun f => ((W.ct K f).2, lamQ (W.f f).qual) := hp
      obtain ⟨f, hf, rfl⟩ := List.mem_map.mp hp
      exact LamX.TabS.nil (q3 _ (List.mem_map.mpr ⟨f, hf, rfl⟩))
    · simp only [Rep]
      exact ⟨a, rfl, q4.imp (fun r => ⟨fun z => z, r⟩) fun r H' => .inr r⟩
    · have := p.plain rfl
      simp only [Rep] at this
      rw [this]
      exact hQ H'
end TI

end

section
set_option Elab.async false
set_option linter.all false
set_option maxRecDepth 100000
set_option maxHeartbeats 1000000
/-! TI41: a law that makes a pen first. -/
namespace TI
open PySem L2 PySem.Spec PyProof.Rows
section
variable {M : Mt2} {ρ ρ' : List Addr} {O O' F : Addr → Prop} {H H' : Hp}
mutual
theorem Rep.rho (hρ : ∀ (i : Nat) a, ρ[i]? = some a → ρ'[i]? = some a) : ∀ {d : D} {v : V}, Rep M ρ O H d v → Rep M ρ' O H d v
  | .non, _, h => by simpa [Rep] using h
  | .bl _, _, h => by simpa [Rep] using h
  | .int _, _, h => by simpa [Rep] using h
  | .str _, _, h => by simpa [Rep] using h
  | .tup xs, v, h => by
    simp only [Rep] at h ⊢
    obtain ⟨a, vs, e, n, r⟩ := h
    exact ⟨a, vs, e, n, Reps.rho hρ r⟩
  | .lst xs, v, h => by
    simp only [Rep] at h ⊢
    obtain ⟨a, vs, e, n, r⟩ := h
    exact ⟨a, vs, e, n, Reps.rho hρ r⟩
  | .dct ks ds, v, h => by
    simp only [Rep] at h ⊢
    obtain ⟨a, vs, e, r, q⟩ := h
    exact ⟨a, vs, e, Reps.rho hρ r, q⟩
  | .ins _ ns ds, v, h => by
    simp only [Rep] at h ⊢
    obtain ⟨a, dx, fs, e, n, h1, r⟩ := h
    exact ⟨a, dx, fs, e, n, h1, Reps.rho hρ r⟩
  | .fn _, _, h => by simpa [Rep] using h
  | .cls _, _, h => by simpa [Rep] using h
  | .ty _, _, h => by simpa [Rep] using h
  | .clo _ _, _, h => by
    simp only [Rep] at h ⊢
    obtain ⟨f, vs, e, n, r⟩ := h
    exact ⟨f, vs, e, n, Reps.rho hρ r⟩
  | .ref _, _, h => by
    simp only [Rep] at h ⊢
    obtain ⟨a, h1, h2⟩ := h
    exact ⟨a, hρ _ _ h1, h2⟩
  | .scr ns, _, h => by simpa [Rep] using h
theorem Reps.rho (hρ : ∀ (i : Nat) a, ρ[i]? = some a → ρ'[i]? = some a) : ∀ {ds : List D} {vs : List V}, Reps M ρ O H ds vs → Reps M ρ' O H ds vs
  | [], _, h => by simpa [Reps] using h
  | d :: ds, vs, h => by
    simp only [Reps] at h ⊢
    obtain ⟨v, r, e, h1, h2⟩ := h
    exact ⟨v, r, e, Rep.rho hρ h1, Reps.rho hρ h2⟩
end
end
/-- the slots but for the pen's are not the frame's own -/
def noOwn (pen : Nat) (env : List (Option (Bool × D))) : Bool := env.zipIdx.all fun q => match q.1 with
  | some (true, _) => q.2 == pen
  | _ => true
theorem noOwn_ok {pen : Nat} {env : List (Option (Bool × D))} (h : noOwn pen env = true) {j : Nat} {d : D} (e : env[j]? = some (some (true, d))) : j = pen := by
  have := List.all_eq_true.mp h (some (true, d), j) (by rw [List.mem_zipIdx_iff_getElem?]; exact e)
  simpa using this
/-- the law: its first statement makes the pen -/
def lawRun (P : Prg) (n : Nat) (fd : FnDef) (pen : Nat) (ns : List Int) (dep : Nat) : Bool := match fd.body with
  | [] => false
  | s :: rest => match ex1 P (lv P n) s ⟨start [.scr ns] fd.slots, [], dep, 0⟩ with
    | .ok .nx st1 => match slot st1 pen with
      | some (true, .lst xs) => noOwn pen st1.env && (match exS P (lv P n) rest { st1 with env := st1.env.set pen (some (false, .ref 0)), sto := [.lst xs] } with
        | .ok (.ret (.bl b) false) _ => b
        | _ => false)
      | _ => false
    | _ => false
section
variable {M : Mt2} {n : Nat}
theorem law_body {f k pen : Nat} {fd : FnDef} {N : List Str} {b : Stmt} {body : List Stmt} {scope : Scope} {gl : Str → Option D} {fc : Str → Bool} {qual : Str} {cdv : Value} {s : SS} {rest : List SS} {cs : List (Addr × Addr)} (hT : ∀ p ∈ M.T, ∃ q ∈ cs, q.2 = p.1) (t : FnText M f fd N (b :: body) scope gl qual cdv) (hbody : fd.body = s :: rest) (hnp : fd.np = 1)
    (hs : SndS M (lv M.P n) ⟨N, scope, gl, fc, some (qual ++ ".<locals>.", cdv)⟩ b s) (hl : SndL M (lv M.P n) ⟨N, scope, gl, fc, some (qual ++ ".<locals>.", cdv)⟩ body rest)
    (pure_ : ∀ ns : List Int, ns.length ≤ 63 → (∀ z ∈ ns, Builtin.Int.intBits z ≤ 1048576) → lawRun M.P n fd pen ns k = true) :
    FnOk M.prog M.w M.K M.mg M.base CXN (k + 1) (M.fnA f) (M.fdat f) (M.pn f) (spLaw M.K cs) := by
  obtain ⟨name, params, dV, kV, doc, pm, an, od, ct, oc, osl, e1, lk, hcd⟩ := t.ex
  rw [e1]
  have hN : (M.pn f).length ≤ N.length := by have := congrArg List.length t.sc.pre; rw [List.length_take] at this; omega
  refine fn_of lk hcd t.sc (fun vs H Q E h => ?_) fun A outer s0 H vs Q E hr h => ⟨_, pss_cons (hs _ (good_cx t.sc t.mg)) (hl.pss (good_cx t.sc t.mg)), ?_⟩
  · obtain ⟨a, ns, rfl, _⟩ := h
    rw [t.np, hnp]; rfl
  · obtain ⟨a, ns, rfl, q1, q2, q3, q4, hQ⟩ := h
    have hrun := pure_ ns q1 q2
    unfold lawRun at hrun
    rw [hbody] at hrun
    simp only at hrun
    have so : StoOk M [] (fun _ => False) [] H := by
      refine ⟨fun _ h => (by cases h), .nil, fun _ h => False.elim h, fun p hp => ?_, fun _ _ h => False.elim h, fun i d h => by simp at h⟩
      obtain ⟨q, hq, e⟩ := hT p hp
      rw [← e]
      exact LamX.TabS.nil (by exact q3 q hq)
    have rs : Reps M [] (fun _ => False) H [.scr ns] [.ref a] := by
      refine .one ?_
      simp only [Rep]
      exact ⟨a, rfl, q4.imp (fun r => ⟨fun z => z, r⟩) fun r H' => .inr r⟩
    have rel := start_rel (k := k) so rs t.slots (by rw [t.slots]; have := t.np; rw [hnp] at this; simp only [List.length_cons, List.length_nil]; omega)
    have fr0 : FR M [] (fun _ => False) H (fun _ => False) ⟨start [.scr ns] fd.slots, [], k, 0⟩ (L2.start N [.ref a]) H :=
      ⟨rel, Ext.refl _ _, fun _ h => h, fun _ h => False.elim h, so.rho, fun i d a hi _ => absurd hi start_false⟩
    refine ⟨[], _, H, _, _, fr0, hr, ?_⟩
    split at hrun
    · rename_i st1 hx
      rw [hx]
      split at hrun
      · rename_i xs hp
        obtain ⟨hno, hrun⟩ := Bool.and_eq_true_iff.mp hrun
        split at hrun
        · rename_i bb st3 hy
          subst hrun
          intro O' σ' H' stp
          have hpe := slot_at hp
          have rel1 := stp.fr.rel
          obtain ⟨v, g1, _, g3⟩ := rel1.slot pen _ _ hpe
          obtain ⟨c, rfl, oc', _, vs, hc, rvs⟩ := g3 rfl
          have hlen : pen < st1.env.length := (List.getElem?_eq_some_iff.mp hpe).1
          have hρ : ∀ (i : Nat) a, ([] : List Addr)[i]? = some a → [c][i]? = some a := fun i a h => by simp at h
          have own : ∀ {j : Nat} {d : D}, (st1.env.set pen (some (false, .ref 0)))[j]? ≠ some (some (true, d)) := fun {j d} h => by
            by_cases e : pen = j
            · subst e
              rw [List.getElem?_set_self hlen] at h
              cases h
            · rw [List.getElem?_set_ne e] at h
              exact e (noOwn_ok hno h).symm
          have so2 : StoOk M [c] O' [.lst xs] H' := by
            refine ⟨fun b hb => ?_, by simp, rel1.so.trk, rel1.so.tab, rel1.so.notup, fun i d h => ?_⟩
            · have e : b = c := by simpa using hb
              rw [e]; exact oc'
            · cases i with
              | zero =>
                simp at h
                subst h
                exact ⟨c, xs, vs, rfl, rfl, hc, rvs.rho hρ⟩
              | succ i => simp at h
          have rel2 : SRel M [c] O' { st1 with env := st1.env.set pen (some (false, .ref 0)), sto := [.lst xs] } σ' H' := by
            refine ⟨so2, by simpa using rel1.len, fun j ow d h => ?_, fun i j d d' a hi => absurd hi own⟩
            have h : (st1.env.set pen (some (false, .ref 0)))[j]? = some (some (ow, d)) := h
            by_cases e : pen = j
            · subst e
              rw [List.getElem?_set_self hlen] at h
              cases h
              exact ⟨.ref c, g1, fun _ => (by simp only [Rep]; exact ⟨c, rfl, rfl⟩), fun z => by cases z⟩
            · rw [List.getElem?_set_ne e] at h
              obtain ⟨v, w1, w2, w3⟩ := rel1.slot j ow d h
              cases ow with
              | true => exact absurd (noOwn_ok hno h).symm e
              | false => exact ⟨v, w1, fun _ => (w2 rfl).rho hρ, fun z => by cases z⟩
          have fr2 : FR M [c] (fun b => b = c) H' O' { st1 with env := st1.env.set pen (some (false, .ref 0)), sto := [.lst xs] } σ' H' :=
            ⟨rel2, Ext.refl _ _, fun b hb => by rw [hb]; exact oc', fun b hb => by rw [hb, hc]; simp, fun b hb => by simpa using hb, fun i d a hi _ => absurd hi own⟩
          refine ⟨[c], _, H', O', _, fr2, ?_, ?_⟩
          · show Room st1.dep _
            rw [stp.dep]; exact hr
          · rw [hy]
            intro O'' σ'' H'' stp2 v rv
            have := rv.1 rfl
            simp only [Rep] at this
            rw [this]
            exact hQ H''
        · cases hrun
      · cases hrun
    · cases hrun
end
theorem law_at2 {l : PySem.W.OpenLaw} {W : Lw} {K : PySem.W.Frag} {w : World} {mg : Str → Option Value} {h : Heap} {fa : Addr} {i k n pen : Nat} {x law : Str} {d : FD} {b : Stmt} {body : List Stmt} {s : SS} {rest : List SS} (X : K.In h) (G : h.Ns mainGlobals mg) (S : Says W h K) (st : StOk W) (hfa : mg law = some (.ref fa)) (hlaw : (law, D.fn i) ∈ W.gl) (hd : W.fns[i]? = some d)
    (h1 : d.ps = [x]) (h2 : d.fd.isInit = false) (h3 : d.fd.np = 1) (h4 : (1, [], [Sel.pos 0]) ∈ d.fd.shapes) (h5 : d.dfl = []) (h6 : d.body = b :: body) (h7 : d.fd.body = s :: rest) (h8 : d.lams = [])
    (pure_ : ∀ ns : List Int, ns.length ≤ 63 → (∀ z ∈ ns, Builtin.Int.intBits z ≤ 1048576) → lawRun W.prg n d.fd pen ns k = true) : LamX.LawAtS l w K CXN (k + 1) 63 x mg fa h := by
  have hfd : W.prg.fns[i]? = some d.fd := by show (W.fns.map (·.fd))[i]? = _; rw [List.getElem?_map, hd]; rfl
  obtain ⟨x1, x2, x3, x4, x5⟩ := exB_ok S.ex
  have hA : fa = adr K d.p := by
    have q := x4 _ hlaw
    have q : He.eqO (PySem.W.nsIn K mainGlobals law) (some (some (.ref (adr K (W.f i).p)))) = true := q
    have := PySem.W.mg_of X G (He.eqO_ok q)
    rw [hfa, W_f hd] at this
    cases this; rfl
  subst hA
  obtain ⟨oc, od, dV, kV, doc, pm, an, cdv, ct, osl, lk, hcd, hdv, kp⟩ := fn_at S hd
  have hdV : dV = .none := by
    rcases hdv with ⟨_, e⟩ | ⟨e, _⟩
    · exact e
    · rw [h5] at e; exact absurd rfl e
  refine ⟨PySem.W.fnOf d.name d.qual d.params d.body d.scope dV kV doc pm an cdv ct, W.mkr.map (W.ct K), spLaw K (W.mkr.map (W.ct K)), fun p hp => ?_, fun p hp => ?_, fun p hp => ?_, fun s u => ?_, fun H a ns q1 q2 q3 q4 => ⟨a, ns, rfl, q1, q2, q3, q4, fun _ => rfl⟩, fun base KB GB TB => ?_⟩
  · obtain ⟨f, hf, rfl⟩ := List.mem_map.mp hp
    exact S.empty f hf
  · obtain ⟨f, hf, rfl⟩ := List.mem_map.mp hp
    exact S.out f hf
  · obtain ⟨f, hf, rfl⟩ := List.mem_map.mp hp
    exact PySem.W.codeHd_of_K X (S.hd f hf)
  · obtain ⟨bs, b1, b2⟩ := st.bnd d (List.mem_of_getElem? hd) _ h4 kV doc pm an cdv ct 0 .none [u] [] [] rfl rfl (by rw [h5]; rfl)
    simp [selB] at b1
    subst b1
    rw [h2, h5, h1] at b2
    rw [hdV]
    exact .of_eq b2
  · have ok := prg_ok (w := w) (prog := l.prog) S st KB GB fun f hf => TB _ (List.mem_map.mpr ⟨f, hf, rfl⟩)
    have mg0 := mg_ok (w := w) (prog := l.prog) x4 x5 KB GB
    have sf := st_f st.dec (List.mem_of_getElem? hd)
    have eA : (mkM W K w mg base l.prog).fnA i = adr K d.p := by show adr K (W.f i).p = _; rw [W_f hd]
    have eF : (mkM W K w mg base l.prog).fdat i = PySem.W.fnOf d.name d.qual d.params d.body d.scope dV kV doc pm an cdv ct := by show fdAt K (adr K (W.f i).p) = _; rw [W_f hd]; exact fdAt_of lk
    have eP : (mkM W K w mg base l.prog).pn i = d.ps := by show (W.f i).ps = _; rw [W_f hd]
    have txt : FnText (mkM W K w mg base l.prog) i d.fd d.N (b :: body) d.scope W.glo d.qual cdv := ⟨⟨d.name, d.params, dV, kV, doc, pm, an, od, ct, oc, osl, by rw [eF, h6], by rw [eA, ← h6]; exact lk, hcd⟩, by rw [eP]; exact sf.sc, sf.slots, by rw [eP]; exact sf.np, mg0⟩
    have cs := st.txt d (List.mem_of_getElem? hd) (mkM W K w mg base l.prog) (some (d.qual ++ ".<locals>.", cdv)) (cfg_ok st) rfl fun l hl => by rw [h8] at hl; cases hl
    rw [h6, h7] at cs
    have L := fun m (hm : m ≤ n) => lvl_all ok m
    have hs : SndS (mkM W K w mg base l.prog) (lv W.prg n) ⟨d.N, d.scope, W.glo, fun _ => true, some (d.qual ++ ".<locals>.", cdv)⟩ b s ∧ SndL (mkM W K w mg base l.prog) (lv W.prg n) ⟨d.N, d.scope, W.glo, fun _ => true, some (d.qual ++ ".<locals>.", cdv)⟩ body rest := by
      cases cs with
      | cons c1 c2 => exact ⟨lvl_s1 ok.mo L c1, lvl_l ok.mo L c2⟩
    have F := law_body (k := k) (pen := pen) (cs := W.mkr.map (W.ct K)) (fun p hp => ?_) txt h7 h3 hs.1 hs.2 pure_
    · rw [eA, eF, eP, h1] at F
      exact F
    · have hp : p ∈ W.mkr.map fun f => ((W.ct K f).2, lamQ (W.f f).qual) := hp
      obtain ⟨f, hf, rfl⟩ := List.mem_map.mp hp
      exact ⟨_, List.mem_map.mpr ⟨f, hf, rfl⟩, rfl⟩
end TI

end

section
set_option Elab.async false
set_option linter.all false
set_option maxRecDepth 100000
set_option maxHeartbeats 1000000
/-! TI50: reckoning with the pure interpreter. -/
namespace TI
open PySem
section
variable {P : Prg} {r : Rec} {n k : Nat}
theorem lv_ev (P : Prg) (n : Nat) : (lv P (n + 1)).ev = evS P (lv P n) := rfl
theorem lv_tst (P : Prg) (n : Nat) : (lv P (n + 1)).tst = tstS (lv P n) := rfl
theorem lv_ex (P : Prg) (n : Nat) : (lv P (n + 1)).ex = exS P (lv P n) := rfl
theorem lv_call (P : Prg) (n : Nat) : (lv P (n + 1)).call = callS P (lv P n) := rfl
theorem lv_ini (P : Prg) (n : Nat) : (lv P (n + 1)).ini = iniS P (lv P n) := rfl
theorem exS_nx {s : SS} {ss : List SS} {st st' : St} (h : ex1 P r s st = .ok .nx st') : exS P r (s :: ss) st = exS P r ss st' := by
  simp only [exS, h, R.bind_ok]
theorem exS_ret {s : SS} {ss : List SS} {st st' : St} {d : D} {fr : Bool} (h : ex1 P r s st = .ok (.ret d fr) st') : exS P r (s :: ss) st = .ok (.ret d fr) st' := by
  simp only [exS, h, R.bind_ok]
theorem call_of {f : Nat} {fd : FnDef} {ds sto : List D} {d : D} {fr : Bool} {st' : St} (hf : P.fns[f]? = some fd) (hl : ds.length = fd.np) (h : exS P (lv P n) fd.body ⟨start ds fd.slots, sto, k, 0⟩ = .ok (.ret d fr) st') : (lv P (n + 2)).call f ds sto k = .ok d fr st'.sto := by
  show callS P (lv P (n + 1)) f ds sto k = _
  unfold callS
  rw [hf]
  simp only [hl, if_true, lv_ex, h]
/-- a call's look -/
theorem doCall_ok {f : Nat} {fd : FnDef} {es : List SE} {ds sto' : List D} {st : St} {d : D} {fr : Bool} (hf : P.fns[f]? = some fd) (hi : fd.isInit = false) (hd : st.dep = k + 1) (h : r.call f ds (if fd.pen then st.sto else []) k = .ok d fr sto') : doCall P r f es ds st = .ok (d, fr) (after es fd.pen st d fr sto') := by
  unfold doCall
  rw [hf]
  simp only [hi, Bool.false_eq_true, if_false]
  rw [hd]
  simp only [h]
theorem for_inv {tg : ST} {b : List SS} {I : List D → St → Prop} (step : ∀ x xs st, I (x :: xs) st → ∃ st1 st2, asg tg x false st = some st1 ∧ r.ex b st1 = .ok .nx st2 ∧ I xs st2) : ∀ {xs : List D} {st : St}, I xs st → ∃ st', forLoop r tg b xs st = .ok .nx st' ∧ I [] st'
  | [], st, h => ⟨st, rfl, h⟩
  | x :: xs, st, h => by
    obtain ⟨st1, st2, h1, h2, h3⟩ := step x xs st h
    obtain ⟨st', h4, h5⟩ := for_inv step h3
    refine ⟨st', ?_, h5⟩
    simp only [forLoop, h1, lift, h2, R.bind_ok]
    exact h4
theorem lc_inv {own : List Nat} {e : SE} {tg : ST} {J : List D → List D → St → Prop} (step : ∀ x xs ds st, J (x :: xs) ds st → ∃ st1 st2 d fr, asg tg x false { st with env := wipeE st.env own } = some st1 ∧ r.ev e st1 = .ok (d, fr) st2 ∧ J xs (ds ++ [d]) st2) : ∀ {xs ds : List D} {st : St}, J xs ds st → ∃ ds' st', lcLoop r own e tg [] xs st = .ok ds' st' ∧ J [] (ds ++ ds') st'
  | [], ds, st, h => ⟨[], st, rfl, by simpa using h⟩
  | x :: xs, ds, st, h => by
    obtain ⟨st1, st2, d, fr, h1, h2, h3⟩ := step x xs ds st h
    obtain ⟨ds', st', h4, h5⟩ := lc_inv step h3
    refine ⟨d :: ds', st', ?_, by simpa using h5⟩
    simp only [lcLoop, h1, lift, tsts, R.bind_ok, if_true, h2, h4]
/-- a comprehension whose element is told by the item -/
theorem lc_map {α : Type} {own : List Nat} {e : SE} {tg : ST} {I : St → Prop} {g f : α → D} (xs : List α) (step : ∀ x ∈ xs, ∀ st, I st → ∃ st1 st2 fr, asg tg (g x) false { st with env := wipeE st.env own } = some st1 ∧ r.ev e st1 = .ok (f x, fr) st2 ∧ I st2) : ∀ {st : St}, I st → ∃ st', lcLoop r own e tg [] (xs.map g) st = .ok (xs.map f) st' ∧ I st' := by
  induction xs with
  | nil => exact fun h => ⟨_, rfl, h⟩
  | cons x xs ih =>
    intro st h
    obtain ⟨st1, st2, fr, h1, h2, h3⟩ := step x List.mem_cons_self st h
    obtain ⟨st', h4, h5⟩ := ih (fun y hy => step y (List.mem_cons_of_mem _ hy)) h3
    refine ⟨st', ?_, h5⟩
    simp only [lcLoop, h1, lift, tsts, R.bind_ok, if_true, h2, h4, List.map_cons]
theorem alB_map {α : Type} (f : α → Bool) (xs : List α) : allB (xs.map fun x => .bl (f x)) = some (xs.map f) := by
  induction xs with
  | nil => rfl
  | cons x xs ih => simp [allB, ih]
theorem alS_map {α : Type} (f : α → List Nat) (xs : List α) : allS (xs.map fun x => .str (f x)) = some (xs.map f) := by
  induction xs with
  | nil => rfl
  | cons x xs ih => simp [allS, ih]
theorem alI_map {α : Type} (f : α → Int) (xs : List α) : allI (xs.map fun x => .int (f x)) = some (xs.map f) := by
  induction xs with
  | nil => rfl
  | cons x xs ih => simp [allI, ih]
theorem joinL_nil : ∀ ts : List (List Nat), TL.joinL [] ts = ts.flatten
  | [] => rfl
  | [t] => by simp [TL.joinL]
  | t :: u :: ts => by
    have := joinL_nil (u :: ts)
    simp only [TL.joinL, List.flatten_cons, List.append_nil] at this ⊢
    rw [this]; rfl
theorem mJoin_nil {α : Type} (f : α → List Nat) (xs : List α) (h : ((xs.map f).map (·.length)).sum ≤ 16000000) : mJoin [] (.lst (xs.map fun x => .str (f x))) = some (.str (xs.map f).flatten, false) := by
  simp only [mJoin, alS_map, Option.bind_some, List.length_nil, Nat.mul_zero, Nat.add_zero, lenMax, h, decide_true, if_true, joinL_nil]
/-- a text of figures below ten, one by one -/
def tx (ds : List Nat) : List Nat := ds.map (48 + ·)
theorem tx_len (ds : List Nat) : (tx ds).length = ds.length := List.length_map ..
theorem tx_app (a b : List Nat) : tx a ++ tx b = tx (a ++ b) := by simp [tx]
theorem tx_inj {a b : List Nat} (h : tx a = tx b) : a = b := by
  unfold tx at h
  exact List.map_inj_right (fun x y h => by omega) |>.mp h
theorem tx_beq (a b : List Nat) : (tx a == tx b) = (a == b) := by
  by_cases h : a = b
  · subst h; rw [beq_self_eq_true, beq_self_eq_true]
  · have : tx a ≠ tx b := fun e => h (tx_inj e)
    rw [beq_eq_false_iff_ne.mpr h, beq_eq_false_iff_ne.mpr this]
theorem atoi1 {d : Nat} (h : d < 10) : atoi [48 + d] = some (d : Int) := by
  have h1 : ∀ d, d < 10 → atoi [48 + d] = some (Int.ofNat d) := by decide
  exact h1 d h
theorem itoa1 {d : Nat} (h : d < 10) : itoa (d : Int) = [48 + d] := by
  have h1 : ∀ d, d < 10 → itoa (Int.ofNat d) = [48 + d] := by decide
  exact h1 d h
theorem bi_add (i j : Int) : binop .Add (.int i) (.int j) = some (.int (i + j), false) := rfl
theorem bi_sub (i j : Int) : binop .Sub (.int i) (.int j) = some (.int (i - j), false) := rfl
theorem bi_mul {i j : Int} (h : i.natAbs < 2 ^ 64 ∨ j.natAbs < 2 ^ 64) : binop .Mult (.int i) (.int j) = some (.int (i * j), false) := by
  have h2 : (decide (-(2 ^ 64) < i) && decide (i < 2 ^ 64) || decide (-(2 ^ 64) < j) && decide (j < 2 ^ 64)) = true := by
    simp only [Bool.or_eq_true, Bool.and_eq_true, decide_eq_true_eq]
    omega
  simp only [binop, h2, if_true]
theorem bi_mod {i j : Int} (h : j ≠ 0) : binop .Mod (.int i) (.int j) = some (.int (i.fmod j), false) := by
  simp only [binop, h, ne_eq, not_false_eq_true, decide_true, if_true]
theorem bi_div {i j : Int} (h : j ≠ 0) (h2 : j.natAbs < 1073741824) : binop .FloorDiv (.int i) (.int j) = some (.int (i.fdiv j), false) := by
  simp only [binop, h, ne_eq, not_false_eq_true, decide_true, Bool.true_and, h2, if_true]
theorem bi_pow {i : Int} {j : Nat} (h2 : i.natAbs < 2 ^ 64) (h : j ≤ 1000000) : binop .Pow (.int i) (.int j) = some (.int (i ^ j), false) := by
  have h1 : (decide (0 ≤ (j : Int)) && decide ((j : Int) ≤ 1000000) && decide (i.natAbs < 2 ^ 64)) = true := by
    simp only [Bool.and_eq_true, decide_eq_true_eq]
    omega
  simp only [binop, h1, if_true, Int.toNat_natCast]
theorem bi_cat {x y : List Nat} (h : x.length + y.length ≤ 16000000) : binop .Add (.str x) (.str y) = some (.str (x ++ y), false) := by
  simp only [binop, okLen, lenMax, List.length_append, h, decide_true, if_true]
/-- behind a call -/
def aft (x : RC) (es : List SE) (pen : Bool) (st : St) : R (D × Bool) := match x with
  | .ok d fr sto' => .ok (d, fr) (after es pen st d fr sto')
  | _ => .no
theorem aft_ok (d : D) (fr : Bool) (sto' : List D) (es : List SE) (pen : Bool) (st : St) : aft (.ok d fr sto') es pen st = .ok (d, fr) (after es pen st d fr sto') := rfl
theorem after_no {es : List SE} {st : St} (h : es.any (isOwn st) = false) (d : D) (fr : Bool) (sto' : List D) : after es false st d fr sto' = st := by
  simp [after, h]
theorem after_pen {es : List SE} {st : St} (h : es.any (isOwn st) = false) (d : D) (fr : Bool) (sto' : List D) : after es true st d fr sto' = { st with sto := sto' } := by
  simp [after, h]
end
end TI

end

section
set_option Elab.async false
set_option linter.all false
set_option maxRecDepth 100000
set_option maxHeartbeats 1000000
/-! TI51: the draw from the pen. -/
namespace TI
open PySem
/-- the draw's code; a law has its own numbers -/
def drawB (m : Nat) (a1 a2 m1 a3 a4 m2 a5 a6 a7 m3 : Int) : List SS :=
  [(.ife (.cmp .Gt (.sub (.var 0) (.cst (.int 2))) (.cst (.int 0))) [(.asg (.nm 2) (.bin .Mod (.bf .int [(.sub (.var 0) (.cst (.int 2)))]) (.var 1))), (.seti 0 (.cst (.int 2)) (.bin .FloorDiv (.bf .int [(.sub (.var 0) (.cst (.int 2)))]) (.var 1))), (.ret (some (.var 2)))] []),
   (.asg (.nm 3) (.sub (.var 0) (.cst (.int 1)))), (.seti 0 (.cst (.int 1)) (.bin .Add (.var 3) (.cst (.int 1)))), (.asg (.nm 4) (.bin .Add (.bin .Mult (.cst (.int a1)) (.var 3)) (.cst (.int a2)))),
   (.ife (.cmp .NotEq (.sub (.var 0) (.cst (.int 0))) (.lst [])) [(.asg (.nm 4) (.sub (.sub (.var 0) (.cst (.int 0))) (.bin .Mod (.bf .int [(.var 3)]) (.lenA m (.sub (.var 0) (.cst (.int 0)))))))] []),
   (.ife (.and (.cmp .Lt (.var 3) (.lenA m (.sub (.var 0) (.cst (.int 0))))) (.cmp .GtE (.bf .abs [(.var 4)]) (.bin .Pow (.cst (.int 10)) (.cst (.int 18))))) [(.asg (.nm 5) (.bin .Add (.bin .Mult (.cst (.int 2)) (.bin .Sub (.bf .abs [(.var 4)]) (.bin .Pow (.cst (.int 10)) (.cst (.int 18))))) (.bf .int [(.cmp .Lt (.var 4) (.cst (.int 0)))]))), (.seti 0 (.cst (.int 2)) (.bin .FloorDiv (.bf .int [(.var 5)]) (.var 1))), (.ret (some (.bin .Mod (.bf .int [(.var 5)]) (.var 1))))] []),
   (.asg (.nm 6) (.bin .Mod (.bf .int [(.bin .Pow (.bin .Add (.bin .Add (.bin .Mod (.bf .int [(.var 4)]) (.cst (.int m1))) (.bin .Mult (.cst (.int a3)) (.var 3))) (.cst (.int a4))) (.cst (.int 5)))]) (.cst (.int m2)))),
   (.asg (.nm 6) (.bin .Mod (.bf .int [(.bin .Pow (.bin .Add (.bin .Add (.bin .Mult (.var 6) (.bin .Add (.bin .Mult (.cst (.int 2)) (.var 3)) (.cst (.int a5)))) (.bin .Mult (.bin .Mult (.cst (.int a6)) (.var 3)) (.var 3))) (.cst (.int a7))) (.cst (.int 3)))]) (.cst (.int m3)))),
   (.ret (some (.bin .Mod (.bf .int [(.bin .FloorDiv (.var 6) (.cst (.int 32)))]) (.var 1))))]
def drawF (b : List SS) : FnDef := ⟨2, [], [(2, [], [.pos 0, .pos 1])], 7, b, true, false⟩
/-- the pen: the script's cells, so many used, what is left of a great one -/
def penD (ns : List Int) (u : Nat) (g : Int) : D := .lst [.lst (ns.map .int), .int u, .int g]
def PenAt (ns : List Int) (B : Nat) (sto : List D) : Prop := ∃ (u : Nat) (g : Int), u ≤ B ∧ sto = [penD ns u g]
theorem PenAt.mono {ns : List Int} {B C : Nat} {sto : List D} (h : PenAt ns B sto) (hc : B ≤ C) : PenAt ns C sto := by
  obtain ⟨u, g, h1, h2⟩ := h
  exact ⟨u, g, by omega, h2⟩
/-- the numbers of a draw are small -/
def drawOk (a1 a2 m1 a3 a4 m2 a5 a6 a7 m3 : Int) : Bool := decide (0 ≤ a1) && decide (a1 < 2 ^ 20) && decide (0 < m1) && decide (m1 < 2 ^ 32) && decide (0 ≤ a3) && decide (a3 < 2 ^ 20) && decide (0 ≤ a4) && decide (a4 < 2 ^ 20)
  && decide (0 < m2) && decide (m2 < 2 ^ 32) && decide (0 ≤ a5) && decide (a5 < 2 ^ 20) && decide (0 ≤ a6) && decide (a6 < 2 ^ 20) && decide (0 ≤ a7) && decide (a7 < 2 ^ 20) && decide (0 < m3)
theorem fmod_pos (a : Int) {m : Int} (h : 0 < m) : 0 ≤ a.fmod m ∧ a.fmod m < m := ⟨Int.fmod_nonneg_of_pos a h, Int.fmod_lt_of_pos a h⟩
theorem fmod_nat (a : Int) {m : Nat} (h : 1 ≤ m) : ∃ v : Nat, v < m ∧ a.fmod (m : Int) = v := by
  obtain ⟨h1, h2⟩ := fmod_pos a (m := (m : Int)) (by omega)
  exact ⟨(a.fmod m).toNat, by omega, by omega⟩
theorem okD_ints (ns : List Int) (n : Nat) : okD (n + 1) (.lst (ns.map .int)) = true := by
  simp only [okD, List.all_map, List.all_eq_true]
  intro x _
  simp [okD]
theorem ints_ne (ns : List Int) : pyEq (.lst (ns.map .int)) (.lst []) = some (ns.isEmpty) := by
  simp only [pyEq, okD_ints ns 63]
  cases ns <;> simp [okD, eqD, eqDs]
section
variable {P : Prg} {n k : Nat}
theorem draw_ok {f m : Nat} {a1 a2 m1 a3 a4 m2 a5 a6 a7 m3 : Int} (hf : P.fns[f]? = some (drawF (drawB m a1 a2 m1 a3 a4 m2 a5 a6 a7 m3))) (hc : drawOk a1 a2 m1 a3 a4 m2 a5 a6 a7 m3 = true) {ns : List Int} {B many : Nat} {sto : List D} (hB : B < 60000) (hm : 1 ≤ many) (hm2 : many ≤ 1000) (h : PenAt ns B sto) :
    ∃ v sto', v < many ∧ PenAt ns (B + 1) sto' ∧ (lv P (n + 15)).call f [.ref 0, .int many] sto k = .ok (.int v) false sto' := by
  obtain ⟨u, g, hu, rfl⟩ := h
  simp only [drawOk, Bool.and_eq_true, decide_eq_true_eq] at hc
  obtain ⟨⟨⟨⟨⟨⟨⟨⟨⟨⟨⟨⟨⟨⟨⟨⟨ha1, ha1'⟩, hm1⟩, hm1'⟩, ha3⟩, ha3'⟩, ha4⟩, ha4'⟩, hm2a⟩, hm2'⟩, ha5⟩, ha5'⟩, ha6⟩, ha6'⟩, ha7⟩, ha7'⟩, hm3⟩ := hc
  have hne : (many : Int) ≠ 0 := by omega
  have hne' : many ≠ 0 := by omega
  have hna : (many : Int).natAbs < 1073741824 := by omega
  have hna' : many < 1073741824 := by omega
  have hM := fun i : Int => bi_mod (i := i) hne
  have hD := fun i : Int => bi_div (i := i) hne hna
  have hs : ∀ x, start [D.ref 0, D.int ↑many] (drawF x).slots = [some (false, D.ref 0), some (false, .int many), none, none, none, none, none] := fun _ => rfl
  by_cases hg : 0 < g
  · obtain ⟨v, hv, e⟩ := fmod_nat g hm
    refine ⟨v, [penD ns u (g.fdiv many)], hv, ⟨u, _, by omega, rfl⟩, ?_⟩
    refine call_of (n := n + 13) (st' := ⟨[some (false, D.ref 0), some (false, .int many), some (false, .int v), none, none, none, none], [penD ns u (g.fdiv many)], k, 0⟩) hf rfl ?_
    rw [hs]
    simp [exS, ex1, lv_ev, lv_tst, lv_ex, evS, tstS, pk, pks, evs, evf, TI.lift, slot, share, deref, index, L2.atI, L2.ixN, cmpop, bfun, bInt, bLen, bi_add, bi_sub, asg, asgs, setv, isMut, TI.setItem, okLen, lenMax, lenI, drawF, drawB, penD, hg, hM, hD, e]
  · let E (a b c d e : Option (Bool × D)) : List (Option (Bool × D)) := [some (false, D.ref 0), some (false, .int many), a, b, c, d, e]
    suffices hh : ∃ v g' st', v < many ∧ exS P (lv P (n + 13)) (drawF (drawB m a1 a2 m1 a3 a4 m2 a5 a6 a7 m3)).body ⟨E none none none none none, [penD ns u g], k, 0⟩ = .ok (.ret (.int (v : Nat)) false) st' ∧ st'.sto = [penD ns (u + 1) g'] by
      obtain ⟨v, g', st', h1, h2, h3⟩ := hh
      refine ⟨v, st'.sto, h1, ⟨u + 1, g', by omega, h3⟩, ?_⟩
      exact call_of (n := n + 13) hf rfl h2
    show ∃ v g' st', v < many ∧ exS P (lv P (n + 13)) (drawB m a1 a2 m1 a3 a4 m2 a5 a6 a7 m3) ⟨E none none none none none, [penD ns u g], k, 0⟩ = .ok (.ret (.int (v : Nat)) false) st' ∧ st'.sto = [penD ns (u + 1) g']
    unfold drawB
    rw [exS_nx (st' := ⟨E none none none none none, [penD ns u g], k, 0⟩) (by simp [exS, ex1, lv_ev, lv_tst, lv_ex, evS, tstS, pk, pks, evs, evf, TI.lift, slot, share, deref, index, L2.atI, L2.ixN, cmpop, bfun, bInt, bLen, bi_add, bi_sub, asg, asgs, setv, isMut, TI.setItem, okLen, lenMax, lenI, E, penD, hg])]
    rw [exS_nx (st' := ⟨E none (some (false, .int u)) none none none, [penD ns u g], k, 0⟩) (by simp [exS, ex1, lv_ev, lv_tst, lv_ex, evS, tstS, pk, pks, evs, evf, TI.lift, slot, share, deref, index, L2.atI, L2.ixN, cmpop, bfun, bInt, bLen, bi_add, bi_sub, asg, asgs, setv, isMut, TI.setItem, okLen, lenMax, lenI, E, penD])]
    rw [exS_nx (st' := ⟨E none (some (false, .int u)) none none none, [penD ns (u + 1) g], k, 0⟩) (by simp [exS, ex1, lv_ev, lv_tst, lv_ex, evS, tstS, pk, pks, evs, evf, TI.lift, slot, share, deref, index, L2.atI, L2.ixN, cmpop, bfun, bInt, bLen, bi_add, bi_sub, asg, asgs, setv, isMut, TI.setItem, okLen, lenMax, lenI, E, penD])]
    have hb1 := bi_mul (i := a1) (j := u) (.inl (by omega))
    rw [exS_nx (st' := ⟨E none (some (false, .int u)) (some (false, .int (a1 * u + a2))) none none, [penD ns (u + 1) g], k, 0⟩) (by simp [exS, ex1, lv_ev, lv_tst, lv_ex, evS, tstS, pk, pks, evs, evf, TI.lift, slot, share, deref, index, L2.atI, L2.ixN, cmpop, bfun, bInt, bLen, bi_add, bi_sub, asg, asgs, setv, isMut, TI.setItem, okLen, lenMax, lenI, E, penD, hb1])]
    obtain ⟨c, hcc⟩ : ∃ c : Int, ex1 P (lv P (n + 13)) (.ife (.cmp .NotEq (.sub (.var 0) (.cst (.int 0))) (.lst [])) [(.asg (.nm 4) (.sub (.sub (.var 0) (.cst (.int 0))) (.bin .Mod (.bf .int [(.var 3)]) (.lenA m (.sub (.var 0) (.cst (.int 0)))))))] []) ⟨E none (some (false, .int u)) (some (false, .int (a1 * u + a2))) none none, [penD ns (u + 1) g], k, 0⟩ = .ok .nx ⟨E none (some (false, .int u)) (some (false, .int c)) none none, [penD ns (u + 1) g], k, 0⟩ := by
      by_cases hns : ns = []
      · subst hns
        refine ⟨a1 * u + a2, ?_⟩
        simp [exS, ex1, lv_ev, lv_tst, lv_ex, evS, tstS, pk, pks, evs, evf, TI.lift, slot, share, deref, index, L2.atI, L2.ixN, cmpop, bfun, bInt, bLen, bi_add, bi_sub, asg, asgs, setv, isMut, TI.setItem, okLen, lenMax, lenI, E, penD, okD, eqD, eqDs, pyEq]
      · have hl : 1 ≤ ns.length := by cases ns <;> simp_all
        obtain ⟨v, hv, e⟩ := fmod_nat (u : Int) hl
        have hi : ns.isEmpty = false := by simp [hns]
        refine ⟨ns[v], ?_⟩
        have hl0 := bi_mod (i := u) (j := ns.length) (by omega)
        simp [exS, ex1, lv_ev, lv_tst, lv_ex, evS, tstS, pk, pks, evs, evf, TI.lift, slot, share, deref, index, L2.atI, L2.ixN, cmpop, bfun, bInt, bLen, bi_add, bi_sub, asg, asgs, setv, isMut, TI.setItem, okLen, lenMax, lenI, E, penD, ints_ne, hi, e, hl0, hv, hns]
    rw [exS_nx hcc]
    have hp1 : binop .Pow (.int 10) (.int 18) = some (.int (10 ^ 18), false) := rfl
    obtain ⟨A, hA⟩ : ∃ A : Int, bAbs [.int c] = some (.int A, false) := ⟨_, rfl⟩
    obtain ⟨Z, hZ⟩ : ∃ Z : Int, (if c < 0 then (1 : Int) else 0) = Z := ⟨_, rfl⟩
    by_cases hbig : (u : Int) < ns.length ∧ 10 ^ 18 ≤ A
    · obtain ⟨hb2, hb3⟩ := hbig
      let G : Int := 2 * (A - 10 ^ 18) + Z
      have hmu := bi_mul (i := 2) (j := A - 10 ^ 18) (.inl (by omega))
      obtain ⟨v, hv, e⟩ := fmod_nat G hm
      refine ⟨v, G.fdiv many, ⟨E none (some (false, .int u)) (some (false, .int c)) (some (false, .int G)) none, [penD ns (u + 1) (G.fdiv many)], k, 0⟩, hv, ?_, rfl⟩
      refine exS_ret ?_
      have hb2' : u < ns.length := by omega
      simp only [G] at e
      simp at hmu hb3 e hp1
      simp [exS, ex1, lv_ev, lv_tst, lv_ex, evS, tstS, pk, pks, evs, evf, TI.lift, slot, share, deref, index, L2.atI, L2.ixN, cmpop, bfun, bInt, bLen, bi_add, bi_sub, asg, asgs, setv, isMut, TI.setItem, okLen, lenMax, lenI, E, penD, hb2', hb3, hM, hD, e, hp1, hmu, hA, hZ, G]
    · have h6 : ex1 P (lv P (n + 13)) (.ife (.and (.cmp .Lt (.var 3) (.lenA m (.sub (.var 0) (.cst (.int 0))))) (.cmp .GtE (.bf .abs [(.var 4)]) (.bin .Pow (.cst (.int 10)) (.cst (.int 18))))) [(.asg (.nm 5) (.bin .Add (.bin .Mult (.cst (.int 2)) (.bin .Sub (.bf .abs [(.var 4)]) (.bin .Pow (.cst (.int 10)) (.cst (.int 18))))) (.bf .int [(.cmp .Lt (.var 4) (.cst (.int 0)))]))), (.seti 0 (.cst (.int 2)) (.bin .FloorDiv (.bf .int [(.var 5)]) (.var 1))), (.ret (some (.bin .Mod (.bf .int [(.var 5)]) (.var 1))))] []) ⟨E none (some (false, .int u)) (some (false, .int c)) none none, [penD ns (u + 1) g], k, 0⟩ = .ok .nx ⟨E none (some (false, .int u)) (some (false, .int c)) none none, [penD ns (u + 1) g], k, 0⟩ := by
        by_cases hb2 : u < ns.length
        · have hb3 : ¬ 10 ^ 18 ≤ A := fun h => hbig ⟨by omega, h⟩
          have hb3' : ¬ (1000000000000000000 : Int) ≤ A := by omega
          simp at hp1
          simp only [Int.not_le] at hb3'
          simp [exS, ex1, lv_ev, lv_tst, lv_ex, evS, tstS, pk, pks, evs, evf, TI.lift, slot, share, deref, index, L2.atI, L2.ixN, cmpop, bfun, bInt, bLen, bi_add, bi_sub, asg, asgs, setv, isMut, TI.setItem, okLen, lenMax, lenI, E, penD, hb2, Int.not_le.mpr hb3', hp1, hA]
        · simp [exS, ex1, lv_ev, lv_tst, lv_ex, evS, tstS, pk, pks, evs, evf, TI.lift, slot, share, deref, index, L2.atI, L2.ixN, cmpop, bfun, bInt, bLen, bi_add, bi_sub, asg, asgs, setv, isMut, TI.setItem, okLen, lenMax, lenI, E, penD, hb2]
      rw [exS_nx h6]
      have hx1 := fmod_pos c hm1
      have hu2 : (u : Int) < 60000 := by omega
      have q1 := bi_mul (i := a3) (j := u) (.inl (by omega))
      have q2 : a3 * u ≤ 2 ^ 20 * 60000 := by
        have := Int.mul_le_mul (a := a3) (b := u) (c := 2 ^ 20) (d := 60000) (by omega) (by omega) (by omega) (by omega)
        simpa using this
      have q2' : 0 ≤ a3 * u := Int.mul_nonneg ha3 (by omega)
      have q3 : binop .Pow (.int (c.fmod m1 + a3 * u + a4)) (.int 5) = some (.int ((c.fmod m1 + a3 * u + a4) ^ 5), false) := bi_pow (j := 5) (by omega) (by omega)
      have q4 := bi_mod (i := (c.fmod m1 + a3 * u + a4) ^ 5) (j := m2) (by omega)
      have q5 := bi_mod (i := c) (j := m1) (by omega)
      let X : Int := ((c.fmod m1 + a3 * u + a4) ^ 5).fmod m2
      rw [exS_nx (st' := ⟨E none (some (false, .int u)) (some (false, .int c)) none (some (false, .int X)), [penD ns (u + 1) g], k, 0⟩) (by simp [exS, ex1, lv_ev, lv_tst, lv_ex, evS, tstS, pk, pks, evs, evf, TI.lift, slot, share, deref, index, L2.atI, L2.ixN, cmpop, bfun, bInt, bLen, bi_add, bi_sub, asg, asgs, setv, isMut, TI.setItem, okLen, lenMax, lenI, E, penD, q1, q3, q4, q5, X])]
      have hX := fmod_pos ((c.fmod m1 + a3 * u + a4) ^ 5) hm2a
      have r1 := bi_mul (i := 2) (j := u) (.inl (by omega))
      have r2 := bi_mul (i := X) (j := 2 * u + a5) (.inl (by omega))
      have r3 := bi_mul (i := a6) (j := u) (.inl (by omega))
      have r4 := bi_mul (i := a6 * u) (j := u) (.inr (by omega))
      have r5 : X * (2 * u + a5) ≤ 2 ^ 32 * 2 ^ 21 := Int.mul_le_mul (by omega) (by omega) (by omega) (by omega)
      have r5' : 0 ≤ X * (2 * u + a5) := Int.mul_nonneg (by omega) (by omega)
      have r6 : a6 * u ≤ 2 ^ 20 * 60000 := Int.mul_le_mul (by omega) (by omega) (by omega) (by omega)
      have r6' : 0 ≤ a6 * u := Int.mul_nonneg ha6 (by omega)
      have r7 : a6 * u * u ≤ 2 ^ 20 * 60000 * 60000 := Int.mul_le_mul r6 (by omega) (by omega) (by omega)
      have r7' : 0 ≤ a6 * u * u := Int.mul_nonneg r6' (by omega)
      have r8 : binop .Pow (.int (X * (2 * u + a5) + a6 * u * u + a7)) (.int 3) = some (.int ((X * (2 * u + a5) + a6 * u * u + a7) ^ 3), false) := bi_pow (j := 3) (by omega) (by omega)
      have r9 := bi_mod (i := (X * (2 * u + a5) + a6 * u * u + a7) ^ 3) (j := m3) (by omega)
      let Y : Int := ((X * (2 * u + a5) + a6 * u * u + a7) ^ 3).fmod m3
      have hst : exS P (lv P (n + 13)) [(.asg (.nm 6) (.bin .Mod (.bf .int [(.bin .Pow (.bin .Add (.bin .Add (.bin .Mult (.var 6) (.bin .Add (.bin .Mult (.cst (.int 2)) (.var 3)) (.cst (.int a5)))) (.bin .Mult (.bin .Mult (.cst (.int a6)) (.var 3)) (.var 3))) (.cst (.int a7))) (.cst (.int 3)))]) (.cst (.int m3)))), (.ret (some (.bin .Mod (.bf .int [(.bin .FloorDiv (.var 6) (.cst (.int 32)))]) (.var 1))))] ⟨E none (some (false, .int u)) (some (false, .int c)) none (some (false, .int X)), [penD ns (u + 1) g], k, 0⟩ = exS P (lv P (n + 13)) [(.ret (some (.bin .Mod (.bf .int [(.bin .FloorDiv (.var 6) (.cst (.int 32)))]) (.var 1))))] ⟨E none (some (false, .int u)) (some (false, .int c)) none (some (false, .int Y)), [penD ns (u + 1) g], k, 0⟩ := by
        clear_value X
        exact exS_nx (by simp [exS, ex1, lv_ev, lv_tst, lv_ex, evS, tstS, pk, pks, evs, evf, TI.lift, slot, share, deref, index, L2.atI, L2.ixN, cmpop, bfun, bInt, bLen, bi_add, bi_sub, asg, asgs, setv, isMut, TI.setItem, okLen, lenMax, lenI, E, penD, r1, r2, r3, r4, r8, r9, Y])
      rw [hst]
      clear_value Y
      obtain ⟨v, hv, e⟩ := fmod_nat (Y.fdiv 32) hm
      have s1 := bi_div (i := Y) (j := 32) (by omega) (by omega)
      refine ⟨v, g, ⟨E none (some (false, .int u)) (some (false, .int c)) none (some (false, .int Y)), [penD ns (u + 1) g], k, 0⟩, hv, exS_ret ?_, rfl⟩
      simp [exS, ex1, lv_ev, lv_tst, lv_ex, evS, tstS, pk, pks, evs, evf, TI.lift, slot, share, deref, index, L2.atI, L2.ixN, cmpop, bfun, bInt, bLen, bi_add, bi_sub, asg, asgs, setv, isMut, TI.setItem, okLen, lenMax, lenI, E, penD, s1, hM, e]
end
end TI

end

section
set_option Elab.async false
set_option linter.all false
set_option maxRecDepth 100000
set_option maxHeartbeats 1000000
/-! TI52: cuts and ranges. -/
namespace TI
open PySem
theorem cut_nn {α : Type} (x : List α) (a b : Nat) : cutD x (some (a : Int)) (some (b : Int)) = (x.drop a).take (b - a) := by
  unfold cutD sIx
  rw [HT.sIx_nat, HT.sIx_nat]
  by_cases h : a ≤ x.length
  · rw [Nat.min_eq_left h]
    by_cases h2 : b ≤ x.length
    · rw [Nat.min_eq_left h2]
    · rw [Nat.min_eq_right (by omega), List.take_of_length_le (by rw [List.length_drop]; omega), List.take_of_length_le (by rw [List.length_drop]; omega)]
  · rw [Nat.min_eq_right (show x.length ≤ a by omega), List.drop_eq_nil_of_le (Nat.le_refl _), List.drop_eq_nil_of_le (show x.length ≤ a by omega)]
    simp
theorem cut_on {α : Type} (x : List α) (b : Nat) : cutD x none (some (b : Int)) = x.take b := by
  unfold cutD sIx
  rw [HT.sIx_nat, HT.sIx_none]
  by_cases h2 : b ≤ x.length
  · simp [Nat.min_eq_left h2]
  · rw [Nat.min_eq_right (by omega)]
    simp only [List.drop_zero, Nat.sub_zero]
    rw [List.take_of_length_le (by omega), List.take_of_length_le (by omega)]
theorem cut_no {α : Type} (x : List α) (a : Nat) : cutD x (some (a : Int)) none = x.drop a := by
  unfold cutD sIx
  rw [HT.sIx_nat, HT.sIx_none]
  by_cases h : a ≤ x.length
  · rw [Nat.min_eq_left h, List.take_of_length_le (by rw [List.length_drop]; omega)]
  · rw [Nat.min_eq_right (by omega), List.drop_eq_nil_of_le (by omega), List.drop_eq_nil_of_le (by omega)]
    simp
theorem cut_last {α : Type} (x : List α) : cutD x none (some (-1)) = x.dropLast := by
  unfold cutD sIx
  rw [HT.sIx_none]
  have : HT.sIx x.length x.length (some (-1)) = x.length - 1 := by
    simp only [HT.sIx]
    rw [if_pos (by omega)]
    omega
  rw [this, List.dropLast_eq_take]
  simp
theorem sl_nn {x : List Nat} (h : x.length ≤ 16000000) (a b : Nat) : slice (.str x) (some (a : Int)) (some (b : Int)) = some (.str ((x.drop a).take (b - a)), false) := by
  simp only [slice, okLen, lenMax, h, decide_true, if_true, cut_nn]
theorem sl_on {x : List Nat} (h : x.length ≤ 16000000) (b : Nat) : slice (.str x) none (some (b : Int)) = some (.str (x.take b), false) := by
  simp only [slice, okLen, lenMax, h, decide_true, if_true, cut_on]
theorem sl_no {x : List Nat} (h : x.length ≤ 16000000) (a : Nat) : slice (.str x) (some (a : Int)) none = some (.str (x.drop a), false) := by
  simp only [slice, okLen, lenMax, h, decide_true, if_true, cut_no]
theorem sl_last {x : List Nat} (h : x.length ≤ 16000000) : slice (.str x) none (some (-1)) = some (.str x.dropLast, false) := by
  simp only [slice, okLen, lenMax, h, decide_true, if_true, cut_last]
theorem tx_take (ds : List Nat) (k : Nat) : (tx ds).take k = tx (ds.take k) := by simp [tx, List.map_take]
theorem tx_drop (ds : List Nat) (k : Nat) : (tx ds).drop k = tx (ds.drop k) := by simp [tx, List.map_drop]
theorem tx_dropLast (ds : List Nat) : (tx ds).dropLast = tx ds.dropLast := by simp [tx]
theorem rng_up {n z : Nat} (hz : 1 ≤ z) (hz2 : z ≤ 1000) (hn : n ≤ 1000000) : (Builtin.Range.rangeSize 0 n z) = ((n + z - 1) / z : Nat) := by
  have hc : (z : Int) > 0 := by omega
  simp only [Builtin.Range.rangeSize, hc, if_true]
  by_cases h : n = 0
  · subst h
    rw [if_neg (by omega), Nat.div_eq_of_lt (by omega)]
    rfl
  · rw [if_pos (by omega)]
    have e1 : (n : Int) - 0 - 1 = ((n - 1 : Nat) : Int) := by omega
    have e2 : n + z - 1 = (n - 1) + z := by omega
    rw [e1, e2, Nat.add_div_right _ (by omega)]
    simp
theorem rng_small {n z : Nat} (hz : 1 ≤ z) (hz2 : z ≤ 1000) (hn : n ≤ 1000000) : Builtin.Range.small 0 n z = true := by
  have h1 := rng_up hz hz2 hn
  have h2 : (n + z - 1) / z ≤ n + z - 1 := Nat.div_le_self _ _
  have hc : (z : Int) > 0 := by omega
  generalize (n + z - 1) / z = m at h1 h2
  simp only [Builtin.Range.small, Builtin.Range.rangeFitsLong, h1, hc, if_true, Bool.and_eq_true, Bool.or_eq_true, decide_eq_true_eq]
  omega
theorem up_le (n : Nat) {z : Nat} (hz : 1 ≤ z) : n ≤ (n + z - 1) / z * z ∧ (n + z - 1) / z * z < n + z := by
  have h1 := Nat.div_add_mod (n + z - 1) z
  have h2 := Nat.mod_lt (n + z - 1) (show z > 0 by omega)
  rw [Nat.mul_comm] at h1
  omega
/-- a comprehension whose turns draw -/
theorem lc_inv' {r : Rec} {own : List Nat} {e : SE} {tg : ST} {α : Type} {g : α → D} {J : List α → List D → St → Prop} (step : ∀ x xs ds st, J (x :: xs) ds st → ∃ st1 st2 d fr, asg tg (g x) false { st with env := wipeE st.env own } = some st1 ∧ r.ev e st1 = .ok (d, fr) st2 ∧ J xs (ds ++ [d]) st2) : ∀ {xs : List α} {ds : List D} {st : St}, J xs ds st → ∃ ds' st', lcLoop r own e tg [] (xs.map g) st = .ok ds' st' ∧ J [] (ds ++ ds') st'
  | [], ds, st, h => ⟨[], st, rfl, by simpa using h⟩
  | x :: xs, ds, st, h => by
    obtain ⟨st1, st2, d, fr, h1, h2, h3⟩ := step x xs ds st h
    obtain ⟨ds', st', h4, h5⟩ := lc_inv' step h3
    refine ⟨d :: ds', st', ?_, by simpa using h5⟩
    simp only [List.map_cons, lcLoop, h1, lift, tsts, R.bind_ok, if_true, h2, h4]
theorem bStr1 {d : Nat} (h : d < 10) : bStr [.int (d : Int)] = some (.str [48 + d], false) := by
  have h1 : ∀ e : Nat, 4 ≤ e → (d : Int).natAbs < 2 ^ e := fun e he => by
    have : 2 ^ 4 ≤ 2 ^ e := Nat.pow_le_pow_right (by decide) he
    rw [Int.natAbs_natCast]
    omega
  have h2 := h1 1900 (by decide)
  simp only [bStr]
  rw [decide_eq_true h2, if_pos rfl, itoa1 h]
theorem rng1_ok {r : Rec} {a : SE} {st st' : St} {m : Nat} (h : evs r [a] st = .ok [.int (m : Int)] st') (hm : m ≤ 1000000) : iterS r (.rng1 a) st = .ok ((List.range m).map fun (k : Nat) => .int (0 + (k : Int))) st' := by
  have g1 : -(2 ^ 62) ≤ (m : Int) := by omega
  have g2 : (m : Int) < 2 ^ 62 := by omega
  have e : iterS r (.rng1 a) st = (evs r [a] st).bind fun ds st => match ds with
    | [.int n] => if decide (-(2 ^ 62) ≤ n) && decide (n < 2 ^ 62) then .ok ((List.range n.toNat).map fun (k : Nat) => .int (0 + (k : Int))) st else .no
    | _ => .no := rfl
  rw [e, h, R.bind_ok]
  have hc : (decide (-(2 ^ 62) ≤ (m : Int)) && decide ((m : Int) < 2 ^ 62)) = true := by rw [Bool.and_eq_true]; exact ⟨decide_eq_true g1, decide_eq_true g2⟩
  exact if_pos hc
section
variable {P : Prg} {r : Rec} {st st1 st2 : St}
theorem ev_lc {own : List Nat} {e : SE} {tg : ST} {it : SI} {ifs : List SE} {xs ds : List D} (hi : iterS r it st = .ok xs st1) (hl : lcLoop r own e tg ifs xs st1 = .ok ds st2) (hd : ds.length ≤ 16000000) : evS P r (.lc own e tg it ifs) st = .ok (.lst ds, true) { st2 with env := backE st1.env st2.env own } := by
  simp only [evS, hi, R.bind_ok, hl, R.noExc, okLen, lenMax, hd, decide_true, if_true]
theorem ev_bm {m : Mt} {o e : SE} {x : List Nat} {d : D} {p : D × Bool} (ho : pk r o st = .ok (.str x) st1) (he : pk r e st1 = .ok d st2) (h : mfun m x d = some p) : evS P r (.bm m o e) st = .ok p st2 := by
  simp only [evS, ho, R.bind_ok, he, h, lift]
theorem pk_ev {e : SE} {p : D × Bool} (hv : ∀ i, e ≠ .var i) (h : r.ev e st = .ok p st1) : pk r e st = .ok p.1 st1 := by
  unfold pk
  split
  · exact absurd rfl (hv _)
  · rw [h, R.bind_ok]
theorem ex_ret {e : SE} {p : D × Bool} (hv : ∀ i, e ≠ .var i) (h : r.ev e st = .ok p st1) : ex1 P r (.ret (some e)) st = .ok (.ret p.1 p.2) st1 := by
  cases e <;> first | exact absurd rfl (hv _) | simp only [ex1, h, R.bind_ok]
end
/-- a comprehension with one test -/
theorem lc_filt {r : Rec} {α : Type} {own : List Nat} {e c : SE} {tg : ST} {I : St → Prop} {g f : α → D} {p : α → Bool} (xs : List α) (step : ∀ x ∈ xs, ∀ st, I st → ∃ st1 st2, asg tg (g x) false { st with env := wipeE st.env own } = some st1 ∧ r.tst c st1 = .ok (p x) st2 ∧ I st2 ∧ (p x = true → ∃ st3 fr, r.ev e st2 = .ok (f x, fr) st3 ∧ I st3)) : ∀ {st : St}, I st → ∃ st', lcLoop r own e tg [c] (xs.map g) st = .ok ((xs.filter p).map f) st' ∧ I st' := by
  induction xs with
  | nil => exact fun h => ⟨_, rfl, h⟩
  | cons x xs ih =>
    intro st h
    obtain ⟨st1, st2, h1, h2, h3, h4⟩ := step x List.mem_cons_self st h
    have ih' : ∀ st, I st → ∃ st', lcLoop r own e tg [c] (xs.map g) st = .ok ((xs.filter p).map f) st' ∧ I st' := fun st => ih (fun y hy => step y (List.mem_cons_of_mem _ hy)) (st := st)
    cases hp : p x with
    | false =>
      obtain ⟨st', h5, h6⟩ := ih' _ h3
      refine ⟨st', ?_, h6⟩
      rw [hp] at h2
      simp -implicitDefEqProofs only [List.map_cons, lcLoop, h1, lift, tsts, h2, R.bind_ok, Bool.false_eq_true, if_false, h5, List.filter_cons, hp]
    | true =>
      obtain ⟨st3, fr, h7, h8⟩ := h4 hp
      obtain ⟨st', h5, h6⟩ := ih' _ h8
      refine ⟨st', ?_, h6⟩
      rw [hp] at h2
      simp -implicitDefEqProofs only [List.map_cons, lcLoop, h1, lift, tsts, h2, R.bind_ok, if_true, h7, h5, List.filter_cons, hp]
theorem eqDs_rep (j : Nat) : eqDs (List.replicate j (.int 1)) (List.replicate j (.int 1)) = true := by
  induction j with
  | zero => rfl
  | succ j ih => simp [List.replicate_succ, eqDs, eqD, ih]
theorem pyEq_rep (j : Nat) : pyEq (.lst (List.replicate j (.int 1))) (.lst (List.replicate j (.int 1))) = some true := by
  have h : okD 64 (.lst (List.replicate j (.int 1))) = true := by
    simp only [okD, List.all_eq_true]
    intro x hx
    rw [List.eq_of_mem_replicate hx]
    rfl
  simp only [pyEq, h, Bool.and_self, if_true, eqD, eqDs_rep]
theorem lawRun_of {P : Prg} {n pen dep : Nat} {fd : FnDef} {ns : List Int} {s : SS} {rest : List SS} {st1 st2 : St} {xs : List D} (hb : fd.body = s :: rest) (h1 : ex1 P (lv P n) s ⟨start [.scr ns] fd.slots, [], dep, 0⟩ = .ok .nx st1) (h2 : slot st1 pen = some (true, .lst xs)) (h3 : noOwn pen st1.env = true) (h4 : exS P (lv P n) rest { st1 with env := st1.env.set pen (some (false, .ref 0)), sto := [.lst xs] } = .ok (.ret (.bl true) false) st2) : lawRun P n fd pen ns dep = true := by
  unfold lawRun
  rw [hb]
  simp -implicitDefEqProofs only [h1, h2, h3, h4, Bool.and_self]
end TI
namespace TI
open PySem
theorem asg_nm {i : Nat} {d : D} {fr : Bool} {env : List (Option (Bool × D))} {sto : List D} {k : Nat} (h : i < env.length) : asg (.nm i) d fr ⟨env, sto, k, 0⟩ = some ⟨env.set i (some (fr && isMut d, d)), sto, k, 0⟩ := by
  simp [asg, h, setv]
theorem asg_tpT (ts : List ST) (xs : List D) (fr : Bool) (st : St) : asg (.tp ts) (.tup xs) fr st = asgs ts xs st := by simp only [asg]
theorem asg_tpL (ts : List ST) (xs : List D) (fr : Bool) (st : St) : asg (.tp ts) (.lst xs) fr st = asgs ts xs st := by simp only [asg]
theorem asgs_nil (st : St) : asgs [] [] st = some st := by simp only [asgs]
theorem asgs_cons (t : ST) (ts : List ST) (d : D) (ds : List D) (st : St) : asgs (t :: ts) (d :: ds) st = (asg t d false st).bind fun st => asgs ts ds st := by simp only [asgs]
theorem lenI_lst (P : Prg) (r : Rec) (m : Nat) (e : SE) (xs : List D) (st : St) : lenI P r m e (.lst xs) st = .ok (.int xs.length, false) st := rfl
theorem lenI_tup (P : Prg) (r : Rec) (m : Nat) (e : SE) (xs : List D) (st : St) : lenI P r m e (.tup xs) st = .ok (.int xs.length, false) st := rfl
theorem lenI_str (P : Prg) (r : Rec) (m : Nat) (e : SE) {x : List Nat} (h : x.length ≤ 16000000) (st : St) : lenI P r m e (.str x) st = .ok (.int x.length, false) st := by
  show lift (bLen [.str x]) st _ = _
  have : bLen [.str x] = some (.int x.length, false) := by simp only [bLen, okLen, lenMax, h, decide_true, if_true]
  rw [this]; rfl
theorem eq_chr (a b : Nat) : pyEq (.str [48 + a]) (.str [48 + b]) = some (a == b) := by
  have := tx_beq [a] [b]
  simp only [tx, List.map_cons, List.map_nil] at this
  simp only [pyEq, this, List.cons_beq_cons, List.beq_nil_eq, Bool.and_true]
  simp
theorem eq_int (i j : Int) : pyEq (.int i) (.int j) = some (i == j) := rfl
theorem tx_cmp (a b : List Nat) : pyEq (.str (tx a)) (.str (tx b)) = some (a == b) := by
  simp only [pyEq, tx_beq]
theorem cat_tx {a b : List Nat} (h : a.length + b.length ≤ 16000000) : binop .Add (.str (tx a)) (.str (tx b)) = some (.str (tx (a ++ b)), false) := by
  rw [bi_cat (by rw [tx_len, tx_len]; exact h), tx_app]
theorem cat_tx1 {a : List Nat} {c : Nat} (h : a.length + 1 ≤ 16000000) : binop .Add (.str (tx a)) (.str [48 + c]) = some (.str (tx (a ++ [c])), false) := cat_tx (b := [c]) h
theorem cat_tx0 {a : List Nat} (h : a.length ≤ 16000000) : binop .Add (.str (tx a)) (.str []) = some (.str (tx a), false) := by
  have := cat_tx (a := a) (b := []) (by simpa using h)
  rw [List.append_nil] at this
  exact this
theorem rep_tx {a : List Nat} {k : Nat} (hk : k ≤ 1000) (h : a.length * k ≤ 16000000) : binop .Mult (.str (tx a)) (.int (k : Int)) = some (.str (tx (List.replicate k a).flatten), false) := by
  have hm : (lenMax : Nat) = 16000000 := rfl
  have h1 : (decide (0 ≤ (k : Int)) && decide ((k : Int) ≤ lenMax) && decide ((tx a).length * (k : Int).toNat ≤ lenMax)) = true := by
    rw [Bool.and_eq_true, Bool.and_eq_true]
    refine ⟨⟨decide_eq_true (by omega), decide_eq_true (by omega)⟩, decide_eq_true ?_⟩
    rw [tx_len, Int.toNat_natCast]
    exact h
  have e : (List.replicate k (tx a)).flatten = tx (List.replicate k a).flatten := by
    simp only [tx, List.map_flatten, List.map_replicate]
  show (if _ then _ else _) = _
  rw [if_pos h1, Int.toNat_natCast, e]
theorem for_step {r : Rec} {tg : ST} {b : List SS} {x : D} {xs : List D} {st st1 st2 : St} {X : R Fl} (h1 : asg tg x false st = some st1) (h2 : r.ex b st1 = .ok .nx st2) (h3 : forLoop r tg b xs st2 = X) : forLoop r tg b (x :: xs) st = X := by
  simp -implicitDefEqProofs only [forLoop, h1, lift, h2, R.bind_ok, h3]
theorem iter_strE {r : Rec} {e : SE} {st st' : St} {x : List Nat} {fr : Bool} (h : r.ev e st = .ok (.str x, fr) st') : iterS r (.of e) st = .ok (x.map fun c => .str [c]) st' := by
  simp -implicitDefEqProofs only [iterS, h, R.bind_ok]
theorem iter_lstE {r : Rec} {e : SE} {st st' : St} {xs : List D} {fr : Bool} (h : r.ev e st = .ok (.lst xs, fr) st') : iterS r (.of e) st = .ok xs st' := by
  simp -implicitDefEqProofs only [iterS, h, R.bind_ok]
theorem iter_tupE {r : Rec} {e : SE} {st st' : St} {xs : List D} {fr : Bool} (h : r.ev e st = .ok (.tup xs, fr) st') : iterS r (.of e) st = .ok xs st' := by
  simp -implicitDefEqProofs only [iterS, h, R.bind_ok]
theorem ex_for_ {P : Prg} {r : Rec} {t : ST} {it : SI} {b : List SS} {st st1 : St} {xs : List D} {X : R Fl} (h1 : iterS r it st = .ok xs st1) (h2 : forLoop r t b xs st1 = X) : ex1 P r (.for_ t it b) st = X := by
  simp -implicitDefEqProofs only [ex1, h1, R.bind_ok, h2]
end TI

end

section
set_option Elab.async false
set_option linter.all false
set_option maxRecDepth 100000
set_option maxHeartbeats 1000000
/-! TI53: more fuel, the same end. -/
namespace TI
open PySem
def Le {α : Type} (x y : R α) : Prop := ∀ a s, x = .ok a s → y = .ok a s
def LeC (x y : RC) : Prop := ∀ d fr sto, x = .ok d fr sto → y = .ok d fr sto
theorem Le.refl {α : Type} (x : R α) : Le x x := fun _ _ h => h
theorem Le.no {α : Type} {y : R α} : Le .no y := fun _ _ h => by cases h
theorem LeC.no {y : RC} : LeC .no y := fun _ _ _ h => by cases h
theorem Le.bind {α β : Type} {x y : R α} {f g : α → St → R β} (h : Le x y) (k : ∀ a s, Le (f a s) (g a s)) : Le (x.bind f) (y.bind g) := by
  intro a s e
  cases x with
  | ok b t => rw [h b t rfl]; exact k b t a s e
  | exc _ _ => cases e
  | no => cases e
theorem Le.lift {α β : Type} {o : Option α} {s s' : St} {f g : α → R β} (k : ∀ a, Le (f a) (g a)) : Le (TI.lift o s f) (TI.lift o s' g) := by
  cases o with
  | none => exact Le.no
  | some a => exact k a
theorem Le.noExc {α : Type} {x y : R α} (h : Le x y) : Le x.noExc y.noExc := by
  intro a s e
  cases x with
  | ok b t => rw [h b t rfl]; exact e
  | exc _ _ => cases e
  | no => cases e
structure RLe (r r' : Rec) : Prop where
  ev : ∀ e st, Le (r.ev e st) (r'.ev e st)
  tst : ∀ e st, Le (r.tst e st) (r'.tst e st)
  ex : ∀ e st, Le (r.ex e st) (r'.ex e st)
  call : ∀ f ds sto k, LeC (r.call f ds sto k) (r'.call f ds sto k)
  ini : ∀ c f ds k, LeC (r.ini c f ds k) (r'.ini c f ds k)
  lam : ∀ l cs ds k, LeC (r.lam l cs ds k) (r'.lam l cs ds k)
section
variable {P : Prg} {r r' : Rec} (h : RLe r r')
include h
theorem pk_le (e : SE) (st : St) : Le (pk r e st) (pk r' e st) := by
  cases e <;> first | exact Le.refl _ | exact (h.ev _ st).bind fun _ _ => Le.refl _
theorem pks_le : ∀ (es : List SE) (st : St), Le (pks r es st) (pks r' es st)
  | [], st => Le.refl _
  | e :: es, st => (pk_le h e st).bind fun _ st => (pks_le es st).bind fun _ _ => Le.refl _
theorem evs_le : ∀ (es : List SE) (st : St), Le (evs r es st) (evs r' es st)
  | [], st => Le.refl _
  | e :: es, st => (h.ev e st).bind fun _ st => (evs_le es st).bind fun _ _ => Le.refl _
theorem evf_le : ∀ (es : List SE) (st : St), Le (evf r es st) (evf r' es st)
  | [], st => Le.refl _
  | e :: es, st => (h.ev e st).bind fun _ st => (evf_le es st).bind fun _ _ => Le.refl _
theorem evstar_le : ∀ (es : List (Bool × SE)) (st : St), Le (evstar r es st) (evstar r' es st)
  | [], st => Le.refl _
  | (false, e) :: es, st => (h.ev e st).bind fun _ st => (evstar_le es st).bind fun _ _ => Le.refl _
  | (true, e) :: es, st => (h.ev e st).bind fun p st => by
    obtain ⟨d, fr⟩ := p
    cases d <;> first | exact Le.no | exact (evstar_le es st).bind fun _ _ => Le.refl _
theorem doCall_le (f : Nat) (es : List SE) (ds : List D) (st : St) : Le (doCall P r f es ds st) (doCall P r' f es ds st) := by
  unfold doCall
  cases P.fns[f]? with
  | none => exact Le.no
  | some fd =>
    simp only
    split
    · exact Le.no
    · cases st.dep with
      | zero => exact Le.no
      | succ k =>
        simp only
        intro a s e
        have hc := h.call f ds (if fd.pen then st.sto else []) k
        cases q : r.call f ds (if fd.pen then st.sto else []) k with
        | ok d fr sto => rw [q] at e; rw [hc _ _ _ q]; exact e
        | exc _ _ => rw [q] at e; cases e
        | no => rw [q] at e; cases e
theorem doInit_le (c f : Nat) (es : List SE) (ds : List D) (st : St) : Le (doInit r c f es ds st) (doInit r' c f es ds st) := by
  unfold doInit
  split
  · exact Le.no
  · exact Le.no
  · rename_i k _
    intro a s e
    have hc := h.ini c f ds k
    cases q : r.ini c f ds k with
    | ok d fr sto => rw [q] at e; rw [hc _ _ _ q]; exact e
    | exc _ _ => rw [q] at e; cases e
    | no => rw [q] at e; cases e
theorem doLam_le (l : Nat) (cs : List D) (es : List SE) (ds : List D) (st : St) : Le (doLam r l cs es ds st) (doLam r' l cs es ds st) := by
  unfold doLam
  split
  · exact Le.no
  · rename_i k _
    intro a s e
    have hc := h.lam l cs ds k
    cases q : r.lam l cs ds k with
    | ok d fr sto => rw [q] at e; rw [hc _ _ _ q]; exact e
    | exc _ _ => rw [q] at e; cases e
    | no => rw [q] at e; cases e
theorem callD_le (t : Tgt) (es : List SE) (ds : List D) (ks : List Nat) (zs : List D) (st : St) : Le (callD P r t es ds ks zs st) (callD P r' t es ds ks zs st) := by
  cases t with
  | fn f self =>
    simp only [callD]
    cases P.fns[f]? with
    | none => exact Le.no
    | some fd => exact Le.lift fun _ => doCall_le h f es _ st
  | obj v f =>
    simp only [callD]
    cases P.fns[f]? with
    | none => exact Le.no
    | some fd =>
      simp only
      split
      · exact Le.lift fun _ => doCall_le h f es _ st
      · exact Le.no
  | mk c =>
    simp only [callD]
    cases P.clss[c]? with
    | none => exact Le.no
    | some cd =>
      simp only
      cases cd.init with
      | none => exact Le.no
      | some f =>
        simp only
        cases P.fns[f]? with
        | none => exact Le.no
        | some fd =>
          simp only
          split
          · exact Le.lift fun _ => doInit_le h c f es _ st
          · exact Le.no
  | clo l cs =>
    simp only [callD]
    split
    · exact doLam_le h l cs es ds st
    · exact Le.no
theorem callT_le (t : Tgt) (se es : List SE) (ks : List (Nat × SE)) (st : St) : Le (callT P r t se es ks st) (callT P r' t se es ks st) :=
  (pks_le h es st).bind fun _ st => (pks_le h _ st).bind fun _ st => callD_le h t _ _ _ _ st
theorem pksL_le : ∀ (es : List SE) (st : St), Le (pksL r es st) (pksL r' es st)
  | [], st => Le.refl _
  | e :: es, st => by
    cases e <;> first | exact (pksL_le es st).bind fun _ _ => Le.refl _ | exact (pk_le h _ st).bind fun _ st => (pksL_le es st).bind fun _ _ => Le.refl _
theorem callDL_le (f : Nat) (es : List SE) (xs : List (Option D)) (st : St) : Le (callDL P r f es xs st) (callDL P r' f es xs st) := by
  unfold callDL
  cases P.fns[f]? with
  | none => exact Le.no
  | some fd =>
    simp only
    split
    · exact Le.no
    · refine Le.lift fun ds => ?_
      intro a s e
      have hc := callD_le (P := P) h (.fn f none) (capsL es) ds [] [] st
      cases q : callD P r (.fn f none) (capsL es) ds [] [] st with
      | ok p st' => rw [q] at e; rw [hc _ _ q]; exact e
      | exc _ _ => rw [q] at e; cases e
      | no => rw [q] at e; cases e
theorem getAtt_le (o : D) (oe : SE) (f : Nat) (st : St) : Le (getAtt P r o oe f st) (getAtt P r' o oe f st) := by
  cases o with
  | ins c ns vs =>
    simp only [getAtt]
    cases P.clss[c]? with
    | none => exact Le.no
    | some cd =>
      simp only
      split
      · exact Le.refl _
      · split
        · exact Le.no
        · cases cd.props.lookup f with
          | none => exact Le.refl _
          | some g =>
            simp only
            cases P.fns[g]? with
            | none => exact Le.no
            | some fd =>
              simp only
              split
              · exact (doCall_le h g _ _ _).bind fun _ _ => Le.refl _
              · exact Le.no
  | _ => exact Le.no
theorem lenI_le (m : Nat) (e : SE) (v : D) (st : St) : Le (lenI P r m e v st) (lenI P r' m e v st) := by
  cases v with
  | ins c ns vs =>
    simp only [lenI]
    cases P.clss[c]? with
    | none => exact Le.no
    | some cd =>
      simp only
      cases cd.meths.lookup m with
      | none => exact Le.no
      | some f =>
        simp only
        cases P.fns[f]? with
        | none => exact Le.no
        | some fd =>
          simp only
          split
          · exact (doCall_le h f _ _ _).bind fun p _ => Le.refl _
          · exact Le.no
  | _ => exact Le.refl _
theorem iterS_le (it : SI) (st : St) : Le (iterS r it st) (iterS r' it st) := by
  cases it with
  | of e => exact (h.ev e st).bind fun p st => Le.refl _
  | _ => exact (evs_le h _ st).bind fun ds st => Le.refl _
theorem tsts_le : ∀ (es : List SE) (st : St), Le (tsts r es st) (tsts r' es st)
  | [], st => Le.refl _
  | e :: es, st => (h.tst e st).bind fun b st => by
    cases b
    · exact Le.refl _
    · exact tsts_le es st
theorem lcLoop_le (own : List Nat) (e : SE) (tg : ST) (ifs : List SE) : ∀ (xs : List D) (st : St), Le (lcLoop r own e tg ifs xs st) (lcLoop r' own e tg ifs xs st)
  | [], st => Le.refl _
  | x :: xs, st => Le.lift fun st => (tsts_le h ifs st).bind fun b st => by
    cases b
    · exact lcLoop_le own e tg ifs xs st
    · exact (h.ev e st).bind fun p st => (lcLoop_le own e tg ifs xs st).bind fun _ _ => Le.refl _
theorem dcLoop_le (own : List Nat) (k v : SE) (tg : ST) (ifs : List SE) : ∀ (xs ks vs : List D) (st : St), Le (dcLoop r own k v tg ifs xs ks vs st) (dcLoop r' own k v tg ifs xs ks vs st)
  | [], ks, vs, st => Le.refl _
  | x :: xs, ks, vs, st => Le.lift fun st => (tsts_le h ifs st).bind fun b st => by
    cases b
    · exact dcLoop_le own k v tg ifs xs ks vs st
    · exact (h.ev k st).bind fun p st => (h.ev v st).bind fun q st => by
        split
        · exact dcLoop_le own k v tg ifs xs _ _ st
        · exact Le.no
theorem fstr_le : ∀ (es : List SE) (acc : List Nat) (st : St), Le (fstr r es acc st) (fstr r' es acc st)
  | [], acc, st => Le.refl _
  | e :: es, acc, st => (h.ev e st).bind fun p st => by
    obtain ⟨d, fr⟩ := p
    cases d <;> first | exact Le.no | skip
    simp only
    split
    · exact fstr_le es _ st
    · exact Le.no
theorem optI_le (o : Option SE) (st : St) : Le (optI r o st) (optI r' o st) := by
  cases o with
  | none => exact Le.refl _
  | some e => exact (pk_le h e st).bind fun _ _ => Le.refl _
theorem evS_le (e : SE) (st : St) : Le (evS P r e st) (evS P r' e st) := by
  cases e with
  | cst d => exact Le.refl _
  | var i => exact Le.refl _
  | bin op a b => exact (pk_le h a st).bind fun _ st => (pk_le h b st).bind fun _ _ => Le.refl _
  | neg a => exact (pk_le h a st).bind fun _ _ => Le.refl _
  | not a => exact (pk_le h a st).bind fun _ _ => Le.refl _
  | cmp op a b => exact (pk_le h a st).bind fun _ st => (pk_le h b st).bind fun _ _ => Le.refl _
  | cmp2 op op' a b c =>
    exact (pk_le h a st).bind fun _ st => (pk_le h b st).bind fun _ st => Le.lift fun k => by
      cases k
      · exact Le.refl _
      · exact (pk_le h c st).bind fun _ _ => Le.refl _
  | and a b =>
    exact (pk_le h a st).bind fun x st => by
      cases x <;> first | exact Le.no | skip
      rename_i k
      cases k
      · exact Le.refl _
      · exact h.ev b st
  | or a b =>
    exact (pk_le h a st).bind fun x st => by
      cases x <;> first | exact Le.no | skip
      rename_i k
      cases k
      · exact h.ev b st
      · exact Le.refl _
  | ite c a b =>
    exact (h.tst c st).bind fun k st => by
      cases k
      · exact h.ev b st
      · exact h.ev a st
  | tup es => exact (evs_le h es st).bind fun _ _ => Le.refl _
  | lst es => exact (evs_le h es st).bind fun _ _ => Le.refl _
  | lstS es => exact (evstar_le h es st).bind fun _ _ => Le.refl _
  | dct1 t k v => exact ((h.ev k st).bind fun _ st => (h.ev v st).bind fun _ _ => Le.refl _).noExc
  | callF f es ks => exact callT_le h _ _ _ _ st
  | callL f es => exact (pksL_le h es st).bind fun _ st => callDL_le h f es _ st
  | mk c es ks => exact callT_le h _ _ _ _ st
  | callV f es => exact (pk_le h f st).bind fun _ st => Le.lift fun _ => callT_le h _ _ _ _ st
  | bf b es => exact (pks_le h es st).bind fun _ _ => Le.refl _
  | bm m o e =>
    exact (pk_le h o st).bind fun v st => by
      cases v <;> first | exact Le.no | skip
      exact (pk_le h e st).bind fun _ _ => Le.refl _
  | mth o m es ks => exact (pk_le h o st).bind fun _ st => Le.lift fun _ => callT_le h _ _ _ _ st
  | att o f => exact (pk_le h o st).bind fun _ st => getAtt_le h _ _ _ st
  | sub o i => exact (pk_le h o st).bind fun _ st => (pk_le h i st).bind fun _ _ => Le.refl _
  | sli o lo hi => exact (pk_le h o st).bind fun _ st => (optI_le h lo st).bind fun _ st => (optI_le h hi st).bind fun _ _ => Le.refl _
  | lc own e tg it ifs => exact (iterS_le h it st).bind fun xs st => (lcLoop_le h own e tg ifs xs st).noExc.bind fun _ _ => Le.refl _
  | dc own k v tg it ifs => exact (iterS_le h it st).bind fun xs st => (dcLoop_le h own k v tg ifs xs [] [] st).noExc.bind fun _ _ => Le.refl _
  | lam l cs => exact Le.no
  | fmt e => exact (pk_le h e st).bind fun _ _ => Le.refl _
  | fst es => exact (fstr_le h es [] st).bind fun _ _ => Le.refl _
  | lenA m e => exact (pk_le h e st).bind fun v st => lenI_le h m e v st
theorem tstS_le (e : SE) (st : St) : Le (tstS r e st) (tstS r' e st) := by
  cases e with
  | not a => exact (h.tst a st).bind fun _ _ => Le.refl _
  | and a b =>
    exact (h.tst a st).bind fun x st => by
      cases x
      · exact Le.refl _
      · exact h.tst b st
  | or a b =>
    exact (h.tst a st).bind fun x st => by
      cases x
      · exact h.tst b st
      · exact Le.refl _
  | ite _ _ _ => exact Le.no
  | cmp op a b => exact (pk_le h a st).bind fun _ st => (pk_le h b st).bind fun _ _ => Le.refl _
  | cmp2 op op' a b c =>
    exact (pk_le h a st).bind fun _ st => (pk_le h b st).bind fun _ st => Le.lift fun k => by
      cases k
      · exact Le.refl _
      · exact (pk_le h c st).bind fun _ _ => Le.refl _
  | _ => exact (pk_le h _ st).bind fun _ _ => Le.refl _
theorem forLoop_le (tg : ST) (b : List SS) : ∀ (xs : List D) (st : St), Le (forLoop r tg b xs st) (forLoop r' tg b xs st)
  | [], st => Le.refl _
  | x :: xs, st => Le.lift fun st => (h.ex b st).bind fun f st => by
    cases f
    · exact forLoop_le tg b xs st
    · exact Le.refl _
    · exact Le.refl _
    · exact forLoop_le tg b xs st
theorem ex1_le (s : SS) (st : St) : Le (ex1 P r s st) (ex1 P r' s st) := by
  cases s with
  | expr e => exact (h.ev e st).bind fun _ _ => Le.refl _
  | app i e =>
    simp only [ex1]
    split
    · exact (h.ev e st).bind fun _ _ => Le.refl _
    · exact Le.no
  | asg t e => exact (h.ev e st).bind fun _ _ => Le.refl _
  | par ts es => exact (evf_le h es st).bind fun _ _ => Le.refl _
  | seti o i e => exact Le.lift (s := st) (s' := st) fun _ => (h.ev e st).bind fun _ st => (pk_le h i st).bind fun _ _ => Le.refl _
  | setf o f e => exact Le.lift (s := st) (s' := st) fun _ => (h.ev e st).bind fun _ _ => Le.refl _
  | aug i op e => exact Le.lift (s := st) (s' := st) fun _ => (h.ev e st).bind fun _ _ => Le.refl _
  | ret e =>
    cases e with
    | none => exact Le.refl _
    | some e => cases e <;> first | exact Le.refl _ | exact (h.ev _ st).bind fun _ _ => Le.refl _
  | ife c a b =>
    exact (h.tst c st).bind fun k st => by
      cases k
      · exact h.ex b st
      · exact h.ex a st
  | whl c b =>
    exact (h.tst c st).bind fun k st => by
      cases k
      · exact Le.refl _
      · exact (h.ex b st).bind fun f st => by
          cases f
          · exact h.ex _ st
          · exact Le.refl _
          · exact Le.refl _
          · exact h.ex _ st
  | for_ t it b => exact (iterS_le h it st).bind fun xs st => forLoop_le h t b xs st
  | brk => exact Le.refl _
  | ct => exact Le.refl _
  | pass => exact Le.refl _
  | rais _ => exact Le.no
theorem exS_le : ∀ (ss : List SS) (st : St), Le (exS P r ss st) (exS P r' ss st)
  | [], st => Le.refl _
  | s :: ss, st => (ex1_le h s st).bind fun f st => by
    cases f
    · exact exS_le ss st
    · exact Le.refl _
    · exact Le.refl _
    · exact Le.refl _
theorem callS_le (f : Nat) (ds sto : List D) (k : Nat) : LeC (callS P r f ds sto k) (callS P r' f ds sto k) := by
  unfold callS
  cases P.fns[f]? with
  | none => exact LeC.no
  | some fd =>
    simp only
    split
    · intro d fr sto2 e
      have hc := h.ex fd.body ⟨start ds fd.slots, sto, k, 0⟩
      cases q : r.ex fd.body ⟨start ds fd.slots, sto, k, 0⟩ with
      | ok p st' => rw [q] at e; rw [hc _ _ q]; exact e
      | exc _ _ => rw [q] at e; cases e
      | no => rw [q] at e; cases e
    · exact LeC.no
theorem iniS_le (c f : Nat) (ds : List D) (k : Nat) : LeC (iniS P r c f ds k) (iniS P r' c f ds k) := by
  unfold iniS
  cases P.fns[f]? with
  | none => exact LeC.no
  | some fd =>
    simp only
    split
    · intro d fr sto2 e
      have hc := h.ex fd.body ⟨some (true, .ins c [] []) :: start ds (fd.slots - 1), [], k, 1⟩
      cases q : r.ex fd.body ⟨some (true, .ins c [] []) :: start ds (fd.slots - 1), [], k, 1⟩ with
      | ok p st' => rw [q] at e; rw [hc _ _ q]; exact e
      | exc _ _ => rw [q] at e; cases e
      | no => rw [q] at e; cases e
    · exact LeC.no
theorem lamS_le (l : Nat) (cs ds : List D) (k : Nat) : LeC (lamS P r l cs ds k) (lamS P r' l cs ds k) := by
  unfold lamS
  cases P.lams[l]? with
  | none => exact LeC.no
  | some ld =>
    simp only
    split
    · intro d fr sto2 e
      have hc := h.ev ld.body ⟨start (ds ++ cs) ld.slots, [], k, 0⟩
      cases q : r.ev ld.body ⟨start (ds ++ cs) ld.slots, [], k, 0⟩ with
      | ok p st' => rw [q] at e; rw [hc _ _ q]; exact e
      | exc _ _ => rw [q] at e; cases e
      | no => rw [q] at e; cases e
    · exact LeC.no
end
theorem lv_up (P : Prg) : ∀ n, RLe (lv P n) (lv P (n + 1))
  | 0 => ⟨fun _ _ => Le.no, fun _ _ => Le.no, fun _ _ => Le.no, fun _ _ _ _ => LeC.no, fun _ _ _ _ => LeC.no, fun _ _ _ _ => LeC.no⟩
  | n + 1 =>
    have h := lv_up P n
    ⟨evS_le h, tstS_le h, exS_le h, callS_le h, iniS_le h, lamS_le h⟩
theorem lv_mono (P : Prg) {n m : Nat} (h : n ≤ m) : RLe (lv P n) (lv P m) := by
  induction h with
  | refl => exact ⟨fun _ _ => Le.refl _, fun _ _ => Le.refl _, fun _ _ => Le.refl _, fun _ _ _ _ _ _ _ h => h, fun _ _ _ _ _ _ _ h => h, fun _ _ _ _ _ _ _ h => h⟩
  | @step j _ ih =>
    have u := lv_up P j
    exact ⟨fun e st a s h => u.ev e st a s (ih.ev e st a s h), fun e st a s h => u.tst e st a s (ih.tst e st a s h), fun e st a s h => u.ex e st a s (ih.ex e st a s h), fun f ds sto k a b c h => u.call f ds sto k a b c (ih.call f ds sto k a b c h), fun f ds sto k a b c h => u.ini f ds sto k a b c (ih.ini f ds sto k a b c h), fun f ds sto k a b c h => u.lam f ds sto k a b c (ih.lam f ds sto k a b c h)⟩
/-- a call's end at more fuel -/
theorem call_up {P : Prg} {n f : Nat} {ds sto : List D} {k : Nat} {d : D} {fr : Bool} {sto' : List D} (h : (lv P n).call f ds sto k = .ok d fr sto') (m : Nat) : (lv P (n + m)).call f ds sto k = .ok d fr sto' := (lv_mono P (Nat.le_add_right n m)).call _ _ _ _ _ _ _ h
theorem call_upC {P : Prg} {n f : Nat} {ds sto : List D} {k : Nat} {d : D} {fr : Bool} {sto' : List D} (h : (lv P n).call f ds sto k = .ok d fr sto') (m : Nat) : (lv P (m + n)).call f ds sto k = .ok d fr sto' := (lv_mono P (Nat.le_add_left n m)).call _ _ _ _ _ _ _ h
theorem ini_upC {P : Prg} {n c f : Nat} {ds : List D} {k : Nat} {d : D} {fr : Bool} {sto' : List D} (h : (lv P n).ini c f ds k = .ok d fr sto') (m : Nat) : (lv P (m + n)).ini c f ds k = .ok d fr sto' := (lv_mono P (Nat.le_add_left n m)).ini _ _ _ _ _ _ _ h
theorem exS_up {P : Prg} {n : Nat} {ss : List SS} {st st' : St} {f : Fl} (h : exS P (lv P n) ss st = .ok f st') (m : Nat) : exS P (lv P (m + n)) ss st = .ok f st' := exS_le (lv_mono P (Nat.le_add_left n m)) _ _ _ _ h
theorem ex1_up {P : Prg} {n : Nat} {ss : SS} {st st' : St} {f : Fl} (h : ex1 P (lv P n) ss st = .ok f st') (m : Nat) : ex1 P (lv P (m + n)) ss st = .ok f st' := ex1_le (lv_mono P (Nat.le_add_left n m)) _ _ _ _ h
end TI

end

section
set_option Elab.async false
set_option linter.all false
set_option maxRecDepth 100000
set_option maxHeartbeats 0
namespace K10
open PySem L2 PySem.Spec PyProof.Rows TI
abbrev prog : Program := PySem.Challenge.pw_codechain_k10_whole_stuffers_for_all_tex
def noS : Stmt := .Pass ⟨0, 0, 0, 0⟩
def topS (i : Nat) : Stmt := prog.main.body.getD i noS
def clsS (i j : Nat) : Stmt := match topS i with
  | .ClassDef _ _ _ body _ _ _ _ _ _ _ => body.getD j noS
  | _ => noS
def argE (s : Stmt) (i j : Nat) : Expr := (argsOf (valOf ((defBody s).getD i noS))).getD j (.Constant .none 0 ⟨0, 0, 0, 0⟩)
def lamP : Expr → Arguments
  | .Lambda a _ _ _ => a
  | _ => ⟨[], [], none, [], [], none, []⟩
def lamE : Expr → Expr
  | .Lambda _ e _ _ => e
  | e => e
def lamSc : Expr → Scope
  | .Lambda _ _ s _ => s
  | _ => ⟨.function, [], false, false, []⟩
def nms_0 : List (Str) := ["__call__", "__len__", "append", "back", "begin", "ends", "join", "led", "machine", "most", "own_machine", "own_reader", "own_texts", "reader", "reads", "sign", "steps", "weight", "writes"]
def nms : List (Str) := nms_0
def gl_0 : List (Str × D) := [("is_integer", (.fn 22)), ("is_within", (.fn 19)), ("is_sign_count", (.fn 17)), ("is_word", (.fn 18)), ("is_short_machines", (.fn 28)), ("is_step", (.fn 29)), ("are_steps", (.fn 26)), ("are_ends", (.fn 27)), ("need_parts", (.fn 23)), ("run_from", (.fn 37)), ("texts_to", (.fn 24)), ("weight_of", (.fn 25)), ("Machine", (.cls 1)), ("is_short_links", (.fn 11)), ("need_signs", (.fn 10)), ("need_within", (.fn 12)), ("built", (.fn 13)), ("nothing_at", (.fn 15)), ("next_run", (.fn 21)), ("stuffed", (.fn 14))]
def gl_1 : List (Str × D) := [("bared", (.fn 16)), ("Stuffer", (.cls 0)), ("_law_pen", (.fn 1)), ("_law_draw", (.fn 4)), ("_law_pick", (.fn 2)), ("_law_written", (.fn 8)), ("_law_read", (.fn 9)), ("_law_longest", (.fn 6)), ("_law_word", (.fn 7)), ("_law_right", (.fn 3)), ("law", (.fn 0)), ("SIGNS_words", (.str [48, 49, 50, 51])), ("FEWEST_SIGNS", (.int 2)), ("MOST_SIGNS", (.int 4)), ("MOST_STATES", (.int 400)), ("MOST_LONG", (.int 200)), ("SIGNS_links", (.str [48, 49, 50, 51])), ("MOST_RUN", (.int 5)), ("FULL", (.str [102, 117, 108, 108]))]
def gl : List (Str × D) := gl_0 ++ gl_1
def glo (x : Str) : Option D := gl.lookup x
def cfg : Cfg := ⟨nms, 38, [some 5, some 20]⟩
/- law -/
abbrev s0 : Stmt := topS 75
def N0 : List Str := (["_law_script", "_law_pen_here", "_law_turn", "_law_signs", "_law_two"] : List Str)
def G0 (mk : Option (Str × Value)) : Gam := ⟨N0, defScope s0, glo, fun _ => true, mk⟩
/- _law_pen -/
abbrev s1 : Stmt := topS 67
def N1 : List Str := (["_law_script"] : List Str)
def G1 (mk : Option (Str × Value)) : Gam := ⟨N1, defScope s1, glo, fun _ => true, mk⟩
/- _law_pick -/
abbrev s2 : Stmt := topS 69
def N2 : List Str := (["_law_pen_here", "_law_some"] : List Str)
def G2 (mk : Option (Str × Value)) : Gam := ⟨N2, defScope s2, glo, fun _ => true, mk⟩
/- _law_right -/
abbrev s3 : Stmt := topS 74
def N3 : List Str := (["_law_pen_here", "_law_signs", "_law_sign", "_law_most", "_law_made", "_law_put", "_law_word_here", "_law_turn", "_law_text", "_law_marks", "_law_due"] : List Str)
def G3 (mk : Option (Str × Value)) : Gam := ⟨N3, defScope s3, glo, fun _ => true, mk⟩
/- _law_draw -/
abbrev s4 : Stmt := topS 68
def N4 : List Str := (["_law_pen_here", "_law_many", "_law_digit", "_law_place", "_law_cell", "_law_great", "_law_mixed"] : List Str)
def G4 (mk : Option (Str × Value)) : Gam := ⟨N4, defScope s4, glo, fun _ => true, mk⟩
/- Stuffer.__init__ -/
abbrev s5 : Stmt := clsS 65 1
def N5 : List Str := (["self", "reads", "sign", "most", "put"] : List Str)
def G5 (mk : Option (Str × Value)) : Gam := ⟨N5, defScope s5, glo, fun _ => true, mk⟩
/- _law_longest -/
abbrev s6 : Stmt := topS 72
def N6 : List Str := (["_law_made", "_law_sign", "_law_rows", "_law_seen", "_law_best", "_law_at", "_law_state", "_law_run", "_law_word_here", "_law_later", "_law_behind", "_law_mark"] : List Str)
def G6 (mk : Option (Str × Value)) : Gam := ⟨N6, defScope s6, glo, fun _ => true, mk⟩
/- _law_word -/
abbrev s7 : Stmt := topS 73
def N7 : List Str := (["_law_pen_here", "_law_signs", "_law_sign", "_law_found", "_law_turn"] : List Str)
def G7 (mk : Option (Str × Value)) : Gam := ⟨N7, defScope s7, glo, fun _ => true, mk⟩
/- _law_written -/
abbrev s8 : Stmt := topS 70
def N8 : List Str := (["_law_sign", "_law_put", "_law_most", "_law_text", "_law_found", "_law_run", "_law_one"] : List Str)
def G8 (mk : Option (Str × Value)) : Gam := ⟨N8, defScope s8, glo, fun _ => true, mk⟩
/- _law_read -/
abbrev s9 : Stmt := topS 71
def N9 : List Str := (["_law_sign", "_law_most", "_law_marks", "_law_found", "_law_run", "_law_mark"] : List Str)
def G9 (mk : Option (Str × Value)) : Gam := ⟨N9, defScope s9, glo, fun _ => true, mk⟩
/- need_signs -/
abbrev s10 : Stmt := topS 55
def N10 : List Str := (["value", "part"] : List Str)
def G10 (mk : Option (Str × Value)) : Gam := ⟨N10, defScope s10, glo, fun _ => true, mk⟩
/- is_short -/
abbrev s11 : Stmt := topS 53
def N11 : List Str := (["value", "signs", "most"] : List Str)
def G11 (mk : Option (Str × Value)) : Gam := ⟨N11, defScope s11, glo, fun _ => true, mk⟩
/- need_within -/
abbrev s12 : Stmt := topS 56
def N12 : List Str := (["value", "least", "most", "part"] : List Str)
def G12 (mk : Option (Str × Value)) : Gam := ⟨N12, defScope s12, glo, fun _ => true, mk⟩
/- built -/
abbrev s13 : Stmt := topS 57
def N13 : List Str := (["reads", "writes", "start", "step", "end", "begin", "order", "numbers", "steps", "at", "row", "sign", "word", "later", "state"] : List Str)
def G13 (mk : Option (Str × Value)) : Gam := ⟨N13, defScope s13, glo, fun _ => true, mk⟩
/- stuffed -/
abbrev s14 : Stmt := topS 63
def N14 : List Str := (["watch", "put", "most", "run", "sign", "later"] : List Str)
def G14 (mk : Option (Str × Value)) : Gam := ⟨N14, defScope s14, glo, fun _ => true, mk⟩
/- nothing_at -/
abbrev s15 : Stmt := topS 58
def N15 : List Str := (["state"] : List Str)
def G15 (mk : Option (Str × Value)) : Gam := ⟨N15, defScope s15, glo, fun _ => true, mk⟩
/- bared -/
abbrev s16 : Stmt := topS 64
def N16 : List Str := (["watch", "most", "run", "mark"] : List Str)
def G16 (mk : Option (Str × Value)) : Gam := ⟨N16, defScope s16, glo, fun _ => true, mk⟩
/- is_sign_count -/
abbrev s17 : Stmt := topS 21
def N17 : List Str := (["value"] : List Str)
def G17 (mk : Option (Str × Value)) : Gam := ⟨N17, defScope s17, glo, fun _ => true, mk⟩
/- is_word -/
abbrev s18 : Stmt := topS 22
def N18 : List Str := (["value", "q", "sign"] : List Str)
def G18 (mk : Option (Str × Value)) : Gam := ⟨N18, defScope s18, glo, fun _ => true, mk⟩
/- is_within -/
abbrev s19 : Stmt := topS 14
def N19 : List Str := (["value", "least", "most"] : List Str)
def G19 (mk : Option (Str × Value)) : Gam := ⟨N19, defScope s19, glo, fun _ => true, mk⟩
/- Machine.__init__ -/
abbrev s20 : Stmt := clsS 49 0
def N20 : List Str := (["self", "reads", "writes", "steps", "ends", "begin", "texts", "alive", "spots", "at", "state", "word", "goal"] : List Str)
def G20 (mk : Option (Str × Value)) : Gam := ⟨N20, defScope s20, glo, fun _ => true, mk⟩
/- next_run -/
abbrev s21 : Stmt := topS 62
def N21 : List Str := (["run", "most"] : List Str)
def G21 (mk : Option (Str × Value)) : Gam := ⟨N21, defScope s21, glo, fun _ => true, mk⟩
/- is_integer -/
abbrev s22 : Stmt := topS 13
def N22 : List Str := (["value"] : List Str)
def G22 (mk : Option (Str × Value)) : Gam := ⟨N22, defScope s22, glo, fun _ => true, mk⟩
/- need_parts -/
abbrev s23 : Stmt := topS 41
def N23 : List Str := (["reads", "writes", "steps", "ends", "begin"] : List Str)
def G23 (mk : Option (Str × Value)) : Gam := ⟨N23, defScope s23, glo, fun _ => true, mk⟩
/- texts_to -/
abbrev s24 : Stmt := topS 43
def N24 : List Str := (["steps", "texts", "states", "at", "sign", "word", "goal"] : List Str)
def G24 (mk : Option (Str × Value)) : Gam := ⟨N24, defScope s24, glo, fun _ => true, mk⟩
/- weight_of -/
abbrev s25 : Stmt := topS 44
def N25 : List Str := (["steps", "ends", "begin", "total", "row", "end", "word", "goal"] : List Str)
def G25 (mk : Option (Str × Value)) : Gam := ⟨N25, defScope s25, glo, fun _ => true, mk⟩
/- are_steps -/
abbrev s26 : Stmt := topS 39
def N26 : List Str := (["value", "reads", "writes", "row", "step"] : List Str)
def G26 (mk : Option (Str × Value)) : Gam := ⟨N26, defScope s26, glo, fun _ => true, mk⟩
/- are_ends -/
abbrev s27 : Stmt := topS 40
def N27 : List Str := (["value", "writes", "many", "word"] : List Str)
def G27 (mk : Option (Str × Value)) : Gam := ⟨N27, defScope s27, glo, fun _ => true, mk⟩
/- is_short -/
abbrev s28 : Stmt := topS 36
def N28 : List Str := (["value", "q"] : List Str)
def G28 (mk : Option (Str × Value)) : Gam := ⟨N28, defScope s28, glo, fun _ => true, mk⟩
/- is_step -/
abbrev s29 : Stmt := topS 38
def N29 : List Str := (["value", "writes", "many"] : List Str)
def G29 (mk : Option (Str × Value)) : Gam := ⟨N29, defScope s29, glo, fun _ => true, mk⟩
/- Link.__call__ -/
abbrev s30 : Stmt := clsS 52 3
def N30 : List Str := (["self", "text"] : List Str)
def G30 (mk : Option (Str × Value)) : Gam := ⟨N30, defScope s30, glo, fun _ => true, mk⟩
/- Link.back -/
abbrev s31 : Stmt := clsS 52 4
def N31 : List Str := (["self", "marks"] : List Str)
def G31 (mk : Option (Str × Value)) : Gam := ⟨N31, defScope s31, glo, fun _ => true, mk⟩
/- Link.machine -/
abbrev s32 : Stmt := clsS 52 1
def N32 : List Str := (["self"] : List Str)
def G32 (mk : Option (Str × Value)) : Gam := ⟨N32, defScope s32, glo, fun _ => true, mk⟩
/- Link.reader -/
abbrev s33 : Stmt := clsS 52 2
def N33 : List Str := (["self"] : List Str)
def G33 (mk : Option (Str × Value)) : Gam := ⟨N33, defScope s33, glo, fun _ => true, mk⟩
/- Machine.__call__ -/
abbrev s34 : Stmt := clsS 49 4
def N34 : List Str := (["self", "text", "told", "state"] : List Str)
def G34 (mk : Option (Str × Value)) : Gam := ⟨N34, defScope s34, glo, fun _ => true, mk⟩
/- Machine.__len__ -/
abbrev s35 : Stmt := clsS 49 8
def N35 : List Str := (["self"] : List Str)
def G35 (mk : Option (Str × Value)) : Gam := ⟨N35, defScope s35, glo, fun _ => true, mk⟩
/- Machine.led -/
abbrev s36 : Stmt := clsS 49 5
def N36 : List Str := (["self", "text", "told", "state"] : List Str)
def G36 (mk : Option (Str × Value)) : Gam := ⟨N36, defScope s36, glo, fun _ => true, mk⟩
/- run_from -/
abbrev s37 : Stmt := topS 42
def N37 : List Str := (["steps", "state", "text", "found", "sign", "word"] : List Str)
def G37 (mk : Option (Str × Value)) : Gam := ⟨N37, defScope s37, glo, fun _ => true, mk⟩
def t0 : LamT := ⟨lamQ "Stuffer.__init__", lamP (argE s5 8 3), lamE (argE s5 8 3), lamSc (argE s5 8 3), ["run", "one"], ["sign", "put", "most"]⟩
def LN0 : List Str := ["run", "one", "sign", "put", "most"]
def LG0 : Gam := ⟨LN0, t0.scope, glo, fun _ => false, none⟩
def t1 : LamT := ⟨lamQ "Stuffer.__init__", lamP (argE s5 9 3), lamE (argE s5 9 3), lamSc (argE s5 9 3), ["run", "mark"], ["sign", "most"]⟩
def LN1 : List Str := ["run", "mark", "sign", "most"]
def LG1 : Gam := ⟨LN1, t1.scope, glo, fun _ => false, none⟩
def b0 : List SS := [(.asg (.nm 1) (.callF 1 [(.var 0)] [])), (.for_ (.nm 2) (.rng1 (.cst (.int 3))) [(.asg (.nm 3) (.callF 2 [(.var 1), (.lst [(.cst (.int 2)), (.cst (.int 2)), (.cst (.int 3)), (.cst (.int 4))])] [])), (.ife (.not (.callF 3 [(.var 1), (.var 3), (.bf .str [(.callF 4 [(.var 1), (.var 3)] [])]), (.bin .Add (.cst (.int 1)) (.callF 4 [(.var 1), (.cst (.int 5))] []))] [])) [(.ret (some (.cst (.bl false))))] [])]), (.asg (.nm 4) (.mk 0 [(.cst (.int 2)), (.cst (.str [49])), (.cst (.int 2))] [])), (.ret (some (.cmp .Eq (.lst [(.callV (.var 4) [(.cst (.str [49, 49, 49, 48]))]), (.mth (.var 4) 3 [(.cst (.str [49, 49, 48, 49, 48]))] []), (.mth (.var 4) 3 [(.cst (.str [49, 49, 49, 49]))] []), (.callV (.mk 0 [(.cst (.int 3)), (.cst (.str [50])), (.cst (.int 1))] []) [(.cst (.str [48, 50, 49, 50]))])]) (.lst [(.cst (.str [49, 49, 48, 49, 48])), (.cst (.str [49, 49, 49, 48])), (.cst (.str [49, 49, 49])), (.cst (.str [48, 50, 48, 49, 50, 48]))]))))]
def f0 : FnDef := ⟨1, [], [(1, [], [.pos 0])], 5, b0, false, false⟩
def d0 : FD := ⟨.glo "law", "law", "law", defArgs s0, defBody s0, defScope s0, ["_law_script"], N0, [], f0, []⟩
def b1 : List SS := [(.ret (some (.lst [(.bf .list [(.sli (.var 0) none (some (.cst (.int 63))))]), (.cst (.int 0)), (.cst (.int 0))])))]
def f1 : FnDef := ⟨1, [], [(1, [], [.pos 0])], 1, b1, false, false⟩
def d1 : FD := ⟨.glo "_law_pen", "_law_pen", "_law_pen", defArgs s1, defBody s1, defScope s1, ["_law_script"], N1, [], f1, []⟩
def b2 : List SS := [(.ret (some (.sub (.var 1) (.callF 4 [(.var 0), (.lenA 1 (.var 1))] []))))]
def f2 : FnDef := ⟨2, [], [(2, [], [.pos 0, .pos 1])], 2, b2, true, false⟩
def d2 : FD := ⟨.glo "_law_pick", "_law_pick", "_law_pick", defArgs s2, defBody s2, defScope s2, ["_law_pen_here", "_law_some"], N2, [], f2, []⟩
def b3 : List SS := [(.par [4, 5] [(.mk 0 [(.var 1), (.var 2), (.var 3)] []), (.bf .str [(.bin .Mod (.bf .int [(.bin .Add (.bf .int [(.var 2)]) (.cst (.int 1)))]) (.var 1))])]), (.ife (.or (.cmp .NotEq (.callF 6 [(.var 4), (.var 2)] []) (.var 3)) (.cmp .NotEq (.lst [(.att (.att (.var 4) 8) 4), (.lenA 1 (.att (.att (.var 4) 8) 5))]) (.lst [(.cst (.str [])), (.lenA 1 (.att (.var 4) 8))]))) [(.ret (some (.cst (.bl false))))] []), (.ife (.or (.cmp .NotEq (.lc [6] (.var 6) (.nm 6) (.of (.att (.att (.var 4) 8) 5)) [(.cmp .NotEq (.var 6) (.cst (.str [])))]) (.lst [])) (.cmp .NotEq (.lc [6] (.var 6) (.nm 6) (.of (.att (.att (.var 4) 13) 5)) [(.cmp .NotEq (.var 6) (.cst (.str [])))]) (.lst []))) [(.ret (some (.cst (.bl false))))] []), (.for_ (.nm 7) (.rng1 (.cst (.int 5))) [(.par [8, 9] [(.callF 7 [(.var 0), (.var 1), (.var 2)] []), (.callF 7 [(.var 0), (.var 1), (.callF 2 [(.var 0), (.lst [(.var 2), (.var 5)])] [])] [])]), (.asg (.nm 10) (.callF 8 [(.var 2), (.var 5), (.var 3), (.var 8)] [])), (.ife (.or (.cmp .NotEq (.callV (.var 4) [(.var 8)]) (.var 10)) (.or (.cmp .NotEq (.mth (.var 4) 3 [(.var 10)] []) (.var 8)) (.cmp .NotEq (.mth (.var 4) 3 [(.var 9)] []) (.callF 9 [(.var 2), (.var 3), (.var 9)] [])))) [(.ret (some (.cst (.bl false))))] []), (.ife (.or (.cmp .NotEq (.mth (.var 4) 3 [(.bin .Add (.var 10) (.var 9))] []) (.callF 9 [(.var 2), (.var 3), (.bin .Add (.var 10) (.var 9))] [])) (.cmp .NotEq (.sub (.mth (.att (.var 4) 8) 7 [(.var 8)] []) (.cst (.int 0))) (.var 10))) [(.ret (some (.cst (.bl false))))] []), (.ife (.or (.cmp .Gt (.lenA 1 (.var 10)) (.bin .Add (.lenA 1 (.var 8)) (.bin .FloorDiv (.lenA 1 (.var 8)) (.var 3)))) (.cmp .NotEq (.callV (.var 4) [(.bin .Mult (.var 2) (.lenA 1 (.var 8)))]) (.callF 8 [(.var 2), (.var 5), (.var 3), (.bin .Mult (.var 2) (.lenA 1 (.var 8)))] []))) [(.ret (some (.cst (.bl false))))] [])]), (.ret (some (.cmp .Eq (.lenA 1 (.callV (.var 4) [(.bin .Mult (.var 2) (.cst (.int 40)))])) (.bin .Add (.cst (.int 40)) (.bin .FloorDiv (.cst (.int 40)) (.var 3))))))]
def f3 : FnDef := ⟨4, [], [(4, [], [.pos 0, .pos 1, .pos 2, .pos 3])], 11, b3, true, false⟩
def d3 : FD := ⟨.glo "_law_right", "_law_right", "_law_right", defArgs s3, defBody s3, defScope s3, ["_law_pen_here", "_law_signs", "_law_sign", "_law_most"], N3, [], f3, []⟩
def b4 : List SS := [(.ife (.cmp .Gt (.sub (.var 0) (.cst (.int 2))) (.cst (.int 0))) [(.asg (.nm 2) (.bin .Mod (.bf .int [(.sub (.var 0) (.cst (.int 2)))]) (.var 1))), (.seti 0 (.cst (.int 2)) (.bin .FloorDiv (.bf .int [(.sub (.var 0) (.cst (.int 2)))]) (.var 1))), (.ret (some (.var 2)))] []), (.asg (.nm 3) (.sub (.var 0) (.cst (.int 1)))), (.seti 0 (.cst (.int 1)) (.bin .Add (.var 3) (.cst (.int 1)))), (.asg (.nm 4) (.bin .Add (.bin .Mult (.cst (.int 73349)) (.var 3)) (.cst (.int 2849)))), (.ife (.cmp .NotEq (.sub (.var 0) (.cst (.int 0))) (.lst [])) [(.asg (.nm 4) (.sub (.sub (.var 0) (.cst (.int 0))) (.bin .Mod (.bf .int [(.var 3)]) (.lenA 1 (.sub (.var 0) (.cst (.int 0)))))))] []), (.ife (.and (.cmp .Lt (.var 3) (.lenA 1 (.sub (.var 0) (.cst (.int 0))))) (.cmp .GtE (.bf .abs [(.var 4)]) (.bin .Pow (.cst (.int 10)) (.cst (.int 18))))) [(.asg (.nm 5) (.bin .Add (.bin .Mult (.cst (.int 2)) (.bin .Sub (.bf .abs [(.var 4)]) (.bin .Pow (.cst (.int 10)) (.cst (.int 18))))) (.bf .int [(.cmp .Lt (.var 4) (.cst (.int 0)))]))), (.seti 0 (.cst (.int 2)) (.bin .FloorDiv (.bf .int [(.var 5)]) (.var 1))), (.ret (some (.bin .Mod (.bf .int [(.var 5)]) (.var 1))))] []), (.asg (.nm 6) (.bin .Mod (.bf .int [(.bin .Pow (.bin .Add (.bin .Add (.bin .Mod (.bf .int [(.var 4)]) (.cst (.int 2147483059))) (.bin .Mult (.cst (.int 84419)) (.var 3))) (.cst (.int 3295))) (.cst (.int 5)))]) (.cst (.int 2147483053)))), (.asg (.nm 6) (.bin .Mod (.bf .int [(.bin .Pow (.bin .Add (.bin .Add (.bin .Mult (.var 6) (.bin .Add (.bin .Mult (.cst (.int 2)) (.var 3)) (.cst (.int 453)))) (.bin .Mult (.bin .Mult (.cst (.int 51517)) (.var 3)) (.var 3))) (.cst (.int 901))) (.cst (.int 3)))]) (.cst (.int 2147483033)))), (.ret (some (.bin .Mod (.bf .int [(.bin .FloorDiv (.var 6) (.cst (.int 32)))]) (.var 1))))]
def f4 : FnDef := ⟨2, [], [(2, [], [.pos 0, .pos 1])], 7, b4, true, false⟩
def d4 : FD := ⟨.glo "_law_draw", "_law_draw", "_law_draw", defArgs s4, defBody s4, defScope s4, ["_law_pen_here", "_law_many"], N4, [], f4, []⟩
def b5 : List SS := [(.expr (.callF 10 [(.var 1), (.cst (.str [114, 101, 97, 100, 115]))] [])), (.ife (.not (.callF 11 [(.var 2), (.var 1), (.cst (.int 1))] [])) [(.rais (.cst .non))] []), (.expr (.callF 12 [(.var 3), (.cst (.int 1)), (.cst (.int 5)), (.cst (.str [109, 111, 115, 116]))] [])), (.asg (.nm 4) (.bf .str [(.bin .Mod (.bin .Add (.bf .int [(.var 2)]) (.cst (.int 1))) (.var 1))])), (.setf 0 14 (.var 1)), (.setf 0 18 (.var 1)), (.setf 0 15 (.var 2)), (.setf 0 9 (.var 3)), (.setf 0 10 (.callL 13 [(.var 1), (.var 1), (.cst (.str [48])), (.lam 0 [2, 4, 3]), (.cst (.fn 15))])), (.setf 0 11 (.callL 13 [(.var 1), (.var 1), (.cst (.str [48])), (.lam 1 [2, 3]), (.cst (.fn 15))]))]
def f5 : FnDef := ⟨4, [], [(3, [], [.pos 0, .pos 1, .pos 2])], 5, b5, false, true⟩
def d5 : FD := ⟨.met "Stuffer" "__init__", "__init__", "Stuffer.__init__", defArgs s5, defBody s5, defScope s5, ["self", "reads", "sign", "most"], N5, [], f5, [0, 1]⟩
def b6 : List SS := [(.par [2, 3, 4, 5] [(.lst [(.tup [(.cst (.int 0)), (.cst (.int 0))])]), (.dct1 true (.tup [(.cst (.int 0)), (.cst (.int 0))]) (.cst (.bl true))), (.cst (.int 0)), (.cst (.int 0))]), (.whl (.and (.cmp .Lt (.var 5) (.lenA 1 (.var 2))) (.cmp .Lt (.lenA 1 (.var 2)) (.cst (.int 1000)))) [(.asg (.tp [(.nm 6), (.nm 7)]) (.sub (.var 2) (.var 5))), (.for_ (.tp [(.nm 8), (.nm 9)]) (.of (.sub (.att (.att (.var 0) 8) 16) (.var 6))) [(.asg (.nm 10) (.var 7)), (.for_ (.nm 11) (.of (.var 8)) [(.asg (.nm 10) (.ite (.cmp .Eq (.var 11) (.var 1)) (.bin .Add (.var 10) (.cst (.int 1))) (.cst (.int 0)))), (.asg (.nm 4) (.bf .max [(.bf .int [(.var 4)]), (.bf .int [(.var 10)])]))]), (.ife (.cmp .NotIn (.tup [(.var 9), (.var 10)]) (.var 3)) [(.seti 3 (.tup [(.var 9), (.var 10)]) (.cst (.bl true))), (.app 2 (.tup [(.var 9), (.var 10)]))] [])]), (.asg (.nm 5) (.bin .Add (.var 5) (.cst (.int 1))))]), (.ret (some (.var 4)))]
def f6 : FnDef := ⟨2, [], [(2, [], [.pos 0, .pos 1])], 12, b6, false, false⟩
def d6 : FD := ⟨.glo "_law_longest", "_law_longest", "_law_longest", defArgs s6, defBody s6, defScope s6, ["_law_made", "_law_sign"], N6, [], f6, []⟩
def b7 : List SS := [(.asg (.nm 3) (.cst (.str []))), (.for_ (.nm 4) (.rng1 (.callF 4 [(.var 0), (.cst (.int 8))] [])) [(.asg (.nm 3) (.bin .Add (.bin .Add (.var 3) (.bin .Mult (.var 2) (.callF 4 [(.var 0), (.cst (.int 8))] []))) (.bin .Mult (.bf .str [(.callF 4 [(.var 0), (.var 1)] [])]) (.callF 4 [(.var 0), (.cst (.int 3))] []))))]), (.ret (some (.sli (.var 3) none (some (.cst (.int 40))))))]
def f7 : FnDef := ⟨3, [], [(3, [], [.pos 0, .pos 1, .pos 2])], 5, b7, true, false⟩
def d7 : FD := ⟨.glo "_law_word", "_law_word", "_law_word", defArgs s7, defBody s7, defScope s7, ["_law_pen_here", "_law_signs", "_law_sign"], N7, [], f7, []⟩
def b8 : List SS := [(.par [4, 5] [(.cst (.str [])), (.cst (.int 0))]), (.for_ (.nm 6) (.of (.var 3)) [(.asg (.nm 5) (.ite (.cmp .Eq (.var 6) (.var 0)) (.bin .Add (.var 5) (.cst (.int 1))) (.cst (.int 0)))), (.asg (.nm 4) (.bin .Add (.bin .Add (.var 4) (.var 6)) (.ite (.cmp .Eq (.var 5) (.var 2)) (.var 1) (.cst (.str []))))), (.asg (.nm 5) (.ite (.cmp .Eq (.var 5) (.var 2)) (.cst (.int 0)) (.var 5)))]), (.ret (some (.var 4)))]
def f8 : FnDef := ⟨4, [], [(4, [], [.pos 0, .pos 1, .pos 2, .pos 3])], 7, b8, false, false⟩
def d8 : FD := ⟨.glo "_law_written", "_law_written", "_law_written", defArgs s8, defBody s8, defScope s8, ["_law_sign", "_law_put", "_law_most", "_law_text"], N8, [], f8, []⟩
def b9 : List SS := [(.par [3, 4] [(.cst (.str [])), (.cst (.int 0))]), (.for_ (.nm 5) (.of (.var 2)) [(.asg (.nm 3) (.bin .Add (.var 3) (.ite (.cmp .Eq (.var 4) (.var 1)) (.cst (.str [])) (.var 5)))), (.asg (.nm 4) (.ite (.or (.cmp .Eq (.var 4) (.var 1)) (.cmp .NotEq (.var 5) (.var 0))) (.cst (.int 0)) (.bin .Add (.var 4) (.cst (.int 1)))))]), (.ret (some (.var 3)))]
def f9 : FnDef := ⟨3, [], [(3, [], [.pos 0, .pos 1, .pos 2])], 6, b9, false, false⟩
def d9 : FD := ⟨.glo "_law_read", "_law_read", "_law_read", defArgs s9, defBody s9, defScope s9, ["_law_sign", "_law_most", "_law_marks"], N9, [], f9, []⟩
def b10 : List SS := [(.ife (.not (.callF 17 [(.var 0)] [])) [(.rais (.cst .non))] [])]
def f10 : FnDef := ⟨2, [], [(2, [], [.pos 0, .pos 1])], 2, b10, false, false⟩
def d10 : FD := ⟨.glo "need_signs", "need_signs", "need_signs", defArgs s10, defBody s10, defScope s10, ["value", "part"], N10, [], f10, []⟩
def b11 : List SS := [(.ret (some (.and (.callF 18 [(.var 0), (.var 1)] []) (.cmp2 .LtE .LtE (.cst (.int 1)) (.lenA 1 (.var 0)) (.var 2)))))]
def f11 : FnDef := ⟨3, [], [(3, [], [.pos 0, .pos 1, .pos 2])], 3, b11, false, false⟩
def d11 : FD := ⟨.glo "is_short_links", "is_short", "is_short", defArgs s11, defBody s11, defScope s11, ["value", "signs", "most"], N11, [], f11, []⟩
def b12 : List SS := [(.ife (.not (.callF 19 [(.var 0), (.var 1), (.var 2)] [])) [(.rais (.cst .non))] [])]
def f12 : FnDef := ⟨4, [], [(4, [], [.pos 0, .pos 1, .pos 2, .pos 3])], 4, b12, false, false⟩
def d12 : FD := ⟨.glo "need_within", "need_within", "need_within", defArgs s12, defBody s12, defScope s12, ["value", "least", "most", "part"], N12, [], f12, []⟩
def b13 : List SS := [(.par [6, 7, 8, 9] [(.lst [(.var 2)]), (.dct1 false (.var 2) (.cst (.int 0))), (.lst []), (.cst (.int 0))]), (.whl (.cmp .Lt (.var 9) (.lenA 1 (.var 6))) [(.asg (.nm 10) (.lst [])), (.for_ (.nm 11) (.of (.sli (.cst (.str [48, 49, 50, 51])) none (some (.var 0)))) [(.asg (.tp [(.nm 12), (.nm 13)]) (.callV (.var 3) [(.sub (.var 6) (.var 9)), (.var 11)])), (.ife (.cmp .NotIn (.var 13) (.var 7)) [(.seti 7 (.var 13) (.lenA 1 (.var 6))), (.app 6 (.var 13))] []), (.app 10 (.tup [(.var 12), (.sub (.var 7) (.var 13))]))]), (.app 8 (.var 10)), (.asg (.nm 9) (.bin .Add (.var 9) (.cst (.int 1))))]), (.ret (some (.mk 1 [(.var 0), (.var 1), (.var 8), (.lc [14] (.callV (.var 4) [(.var 14)]) (.nm 14) (.of (.var 6)) []), (.var 5)] [])))]
def f13 : FnDef := ⟨6, [(.str [])], [(5, [], [.pos 0, .pos 1, .pos 2, .pos 3, .pos 4, .dfl 0]), (6, [], [.pos 0, .pos 1, .pos 2, .pos 3, .pos 4, .pos 5])], 15, b13, false, false⟩
def d13 : FD := ⟨.glo "built", "built", "built", defArgs s13, defBody s13, defScope s13, ["reads", "writes", "start", "step", "end", "begin"], N13, [(.str "")], f13, []⟩
def b14 : List SS := [(.ife (.cmp .NotEq (.var 4) (.var 0)) [(.ret (some (.tup [(.var 4), (.cst (.str [48]))])))] []), (.asg (.nm 5) (.callF 21 [(.var 3), (.var 2)] [])), (.ret (some (.ite (.cmp .Eq (.var 5) (.cst (.str [102, 117, 108, 108]))) (.tup [(.bin .Add (.var 4) (.var 1)), (.cst (.str [48]))]) (.tup [(.var 4), (.var 5)]))))]
def f14 : FnDef := ⟨5, [], [(5, [], [.pos 0, .pos 1, .pos 2, .pos 3, .pos 4])], 6, b14, false, false⟩
def d14 : FD := ⟨.glo "stuffed", "stuffed", "stuffed", defArgs s14, defBody s14, defScope s14, ["watch", "put", "most", "run", "sign"], N14, [], f14, []⟩
def b15 : List SS := [(.ret (some (.cst (.str []))))]
def f15 : FnDef := ⟨1, [], [(1, [], [.pos 0])], 1, b15, false, false⟩
def d15 : FD := ⟨.glo "nothing_at", "nothing_at", "nothing_at", defArgs s15, defBody s15, defScope s15, ["state"], N15, [], f15, []⟩
def b16 : List SS := [(.ife (.cmp .Eq (.var 2) (.cst (.str [102, 117, 108, 108]))) [(.ret (some (.tup [(.cst (.str [])), (.cst (.str [48]))])))] []), (.ret (some (.tup [(.var 3), (.ite (.cmp .Eq (.var 3) (.var 0)) (.callF 21 [(.var 2), (.var 1)] []) (.cst (.str [48])))])))]
def f16 : FnDef := ⟨4, [], [(4, [], [.pos 0, .pos 1, .pos 2, .pos 3])], 4, b16, false, false⟩
def d16 : FD := ⟨.glo "bared", "bared", "bared", defArgs s16, defBody s16, defScope s16, ["watch", "most", "run", "mark"], N16, [], f16, []⟩
def b17 : List SS := [(.ret (some (.callF 19 [(.var 0), (.cst (.int 2)), (.cst (.int 4))] [])))]
def f17 : FnDef := ⟨1, [], [(1, [], [.pos 0])], 1, b17, false, false⟩
def d17 : FD := ⟨.glo "is_sign_count", "is_sign_count", "is_sign_count", defArgs s17, defBody s17, defScope s17, ["value"], N17, [], f17, []⟩
def b18 : List SS := [(.ret (some (.and (.bf .isinstance [(.var 0), (.cst (.ty .str))]) (.bf .all [(.lc [2] (.cmp .In (.var 2) (.sli (.cst (.str [48, 49, 50, 51])) none (some (.var 1)))) (.nm 2) (.of (.var 0)) [])]))))]
def f18 : FnDef := ⟨2, [], [(2, [], [.pos 0, .pos 1])], 3, b18, false, false⟩
def d18 : FD := ⟨.glo "is_word", "is_word", "is_word", defArgs s18, defBody s18, defScope s18, ["value", "q"], N18, [], f18, []⟩
def b19 : List SS := [(.ret (some (.and (.callF 22 [(.var 0)] []) (.cmp2 .LtE .LtE (.var 1) (.var 0) (.var 2)))))]
def f19 : FnDef := ⟨3, [], [(3, [], [.pos 0, .pos 1, .pos 2])], 3, b19, false, false⟩
def d19 : FD := ⟨.glo "is_within", "is_within", "is_within", defArgs s19, defBody s19, defScope s19, ["value", "least", "most"], N19, [], f19, []⟩
def b20 : List SS := [(.expr (.callF 23 [(.var 1), (.var 2), (.var 3), (.var 4), (.var 5)] [])), (.asg (.nm 6) (.callF 24 [(.var 3)] [])), (.asg (.nm 7) (.bf .list [(.var 6)])), (.asg (.nm 8) (.dc [9, 10] (.var 10) (.var 9) (.tp [(.nm 9), (.nm 10)]) (.enumA (.var 7)) [])), (.setf 0 14 (.var 1)), (.setf 0 18 (.var 2)), (.setf 0 16 (.bf .tuple [(.lc [10] (.bf .tuple [(.lc [11, 12] (.tup [(.var 11), (.sub (.var 8) (.var 12))]) (.tp [(.nm 11), (.nm 12)]) (.of (.sub (.var 3) (.var 10))) [])]) (.nm 10) (.of (.var 7)) [])])), (.setf 0 5 (.bf .tuple [(.lc [10] (.sub (.var 4) (.var 10)) (.nm 10) (.of (.var 7)) [])])), (.setf 0 4 (.var 5)), (.setf 0 17 (.callF 25 [(.att (.var 0) 16), (.att (.var 0) 5), (.var 5)] [])), (.setf 0 12 (.bf .tuple [(.lc [10] (.sub (.var 6) (.var 10)) (.nm 10) (.of (.var 7)) [])]))]
def f20 : FnDef := ⟨6, [(.str [])], [(4, [], [.pos 0, .pos 1, .pos 2, .pos 3, .dfl 0]), (5, [], [.pos 0, .pos 1, .pos 2, .pos 3, .pos 4])], 13, b20, false, true⟩
def d20 : FD := ⟨.met "Machine" "__init__", "__init__", "Machine.__init__", defArgs s20, defBody s20, defScope s20, ["self", "reads", "writes", "steps", "ends", "begin"], N20, [(.str "")], f20, []⟩
def b21 : List SS := [(.ret (some (.ite (.cmp .Eq (.bin .Add (.bf .int [(.var 0)]) (.cst (.int 1))) (.var 1)) (.cst (.str [102, 117, 108, 108])) (.bf .str [(.bin .Add (.bf .int [(.var 0)]) (.cst (.int 1)))]))))]
def f21 : FnDef := ⟨2, [], [(2, [], [.pos 0, .pos 1])], 2, b21, false, false⟩
def d21 : FD := ⟨.glo "next_run", "next_run", "next_run", defArgs s21, defBody s21, defScope s21, ["run", "most"], N21, [], f21, []⟩
def b22 : List SS := [(.ret (some (.and (.bf .isinstance [(.var 0), (.cst (.ty .int))]) (.not (.bf .isinstance [(.var 0), (.cst (.ty .bool))])))))]
def f22 : FnDef := ⟨1, [], [(1, [], [.pos 0])], 1, b22, false, false⟩
def d22 : FD := ⟨.glo "is_integer", "is_integer", "is_integer", defArgs s22, defBody s22, defScope s22, ["value"], N22, [], f22, []⟩
def b23 : List SS := [(.ife (.not (.callF 17 [(.var 0)] [])) [(.rais (.cst .non))] []), (.ife (.not (.callF 17 [(.var 1)] [])) [(.rais (.cst .non))] []), (.ife (.not (.callF 26 [(.var 2), (.var 0), (.var 1)] [])) [(.rais (.cst .non))] []), (.ife (.not (.callF 27 [(.var 3), (.var 1), (.lenA 1 (.var 2))] [])) [(.rais (.cst .non))] []), (.ife (.not (.callF 28 [(.var 4), (.var 1)] [])) [(.rais (.cst .non))] [])]
def f23 : FnDef := ⟨5, [], [(5, [], [.pos 0, .pos 1, .pos 2, .pos 3, .pos 4])], 5, b23, false, false⟩
def d23 : FD := ⟨.glo "need_parts", "need_parts", "need_parts", defArgs s23, defBody s23, defScope s23, ["reads", "writes", "steps", "ends", "begin"], N23, [], f23, []⟩
def b24 : List SS := [(.asg (.nm 1) (.dct1 false (.cst (.int 0)) (.cst (.str [])))), (.asg (.nm 2) (.lst [(.cst (.int 0))])), (.asg (.nm 3) (.cst (.int 0))), (.whl (.cmp .Lt (.var 3) (.lenA 1 (.var 2))) [(.for_ (.tp [(.nm 4), (.tp [(.nm 5), (.nm 6)])]) (.enumA (.sub (.var 0) (.sub (.var 2) (.var 3)))) [(.ife (.cmp .NotIn (.var 6) (.var 1)) [(.seti 1 (.var 6) (.bin .Add (.sub (.var 1) (.sub (.var 2) (.var 3))) (.sub (.cst (.str [48, 49, 50, 51])) (.var 4)))), (.app 2 (.var 6))] [])]), (.aug 3 .Add (.cst (.int 1)))]), (.ret (some (.var 1)))]
def f24 : FnDef := ⟨1, [], [(1, [], [.pos 0])], 7, b24, false, false⟩
def d24 : FD := ⟨.glo "texts_to", "texts_to", "texts_to", defArgs s24, defBody s24, defScope s24, ["steps"], N24, [], f24, []⟩
def b25 : List SS := [(.asg (.nm 3) (.lenA 1 (.var 2))), (.for_ (.tp [(.nm 4), (.nm 5)]) (.zipA (.var 0) (.var 1)) [(.asg (.nm 3) (.bin .Add (.var 3) (.lenA 1 (.var 5)))), (.for_ (.tp [(.nm 6), (.nm 7)]) (.of (.var 4)) [(.asg (.nm 3) (.bin .Add (.var 3) (.lenA 1 (.var 6))))])]), (.ret (some (.var 3)))]
def f25 : FnDef := ⟨3, [], [(3, [], [.pos 0, .pos 1, .pos 2])], 8, b25, false, false⟩
def d25 : FD := ⟨.glo "weight_of", "weight_of", "weight_of", defArgs s25, defBody s25, defScope s25, ["steps", "ends", "begin"], N25, [], f25, []⟩
def b26 : List SS := [(.ife (.or (.not (.bf .isinstance [(.var 0), (.tup [(.cst (.ty .list)), (.cst (.ty .tuple))])])) (.not (.cmp2 .LtE .LtE (.cst (.int 1)) (.lenA 1 (.var 0)) (.cst (.int 400))))) [(.ret (some (.cst (.bl false))))] []), (.for_ (.nm 3) (.of (.var 0)) [(.ife (.or (.not (.bf .isinstance [(.var 3), (.tup [(.cst (.ty .list)), (.cst (.ty .tuple))])])) (.cmp .NotEq (.lenA 1 (.var 3)) (.var 1))) [(.ret (some (.cst (.bl false))))] []), (.ife (.not (.bf .all [(.lc [4] (.callF 29 [(.var 4), (.var 2), (.lenA 1 (.var 0))] []) (.nm 4) (.of (.var 3)) [])])) [(.ret (some (.cst (.bl false))))] [])]), (.ret (some (.cst (.bl true))))]
def f26 : FnDef := ⟨3, [], [(3, [], [.pos 0, .pos 1, .pos 2])], 5, b26, false, false⟩
def d26 : FD := ⟨.glo "are_steps", "are_steps", "are_steps", defArgs s26, defBody s26, defScope s26, ["value", "reads", "writes"], N26, [], f26, []⟩
def b27 : List SS := [(.ife (.or (.not (.bf .isinstance [(.var 0), (.tup [(.cst (.ty .list)), (.cst (.ty .tuple))])])) (.cmp .NotEq (.lenA 1 (.var 0)) (.var 2))) [(.ret (some (.cst (.bl false))))] []), (.ret (some (.bf .all [(.lc [3] (.callF 28 [(.var 3), (.var 1)] []) (.nm 3) (.of (.var 0)) [])])))]
def f27 : FnDef := ⟨3, [], [(3, [], [.pos 0, .pos 1, .pos 2])], 4, b27, false, false⟩
def d27 : FD := ⟨.glo "are_ends", "are_ends", "are_ends", defArgs s27, defBody s27, defScope s27, ["value", "writes", "many"], N27, [], f27, []⟩
def b28 : List SS := [(.ret (some (.and (.callF 18 [(.var 0), (.var 1)] []) (.cmp .LtE (.lenA 1 (.var 0)) (.cst (.int 200))))))]
def f28 : FnDef := ⟨2, [], [(2, [], [.pos 0, .pos 1])], 2, b28, false, false⟩
def d28 : FD := ⟨.glo "is_short_machines", "is_short", "is_short", defArgs s28, defBody s28, defScope s28, ["value", "q"], N28, [], f28, []⟩
def b29 : List SS := [(.ife (.or (.not (.bf .isinstance [(.var 0), (.cst (.ty .tuple))])) (.cmp .NotEq (.lenA 1 (.var 0)) (.cst (.int 2)))) [(.ret (some (.cst (.bl false))))] []), (.ret (some (.and (.callF 28 [(.sub (.var 0) (.cst (.int 0))), (.var 1)] []) (.callF 19 [(.sub (.var 0) (.cst (.int 1))), (.cst (.int 0)), (.bin .Sub (.var 2) (.cst (.int 1)))] []))))]
def f29 : FnDef := ⟨3, [], [(3, [], [.pos 0, .pos 1, .pos 2])], 3, b29, false, false⟩
def d29 : FD := ⟨.glo "is_step", "is_step", "is_step", defArgs s29, defBody s29, defScope s29, ["value", "writes", "many"], N29, [], f29, []⟩
def b30 : List SS := [(.ret (some (.mth (.var 0) 10 [(.var 1)] [])))]
def f30 : FnDef := ⟨2, [], [(2, [], [.pos 0, .pos 1])], 2, b30, false, false⟩
def d30 : FD := ⟨.met "Link" "__call__", "__call__", "Link.__call__", defArgs s30, defBody s30, defScope s30, ["self", "text"], N30, [], f30, []⟩
def b31 : List SS := [(.ret (some (.mth (.var 0) 11 [(.var 1)] [])))]
def f31 : FnDef := ⟨2, [], [(2, [], [.pos 0, .pos 1])], 2, b31, false, false⟩
def d31 : FD := ⟨.met "Link" "back", "back", "Link.back", defArgs s31, defBody s31, defScope s31, ["self", "marks"], N31, [], f31, []⟩
def b32 : List SS := [(.ret (some (.att (.var 0) 10)))]
def f32 : FnDef := ⟨1, [], [(1, [], [.pos 0])], 1, b32, false, false⟩
def d32 : FD := ⟨.prp "Link" "machine", "machine", "Link.machine", defArgs s32, defBody s32, defScope s32, ["self"], N32, [], f32, []⟩
def b33 : List SS := [(.ret (some (.att (.var 0) 11)))]
def f33 : FnDef := ⟨1, [], [(1, [], [.pos 0])], 1, b33, false, false⟩
def d33 : FD := ⟨.prp "Link" "reader", "reader", "Link.reader", defArgs s33, defBody s33, defScope s33, ["self"], N33, [], f33, []⟩
def b34 : List SS := [(.asg (.tp [(.nm 2), (.nm 3)]) (.mth (.var 0) 7 [(.var 1)] [])), (.ret (some (.bin .Add (.var 2) (.sub (.att (.var 0) 5) (.var 3)))))]
def f34 : FnDef := ⟨2, [], [(2, [], [.pos 0, .pos 1])], 4, b34, false, false⟩
def d34 : FD := ⟨.met "Machine" "__call__", "__call__", "Machine.__call__", defArgs s34, defBody s34, defScope s34, ["self", "text"], N34, [], f34, []⟩
def b35 : List SS := [(.ret (some (.lenA 1 (.att (.var 0) 16))))]
def f35 : FnDef := ⟨1, [], [(1, [], [.pos 0])], 1, b35, false, false⟩
def d35 : FD := ⟨.met "Machine" "__len__", "__len__", "Machine.__len__", defArgs s35, defBody s35, defScope s35, ["self"], N35, [], f35, []⟩
def b36 : List SS := [(.ife (.not (.callF 18 [(.var 1), (.att (.var 0) 14)] [])) [(.rais (.cst .non))] []), (.asg (.tp [(.nm 2), (.nm 3)]) (.callF 37 [(.att (.var 0) 16), (.cst (.int 0)), (.var 1)] [])), (.ret (some (.tup [(.bin .Add (.att (.var 0) 4) (.var 2)), (.var 3)])))]
def f36 : FnDef := ⟨2, [], [(2, [], [.pos 0, .pos 1])], 4, b36, false, false⟩
def d36 : FD := ⟨.met "Machine" "led", "led", "Machine.led", defArgs s36, defBody s36, defScope s36, ["self", "text"], N36, [], f36, []⟩
def b37 : List SS := [(.asg (.nm 3) (.lst [])), (.for_ (.nm 4) (.of (.var 2)) [(.asg (.tp [(.nm 5), (.nm 1)]) (.sub (.sub (.var 0) (.var 1)) (.bf .int [(.var 4)]))), (.app 3 (.var 5))]), (.ret (some (.tup [(.bm .join (.cst (.str [])) (.var 3)), (.var 1)])))]
def f37 : FnDef := ⟨3, [], [(3, [], [.pos 0, .pos 1, .pos 2])], 6, b37, false, false⟩
def d37 : FD := ⟨.glo "run_from", "run_from", "run_from", defArgs s37, defBody s37, defScope s37, ["steps", "state", "text"], N37, [], f37, []⟩
def lb0 : SE := (.callF 14 [(.var 2), (.var 3), (.var 4), (.var 0), (.var 1)] [])
def ld0 : LD := ⟨t0, LN0, ⟨2, 3, 5, lb0⟩⟩
def lb1 : SE := (.callF 16 [(.var 2), (.var 3), (.var 0), (.var 1)] [])
def ld1 : LD := ⟨t1, LN1, ⟨2, 2, 4, lb1⟩⟩
def c0 : CD := ⟨"Stuffer", { flds := [14, 18, 15, 9, 10, 11], init := some 5, meths := [(0, 30), (3, 31)], props := [(8, 32), (13, 33)], cons := [], sups := [0] }⟩
def c1 : CD := ⟨"Machine", { flds := [14, 18, 16, 5, 4, 17, 12], init := some 20, meths := [(0, 34), (1, 35), (7, 36)], props := [], cons := [], sups := [1] }⟩
def fnl_0 : List (FD) := [d0, d1, d2, d3, d4, d5, d6, d7, d8, d9, d10, d11, d12, d13, d14, d15, d16, d17, d18, d19]
def fnl_1 : List (FD) := [d20, d21, d22, d23, d24, d25, d26, d27, d28, d29, d30, d31, d32, d33, d34, d35, d36, d37]
def fnl : List (FD) := fnl_0 ++ fnl_1
def W : Lw := ⟨nms, fnl, [c0, c1], [ld0, ld1], gl, 0, [5]⟩
end K10

end

section
set_option Elab.async false
set_option linter.all false
set_option maxRecDepth 100000
set_option maxHeartbeats 0
namespace K10
open PySem L2 PySem.Spec PyProof.Rows TI
theorem hcfg : W.cfg = cfg := by kernel_rfl
theorem e0 (mk : Option (Str × Value)) : b0 = cBlk cfg 40 20 (G0 mk) (defBody s0) := by kernel_rfl
theorem x0 : TxtOk W d0 := fun M mk co hl hm => by
  rw [hcfg] at co
  show CSs M (G0 mk) (defBody s0) b0
  rw [e0 mk]
  exact cBlk_ok co 40 20 _ _
theorem e1 (mk : Option (Str × Value)) : b1 = cBlk cfg 40 20 (G1 mk) (defBody s1) := by kernel_rfl
theorem x1 : TxtOk W d1 := fun M mk co hl hm => by
  rw [hcfg] at co
  show CSs M (G1 mk) (defBody s1) b1
  rw [e1 mk]
  exact cBlk_ok co 40 20 _ _
theorem e2 (mk : Option (Str × Value)) : b2 = cBlk cfg 40 20 (G2 mk) (defBody s2) := by kernel_rfl
theorem x2 : TxtOk W d2 := fun M mk co hl hm => by
  rw [hcfg] at co
  show CSs M (G2 mk) (defBody s2) b2
  rw [e2 mk]
  exact cBlk_ok co 40 20 _ _
theorem e3 (mk : Option (Str × Value)) : b3 = cBlk cfg 40 20 (G3 mk) (defBody s3) := by kernel_rfl
theorem x3 : TxtOk W d3 := fun M mk co hl hm => by
  rw [hcfg] at co
  show CSs M (G3 mk) (defBody s3) b3
  rw [e3 mk]
  exact cBlk_ok co 40 20 _ _
theorem e4 (mk : Option (Str × Value)) : b4 = cBlk cfg 40 20 (G4 mk) (defBody s4) := by kernel_rfl
theorem x4 : TxtOk W d4 := fun M mk co hl hm => by
  rw [hcfg] at co
  show CSs M (G4 mk) (defBody s4) b4
  rw [e4 mk]
  exact cBlk_ok co 40 20 _ _
theorem e5 (mk : Option (Str × Value)) : b5 = [cSt cfg (cLv cfg 40) (cBlk cfg 40 19) (G5 mk) ((defBody s5).getD 0 noS), cSt cfg (cLv cfg 40) (cBlk cfg 40 19) (G5 mk) ((defBody s5).getD 1 noS), cSt cfg (cLv cfg 40) (cBlk cfg 40 19) (G5 mk) ((defBody s5).getD 2 noS), cSt cfg (cLv cfg 40) (cBlk cfg 40 19) (G5 mk) ((defBody s5).getD 3 noS), cSt cfg (cLv cfg 40) (cBlk cfg 40 19) (G5 mk) ((defBody s5).getD 4 noS), cSt cfg (cLv cfg 40) (cBlk cfg 40 19) (G5 mk) ((defBody s5).getD 5 noS), cSt cfg (cLv cfg 40) (cBlk cfg 40 19) (G5 mk) ((defBody s5).getD 6 noS), cSt cfg (cLv cfg 40) (cBlk cfg 40 19) (G5 mk) ((defBody s5).getD 7 noS), cStL cfg (cLv cfg 40) (G5 mk) [(0, [2, 4, 3])] ((defBody s5).getD 8 noS), cStL cfg (cLv cfg 40) (G5 mk) [(1, [2, 3])] ((defBody s5).getD 9 noS)] := by kernel_rfl
theorem db5 : defBody s5 = [((defBody s5).getD 0 noS), ((defBody s5).getD 1 noS), ((defBody s5).getD 2 noS), ((defBody s5).getD 3 noS), ((defBody s5).getD 4 noS), ((defBody s5).getD 5 noS), ((defBody s5).getD 6 noS), ((defBody s5).getD 7 noS), ((defBody s5).getD 8 noS), ((defBody s5).getD 9 noS)] := by kernel_rfl
theorem x5 : TxtOk W d5 := fun M mk co hl hm => by
  rw [hcfg] at co
  have ok := cLv_ok (M := M) co 40
  have g := fun Γ b => cBlk_ok (M := M) co 40 19 Γ b
  show CSs M (G5 mk) (defBody s5) b5
  rw [e5 mk, db5]
  refine .cons (cSt_ok co ok g) (.cons (cSt_ok co ok g) (.cons (cSt_ok co ok g) (.cons (cSt_ok co ok g) (.cons (cSt_ok co ok g) (.cons (cSt_ok co ok g) (.cons (cSt_ok co ok g) (.cons (cSt_ok co ok g) (.cons (cStL_ok co ok ?l8) (.cons (cStL_ok co ok ?l9) (.nil))))))))))
  case l8 =>
    have ea : argsOf (valOf ((defBody s5).getD 8 noS)) = [argE s5 8 0, argE s5 8 1, argE s5 8 2, argE s5 8 3, argE s5 8 4] := by kernel_rfl
    exact ⟨⟨rfl, rfl⟩, ⟨rfl, rfl⟩, ⟨rfl, rfl⟩, lam_here_of (by rw [hl]; exact ⟨rfl, rfl, rfl⟩) (hm 0 (by decide)) (fun _ => rfl) (by rw [hl]; kernel_rfl), ⟨rfl, rfl⟩, trivial⟩
  case l9 =>
    have ea : argsOf (valOf ((defBody s5).getD 9 noS)) = [argE s5 9 0, argE s5 9 1, argE s5 9 2, argE s5 9 3, argE s5 9 4] := by kernel_rfl
    exact ⟨⟨rfl, rfl⟩, ⟨rfl, rfl⟩, ⟨rfl, rfl⟩, lam_here_of (by rw [hl]; exact ⟨rfl, rfl, rfl⟩) (hm 1 (by decide)) (fun _ => rfl) (by rw [hl]; kernel_rfl), ⟨rfl, rfl⟩, trivial⟩

theorem e6 (mk : Option (Str × Value)) : b6 = cBlk cfg 40 20 (G6 mk) (defBody s6) := by kernel_rfl
theorem x6 : TxtOk W d6 := fun M mk co hl hm => by
  rw [hcfg] at co
  show CSs M (G6 mk) (defBody s6) b6
  rw [e6 mk]
  exact cBlk_ok co 40 20 _ _
theorem e7 (mk : Option (Str × Value)) : b7 = cBlk cfg 40 20 (G7 mk) (defBody s7) := by kernel_rfl
theorem x7 : TxtOk W d7 := fun M mk co hl hm => by
  rw [hcfg] at co
  show CSs M (G7 mk) (defBody s7) b7
  rw [e7 mk]
  exact cBlk_ok co 40 20 _ _
theorem e8 (mk : Option (Str × Value)) : b8 = cBlk cfg 40 20 (G8 mk) (defBody s8) := by kernel_rfl
theorem x8 : TxtOk W d8 := fun M mk co hl hm => by
  rw [hcfg] at co
  show CSs M (G8 mk) (defBody s8) b8
  rw [e8 mk]
  exact cBlk_ok co 40 20 _ _
theorem e9 (mk : Option (Str × Value)) : b9 = cBlk cfg 40 20 (G9 mk) (defBody s9) := by kernel_rfl
theorem x9 : TxtOk W d9 := fun M mk co hl hm => by
  rw [hcfg] at co
  show CSs M (G9 mk) (defBody s9) b9
  rw [e9 mk]
  exact cBlk_ok co 40 20 _ _
theorem e10 (mk : Option (Str × Value)) : b10 = cBlk cfg 40 20 (G10 mk) (defBody s10) := by kernel_rfl
theorem x10 : TxtOk W d10 := fun M mk co hl hm => by
  rw [hcfg] at co
  show CSs M (G10 mk) (defBody s10) b10
  rw [e10 mk]
  exact cBlk_ok co 40 20 _ _
theorem e11 (mk : Option (Str × Value)) : b11 = cBlk cfg 40 20 (G11 mk) (defBody s11) := by kernel_rfl
theorem x11 : TxtOk W d11 := fun M mk co hl hm => by
  rw [hcfg] at co
  show CSs M (G11 mk) (defBody s11) b11
  rw [e11 mk]
  exact cBlk_ok co 40 20 _ _
theorem e12 (mk : Option (Str × Value)) : b12 = cBlk cfg 40 20 (G12 mk) (defBody s12) := by kernel_rfl
theorem x12 : TxtOk W d12 := fun M mk co hl hm => by
  rw [hcfg] at co
  show CSs M (G12 mk) (defBody s12) b12
  rw [e12 mk]
  exact cBlk_ok co 40 20 _ _
theorem e13 (mk : Option (Str × Value)) : b13 = cBlk cfg 40 20 (G13 mk) (defBody s13) := by kernel_rfl
theorem x13 : TxtOk W d13 := fun M mk co hl hm => by
  rw [hcfg] at co
  show CSs M (G13 mk) (defBody s13) b13
  rw [e13 mk]
  exact cBlk_ok co 40 20 _ _
theorem e14 (mk : Option (Str × Value)) : b14 = cBlk cfg 40 20 (G14 mk) (defBody s14) := by kernel_rfl
theorem x14 : TxtOk W d14 := fun M mk co hl hm => by
  rw [hcfg] at co
  show CSs M (G14 mk) (defBody s14) b14
  rw [e14 mk]
  exact cBlk_ok co 40 20 _ _
theorem e15 (mk : Option (Str × Value)) : b15 = cBlk cfg 40 20 (G15 mk) (defBody s15) := by kernel_rfl
theorem x15 : TxtOk W d15 := fun M mk co hl hm => by
  rw [hcfg] at co
  show CSs M (G15 mk) (defBody s15) b15
  rw [e15 mk]
  exact cBlk_ok co 40 20 _ _
theorem e16 (mk : Option (Str × Value)) : b16 = cBlk cfg 40 20 (G16 mk) (defBody s16) := by kernel_rfl
theorem x16 : TxtOk W d16 := fun M mk co hl hm => by
  rw [hcfg] at co
  show CSs M (G16 mk) (defBody s16) b16
  rw [e16 mk]
  exact cBlk_ok co 40 20 _ _
theorem e17 (mk : Option (Str × Value)) : b17 = cBlk cfg 40 20 (G17 mk) (defBody s17) := by kernel_rfl
theorem x17 : TxtOk W d17 := fun M mk co hl hm => by
  rw [hcfg] at co
  show CSs M (G17 mk) (defBody s17) b17
  rw [e17 mk]
  exact cBlk_ok co 40 20 _ _
theorem e18 (mk : Option (Str × Value)) : b18 = cBlk cfg 40 20 (G18 mk) (defBody s18) := by kernel_rfl
theorem x18 : TxtOk W d18 := fun M mk co hl hm => by
  rw [hcfg] at co
  show CSs M (G18 mk) (defBody s18) b18
  rw [e18 mk]
  exact cBlk_ok co 40 20 _ _
theorem e19 (mk : Option (Str × Value)) : b19 = cBlk cfg 40 20 (G19 mk) (defBody s19) := by kernel_rfl
theorem x19 : TxtOk W d19 := fun M mk co hl hm => by
  rw [hcfg] at co
  show CSs M (G19 mk) (defBody s19) b19
  rw [e19 mk]
  exact cBlk_ok co 40 20 _ _
theorem e20 (mk : Option (Str × Value)) : b20 = cBlk cfg 40 20 (G20 mk) (defBody s20) := by kernel_rfl
theorem x20 : TxtOk W d20 := fun M mk co hl hm => by
  rw [hcfg] at co
  show CSs M (G20 mk) (defBody s20) b20
  rw [e20 mk]
  exact cBlk_ok co 40 20 _ _
theorem e21 (mk : Option (Str × Value)) : b21 = cBlk cfg 40 20 (G21 mk) (defBody s21) := by kernel_rfl
theorem x21 : TxtOk W d21 := fun M mk co hl hm => by
  rw [hcfg] at co
  show CSs M (G21 mk) (defBody s21) b21
  rw [e21 mk]
  exact cBlk_ok co 40 20 _ _
theorem e22 (mk : Option (Str × Value)) : b22 = cBlk cfg 40 20 (G22 mk) (defBody s22) := by kernel_rfl
theorem x22 : TxtOk W d22 := fun M mk co hl hm => by
  rw [hcfg] at co
  show CSs M (G22 mk) (defBody s22) b22
  rw [e22 mk]
  exact cBlk_ok co 40 20 _ _
theorem e23 (mk : Option (Str × Value)) : b23 = cBlk cfg 40 20 (G23 mk) (defBody s23) := by kernel_rfl
theorem x23 : TxtOk W d23 := fun M mk co hl hm => by
  rw [hcfg] at co
  show CSs M (G23 mk) (defBody s23) b23
  rw [e23 mk]
  exact cBlk_ok co 40 20 _ _
theorem e24 (mk : Option (Str × Value)) : b24 = cBlk cfg 40 20 (G24 mk) (defBody s24) := by kernel_rfl
theorem x24 : TxtOk W d24 := fun M mk co hl hm => by
  rw [hcfg] at co
  show CSs M (G24 mk) (defBody s24) b24
  rw [e24 mk]
  exact cBlk_ok co 40 20 _ _
theorem e25 (mk : Option (Str × Value)) : b25 = cBlk cfg 40 20 (G25 mk) (defBody s25) := by kernel_rfl
theorem x25 : TxtOk W d25 := fun M mk co hl hm => by
  rw [hcfg] at co
  show CSs M (G25 mk) (defBody s25) b25
  rw [e25 mk]
  exact cBlk_ok co 40 20 _ _
theorem e26 (mk : Option (Str × Value)) : b26 = cBlk cfg 40 20 (G26 mk) (defBody s26) := by kernel_rfl
theorem x26 : TxtOk W d26 := fun M mk co hl hm => by
  rw [hcfg] at co
  show CSs M (G26 mk) (defBody s26) b26
  rw [e26 mk]
  exact cBlk_ok co 40 20 _ _
theorem e27 (mk : Option (Str × Value)) : b27 = cBlk cfg 40 20 (G27 mk) (defBody s27) := by kernel_rfl
theorem x27 : TxtOk W d27 := fun M mk co hl hm => by
  rw [hcfg] at co
  show CSs M (G27 mk) (defBody s27) b27
  rw [e27 mk]
  exact cBlk_ok co 40 20 _ _
theorem e28 (mk : Option (Str × Value)) : b28 = cBlk cfg 40 20 (G28 mk) (defBody s28) := by kernel_rfl
theorem x28 : TxtOk W d28 := fun M mk co hl hm => by
  rw [hcfg] at co
  show CSs M (G28 mk) (defBody s28) b28
  rw [e28 mk]
  exact cBlk_ok co 40 20 _ _
theorem e29 (mk : Option (Str × Value)) : b29 = cBlk cfg 40 20 (G29 mk) (defBody s29) := by kernel_rfl
theorem x29 : TxtOk W d29 := fun M mk co hl hm => by
  rw [hcfg] at co
  show CSs M (G29 mk) (defBody s29) b29
  rw [e29 mk]
  exact cBlk_ok co 40 20 _ _
theorem e30 (mk : Option (Str × Value)) : b30 = cBlk cfg 40 20 (G30 mk) (defBody s30) := by kernel_rfl
theorem x30 : TxtOk W d30 := fun M mk co hl hm => by
  rw [hcfg] at co
  show CSs M (G30 mk) (defBody s30) b30
  rw [e30 mk]
  exact cBlk_ok co 40 20 _ _
theorem e31 (mk : Option (Str × Value)) : b31 = cBlk cfg 40 20 (G31 mk) (defBody s31) := by kernel_rfl
theorem x31 : TxtOk W d31 := fun M mk co hl hm => by
  rw [hcfg] at co
  show CSs M (G31 mk) (defBody s31) b31
  rw [e31 mk]
  exact cBlk_ok co 40 20 _ _
theorem e32 (mk : Option (Str × Value)) : b32 = cBlk cfg 40 20 (G32 mk) (defBody s32) := by kernel_rfl
theorem x32 : TxtOk W d32 := fun M mk co hl hm => by
  rw [hcfg] at co
  show CSs M (G32 mk) (defBody s32) b32
  rw [e32 mk]
  exact cBlk_ok co 40 20 _ _
theorem e33 (mk : Option (Str × Value)) : b33 = cBlk cfg 40 20 (G33 mk) (defBody s33) := by kernel_rfl
theorem x33 : TxtOk W d33 := fun M mk co hl hm => by
  rw [hcfg] at co
  show CSs M (G33 mk) (defBody s33) b33
  rw [e33 mk]
  exact cBlk_ok co 40 20 _ _
theorem e34 (mk : Option (Str × Value)) : b34 = cBlk cfg 40 20 (G34 mk) (defBody s34) := by kernel_rfl
theorem x34 : TxtOk W d34 := fun M mk co hl hm => by
  rw [hcfg] at co
  show CSs M (G34 mk) (defBody s34) b34
  rw [e34 mk]
  exact cBlk_ok co 40 20 _ _
theorem e35 (mk : Option (Str × Value)) : b35 = cBlk cfg 40 20 (G35 mk) (defBody s35) := by kernel_rfl
theorem x35 : TxtOk W d35 := fun M mk co hl hm => by
  rw [hcfg] at co
  show CSs M (G35 mk) (defBody s35) b35
  rw [e35 mk]
  exact cBlk_ok co 40 20 _ _
theorem e36 (mk : Option (Str × Value)) : b36 = cBlk cfg 40 20 (G36 mk) (defBody s36) := by kernel_rfl
theorem x36 : TxtOk W d36 := fun M mk co hl hm => by
  rw [hcfg] at co
  show CSs M (G36 mk) (defBody s36) b36
  rw [e36 mk]
  exact cBlk_ok co 40 20 _ _
theorem e37 (mk : Option (Str × Value)) : b37 = cBlk cfg 40 20 (G37 mk) (defBody s37) := by kernel_rfl
theorem x37 : TxtOk W d37 := fun M mk co hl hm => by
  rw [hcfg] at co
  show CSs M (G37 mk) (defBody s37) b37
  rw [e37 mk]
  exact cBlk_ok co 40 20 _ _
theorem bn0 : BndOk W d0 := by
  intro sh hs
  have hs : sh ∈ f0.shapes := hs
  simp only [f0, List.mem_cons, List.not_mem_nil, or_false] at hs
  subst hs
  · intro kV doc pm an cdv ct T x us ws its h1 h2 h3
    match us, ws, its, h1, h2, h3 with
    | [a0], [], [], _, _, _ =>
      exact ⟨[a0], rfl, ite_of (by kernel_rfl) (by kernel_rfl)⟩

theorem bn1 : BndOk W d1 := by
  intro sh hs
  have hs : sh ∈ f1.shapes := hs
  simp only [f1, List.mem_cons, List.not_mem_nil, or_false] at hs
  subst hs
  · intro kV doc pm an cdv ct T x us ws its h1 h2 h3
    match us, ws, its, h1, h2, h3 with
    | [a0], [], [], _, _, _ =>
      exact ⟨[a0], rfl, ite_of (by kernel_rfl) (by kernel_rfl)⟩

theorem bn2 : BndOk W d2 := by
  intro sh hs
  have hs : sh ∈ f2.shapes := hs
  simp only [f2, List.mem_cons, List.not_mem_nil, or_false] at hs
  subst hs
  · intro kV doc pm an cdv ct T x us ws its h1 h2 h3
    match us, ws, its, h1, h2, h3 with
    | [a0, a1], [], [], _, _, _ =>
      exact ⟨[a0, a1], rfl, ite_of (by kernel_rfl) (by kernel_rfl)⟩

theorem bn3 : BndOk W d3 := by
  intro sh hs
  have hs : sh ∈ f3.shapes := hs
  simp only [f3, List.mem_cons, List.not_mem_nil, or_false] at hs
  subst hs
  · intro kV doc pm an cdv ct T x us ws its h1 h2 h3
    match us, ws, its, h1, h2, h3 with
    | [a0, a1, a2, a3], [], [], _, _, _ =>
      exact ⟨[a0, a1, a2, a3], rfl, ite_of (by kernel_rfl) (by kernel_rfl)⟩

theorem bn4 : BndOk W d4 := by
  intro sh hs
  have hs : sh ∈ f4.shapes := hs
  simp only [f4, List.mem_cons, List.not_mem_nil, or_false] at hs
  subst hs
  · intro kV doc pm an cdv ct T x us ws its h1 h2 h3
    match us, ws, its, h1, h2, h3 with
    | [a0, a1], [], [], _, _, _ =>
      exact ⟨[a0, a1], rfl, ite_of (by kernel_rfl) (by kernel_rfl)⟩

theorem bn5 : BndOk W d5 := by
  intro sh hs
  have hs : sh ∈ f5.shapes := hs
  simp only [f5, List.mem_cons, List.not_mem_nil, or_false] at hs
  subst hs
  · intro kV doc pm an cdv ct T x us ws its h1 h2 h3
    match us, ws, its, h1, h2, h3 with
    | [a0, a1, a2], [], [], _, _, _ =>
      exact ⟨[a0, a1, a2], rfl, ite_of (by kernel_rfl) (by kernel_rfl)⟩

theorem bn6 : BndOk W d6 := by
  intro sh hs
  have hs : sh ∈ f6.shapes := hs
  simp only [f6, List.mem_cons, List.not_mem_nil, or_false] at hs
  subst hs
  · intro kV doc pm an cdv ct T x us ws its h1 h2 h3
    match us, ws, its, h1, h2, h3 with
    | [a0, a1], [], [], _, _, _ =>
      exact ⟨[a0, a1], rfl, ite_of (by kernel_rfl) (by kernel_rfl)⟩

theorem bn7 : BndOk W d7 := by
  intro sh hs
  have hs : sh ∈ f7.shapes := hs
  simp only [f7, List.mem_cons, List.not_mem_nil, or_false] at hs
  subst hs
  · intro kV doc pm an cdv ct T x us ws its h1 h2 h3
    match us, ws, its, h1, h2, h3 with
    | [a0, a1, a2], [], [], _, _, _ =>
      exact ⟨[a0, a1, a2], rfl, ite_of (by kernel_rfl) (by kernel_rfl)⟩

theorem bn8 : BndOk W d8 := by
  intro sh hs
  have hs : sh ∈ f8.shapes := hs
  simp only [f8, List.mem_cons, List.not_mem_nil, or_false] at hs
  subst hs
  · intro kV doc pm an cdv ct T x us ws its h1 h2 h3
    match us, ws, its, h1, h2, h3 with
    | [a0, a1, a2, a3], [], [], _, _, _ =>
      exact ⟨[a0, a1, a2, a3], rfl, ite_of (by kernel_rfl) (by kernel_rfl)⟩

theorem bn9 : BndOk W d9 := by
  intro sh hs
  have hs : sh ∈ f9.shapes := hs
  simp only [f9, List.mem_cons, List.not_mem_nil, or_false] at hs
  subst hs
  · intro kV doc pm an cdv ct T x us ws its h1 h2 h3
    match us, ws, its, h1, h2, h3 with
    | [a0, a1, a2], [], [], _, _, _ =>
      exact ⟨[a0, a1, a2], rfl, ite_of (by kernel_rfl) (by kernel_rfl)⟩

theorem bn10 : BndOk W d10 := by
  intro sh hs
  have hs : sh ∈ f10.shapes := hs
  simp only [f10, List.mem_cons, List.not_mem_nil, or_false] at hs
  subst hs
  · intro kV doc pm an cdv ct T x us ws its h1 h2 h3
    match us, ws, its, h1, h2, h3 with
    | [a0, a1], [], [], _, _, _ =>
      exact ⟨[a0, a1], rfl, ite_of (by kernel_rfl) (by kernel_rfl)⟩

theorem bn11 : BndOk W d11 := by
  intro sh hs
  have hs : sh ∈ f11.shapes := hs
  simp only [f11, List.mem_cons, List.not_mem_nil, or_false] at hs
  subst hs
  · intro kV doc pm an cdv ct T x us ws its h1 h2 h3
    match us, ws, its, h1, h2, h3 with
    | [a0, a1, a2], [], [], _, _, _ =>
      exact ⟨[a0, a1, a2], rfl, ite_of (by kernel_rfl) (by kernel_rfl)⟩

theorem bn12 : BndOk W d12 := by
  intro sh hs
  have hs : sh ∈ f12.shapes := hs
  simp only [f12, List.mem_cons, List.not_mem_nil, or_false] at hs
  subst hs
  · intro kV doc pm an cdv ct T x us ws its h1 h2 h3
    match us, ws, its, h1, h2, h3 with
    | [a0, a1, a2, a3], [], [], _, _, _ =>
      exact ⟨[a0, a1, a2, a3], rfl, ite_of (by kernel_rfl) (by kernel_rfl)⟩

theorem bn13 : BndOk W d13 := by
  intro sh hs
  have hs : sh ∈ f13.shapes := hs
  simp only [f13, List.mem_cons, List.not_mem_nil, or_false] at hs
  rcases hs with rfl | rfl
  · intro kV doc pm an cdv ct T x us ws its h1 h2 h3
    match us, ws, its, h1, h2, h3 with
    | [a0, a1, a2, a3, a4], [], [z0], _, _, _ =>
      exact ⟨[a0, a1, a2, a3, a4, z0], rfl, ite_no (by decide) ⟨_, by rfl, by rfl⟩⟩
  · intro kV doc pm an cdv ct T x us ws its h1 h2 h3
    match us, ws, its, h1, h2, h3 with
    | [a0, a1, a2, a3, a4, a5], [], [z0], _, _, _ =>
      exact ⟨[a0, a1, a2, a3, a4, a5], rfl, ite_no (by decide) ⟨_, by rfl, by rfl⟩⟩

theorem bn14 : BndOk W d14 := by
  intro sh hs
  have hs : sh ∈ f14.shapes := hs
  simp only [f14, List.mem_cons, List.not_mem_nil, or_false] at hs
  subst hs
  · intro kV doc pm an cdv ct T x us ws its h1 h2 h3
    match us, ws, its, h1, h2, h3 with
    | [a0, a1, a2, a3, a4], [], [], _, _, _ =>
      exact ⟨[a0, a1, a2, a3, a4], rfl, ite_of (by kernel_rfl) (by kernel_rfl)⟩

theorem bn15 : BndOk W d15 := by
  intro sh hs
  have hs : sh ∈ f15.shapes := hs
  simp only [f15, List.mem_cons, List.not_mem_nil, or_false] at hs
  subst hs
  · intro kV doc pm an cdv ct T x us ws its h1 h2 h3
    match us, ws, its, h1, h2, h3 with
    | [a0], [], [], _, _, _ =>
      exact ⟨[a0], rfl, ite_of (by kernel_rfl) (by kernel_rfl)⟩

theorem bn16 : BndOk W d16 := by
  intro sh hs
  have hs : sh ∈ f16.shapes := hs
  simp only [f16, List.mem_cons, List.not_mem_nil, or_false] at hs
  subst hs
  · intro kV doc pm an cdv ct T x us ws its h1 h2 h3
    match us, ws, its, h1, h2, h3 with
    | [a0, a1, a2, a3], [], [], _, _, _ =>
      exact ⟨[a0, a1, a2, a3], rfl, ite_of (by kernel_rfl) (by kernel_rfl)⟩

theorem bn17 : BndOk W d17 := by
  intro sh hs
  have hs : sh ∈ f17.shapes := hs
  simp only [f17, List.mem_cons, List.not_mem_nil, or_false] at hs
  subst hs
  · intro kV doc pm an cdv ct T x us ws its h1 h2 h3
    match us, ws, its, h1, h2, h3 with
    | [a0], [], [], _, _, _ =>
      exact ⟨[a0], rfl, ite_of (by kernel_rfl) (by kernel_rfl)⟩

theorem bn18 : BndOk W d18 := by
  intro sh hs
  have hs : sh ∈ f18.shapes := hs
  simp only [f18, List.mem_cons, List.not_mem_nil, or_false] at hs
  subst hs
  · intro kV doc pm an cdv ct T x us ws its h1 h2 h3
    match us, ws, its, h1, h2, h3 with
    | [a0, a1], [], [], _, _, _ =>
      exact ⟨[a0, a1], rfl, ite_of (by kernel_rfl) (by kernel_rfl)⟩

theorem bn19 : BndOk W d19 := by
  intro sh hs
  have hs : sh ∈ f19.shapes := hs
  simp only [f19, List.mem_cons, List.not_mem_nil, or_false] at hs
  subst hs
  · intro kV doc pm an cdv ct T x us ws its h1 h2 h3
    match us, ws, its, h1, h2, h3 with
    | [a0, a1, a2], [], [], _, _, _ =>
      exact ⟨[a0, a1, a2], rfl, ite_of (by kernel_rfl) (by kernel_rfl)⟩

theorem bn20 : BndOk W d20 := by
  intro sh hs
  have hs : sh ∈ f20.shapes := hs
  simp only [f20, List.mem_cons, List.not_mem_nil, or_false] at hs
  rcases hs with rfl | rfl
  · intro kV doc pm an cdv ct T x us ws its h1 h2 h3
    match us, ws, its, h1, h2, h3 with
    | [a0, a1, a2, a3], [], [z0], _, _, _ =>
      exact ⟨[a0, a1, a2, a3, z0], rfl, ite_no (by decide) ⟨_, by rfl, by rfl⟩⟩
  · intro kV doc pm an cdv ct T x us ws its h1 h2 h3
    match us, ws, its, h1, h2, h3 with
    | [a0, a1, a2, a3, a4], [], [z0], _, _, _ =>
      exact ⟨[a0, a1, a2, a3, a4], rfl, ite_no (by decide) ⟨_, by rfl, by rfl⟩⟩

theorem bn21 : BndOk W d21 := by
  intro sh hs
  have hs : sh ∈ f21.shapes := hs
  simp only [f21, List.mem_cons, List.not_mem_nil, or_false] at hs
  subst hs
  · intro kV doc pm an cdv ct T x us ws its h1 h2 h3
    match us, ws, its, h1, h2, h3 with
    | [a0, a1], [], [], _, _, _ =>
      exact ⟨[a0, a1], rfl, ite_of (by kernel_rfl) (by kernel_rfl)⟩

theorem bn22 : BndOk W d22 := by
  intro sh hs
  have hs : sh ∈ f22.shapes := hs
  simp only [f22, List.mem_cons, List.not_mem_nil, or_false] at hs
  subst hs
  · intro kV doc pm an cdv ct T x us ws its h1 h2 h3
    match us, ws, its, h1, h2, h3 with
    | [a0], [], [], _, _, _ =>
      exact ⟨[a0], rfl, ite_of (by kernel_rfl) (by kernel_rfl)⟩

theorem bn23 : BndOk W d23 := by
  intro sh hs
  have hs : sh ∈ f23.shapes := hs
  simp only [f23, List.mem_cons, List.not_mem_nil, or_false] at hs
  subst hs
  · intro kV doc pm an cdv ct T x us ws its h1 h2 h3
    match us, ws, its, h1, h2, h3 with
    | [a0, a1, a2, a3, a4], [], [], _, _, _ =>
      exact ⟨[a0, a1, a2, a3, a4], rfl, ite_of (by kernel_rfl) (by kernel_rfl)⟩

theorem bn24 : BndOk W d24 := by
  intro sh hs
  have hs : sh ∈ f24.shapes := hs
  simp only [f24, List.mem_cons, List.not_mem_nil, or_false] at hs
  subst hs
  · intro kV doc pm an cdv ct T x us ws its h1 h2 h3
    match us, ws, its, h1, h2, h3 with
    | [a0], [], [], _, _, _ =>
      exact ⟨[a0], rfl, ite_of (by kernel_rfl) (by kernel_rfl)⟩

theorem bn25 : BndOk W d25 := by
  intro sh hs
  have hs : sh ∈ f25.shapes := hs
  simp only [f25, List.mem_cons, List.not_mem_nil, or_false] at hs
  subst hs
  · intro kV doc pm an cdv ct T x us ws its h1 h2 h3
    match us, ws, its, h1, h2, h3 with
    | [a0, a1, a2], [], [], _, _, _ =>
      exact ⟨[a0, a1, a2], rfl, ite_of (by kernel_rfl) (by kernel_rfl)⟩

theorem bn26 : BndOk W d26 := by
  intro sh hs
  have hs : sh ∈ f26.shapes := hs
  simp only [f26, List.mem_cons, List.not_mem_nil, or_false] at hs
  subst hs
  · intro kV doc pm an cdv ct T x us ws its h1 h2 h3
    match us, ws, its, h1, h2, h3 with
    | [a0, a1, a2], [], [], _, _, _ =>
      exact ⟨[a0, a1, a2], rfl, ite_of (by kernel_rfl) (by kernel_rfl)⟩

theorem bn27 : BndOk W d27 := by
  intro sh hs
  have hs : sh ∈ f27.shapes := hs
  simp only [f27, List.mem_cons, List.not_mem_nil, or_false] at hs
  subst hs
  · intro kV doc pm an cdv ct T x us ws its h1 h2 h3
    match us, ws, its, h1, h2, h3 with
    | [a0, a1, a2], [], [], _, _, _ =>
      exact ⟨[a0, a1, a2], rfl, ite_of (by kernel_rfl) (by kernel_rfl)⟩

theorem bn28 : BndOk W d28 := by
  intro sh hs
  have hs : sh ∈ f28.shapes := hs
  simp only [f28, List.mem_cons, List.not_mem_nil, or_false] at hs
  subst hs
  · intro kV doc pm an cdv ct T x us ws its h1 h2 h3
    match us, ws, its, h1, h2, h3 with
    | [a0, a1], [], [], _, _, _ =>
      exact ⟨[a0, a1], rfl, ite_of (by kernel_rfl) (by kernel_rfl)⟩

theorem bn29 : BndOk W d29 := by
  intro sh hs
  have hs : sh ∈ f29.shapes := hs
  simp only [f29, List.mem_cons, List.not_mem_nil, or_false] at hs
  subst hs
  · intro kV doc pm an cdv ct T x us ws its h1 h2 h3
    match us, ws, its, h1, h2, h3 with
    | [a0, a1, a2], [], [], _, _, _ =>
      exact ⟨[a0, a1, a2], rfl, ite_of (by kernel_rfl) (by kernel_rfl)⟩

theorem bn30 : BndOk W d30 := by
  intro sh hs
  have hs : sh ∈ f30.shapes := hs
  simp only [f30, List.mem_cons, List.not_mem_nil, or_false] at hs
  subst hs
  · intro kV doc pm an cdv ct T x us ws its h1 h2 h3
    match us, ws, its, h1, h2, h3 with
    | [a0, a1], [], [], _, _, _ =>
      exact ⟨[a0, a1], rfl, ite_of (by kernel_rfl) (by kernel_rfl)⟩

theorem bn31 : BndOk W d31 := by
  intro sh hs
  have hs : sh ∈ f31.shapes := hs
  simp only [f31, List.mem_cons, List.not_mem_nil, or_false] at hs
  subst hs
  · intro kV doc pm an cdv ct T x us ws its h1 h2 h3
    match us, ws, its, h1, h2, h3 with
    | [a0, a1], [], [], _, _, _ =>
      exact ⟨[a0, a1], rfl, ite_of (by kernel_rfl) (by kernel_rfl)⟩

theorem bn32 : BndOk W d32 := by
  intro sh hs
  have hs : sh ∈ f32.shapes := hs
  simp only [f32, List.mem_cons, List.not_mem_nil, or_false] at hs
  subst hs
  · intro kV doc pm an cdv ct T x us ws its h1 h2 h3
    match us, ws, its, h1, h2, h3 with
    | [a0], [], [], _, _, _ =>
      exact ⟨[a0], rfl, ite_of (by kernel_rfl) (by kernel_rfl)⟩

theorem bn33 : BndOk W d33 := by
  intro sh hs
  have hs : sh ∈ f33.shapes := hs
  simp only [f33, List.mem_cons, List.not_mem_nil, or_false] at hs
  subst hs
  · intro kV doc pm an cdv ct T x us ws its h1 h2 h3
    match us, ws, its, h1, h2, h3 with
    | [a0], [], [], _, _, _ =>
      exact ⟨[a0], rfl, ite_of (by kernel_rfl) (by kernel_rfl)⟩

theorem bn34 : BndOk W d34 := by
  intro sh hs
  have hs : sh ∈ f34.shapes := hs
  simp only [f34, List.mem_cons, List.not_mem_nil, or_false] at hs
  subst hs
  · intro kV doc pm an cdv ct T x us ws its h1 h2 h3
    match us, ws, its, h1, h2, h3 with
    | [a0, a1], [], [], _, _, _ =>
      exact ⟨[a0, a1], rfl, ite_of (by kernel_rfl) (by kernel_rfl)⟩

theorem bn35 : BndOk W d35 := by
  intro sh hs
  have hs : sh ∈ f35.shapes := hs
  simp only [f35, List.mem_cons, List.not_mem_nil, or_false] at hs
  subst hs
  · intro kV doc pm an cdv ct T x us ws its h1 h2 h3
    match us, ws, its, h1, h2, h3 with
    | [a0], [], [], _, _, _ =>
      exact ⟨[a0], rfl, ite_of (by kernel_rfl) (by kernel_rfl)⟩

theorem bn36 : BndOk W d36 := by
  intro sh hs
  have hs : sh ∈ f36.shapes := hs
  simp only [f36, List.mem_cons, List.not_mem_nil, or_false] at hs
  subst hs
  · intro kV doc pm an cdv ct T x us ws its h1 h2 h3
    match us, ws, its, h1, h2, h3 with
    | [a0, a1], [], [], _, _, _ =>
      exact ⟨[a0, a1], rfl, ite_of (by kernel_rfl) (by kernel_rfl)⟩

theorem bn37 : BndOk W d37 := by
  intro sh hs
  have hs : sh ∈ f37.shapes := hs
  simp only [f37, List.mem_cons, List.not_mem_nil, or_false] at hs
  subst hs
  · intro kV doc pm an cdv ct T x us ws its h1 h2 h3
    match us, ws, its, h1, h2, h3 with
    | [a0, a1, a2], [], [], _, _, _ =>
      exact ⟨[a0, a1, a2], rfl, ite_of (by kernel_rfl) (by kernel_rfl)⟩

theorem el0 : lb0 = (cLv cfg 40).e LG0 t0.body := by kernel_rfl
theorem lo0 : LamOkT W ld0 := by
  refine ⟨fun M co => ?_, fun q cl pm cv ctv us h => ?_⟩
  · rw [hcfg] at co
    show CE M LG0 t0.body lb0
    rw [el0]
    exact (cLv_ok co 40).e _ _
  · match us, h with
    | [a0, a1], _ => kernel_rfl
theorem el1 : lb1 = (cLv cfg 40).e LG1 t1.body := by kernel_rfl
theorem lo1 : LamOkT W ld1 := by
  refine ⟨fun M co => ?_, fun q cl pm cv ctv us h => ?_⟩
  · rw [hcfg] at co
    show CE M LG1 t1.body lb1
    rw [el1]
    exact (cLv_ok co 40).e _ _
  · match us, h with
    | [a0, a1], _ => kernel_rfl
theorem stdec : stB W = true := by kernel_rfl
theorem allx : ∀ d ∈ W.fns, TxtOk W d := by
  intro d h
  rcases List.mem_cons.mp h with e | h
  · subst e; exact x0
  rcases List.mem_cons.mp h with e | h
  · subst e; exact x1
  rcases List.mem_cons.mp h with e | h
  · subst e; exact x2
  rcases List.mem_cons.mp h with e | h
  · subst e; exact x3
  rcases List.mem_cons.mp h with e | h
  · subst e; exact x4
  rcases List.mem_cons.mp h with e | h
  · subst e; exact x5
  rcases List.mem_cons.mp h with e | h
  · subst e; exact x6
  rcases List.mem_cons.mp h with e | h
  · subst e; exact x7
  rcases List.mem_cons.mp h with e | h
  · subst e; exact x8
  rcases List.mem_cons.mp h with e | h
  · subst e; exact x9
  rcases List.mem_cons.mp h with e | h
  · subst e; exact x10
  rcases List.mem_cons.mp h with e | h
  · subst e; exact x11
  rcases List.mem_cons.mp h with e | h
  · subst e; exact x12
  rcases List.mem_cons.mp h with e | h
  · subst e; exact x13
  rcases List.mem_cons.mp h with e | h
  · subst e; exact x14
  rcases List.mem_cons.mp h with e | h
  · subst e; exact x15
  rcases List.mem_cons.mp h with e | h
  · subst e; exact x16
  rcases List.mem_cons.mp h with e | h
  · subst e; exact x17
  rcases List.mem_cons.mp h with e | h
  · subst e; exact x18
  rcases List.mem_cons.mp h with e | h
  · subst e; exact x19
  rcases List.mem_cons.mp h with e | h
  · subst e; exact x20
  rcases List.mem_cons.mp h with e | h
  · subst e; exact x21
  rcases List.mem_cons.mp h with e | h
  · subst e; exact x22
  rcases List.mem_cons.mp h with e | h
  · subst e; exact x23
  rcases List.mem_cons.mp h with e | h
  · subst e; exact x24
  rcases List.mem_cons.mp h with e | h
  · subst e; exact x25
  rcases List.mem_cons.mp h with e | h
  · subst e; exact x26
  rcases List.mem_cons.mp h with e | h
  · subst e; exact x27
  rcases List.mem_cons.mp h with e | h
  · subst e; exact x28
  rcases List.mem_cons.mp h with e | h
  · subst e; exact x29
  rcases List.mem_cons.mp h with e | h
  · subst e; exact x30
  rcases List.mem_cons.mp h with e | h
  · subst e; exact x31
  rcases List.mem_cons.mp h with e | h
  · subst e; exact x32
  rcases List.mem_cons.mp h with e | h
  · subst e; exact x33
  rcases List.mem_cons.mp h with e | h
  · subst e; exact x34
  rcases List.mem_cons.mp h with e | h
  · subst e; exact x35
  rcases List.mem_cons.mp h with e | h
  · subst e; exact x36
  rcases List.mem_cons.mp h with e | h
  · subst e; exact x37
  cases h

theorem allb : ∀ d ∈ W.fns, BndOk W d := by
  intro d h
  rcases List.mem_cons.mp h with e | h
  · subst e; exact bn0
  rcases List.mem_cons.mp h with e | h
  · subst e; exact bn1
  rcases List.mem_cons.mp h with e | h
  · subst e; exact bn2
  rcases List.mem_cons.mp h with e | h
  · subst e; exact bn3
  rcases List.mem_cons.mp h with e | h
  · subst e; exact bn4
  rcases List.mem_cons.mp h with e | h
  · subst e; exact bn5
  rcases List.mem_cons.mp h with e | h
  · subst e; exact bn6
  rcases List.mem_cons.mp h with e | h
  · subst e; exact bn7
  rcases List.mem_cons.mp h with e | h
  · subst e; exact bn8
  rcases List.mem_cons.mp h with e | h
  · subst e; exact bn9
  rcases List.mem_cons.mp h with e | h
  · subst e; exact bn10
  rcases List.mem_cons.mp h with e | h
  · subst e; exact bn11
  rcases List.mem_cons.mp h with e | h
  · subst e; exact bn12
  rcases List.mem_cons.mp h with e | h
  · subst e; exact bn13
  rcases List.mem_cons.mp h with e | h
  · subst e; exact bn14
  rcases List.mem_cons.mp h with e | h
  · subst e; exact bn15
  rcases List.mem_cons.mp h with e | h
  · subst e; exact bn16
  rcases List.mem_cons.mp h with e | h
  · subst e; exact bn17
  rcases List.mem_cons.mp h with e | h
  · subst e; exact bn18
  rcases List.mem_cons.mp h with e | h
  · subst e; exact bn19
  rcases List.mem_cons.mp h with e | h
  · subst e; exact bn20
  rcases List.mem_cons.mp h with e | h
  · subst e; exact bn21
  rcases List.mem_cons.mp h with e | h
  · subst e; exact bn22
  rcases List.mem_cons.mp h with e | h
  · subst e; exact bn23
  rcases List.mem_cons.mp h with e | h
  · subst e; exact bn24
  rcases List.mem_cons.mp h with e | h
  · subst e; exact bn25
  rcases List.mem_cons.mp h with e | h
  · subst e; exact bn26
  rcases List.mem_cons.mp h with e | h
  · subst e; exact bn27
  rcases List.mem_cons.mp h with e | h
  · subst e; exact bn28
  rcases List.mem_cons.mp h with e | h
  · subst e; exact bn29
  rcases List.mem_cons.mp h with e | h
  · subst e; exact bn30
  rcases List.mem_cons.mp h with e | h
  · subst e; exact bn31
  rcases List.mem_cons.mp h with e | h
  · subst e; exact bn32
  rcases List.mem_cons.mp h with e | h
  · subst e; exact bn33
  rcases List.mem_cons.mp h with e | h
  · subst e; exact bn34
  rcases List.mem_cons.mp h with e | h
  · subst e; exact bn35
  rcases List.mem_cons.mp h with e | h
  · subst e; exact bn36
  rcases List.mem_cons.mp h with e | h
  · subst e; exact bn37
  cases h

theorem alld : ∀ d ∈ W.fns, d.fd.dfl = d.dfl.map dvD := by
  intro d h
  rcases List.mem_cons.mp h with e | h
  · subst e; kernel_rfl
  rcases List.mem_cons.mp h with e | h
  · subst e; kernel_rfl
  rcases List.mem_cons.mp h with e | h
  · subst e; kernel_rfl
  rcases List.mem_cons.mp h with e | h
  · subst e; kernel_rfl
  rcases List.mem_cons.mp h with e | h
  · subst e; kernel_rfl
  rcases List.mem_cons.mp h with e | h
  · subst e; kernel_rfl
  rcases List.mem_cons.mp h with e | h
  · subst e; kernel_rfl
  rcases List.mem_cons.mp h with e | h
  · subst e; kernel_rfl
  rcases List.mem_cons.mp h with e | h
  · subst e; kernel_rfl
  rcases List.mem_cons.mp h with e | h
  · subst e; kernel_rfl
  rcases List.mem_cons.mp h with e | h
  · subst e; kernel_rfl
  rcases List.mem_cons.mp h with e | h
  · subst e; kernel_rfl
  rcases List.mem_cons.mp h with e | h
  · subst e; kernel_rfl
  rcases List.mem_cons.mp h with e | h
  · subst e; kernel_rfl
  rcases List.mem_cons.mp h with e | h
  · subst e; kernel_rfl
  rcases List.mem_cons.mp h with e | h
  · subst e; kernel_rfl
  rcases List.mem_cons.mp h with e | h
  · subst e; kernel_rfl
  rcases List.mem_cons.mp h with e | h
  · subst e; kernel_rfl
  rcases List.mem_cons.mp h with e | h
  · subst e; kernel_rfl
  rcases List.mem_cons.mp h with e | h
  · subst e; kernel_rfl
  rcases List.mem_cons.mp h with e | h
  · subst e; kernel_rfl
  rcases List.mem_cons.mp h with e | h
  · subst e; kernel_rfl
  rcases List.mem_cons.mp h with e | h
  · subst e; kernel_rfl
  rcases List.mem_cons.mp h with e | h
  · subst e; kernel_rfl
  rcases List.mem_cons.mp h with e | h
  · subst e; kernel_rfl
  rcases List.mem_cons.mp h with e | h
  · subst e; kernel_rfl
  rcases List.mem_cons.mp h with e | h
  · subst e; kernel_rfl
  rcases List.mem_cons.mp h with e | h
  · subst e; kernel_rfl
  rcases List.mem_cons.mp h with e | h
  · subst e; kernel_rfl
  rcases List.mem_cons.mp h with e | h
  · subst e; kernel_rfl
  rcases List.mem_cons.mp h with e | h
  · subst e; kernel_rfl
  rcases List.mem_cons.mp h with e | h
  · subst e; kernel_rfl
  rcases List.mem_cons.mp h with e | h
  · subst e; kernel_rfl
  rcases List.mem_cons.mp h with e | h
  · subst e; kernel_rfl
  rcases List.mem_cons.mp h with e | h
  · subst e; kernel_rfl
  rcases List.mem_cons.mp h with e | h
  · subst e; kernel_rfl
  rcases List.mem_cons.mp h with e | h
  · subst e; kernel_rfl
  rcases List.mem_cons.mp h with e | h
  · subst e; kernel_rfl
  cases h

theorem alll : ∀ d ∈ W.lams, LamOkT W d := by
  intro d h
  rcases List.mem_cons.mp h with e | h
  · subst e; exact lo0
  rcases List.mem_cons.mp h with e | h
  · subst e; exact lo1
  cases h

theorem st : StOk W := ⟨stdec, allx, allb, alld, alll⟩
end K10

end

section
set_option Elab.async false
set_option linter.all false
set_option maxRecDepth 100000
set_option maxHeartbeats 0
namespace K10
open PySem L2 PySem.Spec PyProof.Rows TI
def lo_0 : List PySem.Str := ["_wall", "ChainError", "BadWord", "BadMachine", "BadState", "BadLink", "BadText", "Unlike", "TooMany", "FIGURES", "MOST_FIGURES", "is_integer", "is_within", "words_in", "number_in", "SIGNS_words", "FEWEST_SIGNS", "MOST_SIGNS", "is_sign_count", "is_word", "EMPTY", "MOST_STATES", "MOST_LONG", "shown", "row_text", "machine_rows", "need_text", "number_at", "word_at", "row_at"]
def lo_1 : List PySem.Str := ["parts_in", "is_short", "is_short_machines", "is_step", "are_steps", "are_ends", "need_parts", "run_from", "texts_to", "weight_of", "joined_row", "joined_end", "joined_parts", "need_short", "Machine", "SIGNS_links", "Link", "is_short_links", "need_signs", "need_within", "built", "nothing_at", "MOST_RUN", "FULL", "next_run", "stuffed", "bared", "Stuffer", "_law_pen", "_law_draw"]
def lo_2 : List PySem.Str := ["_law_pick", "_law_written", "_law_read", "_law_longest", "_law_word", "_law_right"]
def loose : List PySem.Str := lo_0 ++ lo_1 ++ lo_2
abbrev R : PySem.W.OpenRow := PySem.W.OpenLaw.row PySem.Challenge.rw_codechain_k10_whole_stuffers_for_all_tex
def ob (s : PySem.W.SharedT) : AlL := obsL 5 W (HandSHeadRun.getT s)
theorem ob_eq (s : PySem.W.SharedT) : ob s = (hookL 5 W).obs s.abs := obsL_eq (HandSHeadRun.getT_eq s)
theorem run (w : World) : HandSHeadRun.RunEq R (PySem.W.view R.prog [75]) (hookL 5 W) ob 30000 loose w := by
  intro os
  kernel_rfl
end K10

end

section
set_option Elab.async false
set_option linter.all false
set_option maxRecDepth 100000
set_option maxHeartbeats 0
open PySem PySem.W PySem.Calls PyProof.Rows
theorem K10.final (pure_ : ∀ ns : List Int, ns.length ≤ 63 → (∀ z ∈ ns, Builtin.Int.intBits z ≤ 1048576) → TI.lawRun K10.W.prg 120 K10.f0 1 ns 40 = true) : PySem.Challenge.rw_codechain_k10_whole_stuffers_for_all_tex.Holds := by
  w_on; o_law
  refine HandSHeadRun.head_any (r := OpenLaw.row PySem.Challenge.rw_codechain_k10_whole_stuffers_for_all_tex) (q := view (OpenLaw.row PySem.Challenge.rw_codechain_k10_whole_stuffers_for_all_tex).prog [75]) (H := TI.hookL 5 K10.W) (ob := K10.ob) (M := 30000) (loose := K10.loose) (d := HandSHeadRun.topDef (OpenLaw.row PySem.Challenge.rw_codechain_k10_whole_stuffers_for_all_tex).prog 75) (kwd := []) K10.ob_eq
    (by kernel_rfl) (fun s => by kernel_rfl) K10.run (by kernel_rfl) (by kernel_rfl) (by kernel_rfl) (by rfl) (by first | assumption | decide +kernel) (by decide +kernel) ⟨rfl, rfl, rfl, rfl, rfl, by decide +kernel⟩ ?hw ?hc
  case hw => w_witness2
  case hc =>
    refine LamX.walk_ofTsE (l := PySem.Challenge.rw_codechain_k10_whole_stuffers_for_all_tex) (n := 63) (k := 41) (x := "_law_script") (CX := fun _ => TI.CXN) rfl (by decide) (by kernel_rfl) ⟨rfl, by decide, by decide⟩ ?F (fun _ _ _ _ _ z => z)
    intro w mg fa h Y G hmg0
    obtain ⟨K, KX, S⟩ := Y
    have hmg : mg ("law" : PySem.Str) = some (.ref fa) := by
      have e : (HandSHeadRun.topDef (OpenLaw.row PySem.Challenge.rw_codechain_k10_whole_stuffers_for_all_tex).prog 75).name = ("law" : PySem.Str) := by kernel_rfl
      rw [← e]
      exact hmg0
    exact ⟨K, KX, TI.law_at2 (W := K10.W) (i := 0) (k := 40) (n := 120) (pen := 1) (law := "law") (d := K10.d0) (b := (TI.FD.body K10.d0).getD 0 K10.noS) (body := (TI.FD.body K10.d0).drop 1) (s := K10.b0.headD .pass) (rest := K10.b0.drop 1) KX G S K10.st hmg (PySem.mem_of_lookup (by kernel_rfl)) rfl rfl rfl rfl (List.mem_of_getElem? (i := 0) (by kernel_rfl)) rfl (by kernel_rfl) (by kernel_rfl) rfl pure_⟩

end

section
set_option Elab.async false
set_option linter.all false
set_option maxRecDepth 100000
set_option maxHeartbeats 1000000
/-! machines, purely -/
namespace K10
open PySem TI
abbrev P : Prg := W.prg
theorem hIsWord : P.fns[18]? = some f18 := rfl
theorem hRunFrom : P.fns[37]? = some f37 := rfl
theorem isWord_ok (n k : Nat) (ds : List Nat) (q : Nat) (hq : 2 ≤ q ∧ q ≤ 4) (hl : ds.length ≤ 1000) (ht : ∀ c ∈ ds, c < q) : (lv P (n + 12)).call 18 [.str (tx ds), .int q] [] k = .ok (.bl true) false [] := by
  have key : ∃ st', lcLoop (lv P (n + 7)) [2] (.cmp .In (.var 2) (.sli (.cst (.str [48, 49, 50, 51])) none (some (.var 1)))) (.nm 2) [] ((tx ds).map fun c => .str [c]) ⟨[some (false, .str (tx ds)), some (false, .int q), none], [], k, 0⟩ = .ok ((tx ds).map fun _ => .bl true) st' ∧ ∃ e, st' = ⟨[some (false, .str (tx ds)), some (false, .int q), e], [], k, 0⟩ := by
    refine lc_map (I := fun st => ∃ e, st = ⟨[some (false, .str (tx ds)), some (false, .int q), e], [], k, 0⟩) _ (fun x hx st h => ?_) ⟨none, rfl⟩
    obtain ⟨e, rfl⟩ := h
    obtain ⟨d, hd, rfl⟩ := List.mem_map.mp hx
    have hd := ht d hd
    refine ⟨⟨[some (false, .str (tx ds)), some (false, .int q), some (false, .str [48 + d])], [], k, 0⟩, ⟨[some (false, .str (tx ds)), some (false, .int q), some (false, .str [48 + d])], [], k, 0⟩, false, rfl, ?_, ⟨some (false, .str [48 + d]), rfl⟩⟩
    obtain ⟨h1, h2⟩ := hq
    have : q = 2 ∨ q = 3 ∨ q = 4 := by omega
    rcases this with rfl | rfl | rfl
    · have : d = 0 ∨ d = 1 := by omega
      rcases this with rfl | rfl <;> rfl
    · have : d = 0 ∨ d = 1 ∨ d = 2 := by omega
      rcases this with rfl | rfl | rfl <;> rfl
    · have : d = 0 ∨ d = 1 ∨ d = 2 ∨ d = 3 := by omega
      rcases this with rfl | rfl | rfl | rfl <;> rfl
  obtain ⟨st', h1, e, rfl⟩ := key
  refine call_of (n := n + 10) (st' := ⟨[some (false, .str (tx ds)), some (false, .int q), none], [], k, 0⟩) hIsWord rfl (exS_ret ?_)
  have hl2 : (tx ds).length ≤ 16000000 := by rw [tx_len]; omega
  have hs : TI.start [D.str (tx ds), D.int ↑q] f18.slots = [some (false, .str (tx ds)), some (false, .int q), none] := rfl
  rw [hs]
  simp [exS, ex1, lv_ev, lv_tst, lv_ex, evS, tstS, pk, pks, evs, evf, TI.lift, slot, share, deref, index, L2.atI, L2.ixN, cmpop, bfun, bInt, bLen, bi_add, bi_sub, asg, asgs, setv, isMut, TI.setItem, okLen, lenMax, bIsi, tyIs, iterS, R.noExc, f18, h1, bAll, alB_map, backE, hl2]
/-- a table: at state q and sign a the word wo q a is put out and nx q a comes next -/
def tabD (N s : Nat) (wo : Nat → Nat → List Nat) (nx : Nat → Nat → Nat) : D := .tup ((List.range N).map fun q => .tup ((List.range s).map fun a => .tup [.str (tx (wo q a)), .int (nx q a)]))
theorem at_range {α : Type} (f : Nat → α) {N q : Nat} (h : q < N) : L2.atI ((List.range N).map f) (q : Int) = some (f q) := by
  have h1 : ¬ ((q : Int) < 0) := by omega
  simp [L2.atI, L2.ixN, h, h1]
def wordsM (wo : Nat → Nat → List Nat) (nx : Nat → Nat → Nat) : Nat → List Nat → List (List Nat)
  | _, [] => []
  | q, a :: as => wo q a :: wordsM wo nx (nx q a) as
def endM (nx : Nat → Nat → Nat) : Nat → List Nat → Nat
  | q, [] => q
  | q, a :: as => endM nx (nx q a) as
theorem wordsM_len {wo : Nat → Nat → List Nat} {nx : Nat → Nat → Nat} : ∀ (ds : List Nat) (q : Nat), (wordsM wo nx q ds).length = ds.length
  | [], _ => rfl
  | _ :: as, _ => by simp [wordsM, wordsM_len as]
theorem endM_lt {nx : Nat → Nat → Nat} {N s : Nat} (hn : ∀ q a, q < N → a < s → nx q a < N) : ∀ (ds : List Nat) (q : Nat), q < N → (∀ a ∈ ds, a < s) → endM nx q ds < N
  | [], _, h, _ => h
  | a :: as, q, h, h2 => endM_lt hn as _ (hn q a h (h2 a List.mem_cons_self)) fun b hb => h2 b (List.mem_cons_of_mem _ hb)
theorem run_for {N s : Nat} {wo : Nat → Nat → List Nat} {nx : Nat → Nat → Nat} (n k : Nat) (hs : s ≤ 4) (hn : ∀ q a, q < N → a < s → nx q a < N) (T : List Nat) : ∀ (ds : List Nat) (q : Nat) (acc : List D) (e4 e5 : Option (Bool × D)), q < N → (∀ a ∈ ds, a < s) → acc.length + ds.length ≤ 5000 →
    ∃ e4' e5', forLoop (lv P (n + 10)) (.nm 4) [(.asg (.tp [(.nm 5), (.nm 1)]) (.sub (.sub (.var 0) (.var 1)) (.bf .int [(.var 4)]))), (.app 3 (.var 5))] ((tx ds).map fun c => .str [c]) ⟨[some (false, tabD N s wo nx), some (false, .int q), some (false, .str T), some (true, .lst acc), e4, e5], [], k, 0⟩ =
      .ok .nx ⟨[some (false, tabD N s wo nx), some (false, .int (endM nx q ds)), some (false, .str T), some (true, .lst (acc ++ (wordsM wo nx q ds).map fun w => .str (tx w))), e4', e5'], [], k, 0⟩
  | [], q, acc, e4, e5, _, _, _ => ⟨e4, e5, by simp [forLoop, tx, endM, wordsM]⟩
  | a :: as, q, acc, e4, e5, hq, ha, hl => by
    have h1 := ha a List.mem_cons_self
    simp only [List.length_cons] at hl
    obtain ⟨e4', e5', ih⟩ := run_for (wo := wo) n k hs hn T as (nx q a) (acc ++ [.str (tx (wo q a))]) (some (false, .str [48 + a])) (some (false, .str (tx (wo q a)))) (hn q a hq h1) (fun b hb => ha b (List.mem_cons_of_mem _ hb)) (by simp; omega)
    refine ⟨e4', e5', ?_⟩
    have hi := at_range (fun q => D.tup ((List.range s).map fun a => .tup [.str (tx (wo q a)), .int (nx q a)])) hq
    have hj := at_range (fun a => D.tup [.str (tx (wo q a)), .int (nx q a)]) h1
    have hk := atoi1 (d := a) (by omega)
    have hl2 : acc.length < 16000000 := by omega
    have e1 : tx (a :: as) = (48 + a) :: tx as := rfl
    rw [e1, List.map_cons]
    unfold forLoop
    simp only [tabD] at ih ⊢
    simp only [asg, TI.lift, setv, lv_ex, exS, ex1, lv_ev, evS, pk, pks, slot, share, deref, index, bfun, bInt, asgs]
    simp [hi, hj, hk, TI.append, slot, lenMax, hl2, setv, asgs, asg, isMut, share]
    simp only [endM, wordsM, List.map_cons]
    simpa using ih
theorem flat_le {wo : Nat → Nat → List Nat} {nx : Nat → Nat → Nat} (hw : ∀ q a, (wo q a).length ≤ 100) : ∀ (ds : List Nat) (q : Nat), (wordsM wo nx q ds).flatten.length ≤ 100 * ds.length
  | [], _ => by simp [wordsM]
  | a :: as, q => by
    have := flat_le (nx := nx) hw as (nx q a)
    have := hw q a
    simp only [wordsM, List.flatten_cons, List.length_append, List.length_cons]
    omega
theorem runFrom_ok {N s : Nat} {wo : Nat → Nat → List Nat} {nx : Nat → Nat → Nat} (n k : Nat) (hs : s ≤ 4) (hn : ∀ q a, q < N → a < s → nx q a < N) (hw : ∀ q a, (wo q a).length ≤ 100) (ds : List Nat) (q : Nat) (hq : q < N) (ha : ∀ a ∈ ds, a < s) (hl : ds.length ≤ 2000) :
    (lv P (n + 14)).call 37 [tabD N s wo nx, .int q, .str (tx ds)] [] k = .ok (.tup [.str (tx (wordsM wo nx q ds).flatten), .int (endM nx q ds)]) false [] := by
  obtain ⟨e4, e5, h⟩ := run_for (wo := wo) (n + 2) k hs hn (tx ds) ds q [] none none hq ha (by simp; omega)
  refine call_of (n := n + 12) (st' := ⟨[some (false, tabD N s wo nx), some (false, .int (endM nx q ds)), some (false, .str (tx ds)), some (true, .lst ((wordsM wo nx q ds).map fun w => .str (tx w))), e4, e5], [], k, 0⟩) hRunFrom rfl ?_
  have hs0 : TI.start [tabD N s wo nx, .int q, .str (tx ds)] f37.slots = [some (false, tabD N s wo nx), some (false, .int q), some (false, .str (tx ds)), none, none, none] := rfl
  rw [hs0]
  have hsum : ∀ ws : List (List Nat), (∀ w ∈ ws, w.length ≤ 100) → ((ws.map tx).map (·.length)).sum ≤ 100 * ws.length := by
    intro ws
    induction ws with
    | nil => simp
    | cons w ws ih =>
      intro h
      have h1 := h w List.mem_cons_self
      have h2 := ih fun v hv => h v (List.mem_cons_of_mem _ hv)
      simp only [List.map_cons, List.sum_cons, List.length_cons, tx_len] at h2 ⊢
      omega
  have hall : ∀ (ds : List Nat) (q : Nat), ∀ w ∈ wordsM wo nx q ds, w.length ≤ 100 := by
    intro ds
    induction ds with
    | nil => simp [wordsM]
    | cons a as ih =>
      intro q w hw'
      simp only [wordsM, List.mem_cons] at hw'
      rcases hw' with rfl | hw'
      · exact hw q a
      · exact ih _ w hw'
  have hj := mJoin_nil tx (wordsM wo nx q ds) (by
    have := hsum _ (hall ds q)
    rw [wordsM_len] at this
    omega)
  have hfl : ∀ ws : List (List Nat), (ws.map tx).flatten = tx ws.flatten := by
    exact fun ws => (List.map_flatten ..).symm
  rw [hfl] at hj
  show exS P (lv P (n + 12)) [_, _, _] _ = _
  rw [exS_nx (st' := ⟨[some (false, tabD N s wo nx), some (false, .int q), some (false, .str (tx ds)), some (true, .lst []), none, none], [], k, 0⟩) (by simp [exS, ex1, lv_ev, lv_tst, lv_ex, evS, tstS, pk, pks, evs, evf, TI.lift, slot, share, deref, index, L2.atI, L2.ixN, cmpop, bfun, bInt, bLen, bi_add, bi_sub, asg, asgs, setv, isMut, TI.setItem, okLen, lenMax])]
  rw [exS_nx (st' := ⟨[some (false, tabD N s wo nx), some (false, .int (endM nx q ds)), some (false, .str (tx ds)), some (true, .lst ((wordsM wo nx q ds).map fun w => .str (tx w))), e4, e5], [], k, 0⟩) (by
    simp only [ex1, iterS, lv_ev, evS, slot, TI.lift, share]
    simpa using h)]
  refine exS_ret ?_
  simp [exS, ex1, lv_ev, lv_tst, lv_ex, evS, tstS, pk, pks, evs, evf, TI.lift, slot, share, deref, index, L2.atI, L2.ixN, cmpop, bfun, bInt, bLen, bi_add, bi_sub, asg, asgs, setv, isMut, TI.setItem, okLen, lenMax, mfun, hj]
/-- a machine -/
def machD (N s : Nat) (wo : Nat → Nat → List Nat) (nx : Nat → Nat → Nat) (en : Nat → List Nat) (wgt : Int) (txs : D) : D :=
  .ins 1 [14, 18, 16, 5, 4, 17, 12] [.int s, .int s, tabD N s wo nx, .tup ((List.range N).map fun q => .str (tx (en q))), .str [], .int wgt, txs]
theorem hLed : P.fns[36]? = some f36 := rfl
theorem hMCall : P.fns[34]? = some f34 := rfl
section
variable (r : Rec) (es : List SE) (env : List (Option (Bool × D))) (sto : List D) (k lo : Nat)
theorem cIsWord (a b : D) : callD P r (.fn 18 none) es [a, b] [] [] ⟨env, sto, k + 1, lo⟩ = aft (r.call 18 [a, b] [] k) es false ⟨env, sto, k + 1, lo⟩ := rfl
theorem cRunFrom (a b c : D) : callD P r (.fn 37 none) es [a, b, c] [] [] ⟨env, sto, k + 1, lo⟩ = aft (r.call 37 [a, b, c] [] k) es false ⟨env, sto, k + 1, lo⟩ := rfl
theorem cMCall (a b : D) : callD P r (.obj a 34) es [b] [] [] ⟨env, sto, k + 1, lo⟩ = aft (r.call 34 [a, b] [] k) es false ⟨env, sto, k + 1, lo⟩ := rfl
theorem cLCall (a b : D) : callD P r (.obj a 30) es [b] [] [] ⟨env, sto, k + 1, lo⟩ = aft (r.call 30 [a, b] [] k) es false ⟨env, sto, k + 1, lo⟩ := rfl
theorem cLBack (a b : D) : callD P r (.fn 31 (some a)) es [b] [] [] ⟨env, sto, k + 1, lo⟩ = aft (r.call 31 [a, b] [] k) es false ⟨env, sto, k + 1, lo⟩ := rfl
theorem cLed (a b : D) : callD P r (.fn 36 (some a)) es [b] [] [] ⟨env, sto, k + 1, lo⟩ = aft (r.call 36 [a, b] [] k) es false ⟨env, sto, k + 1, lo⟩ := rfl
end
theorem led_ok {N s : Nat} {wo : Nat → Nat → List Nat} {nx : Nat → Nat → Nat} {en : Nat → List Nat} {wgt : Int} {txs : D} (n k : Nat) (hs : 2 ≤ s ∧ s ≤ 4) (hN : 0 < N) (hn : ∀ q a, q < N → a < s → nx q a < N) (hw : ∀ q a, (wo q a).length ≤ 100) (ds : List Nat) (ha : ∀ a ∈ ds, a < s) (hl : ds.length ≤ 1000) :
    (lv P (n + 20)).call 36 [machD N s wo nx en wgt txs, .str (tx ds)] [] (k + 2) = .ok (.tup [.str (tx (wordsM wo nx 0 ds).flatten), .int (endM nx 0 ds)]) false [] := by
  have h1 := fun m => isWord_ok m (k + 1) ds s hs hl ha
  have h2 := fun m => runFrom_ok (wo := wo) m (k + 1) hs.2 hn hw ds 0 hN ha (by omega)
  simp only [Int.ofNat_zero, Int.natCast_zero] at h2
  have hs0 : TI.start [machD N s wo nx en wgt txs, .str (tx ds)] f36.slots = [some (false, machD N s wo nx en wgt txs), some (false, .str (tx ds)), none, none] := rfl
  refine call_of (n := n + 18) (st' := ⟨[some (false, machD N s wo nx en wgt txs), some (false, .str (tx ds)), some (false, .str (tx (wordsM wo nx 0 ds).flatten)), some (false, .int (endM nx 0 ds))], [], k + 2, 0⟩) hLed rfl ?_
  rw [hs0]
  have g1 : ∀ r oe st, getAtt P r (machD N s wo nx en wgt txs) oe 14 st = .ok (.int s, false) st := fun _ _ _ => rfl
  have g2 : ∀ r oe st, getAtt P r (machD N s wo nx en wgt txs) oe 16 st = .ok (tabD N s wo nx, false) st := fun _ _ _ => rfl
  have g3 : ∀ r oe st, getAtt P r (machD N s wo nx en wgt txs) oe 4 st = .ok (.str [], false) st := fun _ _ _ => rfl
  show exS P (lv P (n + 18)) [_, _, _] _ = _
  rw [exS_nx (st' := ⟨[some (false, machD N s wo nx en wgt txs), some (false, .str (tx ds)), none, none], [], k + 2, 0⟩) (by
    simp [exS, ex1, lv_ev, lv_tst, lv_ex, evS, tstS, pk, pks, evs, evf, TI.lift, slot, share, deref, index, L2.atI, L2.ixN, cmpop, bfun, bInt, bLen, bi_add, bi_sub, asg, asgs, setv, isMut, TI.setItem, okLen, lenMax, callT, cIsWord, h1, aft_ok, after_no, isOwn, g1, truth])]
  rw [exS_nx (st' := ⟨[some (false, machD N s wo nx en wgt txs), some (false, .str (tx ds)), some (false, .str (tx (wordsM wo nx 0 ds).flatten)), some (false, .int (endM nx 0 ds))], [], k + 2, 0⟩) (by
    simp [exS, ex1, lv_ev, lv_tst, lv_ex, evS, tstS, pk, pks, evs, evf, TI.lift, slot, share, deref, index, L2.atI, L2.ixN, cmpop, bfun, bInt, bLen, bi_add, bi_sub, asg, asgs, setv, isMut, TI.setItem, okLen, lenMax, callT, cRunFrom, h2, aft_ok, after_no, isOwn, g2])]
  refine exS_ret ?_
  have hc := bi_cat (x := []) (y := tx (wordsM wo nx 0 ds).flatten) (by
    have := flat_le (nx := nx) hw ds 0
    rw [tx_len]
    simp only [List.length_nil]
    omega)
  simp only [List.nil_append] at hc
  simp [exS, ex1, lv_ev, lv_tst, lv_ex, evS, tstS, pk, pks, evs, evf, TI.lift, slot, share, deref, index, L2.atI, L2.ixN, cmpop, bfun, bInt, bLen, bi_add, bi_sub, asg, asgs, setv, isMut, TI.setItem, okLen, lenMax, g3, hc]
theorem mcall_ok {N s : Nat} {wo : Nat → Nat → List Nat} {nx : Nat → Nat → Nat} {en : Nat → List Nat} {wgt : Int} {txs : D} (n k : Nat) (hs : 2 ≤ s ∧ s ≤ 4) (hN : 0 < N) (hn : ∀ q a, q < N → a < s → nx q a < N) (hw : ∀ q a, (wo q a).length ≤ 100) (he : ∀ q, (en q).length ≤ 100) (ds : List Nat) (ha : ∀ a ∈ ds, a < s) (hl : ds.length ≤ 1000) :
    (lv P (n + 26)).call 34 [machD N s wo nx en wgt txs, .str (tx ds)] [] (k + 3) = .ok (.str (tx ((wordsM wo nx 0 ds).flatten ++ en (endM nx 0 ds)))) false [] := by
  have h1 := fun m => led_ok (wo := wo) (en := en) (wgt := wgt) (txs := txs) m k hs hN hn hw ds ha hl
  have hs0 : TI.start [machD N s wo nx en wgt txs, .str (tx ds)] f34.slots = [some (false, machD N s wo nx en wgt txs), some (false, .str (tx ds)), none, none] := rfl
  refine call_of (n := n + 24) (st' := ⟨[some (false, machD N s wo nx en wgt txs), some (false, .str (tx ds)), some (false, .str (tx (wordsM wo nx 0 ds).flatten)), some (false, .int (endM nx 0 ds))], [], k + 3, 0⟩) hMCall rfl ?_
  rw [hs0]
  have g1 : ∀ r oe st, getAtt P r (machD N s wo nx en wgt txs) oe 5 st = .ok (.tup ((List.range N).map fun q => .str (tx (en q))), false) st := fun _ _ _ => rfl
  have g2 : resolve P (machD N s wo nx en wgt txs) 7 true = some (.fn 36 (some (machD N s wo nx en wgt txs))) := rfl
  have g3 := at_range (fun q => D.str (tx (en q))) (endM_lt hn ds 0 hN ha)
  have g4 := bi_cat (x := tx (wordsM wo nx 0 ds).flatten) (y := tx (en (endM nx 0 ds))) (by
    have := flat_le (nx := nx) hw ds 0
    have := he (endM nx 0 ds)
    simp only [tx_len]
    omega)
  rw [tx_app] at g4
  show exS P (lv P (n + 24)) [_, _] _ = _
  rw [exS_nx (st' := ⟨[some (false, machD N s wo nx en wgt txs), some (false, .str (tx ds)), some (false, .str (tx (wordsM wo nx 0 ds).flatten)), some (false, .int (endM nx 0 ds))], [], k + 3, 0⟩) (by
    simp [exS, ex1, lv_ev, lv_tst, lv_ex, evS, tstS, pk, pks, evs, evf, TI.lift, slot, share, deref, index, L2.atI, L2.ixN, cmpop, bfun, bInt, bLen, bi_add, bi_sub, asg, asgs, setv, isMut, TI.setItem, okLen, lenMax, callT, g2, cLed, h1, aft_ok, after_no, isOwn])]
  refine exS_ret ?_
  have g5 : index (.tup ((List.range N).map fun q => .str (tx (en q)))) (.int (endM nx 0 ds)) = some (.str (tx (en (endM nx 0 ds)))) := g3
  simp [exS, ex1, lv_ev, lv_tst, lv_ex, evS, tstS, pk, pks, evs, evf, TI.lift, slot, share, deref, cmpop, bfun, bInt, bLen, bi_add, bi_sub, asg, asgs, setv, isMut, TI.setItem, okLen, lenMax, g1, g5, g4]
theorem hLCall : P.fns[30]? = some f30 := rfl
theorem hLBack : P.fns[31]? = some f31 := rfl
end K10

end

section
set_option Elab.async false
set_option linter.all false
set_option maxRecDepth 100000
set_option maxHeartbeats 1000000
/-! Stuffer: what is built, by the kernel -/
namespace K10
open PySem TI
def wS (s g m q a : Nat) : List Nat := if a = g then (if q + 1 = m then [a, (g + 1) % s] else [a]) else [a]
def nS (g m q a : Nat) : Nat := if a = g then (if q + 1 = m then 0 else q + 1) else 0
def eS (q : Nat) : List Nat := []
def wR (m q a : Nat) : List Nat := if q = m then [] else [a]
def nR (g m q a : Nat) : Nat := if q = m then 0 else if a = g then q + 1 else 0
def txS (g N : Nat) : D := .tup ((List.range N).map fun q => .str (List.replicate q (48 + g)))
def mS (s g m : Nat) : D := machD m s (wS s g m) (nS g m) eS (m * s + 1 : Nat) (txS g m)
def mR (s g m : Nat) : D := machD (m + 1) s (wR m) (nR g m) eS (m * s : Nat) (txS g (m + 1))
def stD (s g m : Nat) : D := .ins 0 [14, 18, 15, 9, 10, 11] [.int s, .int s, .str [48 + g], .int m, mS s g m, mR s g m]
abbrev Sl := Option (Bool × D)
abbrev b3pre : List SS := b3.take 3
def envR (s g m : Nat) (x : List Sl) : List Sl := some (false, .ref 0) :: some (false, .int s) :: some (false, .str [48 + g]) :: some (false, .int m) :: x
theorem k201 (sto : List D) : exS P (lv P 114) b3pre ⟨envR 2 0 1 [none, none, none, none, none, none, none], sto, 39, 0⟩ = .ok .nx ⟨envR 2 0 1 [some (false, stD 2 0 1), some (false, .str [48 + (0 + 1) % 2]), none, none, none, none, none], sto, 39, 0⟩ := by kernel_rfl
theorem k202 (sto : List D) : exS P (lv P 114) b3pre ⟨envR 2 0 2 [none, none, none, none, none, none, none], sto, 39, 0⟩ = .ok .nx ⟨envR 2 0 2 [some (false, stD 2 0 2), some (false, .str [48 + (0 + 1) % 2]), none, none, none, none, none], sto, 39, 0⟩ := by kernel_rfl
theorem k203 (sto : List D) : exS P (lv P 114) b3pre ⟨envR 2 0 3 [none, none, none, none, none, none, none], sto, 39, 0⟩ = .ok .nx ⟨envR 2 0 3 [some (false, stD 2 0 3), some (false, .str [48 + (0 + 1) % 2]), none, none, none, none, none], sto, 39, 0⟩ := by kernel_rfl
theorem k204 (sto : List D) : exS P (lv P 114) b3pre ⟨envR 2 0 4 [none, none, none, none, none, none, none], sto, 39, 0⟩ = .ok .nx ⟨envR 2 0 4 [some (false, stD 2 0 4), some (false, .str [48 + (0 + 1) % 2]), none, none, none, none, none], sto, 39, 0⟩ := by kernel_rfl
theorem k205 (sto : List D) : exS P (lv P 114) b3pre ⟨envR 2 0 5 [none, none, none, none, none, none, none], sto, 39, 0⟩ = .ok .nx ⟨envR 2 0 5 [some (false, stD 2 0 5), some (false, .str [48 + (0 + 1) % 2]), none, none, none, none, none], sto, 39, 0⟩ := by kernel_rfl
theorem k211 (sto : List D) : exS P (lv P 114) b3pre ⟨envR 2 1 1 [none, none, none, none, none, none, none], sto, 39, 0⟩ = .ok .nx ⟨envR 2 1 1 [some (false, stD 2 1 1), some (false, .str [48 + (1 + 1) % 2]), none, none, none, none, none], sto, 39, 0⟩ := by kernel_rfl
theorem k212 (sto : List D) : exS P (lv P 114) b3pre ⟨envR 2 1 2 [none, none, none, none, none, none, none], sto, 39, 0⟩ = .ok .nx ⟨envR 2 1 2 [some (false, stD 2 1 2), some (false, .str [48 + (1 + 1) % 2]), none, none, none, none, none], sto, 39, 0⟩ := by kernel_rfl
theorem k213 (sto : List D) : exS P (lv P 114) b3pre ⟨envR 2 1 3 [none, none, none, none, none, none, none], sto, 39, 0⟩ = .ok .nx ⟨envR 2 1 3 [some (false, stD 2 1 3), some (false, .str [48 + (1 + 1) % 2]), none, none, none, none, none], sto, 39, 0⟩ := by kernel_rfl
theorem k214 (sto : List D) : exS P (lv P 114) b3pre ⟨envR 2 1 4 [none, none, none, none, none, none, none], sto, 39, 0⟩ = .ok .nx ⟨envR 2 1 4 [some (false, stD 2 1 4), some (false, .str [48 + (1 + 1) % 2]), none, none, none, none, none], sto, 39, 0⟩ := by kernel_rfl
theorem k215 (sto : List D) : exS P (lv P 114) b3pre ⟨envR 2 1 5 [none, none, none, none, none, none, none], sto, 39, 0⟩ = .ok .nx ⟨envR 2 1 5 [some (false, stD 2 1 5), some (false, .str [48 + (1 + 1) % 2]), none, none, none, none, none], sto, 39, 0⟩ := by kernel_rfl
theorem k301 (sto : List D) : exS P (lv P 114) b3pre ⟨envR 3 0 1 [none, none, none, none, none, none, none], sto, 39, 0⟩ = .ok .nx ⟨envR 3 0 1 [some (false, stD 3 0 1), some (false, .str [48 + (0 + 1) % 3]), none, none, none, none, none], sto, 39, 0⟩ := by kernel_rfl
theorem k302 (sto : List D) : exS P (lv P 114) b3pre ⟨envR 3 0 2 [none, none, none, none, none, none, none], sto, 39, 0⟩ = .ok .nx ⟨envR 3 0 2 [some (false, stD 3 0 2), some (false, .str [48 + (0 + 1) % 3]), none, none, none, none, none], sto, 39, 0⟩ := by kernel_rfl
theorem k303 (sto : List D) : exS P (lv P 114) b3pre ⟨envR 3 0 3 [none, none, none, none, none, none, none], sto, 39, 0⟩ = .ok .nx ⟨envR 3 0 3 [some (false, stD 3 0 3), some (false, .str [48 + (0 + 1) % 3]), none, none, none, none, none], sto, 39, 0⟩ := by kernel_rfl
theorem k304 (sto : List D) : exS P (lv P 114) b3pre ⟨envR 3 0 4 [none, none, none, none, none, none, none], sto, 39, 0⟩ = .ok .nx ⟨envR 3 0 4 [some (false, stD 3 0 4), some (false, .str [48 + (0 + 1) % 3]), none, none, none, none, none], sto, 39, 0⟩ := by kernel_rfl
theorem k305 (sto : List D) : exS P (lv P 114) b3pre ⟨envR 3 0 5 [none, none, none, none, none, none, none], sto, 39, 0⟩ = .ok .nx ⟨envR 3 0 5 [some (false, stD 3 0 5), some (false, .str [48 + (0 + 1) % 3]), none, none, none, none, none], sto, 39, 0⟩ := by kernel_rfl
theorem k311 (sto : List D) : exS P (lv P 114) b3pre ⟨envR 3 1 1 [none, none, none, none, none, none, none], sto, 39, 0⟩ = .ok .nx ⟨envR 3 1 1 [some (false, stD 3 1 1), some (false, .str [48 + (1 + 1) % 3]), none, none, none, none, none], sto, 39, 0⟩ := by kernel_rfl
theorem k312 (sto : List D) : exS P (lv P 114) b3pre ⟨envR 3 1 2 [none, none, none, none, none, none, none], sto, 39, 0⟩ = .ok .nx ⟨envR 3 1 2 [some (false, stD 3 1 2), some (false, .str [48 + (1 + 1) % 3]), none, none, none, none, none], sto, 39, 0⟩ := by kernel_rfl
theorem k313 (sto : List D) : exS P (lv P 114) b3pre ⟨envR 3 1 3 [none, none, none, none, none, none, none], sto, 39, 0⟩ = .ok .nx ⟨envR 3 1 3 [some (false, stD 3 1 3), some (false, .str [48 + (1 + 1) % 3]), none, none, none, none, none], sto, 39, 0⟩ := by kernel_rfl
theorem k314 (sto : List D) : exS P (lv P 114) b3pre ⟨envR 3 1 4 [none, none, none, none, none, none, none], sto, 39, 0⟩ = .ok .nx ⟨envR 3 1 4 [some (false, stD 3 1 4), some (false, .str [48 + (1 + 1) % 3]), none, none, none, none, none], sto, 39, 0⟩ := by kernel_rfl
theorem k315 (sto : List D) : exS P (lv P 114) b3pre ⟨envR 3 1 5 [none, none, none, none, none, none, none], sto, 39, 0⟩ = .ok .nx ⟨envR 3 1 5 [some (false, stD 3 1 5), some (false, .str [48 + (1 + 1) % 3]), none, none, none, none, none], sto, 39, 0⟩ := by kernel_rfl
theorem k321 (sto : List D) : exS P (lv P 114) b3pre ⟨envR 3 2 1 [none, none, none, none, none, none, none], sto, 39, 0⟩ = .ok .nx ⟨envR 3 2 1 [some (false, stD 3 2 1), some (false, .str [48 + (2 + 1) % 3]), none, none, none, none, none], sto, 39, 0⟩ := by kernel_rfl
theorem k322 (sto : List D) : exS P (lv P 114) b3pre ⟨envR 3 2 2 [none, none, none, none, none, none, none], sto, 39, 0⟩ = .ok .nx ⟨envR 3 2 2 [some (false, stD 3 2 2), some (false, .str [48 + (2 + 1) % 3]), none, none, none, none, none], sto, 39, 0⟩ := by kernel_rfl
theorem k323 (sto : List D) : exS P (lv P 114) b3pre ⟨envR 3 2 3 [none, none, none, none, none, none, none], sto, 39, 0⟩ = .ok .nx ⟨envR 3 2 3 [some (false, stD 3 2 3), some (false, .str [48 + (2 + 1) % 3]), none, none, none, none, none], sto, 39, 0⟩ := by kernel_rfl
theorem k324 (sto : List D) : exS P (lv P 114) b3pre ⟨envR 3 2 4 [none, none, none, none, none, none, none], sto, 39, 0⟩ = .ok .nx ⟨envR 3 2 4 [some (false, stD 3 2 4), some (false, .str [48 + (2 + 1) % 3]), none, none, none, none, none], sto, 39, 0⟩ := by kernel_rfl
theorem k325 (sto : List D) : exS P (lv P 114) b3pre ⟨envR 3 2 5 [none, none, none, none, none, none, none], sto, 39, 0⟩ = .ok .nx ⟨envR 3 2 5 [some (false, stD 3 2 5), some (false, .str [48 + (2 + 1) % 3]), none, none, none, none, none], sto, 39, 0⟩ := by kernel_rfl
theorem k401 (sto : List D) : exS P (lv P 114) b3pre ⟨envR 4 0 1 [none, none, none, none, none, none, none], sto, 39, 0⟩ = .ok .nx ⟨envR 4 0 1 [some (false, stD 4 0 1), some (false, .str [48 + (0 + 1) % 4]), none, none, none, none, none], sto, 39, 0⟩ := by kernel_rfl
theorem k402 (sto : List D) : exS P (lv P 114) b3pre ⟨envR 4 0 2 [none, none, none, none, none, none, none], sto, 39, 0⟩ = .ok .nx ⟨envR 4 0 2 [some (false, stD 4 0 2), some (false, .str [48 + (0 + 1) % 4]), none, none, none, none, none], sto, 39, 0⟩ := by kernel_rfl
theorem k403 (sto : List D) : exS P (lv P 114) b3pre ⟨envR 4 0 3 [none, none, none, none, none, none, none], sto, 39, 0⟩ = .ok .nx ⟨envR 4 0 3 [some (false, stD 4 0 3), some (false, .str [48 + (0 + 1) % 4]), none, none, none, none, none], sto, 39, 0⟩ := by kernel_rfl
theorem k404 (sto : List D) : exS P (lv P 114) b3pre ⟨envR 4 0 4 [none, none, none, none, none, none, none], sto, 39, 0⟩ = .ok .nx ⟨envR 4 0 4 [some (false, stD 4 0 4), some (false, .str [48 + (0 + 1) % 4]), none, none, none, none, none], sto, 39, 0⟩ := by kernel_rfl
theorem k405 (sto : List D) : exS P (lv P 114) b3pre ⟨envR 4 0 5 [none, none, none, none, none, none, none], sto, 39, 0⟩ = .ok .nx ⟨envR 4 0 5 [some (false, stD 4 0 5), some (false, .str [48 + (0 + 1) % 4]), none, none, none, none, none], sto, 39, 0⟩ := by kernel_rfl
theorem k411 (sto : List D) : exS P (lv P 114) b3pre ⟨envR 4 1 1 [none, none, none, none, none, none, none], sto, 39, 0⟩ = .ok .nx ⟨envR 4 1 1 [some (false, stD 4 1 1), some (false, .str [48 + (1 + 1) % 4]), none, none, none, none, none], sto, 39, 0⟩ := by kernel_rfl
theorem k412 (sto : List D) : exS P (lv P 114) b3pre ⟨envR 4 1 2 [none, none, none, none, none, none, none], sto, 39, 0⟩ = .ok .nx ⟨envR 4 1 2 [some (false, stD 4 1 2), some (false, .str [48 + (1 + 1) % 4]), none, none, none, none, none], sto, 39, 0⟩ := by kernel_rfl
theorem k413 (sto : List D) : exS P (lv P 114) b3pre ⟨envR 4 1 3 [none, none, none, none, none, none, none], sto, 39, 0⟩ = .ok .nx ⟨envR 4 1 3 [some (false, stD 4 1 3), some (false, .str [48 + (1 + 1) % 4]), none, none, none, none, none], sto, 39, 0⟩ := by kernel_rfl
theorem k414 (sto : List D) : exS P (lv P 114) b3pre ⟨envR 4 1 4 [none, none, none, none, none, none, none], sto, 39, 0⟩ = .ok .nx ⟨envR 4 1 4 [some (false, stD 4 1 4), some (false, .str [48 + (1 + 1) % 4]), none, none, none, none, none], sto, 39, 0⟩ := by kernel_rfl
theorem k415 (sto : List D) : exS P (lv P 114) b3pre ⟨envR 4 1 5 [none, none, none, none, none, none, none], sto, 39, 0⟩ = .ok .nx ⟨envR 4 1 5 [some (false, stD 4 1 5), some (false, .str [48 + (1 + 1) % 4]), none, none, none, none, none], sto, 39, 0⟩ := by kernel_rfl
theorem k421 (sto : List D) : exS P (lv P 114) b3pre ⟨envR 4 2 1 [none, none, none, none, none, none, none], sto, 39, 0⟩ = .ok .nx ⟨envR 4 2 1 [some (false, stD 4 2 1), some (false, .str [48 + (2 + 1) % 4]), none, none, none, none, none], sto, 39, 0⟩ := by kernel_rfl
theorem k422 (sto : List D) : exS P (lv P 114) b3pre ⟨envR 4 2 2 [none, none, none, none, none, none, none], sto, 39, 0⟩ = .ok .nx ⟨envR 4 2 2 [some (false, stD 4 2 2), some (false, .str [48 + (2 + 1) % 4]), none, none, none, none, none], sto, 39, 0⟩ := by kernel_rfl
theorem k423 (sto : List D) : exS P (lv P 114) b3pre ⟨envR 4 2 3 [none, none, none, none, none, none, none], sto, 39, 0⟩ = .ok .nx ⟨envR 4 2 3 [some (false, stD 4 2 3), some (false, .str [48 + (2 + 1) % 4]), none, none, none, none, none], sto, 39, 0⟩ := by kernel_rfl
theorem k424 (sto : List D) : exS P (lv P 114) b3pre ⟨envR 4 2 4 [none, none, none, none, none, none, none], sto, 39, 0⟩ = .ok .nx ⟨envR 4 2 4 [some (false, stD 4 2 4), some (false, .str [48 + (2 + 1) % 4]), none, none, none, none, none], sto, 39, 0⟩ := by kernel_rfl
theorem k425 (sto : List D) : exS P (lv P 114) b3pre ⟨envR 4 2 5 [none, none, none, none, none, none, none], sto, 39, 0⟩ = .ok .nx ⟨envR 4 2 5 [some (false, stD 4 2 5), some (false, .str [48 + (2 + 1) % 4]), none, none, none, none, none], sto, 39, 0⟩ := by kernel_rfl
theorem k431 (sto : List D) : exS P (lv P 114) b3pre ⟨envR 4 3 1 [none, none, none, none, none, none, none], sto, 39, 0⟩ = .ok .nx ⟨envR 4 3 1 [some (false, stD 4 3 1), some (false, .str [48 + (3 + 1) % 4]), none, none, none, none, none], sto, 39, 0⟩ := by kernel_rfl
theorem k432 (sto : List D) : exS P (lv P 114) b3pre ⟨envR 4 3 2 [none, none, none, none, none, none, none], sto, 39, 0⟩ = .ok .nx ⟨envR 4 3 2 [some (false, stD 4 3 2), some (false, .str [48 + (3 + 1) % 4]), none, none, none, none, none], sto, 39, 0⟩ := by kernel_rfl
theorem k433 (sto : List D) : exS P (lv P 114) b3pre ⟨envR 4 3 3 [none, none, none, none, none, none, none], sto, 39, 0⟩ = .ok .nx ⟨envR 4 3 3 [some (false, stD 4 3 3), some (false, .str [48 + (3 + 1) % 4]), none, none, none, none, none], sto, 39, 0⟩ := by kernel_rfl
theorem k434 (sto : List D) : exS P (lv P 114) b3pre ⟨envR 4 3 4 [none, none, none, none, none, none, none], sto, 39, 0⟩ = .ok .nx ⟨envR 4 3 4 [some (false, stD 4 3 4), some (false, .str [48 + (3 + 1) % 4]), none, none, none, none, none], sto, 39, 0⟩ := by kernel_rfl
theorem k435 (sto : List D) : exS P (lv P 114) b3pre ⟨envR 4 3 5 [none, none, none, none, none, none, none], sto, 39, 0⟩ = .ok .nx ⟨envR 4 3 5 [some (false, stD 4 3 5), some (false, .str [48 + (3 + 1) % 4]), none, none, none, none, none], sto, 39, 0⟩ := by kernel_rfl
/-- the sizes a Stuffer may have -/
def Ok (s g m : Nat) : Prop := 2 ≤ s ∧ s ≤ 4 ∧ g < s ∧ 1 ≤ m ∧ m ≤ 5
theorem kAll {s g m : Nat} (h : Ok s g m) (sto : List D) : exS P (lv P 114) b3pre ⟨envR s g m [none, none, none, none, none, none, none], sto, 39, 0⟩ = .ok .nx ⟨envR s g m [some (false, stD s g m), some (false, .str [48 + (g + 1) % s]), none, none, none, none, none], sto, 39, 0⟩ := by
  obtain ⟨h1, h2, h3, h4, h5⟩ := h
  have hs : s = 2 ∨ s = 3 ∨ s = 4 := by omega
  have hm : m = 1 ∨ m = 2 ∨ m = 3 ∨ m = 4 ∨ m = 5 := by omega
  rcases hs with rfl | rfl | rfl
  · have hg : g = 0 ∨ g = 1 := by omega
    rcases hg with rfl | rfl
    · rcases hm with rfl | rfl | rfl | rfl | rfl
      · exact k201 sto
      · exact k202 sto
      · exact k203 sto
      · exact k204 sto
      · exact k205 sto
    · rcases hm with rfl | rfl | rfl | rfl | rfl
      · exact k211 sto
      · exact k212 sto
      · exact k213 sto
      · exact k214 sto
      · exact k215 sto
  · have hg : g = 0 ∨ g = 1 ∨ g = 2 := by omega
    rcases hg with rfl | rfl | rfl
    · rcases hm with rfl | rfl | rfl | rfl | rfl
      · exact k301 sto
      · exact k302 sto
      · exact k303 sto
      · exact k304 sto
      · exact k305 sto
    · rcases hm with rfl | rfl | rfl | rfl | rfl
      · exact k311 sto
      · exact k312 sto
      · exact k313 sto
      · exact k314 sto
      · exact k315 sto
    · rcases hm with rfl | rfl | rfl | rfl | rfl
      · exact k321 sto
      · exact k322 sto
      · exact k323 sto
      · exact k324 sto
      · exact k325 sto
  · have hg : g = 0 ∨ g = 1 ∨ g = 2 ∨ g = 3 := by omega
    rcases hg with rfl | rfl | rfl | rfl
    · rcases hm with rfl | rfl | rfl | rfl | rfl
      · exact k401 sto
      · exact k402 sto
      · exact k403 sto
      · exact k404 sto
      · exact k405 sto
    · rcases hm with rfl | rfl | rfl | rfl | rfl
      · exact k411 sto
      · exact k412 sto
      · exact k413 sto
      · exact k414 sto
      · exact k415 sto
    · rcases hm with rfl | rfl | rfl | rfl | rfl
      · exact k421 sto
      · exact k422 sto
      · exact k423 sto
      · exact k424 sto
      · exact k425 sto
    · rcases hm with rfl | rfl | rfl | rfl | rfl
      · exact k431 sto
      · exact k432 sto
      · exact k433 sto
      · exact k434 sto
      · exact k435 sto
end K10

end

section
set_option Elab.async false
set_option linter.all false
set_option maxRecDepth 100000
set_option maxHeartbeats 1000000
/-! TY: stuffers, with no program in sight -/
namespace TY
/-- what is written behind a run of r -/
def wr (s g m : Nat) : Nat → List Nat → List Nat
  | _, [] => []
  | r, a :: as => if a = g then (if r + 1 = m then a :: (g + 1) % s :: wr s g m 0 as else a :: wr s g m (r + 1) as) else a :: wr s g m 0 as
/-- what is read behind a run of r -/
def rd (g m : Nat) : Nat → List Nat → List Nat
  | _, [] => []
  | r, a :: as => if r = m then rd g m 0 as else if a = g then a :: rd g m (r + 1) as else a :: rd g m 0 as
variable {s g m : Nat}
theorem rd_wr : ∀ (as : List Nat) (r : Nat), r < m → rd g m r (wr s g m r as) = as
  | [], _, _ => rfl
  | a :: as, r, h => by
    simp only [wr]
    have h0 : r ≠ m := by omega
    by_cases ha : a = g
    · rw [if_pos ha]
      by_cases hr : r + 1 = m
      · rw [if_pos hr]
        simp only [rd, h0, if_false, ha, if_true, hr, rd_wr as 0 (by omega)]
      · rw [if_neg hr]
        simp only [rd, h0, if_false, ha, if_true, rd_wr as (r + 1) (by omega)]
    · rw [if_neg ha]
      simp only [rd, h0, if_false, ha, rd_wr as 0 (by omega)]
theorem wr_len : ∀ (as : List Nat) (r : Nat), r < m → (wr s g m r as).length ≤ as.length + (r + as.length) / m
  | [], _, _ => by simp [wr]
  | a :: as, r, h => by
    simp only [wr]
    have h0 := wr_len as 0 (show 0 < m by omega)
    rw [Nat.zero_add] at h0
    by_cases ha : a = g
    · rw [if_pos ha]
      by_cases hr : r + 1 = m
      · rw [if_pos hr]
        simp only [List.length_cons]
        have e : r + (as.length + 1) = as.length + m := by omega
        rw [e, Nat.add_div_right _ (by omega)]
        omega
      · rw [if_neg hr]
        simp only [List.length_cons]
        have h1 := wr_len as (r + 1) (by omega)
        have e : r + (as.length + 1) = r + 1 + as.length := by omega
        rw [e]
        omega
    · rw [if_neg ha]
      simp only [List.length_cons]
      have : as.length / m ≤ (r + (as.length + 1)) / m := Nat.div_le_div_right (by omega)
      omega
theorem wr_lt (hs : 0 < s) : ∀ (as : List Nat) (r : Nat), (∀ a ∈ as, a < s) → ∀ x ∈ wr s g m r as, x < s
  | [], _, _ => by simp [wr]
  | a :: as, r, h => by
    have h1 := h a List.mem_cons_self
    have h2 : ∀ b ∈ as, b < s := fun b hb => h b (List.mem_cons_of_mem _ hb)
    intro x hx
    simp only [wr] at hx
    split at hx
    · split at hx
      · simp only [List.mem_cons] at hx
        rcases hx with rfl | rfl | hx
        · exact h1
        · exact Nat.mod_lt _ hs
        · exact wr_lt hs as _ h2 x hx
      · simp only [List.mem_cons] at hx
        rcases hx with rfl | hx
        · exact h1
        · exact wr_lt hs as _ h2 x hx
    · simp only [List.mem_cons] at hx
      rcases hx with rfl | hx
      · exact h1
      · exact wr_lt hs as _ h2 x hx
theorem rd_len : ∀ (as : List Nat) (r : Nat), (rd g m r as).length ≤ as.length
  | [], _ => by simp [rd]
  | a :: as, r => by
    simp only [rd]
    split
    · have := rd_len as 0; simp only [List.length_cons]; omega
    · split
      · have := rd_len as (r + 1); simp only [List.length_cons]; omega
      · have := rd_len as 0; simp only [List.length_cons]; omega
end TY

end

section
set_option Elab.async false
set_option linter.all false
set_option maxRecDepth 100000
set_option maxHeartbeats 1000000
/-! k10: the law's helpers, purely -/
namespace K10
open PySem TI
theorem ws_wr {s g m : Nat} : ∀ (as : List Nat) (q : Nat), q < m → (wordsM (wS s g m) (nS g m) q as).flatten = TY.wr s g m q as
  | [], _, _ => rfl
  | a :: as, q, h => by
    simp only [wordsM, List.flatten_cons, TY.wr]
    unfold wS nS
    by_cases ha : a = g
    · simp only [ha, if_true]
      by_cases hq : q + 1 = m
      · simp only [hq, if_true]
        have := ws_wr (s := s) (g := g) (m := m) as 0 (by omega)
        unfold wS nS at this
        rw [this]; rfl
      · simp only [hq, if_false]
        have := ws_wr (s := s) (g := g) (m := m) as (q + 1) (by omega)
        unfold wS nS at this
        rw [this]; rfl
    · simp only [ha, if_false]
      have := ws_wr (s := s) (g := g) (m := m) as 0 (by omega)
      unfold wS nS at this
      rw [this]; rfl
theorem wr_rd {g m : Nat} : ∀ (as : List Nat) (q : Nat), (wordsM (wR m) (nR g m) q as).flatten = TY.rd g m q as
  | [], _ => rfl
  | a :: as, q => by
    simp only [wordsM, List.flatten_cons, TY.rd]
    have h0 := wr_rd (g := g) (m := m) as 0
    have h1 := wr_rd (g := g) (m := m) as (q + 1)
    unfold wR nR at h0 h1 ⊢
    by_cases hq : q = m
    · subst hq
      simp only [if_true, List.nil_append] at h0 ⊢
      exact h0
    · simp only [hq, if_false]
      by_cases ha : a = g
      · simp only [ha, if_true, h1]; rfl
      · simp only [ha, if_false, h0]; rfl
theorem nS_lt {g m : Nat} (h : 1 ≤ m) : ∀ q a s, q < m → a < s → nS g m q a < m := by
  intro q a s hq _
  unfold nS
  split
  · split <;> omega
  · omega
theorem nR_lt {g m : Nat} : ∀ q a s, q < m + 1 → a < s → nR g m q a < m + 1 := by
  intro q a s hq _
  unfold nR
  split
  · omega
  · split <;> omega
theorem wS_le (s g m q a : Nat) : (wS s g m q a).length ≤ 100 := by
  unfold wS; split
  · split <;> simp
  · simp
theorem wR_le (m q a : Nat) : (wR m q a).length ≤ 100 := by unfold wR; split <;> simp
section
variable {s g m : Nat} (h : Ok s g m) (n k : Nat) (ds : List Nat) (ha : ∀ a ∈ ds, a < s) (hl : ds.length ≤ 1000)
include h ha hl
theorem mS_call : (lv P (n + 26)).call 34 [mS s g m, .str (tx ds)] [] (k + 3) = .ok (.str (tx (TY.wr s g m 0 ds))) false [] := by
  have := mcall_ok (wgt := (m * s + 1 : Nat)) (txs := txS g m) (en := eS) n k ⟨h.1, h.2.1⟩ (show 0 < m by have := h.2.2.2.1; omega) (fun q a => nS_lt (g := g) h.2.2.2.1 q a s) (wS_le s g m) (fun _ => by simp [eS]) ds ha hl
  rw [ws_wr ds 0 (by have := h.2.2.2.1; omega), eS, List.append_nil] at this
  exact this
theorem mS_led : ∃ q : Int, (lv P (n + 20)).call 36 [mS s g m, .str (tx ds)] [] (k + 2) = .ok (.tup [.str (tx (TY.wr s g m 0 ds)), .int q]) false [] := by
  have := led_ok (wgt := (m * s + 1 : Nat)) (txs := txS g m) (en := eS) n k ⟨h.1, h.2.1⟩ (show 0 < m by have := h.2.2.2.1; omega) (fun q a => nS_lt (g := g) h.2.2.2.1 q a s) (wS_le s g m) ds ha hl
  rw [ws_wr ds 0 (by have := h.2.2.2.1; omega)] at this
  exact ⟨_, this⟩
theorem mR_call : (lv P (n + 26)).call 34 [mR s g m, .str (tx ds)] [] (k + 3) = .ok (.str (tx (TY.rd g m 0 ds))) false [] := by
  have := mcall_ok (wgt := (m * s : Nat)) (txs := txS g (m + 1)) (en := eS) n k ⟨h.1, h.2.1⟩ (show 0 < m + 1 by omega) (fun q a => nR_lt (g := g) q a s) (wR_le m) (fun _ => by simp [eS]) ds ha hl
  rw [wr_rd ds 0, eS, List.append_nil] at this
  exact this
theorem made_ok : (lv P (n + 31)).call 30 [stD s g m, .str (tx ds)] [] (k + 4) = .ok (.str (tx (TY.wr s g m 0 ds))) false [] := by
  have h1 := fun j => mS_call h j k ds ha hl
  refine call_of (n := n + 29) (st' := ⟨[some (false, stD s g m), some (false, .str (tx ds))], [], k + 4, 0⟩) hLCall rfl (exS_ret ?_)
  have hs0 : TI.start [stD s g m, .str (tx ds)] f30.slots = [some (false, stD s g m), some (false, .str (tx ds))] := rfl
  rw [hs0]
  have g1 : resolve P (stD s g m) 10 true = some (.obj (mS s g m) 34) := rfl
  simp [exS, ex1, lv_ev, lv_tst, lv_ex, evS, tstS, pk, pks, evs, evf, TI.lift, slot, share, deref, index, L2.atI, L2.ixN, cmpop, bfun, bInt, bLen, bi_add, bi_sub, asg, asgs, setv, isMut, TI.setItem, okLen, lenMax, callT, g1, cMCall, h1, aft_ok, after_no, isOwn]
theorem back_ok : (lv P (n + 31)).call 31 [stD s g m, .str (tx ds)] [] (k + 4) = .ok (.str (tx (TY.rd g m 0 ds))) false [] := by
  have h1 := fun j => mR_call h j k ds ha hl
  refine call_of (n := n + 29) (st' := ⟨[some (false, stD s g m), some (false, .str (tx ds))], [], k + 4, 0⟩) hLBack rfl (exS_ret ?_)
  have hs0 : TI.start [stD s g m, .str (tx ds)] f31.slots = [some (false, stD s g m), some (false, .str (tx ds))] := rfl
  rw [hs0]
  have g1 : resolve P (stD s g m) 11 true = some (.obj (mR s g m) 34) := rfl
  simp [exS, ex1, lv_ev, lv_tst, lv_ex, evS, tstS, pk, pks, evs, evf, TI.lift, slot, share, deref, index, L2.atI, L2.ixN, cmpop, bfun, bInt, bLen, bi_add, bi_sub, asg, asgs, setv, isMut, TI.setItem, okLen, lenMax, callT, g1, cMCall, h1, aft_ok, after_no, isOwn]
end
theorem hWritten : P.fns[8]? = some f8 := rfl
theorem hRead : P.fns[9]? = some f9 := rfl
theorem hWord : P.fns[7]? = some f7 := rfl
theorem hPick : P.fns[2]? = some f2 := rfl
section
variable (r : Rec) (es : List SE) (env : List (Option (Bool × D))) (sto : List D) (k lo : Nat)
theorem cWritten (a b c d : D) : callD P r (.fn 8 none) es [a, b, c, d] [] [] ⟨env, sto, k + 1, lo⟩ = aft (r.call 8 [a, b, c, d] [] k) es false ⟨env, sto, k + 1, lo⟩ := rfl
theorem cRead (a b c : D) : callD P r (.fn 9 none) es [a, b, c] [] [] ⟨env, sto, k + 1, lo⟩ = aft (r.call 9 [a, b, c] [] k) es false ⟨env, sto, k + 1, lo⟩ := rfl
theorem cWord (a b c : D) : callD P r (.fn 7 none) es [a, b, c] [] [] ⟨env, sto, k + 1, lo⟩ = aft (r.call 7 [a, b, c] sto k) es true ⟨env, sto, k + 1, lo⟩ := rfl
theorem cPick (a b : D) : callD P r (.fn 2 none) es [a, b] [] [] ⟨env, sto, k + 1, lo⟩ = aft (r.call 2 [a, b] sto k) es true ⟨env, sto, k + 1, lo⟩ := rfl
theorem cDraw (a b : D) : callD P r (.fn 4 none) es [a, b] [] [] ⟨env, sto, k + 1, lo⟩ = aft (r.call 4 [a, b] sto k) es true ⟨env, sto, k + 1, lo⟩ := rfl
end
theorem chars (ds : List Nat) : ((tx ds).map fun c => D.str [c]) = ds.map fun d => D.str [48 + d] := by simp [tx]
abbrev bW : List SS := match b8 with
  | [_, .for_ _ _ b, _] => b
  | _ => []
theorem wr_for {s g m : Nat} (n k : Nat) (T : List Nat) : ∀ (as : List Nat) (r : Nat) (X : List Nat) (e6 : Sl), r < m → X.length + 2 * as.length ≤ 10000 →
    ∃ (r' : Int) (e6' : Sl), forLoop (lv P (n + 10)) (.nm 6) bW (as.map fun d => .str [48 + d]) ⟨[some (false, .str [48 + g]), some (false, .str [48 + (g + 1) % s]), some (false, .int m), some (false, .str T), some (false, .str (tx X)), some (false, .int r), e6], [], k, 0⟩ =
      .ok .nx ⟨[some (false, .str [48 + g]), some (false, .str [48 + (g + 1) % s]), some (false, .int m), some (false, .str T), some (false, .str (tx (X ++ TY.wr s g m r as))), some (false, .int r'), e6'], [], k, 0⟩
  | [], r, X, e6, _, _ => ⟨r, e6, by simp [forLoop, TY.wr]⟩
  | a :: as, r, X, e6, hr, hX => by
    simp only [List.length_cons] at hX
    have c1 := cat_tx1 (a := X) (c := a) (by omega)
    have c2 := cat_tx1 (a := X ++ [a]) (c := (g + 1) % s) (by simp; omega)
    have c3 := cat_tx0 (a := X ++ [a]) (by simp; omega)
    have q1 := eq_chr a g
    have q3 : ((0 : Int) == (m : Int)) = false := by simp; omega
    rw [List.map_cons]
    by_cases ha : a = g
    · have ha' : (a == g) = true := by simpa using ha
      by_cases hm : r + 1 = m
      · have q2 : (((r : Int) + 1) == (m : Int)) = true := by simp; omega
        obtain ⟨r', e6', ih⟩ := wr_for (s := s) (g := g) (m := m) n k T as 0 (X ++ [a] ++ [(g + 1) % s]) (some (false, .str [48 + a])) (by omega) (by simp; omega)
        refine ⟨r', e6', ?_⟩
        have ew : X ++ [a] ++ [(g + 1) % s] ++ TY.wr s g m 0 as = X ++ TY.wr s g m r (a :: as) := by
          simp only [TY.wr, ha, if_true, hm, List.append_assoc]; rfl
        rw [ew] at ih
        refine for_step (asg_nm (by simp)) ?_ ih
        simp -implicitDefEqProofs only [exS, ex1, lv_ev, lv_tst, lv_ex, evS, tstS, pk, pks, evs, evf, TI.lift, slot, share, deref, cmpop, bfun, bInt, bi_add, bi_sub, asg_nm, asg_tpT, asg_tpL, asgs_nil, asgs_cons, asgN, setv, isMut, R.bind_ok, callT, aft_ok, List.getElem?_cons_zero, List.getElem?_cons_succ, Option.join_some, Option.map_some, List.set_cons_zero, List.set_cons_succ, List.length_cons, List.length_nil, List.map_nil, List.map_cons, List.append_nil, List.nil_append, List.cons_append, List.isEmpty_nil, if_true, if_false, Bool.false_eq_true, Bool.and_false, Bool.false_and, Bool.not_true, Bool.not_false, Bool.true_and, Nat.zero_le, true_and, and_true, lenI_lst, lenI_tup, Nat.reduceAdd, Nat.reduceLT, Nat.reduceLeDiff, Int.natCast_zero, Int.natCast_add, Int.natCast_one, bW, b8, q1, ha', eq_int, q2, c1, c2]
      · have q2 : (((r : Int) + 1) == (m : Int)) = false := by simp; omega
        obtain ⟨r', e6', ih⟩ := wr_for (s := s) (g := g) (m := m) n k T as (r + 1) (X ++ [a]) (some (false, .str [48 + a])) (by omega) (by simp; omega)
        refine ⟨r', e6', ?_⟩
        have ew : X ++ [a] ++ TY.wr s g m (r + 1) as = X ++ TY.wr s g m r (a :: as) := by
          simp only [TY.wr, ha, if_true, hm, if_false, List.append_assoc]; rfl
        rw [ew] at ih
        refine for_step (asg_nm (by simp)) ?_ ih
        simp -implicitDefEqProofs only [exS, ex1, lv_ev, lv_tst, lv_ex, evS, tstS, pk, pks, evs, evf, TI.lift, slot, share, deref, cmpop, bfun, bInt, bi_add, bi_sub, asg_nm, asg_tpT, asg_tpL, asgs_nil, asgs_cons, asgN, setv, isMut, R.bind_ok, callT, aft_ok, List.getElem?_cons_zero, List.getElem?_cons_succ, Option.join_some, Option.map_some, List.set_cons_zero, List.set_cons_succ, List.length_cons, List.length_nil, List.map_nil, List.map_cons, List.append_nil, List.nil_append, List.cons_append, List.isEmpty_nil, if_true, if_false, Bool.false_eq_true, Bool.and_false, Bool.false_and, Bool.not_true, Bool.not_false, Bool.true_and, Nat.zero_le, true_and, and_true, lenI_lst, lenI_tup, Nat.reduceAdd, Nat.reduceLT, Nat.reduceLeDiff, Int.natCast_zero, Int.natCast_add, Int.natCast_one, bW, b8, q1, ha', eq_int, q2, c1, c3]
    · have ha' : (a == g) = false := by simpa using ha
      obtain ⟨r', e6', ih⟩ := wr_for (s := s) (g := g) (m := m) n k T as 0 (X ++ [a]) (some (false, .str [48 + a])) (by omega) (by simp; omega)
      refine ⟨r', e6', ?_⟩
      have ew : X ++ [a] ++ TY.wr s g m 0 as = X ++ TY.wr s g m r (a :: as) := by
        simp only [TY.wr, ha, if_false, List.append_assoc]; rfl
      rw [ew] at ih
      refine for_step (asg_nm (by simp)) ?_ ih
      simp -implicitDefEqProofs only [exS, ex1, lv_ev, lv_tst, lv_ex, evS, tstS, pk, pks, evs, evf, TI.lift, slot, share, deref, cmpop, bfun, bInt, bi_add, bi_sub, asg_nm, asg_tpT, asg_tpL, asgs_nil, asgs_cons, asgN, setv, isMut, R.bind_ok, callT, aft_ok, List.getElem?_cons_zero, List.getElem?_cons_succ, Option.join_some, Option.map_some, List.set_cons_zero, List.set_cons_succ, List.length_cons, List.length_nil, List.map_nil, List.map_cons, List.append_nil, List.nil_append, List.cons_append, List.isEmpty_nil, if_true, if_false, Bool.false_eq_true, Bool.and_false, Bool.false_and, Bool.not_true, Bool.not_false, Bool.true_and, Nat.zero_le, true_and, and_true, lenI_lst, lenI_tup, Nat.reduceAdd, Nat.reduceLT, Nat.reduceLeDiff, Int.natCast_zero, Int.natCast_add, Int.natCast_one, bW, b8, q1, ha', eq_int, q3, c1, c3]
theorem written_ok {s g m : Nat} (h : Ok s g m) (n k : Nat) (ds : List Nat) (hl : ds.length ≤ 1000) :
    (lv P (n + 14)).call 8 [.str [48 + g], .str [48 + (g + 1) % s], .int m, .str (tx ds)] [] k = .ok (.str (tx (TY.wr s g m 0 ds))) false [] := by
  obtain ⟨r', e6, h1⟩ := wr_for (s := s) (g := g) (m := m) (n + 2) k (tx ds) ds 0 [] none (by have := h.2.2.2.1; omega) (by simp; omega)
  rw [List.nil_append] at h1
  refine call_of (n := n + 12) (st' := ⟨[some (false, .str [48 + g]), some (false, .str [48 + (g + 1) % s]), some (false, .int m), some (false, .str (tx ds)), some (false, .str (tx (TY.wr s g m 0 ds))), some (false, .int r'), e6], [], k, 0⟩) hWritten rfl ?_
  show exS P (lv P (n + 12)) [_, .for_ (.nm 6) (.of (.var 3)) bW, _] ⟨[some (false, .str [48 + g]), some (false, .str [48 + (g + 1) % s]), some (false, .int m), some (false, .str (tx ds)), none, none, none], [], k, 0⟩ = _
  refine (exS_nx (st' := ⟨[some (false, .str [48 + g]), some (false, .str [48 + (g + 1) % s]), some (false, .int m), some (false, .str (tx ds)), some (false, .str (tx [])), some (false, .int ((0 : Nat) : Int)), none], [], k, 0⟩) (by simp -implicitDefEqProofs only [exS, ex1, lv_ev, lv_tst, lv_ex, evS, tstS, pk, pks, evs, evf, TI.lift, slot, share, deref, cmpop, bfun, bInt, bi_add, bi_sub, asg_nm, asg_tpT, asg_tpL, asgs_nil, asgs_cons, asgN, setv, isMut, R.bind_ok, callT, aft_ok, List.getElem?_cons_zero, List.getElem?_cons_succ, Option.join_some, Option.map_some, List.set_cons_zero, List.set_cons_succ, List.length_cons, List.length_nil, List.map_nil, List.map_cons, List.append_nil, List.nil_append, List.cons_append, List.isEmpty_nil, if_true, if_false, Bool.false_eq_true, Bool.and_false, Bool.false_and, Bool.not_true, Bool.not_false, Bool.true_and, Nat.zero_le, true_and, and_true, lenI_lst, lenI_tup, Nat.reduceAdd, Nat.reduceLT, Nat.reduceLeDiff, Int.natCast_zero, Int.natCast_add, Int.natCast_one, tx])).trans ?_
  refine (exS_nx (ex_for_ (iter_strE (fr := false) (by simp -implicitDefEqProofs only [exS, ex1, lv_ev, lv_tst, lv_ex, evS, tstS, pk, pks, evs, evf, TI.lift, slot, share, deref, cmpop, bfun, bInt, bi_add, bi_sub, asg_nm, asg_tpT, asg_tpL, asgs_nil, asgs_cons, asgN, setv, isMut, R.bind_ok, callT, aft_ok, List.getElem?_cons_zero, List.getElem?_cons_succ, Option.join_some, Option.map_some, List.set_cons_zero, List.set_cons_succ, List.length_cons, List.length_nil, List.map_nil, List.map_cons, List.append_nil, List.nil_append, List.cons_append, List.isEmpty_nil, if_true, if_false, Bool.false_eq_true, Bool.and_false, Bool.false_and, Bool.not_true, Bool.not_false, Bool.true_and, Nat.zero_le, true_and, and_true, lenI_lst, lenI_tup, Nat.reduceAdd, Nat.reduceLT, Nat.reduceLeDiff, Int.natCast_zero, Int.natCast_add, Int.natCast_one]; rfl)) (by rw [chars]; exact h1))).trans ?_
  exact exS_ret (by simp -implicitDefEqProofs only [exS, ex1, lv_ev, lv_tst, lv_ex, evS, tstS, pk, pks, evs, evf, TI.lift, slot, share, deref, cmpop, bfun, bInt, bi_add, bi_sub, asg_nm, asg_tpT, asg_tpL, asgs_nil, asgs_cons, asgN, setv, isMut, R.bind_ok, callT, aft_ok, List.getElem?_cons_zero, List.getElem?_cons_succ, Option.join_some, Option.map_some, List.set_cons_zero, List.set_cons_succ, List.length_cons, List.length_nil, List.map_nil, List.map_cons, List.append_nil, List.nil_append, List.cons_append, List.isEmpty_nil, if_true, if_false, Bool.false_eq_true, Bool.and_false, Bool.false_and, Bool.not_true, Bool.not_false, Bool.true_and, Nat.zero_le, true_and, and_true, lenI_lst, lenI_tup, Nat.reduceAdd, Nat.reduceLT, Nat.reduceLeDiff, Int.natCast_zero, Int.natCast_add, Int.natCast_one])
abbrev bRd : List SS := match b9 with
  | [_, .for_ _ _ b, _] => b
  | _ => []
theorem rd_for {g m : Nat} (n k : Nat) (T : List Nat) : ∀ (as : List Nat) (r : Nat) (X : List Nat) (e5 : Sl), r ≤ m → X.length + as.length ≤ 10000 →
    ∃ (r' : Int) (e5' : Sl), forLoop (lv P (n + 10)) (.nm 5) bRd (as.map fun d => .str [48 + d]) ⟨[some (false, .str [48 + g]), some (false, .int m), some (false, .str T), some (false, .str (tx X)), some (false, .int r), e5], [], k, 0⟩ =
      .ok .nx ⟨[some (false, .str [48 + g]), some (false, .int m), some (false, .str T), some (false, .str (tx (X ++ TY.rd g m r as))), some (false, .int r'), e5'], [], k, 0⟩
  | [], r, X, e6, _, _ => ⟨r, e6, by simp [forLoop, TY.rd]⟩
  | a :: as, r, X, e6, hr, hX => by
    simp only [List.length_cons] at hX
    have c1 := cat_tx1 (a := X) (c := a) (by omega)
    have c3 := cat_tx0 (a := X) (by omega)
    have q1 := eq_chr a g
    rw [List.map_cons]
    by_cases hm : r = m
    · have q2 : ((r : Int) == (m : Int)) = true := by simp; omega
      obtain ⟨r', e6', ih⟩ := rd_for (g := g) (m := m) n k T as 0 X (some (false, .str [48 + a])) (by omega) (by omega)
      refine ⟨r', e6', ?_⟩
      have ew : TY.rd g m 0 as = TY.rd g m r (a :: as) := by simp only [TY.rd, hm, if_true]
      rw [ew] at ih
      refine for_step (asg_nm (by simp)) ?_ ih
      simp -implicitDefEqProofs only [exS, ex1, lv_ev, lv_tst, lv_ex, evS, tstS, pk, pks, evs, evf, TI.lift, slot, share, deref, cmpop, bfun, bInt, bi_add, bi_sub, asg_nm, asg_tpT, asg_tpL, asgs_nil, asgs_cons, asgN, setv, isMut, R.bind_ok, callT, aft_ok, List.getElem?_cons_zero, List.getElem?_cons_succ, Option.join_some, Option.map_some, List.set_cons_zero, List.set_cons_succ, List.length_cons, List.length_nil, List.map_nil, List.map_cons, List.append_nil, List.nil_append, List.cons_append, List.isEmpty_nil, if_true, if_false, Bool.false_eq_true, Bool.and_false, Bool.false_and, Bool.not_true, Bool.not_false, Bool.true_and, Nat.zero_le, true_and, and_true, lenI_lst, lenI_tup, Nat.reduceAdd, Nat.reduceLT, Nat.reduceLeDiff, Int.natCast_zero, Int.natCast_add, Int.natCast_one, bRd, b9, eq_int, q2, c3]
    · have q2 : ((r : Int) == (m : Int)) = false := by simp; omega
      by_cases ha : a = g
      · have ha' : (a == g) = true := by simpa using ha
        obtain ⟨r', e6', ih⟩ := rd_for (g := g) (m := m) n k T as (r + 1) (X ++ [a]) (some (false, .str [48 + a])) (by omega) (by simp; omega)
        refine ⟨r', e6', ?_⟩
        have ew : X ++ [a] ++ TY.rd g m (r + 1) as = X ++ TY.rd g m r (a :: as) := by simp only [TY.rd, hm, if_false, ha, if_true, List.append_assoc]; rfl
        rw [ew] at ih
        refine for_step (asg_nm (by simp)) ?_ ih
        simp -implicitDefEqProofs only [exS, ex1, lv_ev, lv_tst, lv_ex, evS, tstS, pk, pks, evs, evf, TI.lift, slot, share, deref, cmpop, bfun, bInt, bi_add, bi_sub, asg_nm, asg_tpT, asg_tpL, asgs_nil, asgs_cons, asgN, setv, isMut, R.bind_ok, callT, aft_ok, List.getElem?_cons_zero, List.getElem?_cons_succ, Option.join_some, Option.map_some, List.set_cons_zero, List.set_cons_succ, List.length_cons, List.length_nil, List.map_nil, List.map_cons, List.append_nil, List.nil_append, List.cons_append, List.isEmpty_nil, if_true, if_false, Bool.false_eq_true, Bool.and_false, Bool.false_and, Bool.not_true, Bool.not_false, Bool.true_and, Nat.zero_le, true_and, and_true, lenI_lst, lenI_tup, Nat.reduceAdd, Nat.reduceLT, Nat.reduceLeDiff, Int.natCast_zero, Int.natCast_add, Int.natCast_one, bRd, b9, q1, ha', eq_int, q2, c1]
      · have ha' : (a == g) = false := by simpa using ha
        obtain ⟨r', e6', ih⟩ := rd_for (g := g) (m := m) n k T as 0 (X ++ [a]) (some (false, .str [48 + a])) (by omega) (by simp; omega)
        refine ⟨r', e6', ?_⟩
        have ew : X ++ [a] ++ TY.rd g m 0 as = X ++ TY.rd g m r (a :: as) := by simp only [TY.rd, hm, if_false, ha, List.append_assoc]; rfl
        rw [ew] at ih
        refine for_step (asg_nm (by simp)) ?_ ih
        simp -implicitDefEqProofs only [exS, ex1, lv_ev, lv_tst, lv_ex, evS, tstS, pk, pks, evs, evf, TI.lift, slot, share, deref, cmpop, bfun, bInt, bi_add, bi_sub, asg_nm, asg_tpT, asg_tpL, asgs_nil, asgs_cons, asgN, setv, isMut, R.bind_ok, callT, aft_ok, List.getElem?_cons_zero, List.getElem?_cons_succ, Option.join_some, Option.map_some, List.set_cons_zero, List.set_cons_succ, List.length_cons, List.length_nil, List.map_nil, List.map_cons, List.append_nil, List.nil_append, List.cons_append, List.isEmpty_nil, if_true, if_false, Bool.false_eq_true, Bool.and_false, Bool.false_and, Bool.not_true, Bool.not_false, Bool.true_and, Nat.zero_le, true_and, and_true, lenI_lst, lenI_tup, Nat.reduceAdd, Nat.reduceLT, Nat.reduceLeDiff, Int.natCast_zero, Int.natCast_add, Int.natCast_one, bRd, b9, q1, ha', eq_int, q2, c1]
theorem read_ok {g m : Nat} (n k : Nat) (ds : List Nat) (hl : ds.length ≤ 1000) :
    (lv P (n + 14)).call 9 [.str [48 + g], .int m, .str (tx ds)] [] k = .ok (.str (tx (TY.rd g m 0 ds))) false [] := by
  obtain ⟨r', e6, h1⟩ := rd_for (g := g) (m := m) (n + 2) k (tx ds) ds 0 [] none (by omega) (by simp; omega)
  rw [List.nil_append] at h1
  refine call_of (n := n + 12) (st' := ⟨[some (false, .str [48 + g]), some (false, .int m), some (false, .str (tx ds)), some (false, .str (tx (TY.rd g m 0 ds))), some (false, .int r'), e6], [], k, 0⟩) hRead rfl ?_
  show exS P (lv P (n + 12)) [_, .for_ (.nm 5) (.of (.var 2)) bRd, _] ⟨[some (false, .str [48 + g]), some (false, .int m), some (false, .str (tx ds)), none, none, none], [], k, 0⟩ = _
  refine (exS_nx (st' := ⟨[some (false, .str [48 + g]), some (false, .int m), some (false, .str (tx ds)), some (false, .str (tx [])), some (false, .int ((0 : Nat) : Int)), none], [], k, 0⟩) (by simp -implicitDefEqProofs only [exS, ex1, lv_ev, lv_tst, lv_ex, evS, tstS, pk, pks, evs, evf, TI.lift, slot, share, deref, cmpop, bfun, bInt, bi_add, bi_sub, asg_nm, asg_tpT, asg_tpL, asgs_nil, asgs_cons, asgN, setv, isMut, R.bind_ok, callT, aft_ok, List.getElem?_cons_zero, List.getElem?_cons_succ, Option.join_some, Option.map_some, List.set_cons_zero, List.set_cons_succ, List.length_cons, List.length_nil, List.map_nil, List.map_cons, List.append_nil, List.nil_append, List.cons_append, List.isEmpty_nil, if_true, if_false, Bool.false_eq_true, Bool.and_false, Bool.false_and, Bool.not_true, Bool.not_false, Bool.true_and, Nat.zero_le, true_and, and_true, lenI_lst, lenI_tup, Nat.reduceAdd, Nat.reduceLT, Nat.reduceLeDiff, Int.natCast_zero, Int.natCast_add, Int.natCast_one, tx])).trans ?_
  refine (exS_nx (ex_for_ (iter_strE (fr := false) (by simp -implicitDefEqProofs only [exS, ex1, lv_ev, lv_tst, lv_ex, evS, tstS, pk, pks, evs, evf, TI.lift, slot, share, deref, cmpop, bfun, bInt, bi_add, bi_sub, asg_nm, asg_tpT, asg_tpL, asgs_nil, asgs_cons, asgN, setv, isMut, R.bind_ok, callT, aft_ok, List.getElem?_cons_zero, List.getElem?_cons_succ, Option.join_some, Option.map_some, List.set_cons_zero, List.set_cons_succ, List.length_cons, List.length_nil, List.map_nil, List.map_cons, List.append_nil, List.nil_append, List.cons_append, List.isEmpty_nil, if_true, if_false, Bool.false_eq_true, Bool.and_false, Bool.false_and, Bool.not_true, Bool.not_false, Bool.true_and, Nat.zero_le, true_and, and_true, lenI_lst, lenI_tup, Nat.reduceAdd, Nat.reduceLT, Nat.reduceLeDiff, Int.natCast_zero, Int.natCast_add, Int.natCast_one]; rfl)) (by rw [chars]; exact h1))).trans ?_
  exact exS_ret (by simp -implicitDefEqProofs only [exS, ex1, lv_ev, lv_tst, lv_ex, evS, tstS, pk, pks, evs, evf, TI.lift, slot, share, deref, cmpop, bfun, bInt, bi_add, bi_sub, asg_nm, asg_tpT, asg_tpL, asgs_nil, asgs_cons, asgN, setv, isMut, R.bind_ok, callT, aft_ok, List.getElem?_cons_zero, List.getElem?_cons_succ, Option.join_some, Option.map_some, List.set_cons_zero, List.set_cons_succ, List.length_cons, List.length_nil, List.map_nil, List.map_cons, List.append_nil, List.nil_append, List.cons_append, List.isEmpty_nil, if_true, if_false, Bool.false_eq_true, Bool.and_false, Bool.false_and, Bool.not_true, Bool.not_false, Bool.true_and, Nat.zero_le, true_and, and_true, lenI_lst, lenI_tup, Nat.reduceAdd, Nat.reduceLT, Nat.reduceLeDiff, Int.natCast_zero, Int.natCast_add, Int.natCast_one])
theorem drawHere : P.fns[4]? = some (drawF (drawB 1 73349 2849 2147483059 84419 3295 2147483053 453 51517 901 2147483033)) := rfl
theorem drawHereOk : drawOk 73349 2849 2147483059 84419 3295 2147483053 453 51517 901 2147483033 = true := by decide
theorem dr {ns : List Int} (k : Nat) {B : Nat} (M : Int) (many : Nat) (hM : M = many) {sto : List D} (hB : B < 60000) (hm : 1 ≤ many) (hm2 : many ≤ 1000) (h : PenAt ns B sto) :
    ∃ v sto', v < many ∧ PenAt ns (B + 1) sto' ∧ ∀ n, (lv P (n + 15)).call 4 [.ref 0, .int M] sto k = .ok (.int (v : Nat)) false sto' := by
  obtain ⟨v, sto', h1, h2, h3⟩ := draw_ok (n := 0) (k := k) (f := 4) (P := P) drawHere drawHereOk hB hm hm2 h
  rw [← hM] at h3
  exact ⟨v, sto', h1, h2, fun n => call_upC h3 n⟩
abbrev bWd : List SS := match b7 with
  | [_, .for_ _ _ b, _] => b
  | _ => []
theorem word_for {ns : List Int} {s c : Nat} (hs : 2 ≤ s ∧ s ≤ 4) (hc : c < s) (n k : Nat) : ∀ (xs : List D) (B : Nat) (X : List Nat) (sto : List D) (e4 : Sl), B + 3 * xs.length < 50000 → X.length + 9 * xs.length ≤ 10000 → (∀ a ∈ X, a < s) → PenAt ns B sto →
    ∃ (Y : List Nat) (sto' : List D) (e4' : Sl), (∀ a ∈ Y, a < s) ∧ Y.length ≤ X.length + 9 * xs.length ∧ PenAt ns (B + 3 * xs.length) sto' ∧ forLoop (lv P (n + 25)) (.nm 4) bWd xs ⟨[some (false, .ref 0), some (false, .int s), some (false, .str [48 + c]), some (false, .str (tx X)), e4], sto, k + 1, 0⟩ =
      .ok .nx ⟨[some (false, .ref 0), some (false, .int s), some (false, .str [48 + c]), some (false, .str (tx Y)), e4'], sto', k + 1, 0⟩
  | [], B, X, sto, e4, _, _, hX, hp => ⟨X, sto, e4, hX, by simp, by simpa using hp, by simp [forLoop]⟩
  | x :: xs, B, X, sto, e4, hB, hX, ha, hp => by
    simp only [List.length_cons] at hB hX
    obtain ⟨v1, sto1, hv1, p1, d1⟩ := dr k 8 8 rfl (show B < 60000 by omega) (by omega) (by omega) hp
    obtain ⟨v2, sto2, hv2, p2, d2⟩ := dr k s s rfl (show B + 1 < 60000 by omega) (by omega) (by omega) p1
    obtain ⟨v3, sto3, hv3, p3, d3⟩ := dr k 3 3 rfl (show B + 1 + 1 < 60000 by omega) (by omega) (by omega) p2
    have r1 := rep_tx (a := [c]) (k := v1) (by omega) (by simp; omega)
    have r2 := rep_tx (a := [v2]) (k := v3) (by omega) (by simp; omega)
    have f1 : ∀ (a j : Nat), (List.replicate j [a]).flatten = List.replicate j a := fun a j => by
      induction j with
      | zero => rfl
      | succ j ih => rw [List.replicate_succ, List.flatten_cons, ih]; rfl
    rw [f1] at r1 r2
    have r1' : binop .Mult (.str [48 + c]) (.int v1) = some (.str (tx (List.replicate v1 c)), false) := r1
    have r2' : binop .Mult (.str [48 + v2]) (.int v3) = some (.str (tx (List.replicate v3 v2)), false) := r2
    have c1 := cat_tx (a := X) (b := List.replicate v1 c) (by simp; omega)
    have c2 := cat_tx (a := X ++ List.replicate v1 c) (b := List.replicate v3 v2) (by simp; omega)
    have s1 := bStr1 (d := v2) (by omega)
    obtain ⟨Y, sto', e4', i1, i2, i3, i4⟩ := word_for (ns := ns) hs hc n k xs (B + 3) (X ++ List.replicate v1 c ++ List.replicate v3 v2) sto3 (some (false && isMut x, x)) (by omega) (by simp; omega) (by
      intro a h
      simp only [List.mem_append, List.mem_replicate] at h
      rcases h with (h | ⟨_, rfl⟩) | ⟨_, rfl⟩
      · exact ha a h
      · exact hc
      · exact hv2) p3
    refine ⟨Y, sto', e4', i1, by simp at i2 ⊢; omega, by simpa [Nat.mul_add, Nat.add_assoc, Nat.add_comm] using i3, ?_⟩
    refine for_step (asg_nm (by simp)) ?_ i4
    simp -implicitDefEqProofs only [exS, ex1, lv_ev, lv_tst, lv_ex, evS, tstS, pk, pks, evs, evf, TI.lift, slot, share, deref, cmpop, bfun, bInt, bi_add, bi_sub, asg_nm, asg_tpT, asg_tpL, asgs_nil, asgs_cons, asgN, setv, isMut, R.bind_ok, callT, aft_ok, List.getElem?_cons_zero, List.getElem?_cons_succ, Option.join_some, Option.map_some, List.set_cons_zero, List.set_cons_succ, List.length_cons, List.length_nil, List.map_nil, List.map_cons, List.append_nil, List.nil_append, List.cons_append, List.isEmpty_nil, if_true, if_false, Bool.false_eq_true, Bool.and_false, Bool.false_and, Bool.not_true, Bool.not_false, Bool.true_and, Nat.zero_le, true_and, and_true, lenI_lst, lenI_tup, Nat.reduceAdd, Nat.reduceLT, Nat.reduceLeDiff, Int.natCast_zero, Int.natCast_add, Int.natCast_one, bWd, b7, cDraw, d1, d2, d3, after_pen, isOwn, List.any_cons, List.any_nil, Bool.or_false, r1', r2', c1, c2, s1]
theorem word_ok {ns : List Int} {s c : Nat} (hs : 2 ≤ s ∧ s ≤ 4) (hc : c < s) (k : Nat) {B : Nat} {sto : List D} (hB : B < 40000) (hp : PenAt ns B sto) :
    ∃ ds sto', ds.length ≤ 40 ∧ (∀ a ∈ ds, a < s) ∧ PenAt ns (B + 25) sto' ∧ ∀ n, (lv P (n + 35)).call 7 [.ref 0, .int s, .str [48 + c]] sto (k + 1) = .ok (.str (tx ds)) false sto' := by
  obtain ⟨v, sto1, hv, p1, d1⟩ := dr k 8 8 rfl (show B < 60000 by omega) (by omega) (by omega) hp
  obtain ⟨Y, sto2, e4, h1, h2, h3, h4⟩ := word_for (ns := ns) hs hc 8 k ((List.range v).map fun (k : Nat) => .int (0 + (k : Int))) (B + 1) [] sto1 none (by simp; omega) (by simp; omega) (by simp) p1
  simp only [List.length_map, List.length_range, List.length_nil] at h2 h3
  refine ⟨Y.take 40, sto2, by simp; omega, fun a h => h1 a (List.mem_of_mem_take h), h3.mono (by omega), fun n => ?_⟩
  refine call_upC (n := 35) ?_ n
  refine call_of (n := 33) (st' := ⟨[some (false, .ref 0), some (false, .int s), some (false, .str [48 + c]), some (false, .str (tx Y)), e4], sto2, k + 1, 0⟩) hWord rfl ?_
  show exS P (lv P 33) [_, .for_ (.nm 4) (.rng1 (.callF 4 [.var 0, .cst (.int 8)] [])) bWd, _] ⟨[some (false, .ref 0), some (false, .int s), some (false, .str [48 + c]), none, none], sto, k + 1, 0⟩ = _
  refine (exS_nx (st' := ⟨[some (false, .ref 0), some (false, .int s), some (false, .str [48 + c]), some (false, .str (tx [])), none], sto, k + 1, 0⟩) (by simp -implicitDefEqProofs only [exS, ex1, lv_ev, lv_tst, lv_ex, evS, tstS, pk, pks, evs, evf, TI.lift, slot, share, deref, cmpop, bfun, bInt, bi_add, bi_sub, asg_nm, asg_tpT, asg_tpL, asgs_nil, asgs_cons, asgN, setv, isMut, R.bind_ok, callT, aft_ok, List.getElem?_cons_zero, List.getElem?_cons_succ, Option.join_some, Option.map_some, List.set_cons_zero, List.set_cons_succ, List.length_cons, List.length_nil, List.map_nil, List.map_cons, List.append_nil, List.nil_append, List.cons_append, List.isEmpty_nil, if_true, if_false, Bool.false_eq_true, Bool.and_false, Bool.false_and, Bool.not_true, Bool.not_false, Bool.true_and, Nat.zero_le, true_and, and_true, lenI_lst, lenI_tup, Nat.reduceAdd, Nat.reduceLT, Nat.reduceLeDiff, Int.natCast_zero, Int.natCast_add, Int.natCast_one, tx])).trans ?_
  have d1' := d1 17
  refine (exS_nx (ex_for_ (rng1_ok (m := v) (st' := ⟨[some (false, .ref 0), some (false, .int s), some (false, .str [48 + c]), some (false, .str (tx [])), none], sto1, k + 1, 0⟩) (by simp -implicitDefEqProofs only [exS, ex1, lv_ev, lv_tst, lv_ex, evS, tstS, pk, pks, evs, evf, TI.lift, slot, share, deref, cmpop, bfun, bInt, bi_add, bi_sub, asg_nm, asg_tpT, asg_tpL, asgs_nil, asgs_cons, asgN, setv, isMut, R.bind_ok, callT, aft_ok, List.getElem?_cons_zero, List.getElem?_cons_succ, Option.join_some, Option.map_some, List.set_cons_zero, List.set_cons_succ, List.length_cons, List.length_nil, List.map_nil, List.map_cons, List.append_nil, List.nil_append, List.cons_append, List.isEmpty_nil, if_true, if_false, Bool.false_eq_true, Bool.and_false, Bool.false_and, Bool.not_true, Bool.not_false, Bool.true_and, Nat.zero_le, true_and, and_true, lenI_lst, lenI_tup, Nat.reduceAdd, Nat.reduceLT, Nat.reduceLeDiff, Int.natCast_zero, Int.natCast_add, Int.natCast_one, cDraw, d1', after_pen, isOwn, List.any_cons, List.any_nil, Bool.or_false]) (by omega)) h4)).trans ?_
  have hsl := sl_on (x := tx Y) (by rw [tx_len]; omega) 40
  rw [tx_take] at hsl
  have hsl' : slice (.str (tx Y)) none (some 40) = some (.str (tx (Y.take 40)), false) := hsl
  exact exS_ret (by simp -implicitDefEqProofs only [exS, ex1, lv_ev, lv_tst, lv_ex, evS, tstS, pk, pks, evs, evf, TI.lift, slot, share, deref, cmpop, bfun, bInt, bi_add, bi_sub, asg_nm, asg_tpT, asg_tpL, asgs_nil, asgs_cons, asgN, setv, isMut, R.bind_ok, callT, aft_ok, List.getElem?_cons_zero, List.getElem?_cons_succ, Option.join_some, Option.map_some, List.set_cons_zero, List.set_cons_succ, List.length_cons, List.length_nil, List.map_nil, List.map_cons, List.append_nil, List.nil_append, List.cons_append, List.isEmpty_nil, if_true, if_false, Bool.false_eq_true, Bool.and_false, Bool.false_and, Bool.not_true, Bool.not_false, Bool.true_and, Nat.zero_le, true_and, and_true, lenI_lst, lenI_tup, Nat.reduceAdd, Nat.reduceLT, Nat.reduceLeDiff, Int.natCast_zero, Int.natCast_add, Int.natCast_one, optI, hsl'])
theorem at_nat {α : Type} {xs : List α} {v : Nat} (h : v < xs.length) : L2.atI xs (v : Int) = some xs[v] := by
  have h1 : ¬ ((v : Int) < 0) := by omega
  simp [L2.atI, L2.ixN, h, h1]
theorem pick_ok {ns : List Int} (k : Nat) {B : Nat} {sto : List D} (xs : List D) (h1 : 1 ≤ xs.length) (h2 : xs.length ≤ 100) (hB : B < 50000) (hp : PenAt ns B sto) :
    ∃ d sto', d ∈ xs ∧ PenAt ns (B + 1) sto' ∧ ∀ n, (lv P (n + 21)).call 2 [.ref 0, .lst xs] sto (k + 1) = .ok d false sto' := by
  obtain ⟨v, sto1, hv, p1, d1⟩ := dr k xs.length xs.length rfl (show B < 60000 by omega) h1 (by omega) hp
  refine ⟨xs[v], sto1, List.getElem_mem _, p1, fun n => ?_⟩
  refine call_of (n := n + 19) (st' := ⟨[some (false, .ref 0), some (false, .lst xs)], sto1, k + 1, 0⟩) hPick rfl (exS_ret ?_)
  have hi : index (.lst xs) (.int (v : Nat)) = some xs[v] := at_nat hv
  show ex1 P (lv P (n + 19)) (.ret (some (.sub (.var 1) (.callF 4 [(.var 0), (.lenA 1 (.var 1))] [])))) ⟨[some (false, .ref 0), some (false, .lst xs)], sto, k + 1, 0⟩ = _
  simp -implicitDefEqProofs only [exS, ex1, lv_ev, lv_tst, lv_ex, evS, tstS, pk, pks, evs, evf, TI.lift, slot, share, deref, cmpop, bfun, bInt, bi_add, bi_sub, asg_nm, asg_tpT, asg_tpL, asgs_nil, asgs_cons, asgN, setv, isMut, R.bind_ok, callT, aft_ok, List.getElem?_cons_zero, List.getElem?_cons_succ, Option.join_some, Option.map_some, List.set_cons_zero, List.set_cons_succ, List.length_cons, List.length_nil, List.map_nil, List.map_cons, List.append_nil, List.nil_append, List.cons_append, List.isEmpty_nil, if_true, if_false, Bool.false_eq_true, Bool.and_false, Bool.false_and, Bool.not_true, Bool.not_false, Bool.true_and, Nat.zero_le, true_and, and_true, lenI_lst, lenI_tup, Nat.reduceAdd, Nat.reduceLT, Nat.reduceLeDiff, Int.natCast_zero, Int.natCast_add, Int.natCast_one, cDraw, d1, after_pen, isOwn, List.any_cons, List.any_nil, Bool.or_false, hi]
/-! ### one turn -/
section
variable {s g m : Nat}
theorem tgMade : tgtOf P (stD s g m) = some (.obj (stD s g m) 30) := rfl
theorem reBack : resolve P (stD s g m) 3 true = some (.fn 31 (some (stD s g m))) := rfl
theorem reLed : resolve P (mS s g m) 7 true = some (.fn 36 (some (mS s g m))) := rfl
theorem mach_ok (n k : Nat) : (lv P (n + 6)).call 32 [stD s g m] [] k = .ok (mS s g m) false [] := rfl
theorem gMach (r : Rec) (oe : SE) (env : List Sl) (sto : List D) (k lo : Nat) : getAtt P r (stD s g m) oe 8 ⟨env, sto, k + 2, lo⟩ = (aft (r.call 32 [stD s g m] [] k) [oe] false ⟨env, sto, k + 1, lo⟩).bind fun p s => .ok p { s with dep := k + 2 } := rfl
end
abbrev turnB : List SS := match b3 with
  | [_, _, _, .for_ _ _ b, _] => b
  | _ => []
def En (s g m : Nat) (e6 e7 e8 e9 e10 : Sl) : List Sl := [some (false, .ref 0), some (false, .int s), some (false, .str [48 + g]), some (false, .int m), some (false, stD s g m), some (false, .str [48 + (g + 1) % s]), e6, e7, e8, e9, e10]
theorem turn_ok {ns : List Int} {s g m : Nat} (h : Ok s g m) (n k : Nat) {B : Nat} (hB : B < 30000) {sto : List D} (hp : PenAt ns B sto) (e6 e7 e8 e9 e10 : Sl) :
    ∃ sto' c8 c9 c10, PenAt ns (B + 51) sto' ∧ exS P (lv P (n + 50)) turnB ⟨En s g m e6 e7 e8 e9 e10, sto, k + 10, 0⟩ = .ok .nx ⟨En s g m e6 e7 c8 c9 c10, sto', k + 10, 0⟩ := by
  have hs : 2 ≤ s ∧ s ≤ 4 := ⟨h.1, h.2.1⟩
  have hg := h.2.2.1
  have hm1 := h.2.2.2.1
  have hm5 := h.2.2.2.2
  have hs0 : 0 < s := by omega
  obtain ⟨ds, sto1, hl, ha, p1, w1⟩ := word_ok hs hg (k + 8) (show B < 40000 by omega) hp
  obtain ⟨d, sto2, hd, p2, w2⟩ := pick_ok (k + 8) [.str [48 + g], .str [48 + (g + 1) % s]] (by simp) (by simp) (show B + 25 < 50000 by omega) p1
  obtain ⟨c, hc, rfl⟩ : ∃ c, c < s ∧ d = .str [48 + c] := by
    simp only [List.mem_cons, List.not_mem_nil, or_false] at hd
    rcases hd with rfl | rfl
    · exact ⟨g, hg, rfl⟩
    · exact ⟨_, Nat.mod_lt _ hs0, rfl⟩
  obtain ⟨es, sto3, hl2, ha2, p3, w3⟩ := word_ok hs hc (k + 8) (show B + 25 + 1 < 40000 by omega) p2
  have hw := TY.wr_len (s := s) (g := g) ds 0 (show 0 < m by omega)
  rw [Nat.zero_add] at hw
  have hdiv : ds.length / m ≤ ds.length := Nat.div_le_self _ _
  have hwl := TY.wr_lt (g := g) (m := m) hs0 ds 0 ha
  have hrp : ∀ a ∈ List.replicate ds.length g, a < s := fun a h => by rw [(List.mem_replicate.mp h).2]; exact hg
  refine ⟨sto3, some (false, .str (tx ds)), some (false, .str (tx es)), some (false, .str (tx (TY.wr s g m 0 ds))), p3.mono (by omega), ?_⟩
  show exS P (lv P (n + 50)) [_, _, _, _, _] _ = _
  refine (exS_nx (st' := ⟨En s g m e6 e7 (some (false, .str (tx ds))) (some (false, .str (tx es))) e10, sto3, k + 10, 0⟩) (by
    simp -implicitDefEqProofs only [exS, ex1, lv_ev, lv_tst, lv_ex, evS, tstS, pk, pks, evs, evf, TI.lift, slot, share, deref, cmpop, bfun, bInt, bi_add, bi_sub, asg_nm, asg_tpT, asg_tpL, asgs_nil, asgs_cons, asgN, setv, isMut, R.bind_ok, callT, aft_ok, List.getElem?_cons_zero, List.getElem?_cons_succ, Option.join_some, Option.map_some, List.set_cons_zero, List.set_cons_succ, List.length_cons, List.length_nil, List.map_nil, List.map_cons, List.append_nil, List.nil_append, List.cons_append, List.isEmpty_nil, if_true, if_false, Bool.false_eq_true, Bool.and_false, Bool.false_and, Bool.not_true, Bool.not_false, Bool.true_and, Nat.zero_le, true_and, and_true, lenI_lst, lenI_tup, Nat.reduceAdd, Nat.reduceLT, Nat.reduceLeDiff, Int.natCast_zero, Int.natCast_add, Int.natCast_one, En, cWord, w1, cPick, w2, w3, after_pen, isOwn, List.any_cons, List.any_nil, Bool.or_false, okLen, lenMax, Nat.reduceLeDiff, decide_true])).trans ?_
  have f2 := fun j => written_ok h j (k + 9) ds (by omega)
  refine (exS_nx (st' := ⟨En s g m e6 e7 (some (false, .str (tx ds))) (some (false, .str (tx es))) (some (false, .str (tx (TY.wr s g m 0 ds)))), sto3, k + 10, 0⟩) (by
    simp -implicitDefEqProofs only [exS, ex1, lv_ev, lv_tst, lv_ex, evS, tstS, pk, pks, evs, evf, TI.lift, slot, share, deref, cmpop, bfun, bInt, bi_add, bi_sub, asg_nm, asg_tpT, asg_tpL, asgs_nil, asgs_cons, asgN, setv, isMut, R.bind_ok, callT, aft_ok, List.getElem?_cons_zero, List.getElem?_cons_succ, Option.join_some, Option.map_some, List.set_cons_zero, List.set_cons_succ, List.length_cons, List.length_nil, List.map_nil, List.map_cons, List.append_nil, List.nil_append, List.cons_append, List.isEmpty_nil, if_true, if_false, Bool.false_eq_true, Bool.and_false, Bool.false_and, Bool.not_true, Bool.not_false, Bool.true_and, Nat.zero_le, true_and, and_true, lenI_lst, lenI_tup, Nat.reduceAdd, Nat.reduceLT, Nat.reduceLeDiff, Int.natCast_zero, Int.natCast_add, Int.natCast_one, En, cWritten, f2, after_no, isOwn, List.any_cons, List.any_nil, Bool.or_false])).trans ?_
  have f3 := fun j => made_ok h j (k + 5) ds ha (by omega)
  have f4 := fun j => back_ok h j (k + 5) (TY.wr s g m 0 ds) hwl (by omega)
  rw [TY.rd_wr ds 0 (by omega)] at f4
  have f5 := fun j => back_ok h j (k + 5) es ha2 (by omega)
  have f6 := fun j => read_ok (g := g) (m := m) j (k + 9) es (by omega)
  refine (exS_nx (st' := ⟨En s g m e6 e7 (some (false, .str (tx ds))) (some (false, .str (tx es))) (some (false, .str (tx (TY.wr s g m 0 ds)))), sto3, k + 10, 0⟩) (by
    simp -implicitDefEqProofs only [exS, ex1, lv_ev, lv_tst, lv_ex, evS, tstS, pk, pks, evs, evf, TI.lift, slot, share, deref, cmpop, bfun, bInt, bi_add, bi_sub, asg_nm, asg_tpT, asg_tpL, asgs_nil, asgs_cons, asgN, setv, isMut, R.bind_ok, callT, aft_ok, List.getElem?_cons_zero, List.getElem?_cons_succ, Option.join_some, Option.map_some, List.set_cons_zero, List.set_cons_succ, List.length_cons, List.length_nil, List.map_nil, List.map_cons, List.append_nil, List.nil_append, List.cons_append, List.isEmpty_nil, if_true, if_false, Bool.false_eq_true, Bool.and_false, Bool.false_and, Bool.not_true, Bool.not_false, Bool.true_and, Nat.zero_le, true_and, and_true, lenI_lst, lenI_tup, Nat.reduceAdd, Nat.reduceLT, Nat.reduceLeDiff, Int.natCast_zero, Int.natCast_add, Int.natCast_one, En, tgMade, cLCall, f3, reBack, cLBack, f4, f5, cRead, f6, tx_cmp, beq_self_eq_true, after_no, isOwn, List.any_cons, List.any_nil, Bool.or_false])).trans ?_
  have hcat := cat_tx (a := TY.wr s g m 0 ds) (b := es) (by omega)
  have hal : ∀ a ∈ TY.wr s g m 0 ds ++ es, a < s := fun a h => (List.mem_append.mp h).elim (hwl a) (ha2 a)
  have f7 := fun j => back_ok h j (k + 5) (TY.wr s g m 0 ds ++ es) hal (by simp; omega)
  have f8 := fun j => read_ok (g := g) (m := m) j (k + 9) (TY.wr s g m 0 ds ++ es) (by simp; omega)
  obtain ⟨q, f9⟩ := mS_led h 25 (k + 7) ds ha (by omega)
  have f9' : ∀ j, (lv P (j + 45)).call 36 [mS s g m, .str (tx ds)] [] (k + 9) = .ok (.tup [.str (tx (TY.wr s g m 0 ds)), .int q]) false [] := fun j => call_upC f9 j
  have hix : index (.tup [.str (tx (TY.wr s g m 0 ds)), .int q]) (.int 0) = some (.str (tx (TY.wr s g m 0 ds))) := rfl
  refine (exS_nx (st' := ⟨En s g m e6 e7 (some (false, .str (tx ds))) (some (false, .str (tx es))) (some (false, .str (tx (TY.wr s g m 0 ds)))), sto3, k + 10, 0⟩) (by
    simp -implicitDefEqProofs only [exS, ex1, lv_ev, lv_tst, lv_ex, evS, tstS, pk, pks, evs, evf, TI.lift, slot, share, deref, cmpop, bfun, bInt, bi_add, bi_sub, asg_nm, asg_tpT, asg_tpL, asgs_nil, asgs_cons, asgN, setv, isMut, R.bind_ok, callT, aft_ok, List.getElem?_cons_zero, List.getElem?_cons_succ, Option.join_some, Option.map_some, List.set_cons_zero, List.set_cons_succ, List.length_cons, List.length_nil, List.map_nil, List.map_cons, List.append_nil, List.nil_append, List.cons_append, List.isEmpty_nil, if_true, if_false, Bool.false_eq_true, Bool.and_false, Bool.false_and, Bool.not_true, Bool.not_false, Bool.true_and, Nat.zero_le, true_and, and_true, lenI_lst, lenI_tup, Nat.reduceAdd, Nat.reduceLT, Nat.reduceLeDiff, Int.natCast_zero, Int.natCast_add, Int.natCast_one, En, hcat, reBack, cLBack, f7, cRead, f8, gMach, mach_ok, reLed, cLed, f9', hix, tx_cmp, beq_self_eq_true, after_no, isOwn, List.any_cons, List.any_nil, Bool.or_false])).trans ?_
  have g1 := fun (r : Rec) (e : SE) (st : St) => lenI_str P r 1 e (x := tx ds) (by rw [tx_len]; omega) st
  have g2 := fun (r : Rec) (e : SE) (st : St) => lenI_str P r 1 e (x := tx (TY.wr s g m 0 ds)) (by rw [tx_len]; omega) st
  have g3 := bi_div (i := (ds.length : Int)) (j := (m : Int)) (by omega) (by omega)
  have g4 : (ds.length : Int).fdiv (m : Int) = ((ds.length / m : Nat) : Int) := by
    rw [Int.fdiv_eq_ediv_of_nonneg _ (by omega)]
    rfl
  rw [g4] at g3
  have g5 : ¬ ((ds.length : Int) + ((ds.length / m : Nat) : Int) < ((TY.wr s g m 0 ds).length : Int)) := by omega
  have g6 := rep_tx (a := [g]) (k := ds.length) (by omega) (by simp; omega)
  have fl : ∀ (a j : Nat), (List.replicate j [a]).flatten = List.replicate j a := fun a j => by
    induction j with
    | zero => rfl
    | succ j ih => rw [List.replicate_succ, List.flatten_cons, ih]; rfl
  rw [fl] at g6
  have g6' : binop .Mult (.str [48 + g]) (.int (ds.length : Int)) = some (.str (tx (List.replicate ds.length g)), false) := g6
  have g7 := fun j => made_ok h j (k + 5) (List.replicate ds.length g) hrp (by simp; omega)
  have g8 := fun j => written_ok h j (k + 9) (List.replicate ds.length g) (by simp; omega)
  refine (exS_nx (st' := ⟨En s g m e6 e7 (some (false, .str (tx ds))) (some (false, .str (tx es))) (some (false, .str (tx (TY.wr s g m 0 ds)))), sto3, k + 10, 0⟩) (by
    simp -implicitDefEqProofs only [exS, ex1, lv_ev, lv_tst, lv_ex, evS, tstS, pk, pks, evs, evf, TI.lift, slot, share, deref, cmpop, bfun, bInt, bi_add, bi_sub, asg_nm, asg_tpT, asg_tpL, asgs_nil, asgs_cons, asgN, setv, isMut, R.bind_ok, callT, aft_ok, List.getElem?_cons_zero, List.getElem?_cons_succ, Option.join_some, Option.map_some, List.set_cons_zero, List.set_cons_succ, List.length_cons, List.length_nil, List.map_nil, List.map_cons, List.append_nil, List.nil_append, List.cons_append, List.isEmpty_nil, if_true, if_false, Bool.false_eq_true, Bool.and_false, Bool.false_and, Bool.not_true, Bool.not_false, Bool.true_and, Nat.zero_le, true_and, and_true, lenI_lst, lenI_tup, Nat.reduceAdd, Nat.reduceLT, Nat.reduceLeDiff, Int.natCast_zero, Int.natCast_add, Int.natCast_one, En, g1, g2, tx_len, g3, g5, decide_false, g6', tgMade, cLCall, g7, cWritten, g8, tx_cmp, beq_self_eq_true, after_no, isOwn, List.any_cons, List.any_nil, Bool.or_false])).trans ?_
  rfl
end K10

end

section
set_option Elab.async false
set_option linter.all false
set_option maxRecDepth 100000
set_option maxHeartbeats 1000000
/-! k10: the law, purely -/
namespace K10
open PySem TI
theorem exS_app {r : Rec} : ∀ {a b : List SS} {st st' : St}, exS P r a st = .ok .nx st' → exS P r (a ++ b) st = exS P r b st'
  | [], b, st, st', h => by cases h; rfl
  | s :: a, b, st, st', h => by
    simp only [exS] at h
    cases q : ex1 P r s st with
    | ok f s1 =>
      rw [q] at h
      cases f with
      | nx => exact (exS_nx q).trans (exS_app h)
      | _ => cases h
    | exc _ _ => rw [q] at h; cases h
    | no => rw [q] at h; cases h
theorem turns_ok {ns : List Int} {s g m : Nat} (h : Ok s g m) (e6 : Sl) : ∀ (xs : List D) {B : Nat}, B + 51 * xs.length < 30000 → ∀ {sto : List D}, PenAt ns B sto → ∀ (e7 e8 e9 e10 : Sl), ∃ sto' c7 c8 c9 c10, PenAt ns (B + 51 * xs.length) sto' ∧ forLoop (lv P 114) (.nm 7) turnB xs ⟨En s g m e6 e7 e8 e9 e10, sto, 39, 0⟩ = .ok .nx ⟨En s g m e6 c7 c8 c9 c10, sto', 39, 0⟩
  | [], B, _, sto, hp, e7, e8, e9, e10 => ⟨sto, e7, e8, e9, e10, by simpa using hp, rfl⟩
  | x :: xs, B, hB, sto, hp, e7, e8, e9, e10 => by
    simp only [List.length_cons] at hB ⊢
    obtain ⟨sto1, c8, c9, c10, hp1, e1⟩ := turn_ok h 63 29 (show B < 30000 by omega) hp e6 (some (false && isMut x, x)) e8 e9 e10
    obtain ⟨sto2, d7, d8, d9, d10, hp2, i1⟩ := turns_ok h e6 xs (show B + 51 + 51 * xs.length < 30000 by omega) hp1 (some (false && isMut x, x)) c8 c9 c10
    refine ⟨sto2, d7, d8, d9, d10, hp2.mono (by omega), for_step ?_ e1 i1⟩
    exact asg_nm (env := En s g m e6 e7 e8 e9 e10) (by simp [En])
theorem len40 : ∀ s < 5, ∀ g < 5, ∀ m < 6, 1 ≤ m → (TY.wr s g m 0 (List.replicate 40 g)).length = 40 + 40 / m := by decide +kernel
theorem right_ok {ns : List Int} {s g m : Nat} (h : Ok s g m) {B : Nat} (hB : B < 20000) {sto : List D} (hp : PenAt ns B sto) : ∃ sto', PenAt ns (B + 255) sto' ∧ (lv P 116).call 3 [.ref 0, .int s, .str [48 + g], .int m] sto 39 = .ok (.bl true) false sto' := by
  have hg := h.2.2.1
  have hm1 := h.2.2.2.1
  have hm5 := h.2.2.2.2
  have hs4 := h.2.1
  obtain ⟨sto1, c7, c8, c9, c10, hp1, i1⟩ := turns_ok h none ((List.range 5).map fun (k : Nat) => .int (0 + (k : Int))) (show B + 51 * 5 < 30000 by omega) hp none none none none
  refine ⟨sto1, by simpa using hp1, ?_⟩
  refine call_of (n := 114) (st' := ⟨En s g m none c7 c8 c9 c10, sto1, 39, 0⟩) (fd := f3) rfl rfl ?_
  have hb : f3.body = b3pre ++ [.for_ (.nm 7) (.rng1 (.cst (.int 5))) turnB, (.ret (some (.cmp .Eq (.lenA 1 (.callV (.var 4) [(.bin .Mult (.var 2) (.cst (.int 40)))])) (.bin .Add (.cst (.int 40)) (.bin .FloorDiv (.cst (.int 40)) (.var 3))))))] := rfl
  rw [hb]
  have hst : TI.start [.ref 0, .int s, .str [48 + g], .int m] f3.slots = envR s g m [none, none, none, none, none, none, none] := rfl
  rw [hst]
  refine (exS_app (kAll h sto)).trans ?_
  refine (exS_nx (ex_for_ (rng1_ok (m := 5) rfl (by omega)) i1)).trans ?_
  refine exS_ret ?_
  have hrp : ∀ a ∈ List.replicate 40 g, a < s := fun a h => by rw [(List.mem_replicate.mp h).2]; exact hg
  have g6 := rep_tx (a := [g]) (k := 40) (by omega) (by simp)
  have fl : ∀ (a j : Nat), (List.replicate j [a]).flatten = List.replicate j a := fun a j => by
    induction j with
    | zero => rfl
    | succ j ih => rw [List.replicate_succ, List.flatten_cons, ih]; rfl
  rw [fl] at g6
  have g6' : binop .Mult (.str [48 + g]) (.int 40) = some (.str (tx (List.replicate 40 g)), false) := g6
  have g7 := fun j => made_ok h j 34 (List.replicate 40 g) hrp (by simp)
  have hl := len40 s (by omega) g (by omega) m (by omega) hm1
  have g2 := fun (r : Rec) (e : SE) (st : St) => lenI_str P r 1 e (x := tx (TY.wr s g m 0 (List.replicate 40 g))) (by rw [tx_len, hl]; have : 40 / m ≤ 40 := Nat.div_le_self _ _; omega) st
  have g3 := bi_div (i := 40) (j := (m : Int)) (by omega) (by omega)
  have g4 : (40 : Int).fdiv (m : Int) = ((40 / m : Nat) : Int) := by
    rw [Int.fdiv_eq_ediv_of_nonneg _ (by omega)]
    rfl
  rw [g4] at g3
  have g8 : ((((40 + 40 / m : Nat) : Int)) == 40 + ((40 / m : Nat) : Int)) = true := by simp
  simp -implicitDefEqProofs only [exS, ex1, lv_ev, lv_tst, lv_ex, evS, tstS, pk, pks, evs, evf, TI.lift, slot, share, deref, cmpop, bfun, bInt, bi_add, bi_sub, asg_nm, asg_tpT, asg_tpL, asgs_nil, asgs_cons, asgN, setv, isMut, R.bind_ok, callT, aft_ok, List.getElem?_cons_zero, List.getElem?_cons_succ, Option.join_some, Option.map_some, List.set_cons_zero, List.set_cons_succ, List.length_cons, List.length_nil, List.map_nil, List.map_cons, List.append_nil, List.nil_append, List.cons_append, List.isEmpty_nil, if_true, if_false, Bool.false_eq_true, Bool.and_false, Bool.false_and, Bool.not_true, Bool.not_false, Bool.true_and, Nat.zero_le, true_and, and_true, lenI_lst, lenI_tup, Nat.reduceAdd, Nat.reduceLT, Nat.reduceLeDiff, Int.natCast_zero, Int.natCast_add, Int.natCast_one, En, g6', tgMade, cLCall, g7, g2, tx_len, hl, g3, eq_int, after_no, isOwn, List.any_cons, List.any_nil, Bool.or_false]
  simp
theorem lastK (a : D) (e2 e3 : Sl) (sto : List D) : exS P (lv P 120) (match b0 with | _ :: _ :: r => r | _ => []) ⟨[some (false, a), some (false, .ref 0), e2, e3, none], sto, 40, 0⟩ = .ok (.ret (.bl true) false) ⟨[some (false, a), some (false, .ref 0), e2, e3, some (true, stD 2 1 2)], sto, 40, 0⟩ := by kernel_rfl
abbrev lawB : List SS := match b0 with
  | _ :: .for_ _ _ b :: _ => b
  | _ => []
section
variable (r : Rec) (es : List SE) (env : List (Option (Bool × D))) (sto : List D) (k lo : Nat)
theorem cRight (a b c d : D) : callD P r (.fn 3 none) es [a, b, c, d] [] [] ⟨env, sto, k + 1, lo⟩ = aft (r.call 3 [a, b, c, d] sto k) es true ⟨env, sto, k + 1, lo⟩ := rfl
end
theorem lturn_ok {ns : List Int} {B : Nat} (hB : B < 10000) {sto : List D} (hp : PenAt ns B sto) (a : D) (e2 e3 : Sl) : ∃ sto' c3, PenAt ns (B + 258) sto' ∧ exS P (lv P 119) lawB ⟨[some (false, a), some (false, .ref 0), e2, e3, none], sto, 40, 0⟩ = .ok .nx ⟨[some (false, a), some (false, .ref 0), e2, c3, none], sto', 40, 0⟩ := by
  obtain ⟨d, sto1, hd, p1, w1⟩ := pick_ok 38 [.int 2, .int 2, .int 3, .int 4] (by simp) (by simp) (show B < 50000 by omega) hp
  obtain ⟨s, hs, rfl⟩ : ∃ s : Nat, (2 ≤ s ∧ s ≤ 4) ∧ d = .int s := by
    simp only [List.mem_cons, List.not_mem_nil, or_false] at hd
    rcases hd with rfl | rfl | rfl | rfl
    · exact ⟨2, by omega, rfl⟩
    · exact ⟨2, by omega, rfl⟩
    · exact ⟨3, by omega, rfl⟩
    · exact ⟨4, by omega, rfl⟩
  obtain ⟨g, sto2, hg, p2, d2⟩ := dr 39 s s rfl (show B + 1 < 60000 by omega) (by omega) (by omega) p1
  obtain ⟨v, sto3, hv, p3, d3⟩ := dr 39 5 5 rfl (show B + 1 + 1 < 60000 by omega) (by omega) (by omega) p2
  obtain ⟨sto4, p4, hr⟩ := right_ok (s := s) (g := g) (m := 1 + v) ⟨hs.1, hs.2, hg, by omega, by omega⟩ (by omega) p3
  refine ⟨sto4, some (false, .int s), p4.mono (by omega), ?_⟩
  show exS P (lv P 119) [_, _] _ = _
  refine (exS_nx (st' := ⟨[some (false, a), some (false, .ref 0), e2, some (false, .int s), none], sto1, 40, 0⟩) (by
    simp -implicitDefEqProofs only [exS, ex1, lv_ev, lv_tst, lv_ex, evS, tstS, pk, pks, evs, evf, TI.lift, slot, share, deref, cmpop, bfun, bInt, bi_add, bi_sub, asg_nm, asg_tpT, asg_tpL, asgs_nil, asgs_cons, asgN, setv, isMut, R.bind_ok, callT, aft_ok, List.getElem?_cons_zero, List.getElem?_cons_succ, Option.join_some, Option.map_some, List.set_cons_zero, List.set_cons_succ, List.length_cons, List.length_nil, List.map_nil, List.map_cons, List.append_nil, List.nil_append, List.cons_append, List.isEmpty_nil, if_true, if_false, Bool.false_eq_true, Bool.and_false, Bool.false_and, Bool.not_true, Bool.not_false, Bool.true_and, Nat.zero_le, true_and, and_true, lenI_lst, lenI_tup, Nat.reduceAdd, Nat.reduceLT, Nat.reduceLeDiff, Int.natCast_zero, Int.natCast_add, Int.natCast_one, cPick, w1, after_pen, isOwn, List.any_cons, List.any_nil, Bool.or_false, okLen, lenMax, decide_true])).trans ?_
  have s1 := bStr1 (d := g) (by omega)
  have hr' : (lv P 116).call 3 [.ref 0, .int s, .str [48 + g], .int (1 + (v : Int))] sto3 39 = .ok (.bl true) false sto4 := by
    have e : (((1 + v : Nat)) : Int) = 1 + (v : Int) := by omega
    rw [← e]; exact hr
  refine (exS_nx (st' := ⟨[some (false, a), some (false, .ref 0), e2, some (false, .int s), none], sto4, 40, 0⟩) (by
    have d2' := d2 100
    have d2'' := d2 99
    have d3' := d3 100
    have d3'' := d3 99
    simp -implicitDefEqProofs only [exS, ex1, lv_ev, lv_tst, lv_ex, evS, tstS, pk, pks, evs, evf, TI.lift, slot, share, deref, cmpop, bfun, bInt, bi_add, bi_sub, asg_nm, asg_tpT, asg_tpL, asgs_nil, asgs_cons, asgN, setv, isMut, R.bind_ok, callT, aft_ok, List.getElem?_cons_zero, List.getElem?_cons_succ, Option.join_some, Option.map_some, List.set_cons_zero, List.set_cons_succ, List.length_cons, List.length_nil, List.map_nil, List.map_cons, List.append_nil, List.nil_append, List.cons_append, List.isEmpty_nil, if_true, if_false, Bool.false_eq_true, Bool.and_false, Bool.false_and, Bool.not_true, Bool.not_false, Bool.true_and, Nat.zero_le, true_and, and_true, lenI_lst, lenI_tup, Nat.reduceAdd, Nat.reduceLT, Nat.reduceLeDiff, Int.natCast_zero, Int.natCast_add, Int.natCast_one, cDraw, d2', d2'', d3', d3'', s1, cRight, hr', truth, after_pen, isOwn, List.any_cons, List.any_nil, Bool.or_false])).trans ?_
  rfl
theorem lturns_ok {ns : List Int} (a : D) : ∀ (xs : List D) {B : Nat}, B + 258 * xs.length < 10000 → ∀ {sto : List D}, PenAt ns B sto → ∀ (e2 e3 : Sl), ∃ sto' e2' e3', forLoop (lv P 120) (.nm 2) lawB xs ⟨[some (false, a), some (false, .ref 0), e2, e3, none], sto, 40, 0⟩ = .ok .nx ⟨[some (false, a), some (false, .ref 0), e2', e3', none], sto', 40, 0⟩
  | [], B, _, sto, hp, e2, e3 => ⟨sto, e2, e3, rfl⟩
  | x :: xs, B, hB, sto, hp, e2, e3 => by
    simp only [List.length_cons] at hB
    obtain ⟨sto1, c3, hp1, e1⟩ := lturn_ok (show B < 10000 by omega) hp a (some (false && isMut x, x)) e3
    obtain ⟨sto2, e2', e3', i1⟩ := lturns_ok a xs (show B + 258 + 258 * xs.length < 10000 by omega) hp1 (some (false && isMut x, x)) c3
    exact ⟨sto2, e2', e3', for_step (asg_nm (by simp)) e1 i1⟩
theorem pen_ok {ns : List Int} (hn : ns.length ≤ 63) : ex1 P (lv P 120) (.asg (.nm 1) (.callF 1 [(.var 0)] [])) ⟨TI.start [.scr ns] f0.slots, [], 40, 0⟩ = .ok .nx ⟨[some (false, .scr ns), some (true, penD ns 0 0), none, none, none], [], 40, 0⟩ := by
  have hsl : slice (.scr ns) none (some 63) = some (.lst (ns.map .int), true) := by
    have := cut_on (ns.map D.int) 63
    rw [List.take_of_length_le (by rw [List.length_map]; exact hn)] at this
    show some (D.lst (cutD (ns.map .int) none (some ((63 : Nat) : Int))), true) = _
    rw [this]
  have hc : (lv P 119).call 1 [.scr ns] [] 39 = .ok (penD ns 0 0) true [] := by
    refine call_of (n := 117) (fd := f1) (st' := ⟨[some (false, .scr ns)], [], 39, 0⟩) rfl rfl (exS_ret ?_)
    have hs0 : TI.start [.scr ns] f1.slots = [some (false, .scr ns)] := rfl
    rw [hs0]
    simp -implicitDefEqProofs only [ex1, lv_ev, evS, evs, pk, pks, slot, TI.lift, R.bind_ok, List.getElem?_cons_zero, Option.join_some, optI, hsl, bfun, bList]
    rfl
  have cPen : ∀ (r : Rec) (es : List SE) (env : List Sl) (sto : List D) (k lo : Nat) (a : D), callD P r (.fn 1 none) es [a] [] [] ⟨env, sto, k + 1, lo⟩ = aft (r.call 1 [a] [] k) es false ⟨env, sto, k + 1, lo⟩ := fun _ _ _ _ _ _ _ => rfl
  have hs0 : TI.start [.scr ns] f0.slots = [some (false, .scr ns), none, none, none, none] := rfl
  rw [hs0]
  simp -implicitDefEqProofs only [ex1, lv_ev, evS, callT, pk, pks, slot, TI.lift, R.bind_ok, List.getElem?_cons_zero, Option.join_some, List.map_nil, List.append_nil, List.nil_append, cPen, hc, aft_ok]
  rw [after_no rfl]
  rfl
theorem pure_ (ns : List Int) (hn : ns.length ≤ 63) (_ : ∀ z ∈ ns, Builtin.Int.intBits z ≤ 1048576) : TI.lawRun W.prg 120 f0 1 ns 40 = true := by
  have e1 := pen_ok hn
  have hp : PenAt ns 0 [penD ns 0 0] := ⟨0, 0, Nat.le_refl _, rfl⟩
  obtain ⟨sto', e2', e3', e2⟩ := lturns_ok (.scr ns) ((List.range 3).map fun (k : Nat) => .int (0 + (k : Int))) (B := 0) (by simp) hp none none
  have hit : iterS (lv P 120) (.rng1 (.cst (.int 3))) ⟨[some (false, .scr ns), some (false, .ref 0), none, none, none], [penD ns 0 0], 40, 0⟩ = .ok ((List.range 3).map fun (k : Nat) => .int (0 + (k : Int))) ⟨[some (false, .scr ns), some (false, .ref 0), none, none, none], [penD ns 0 0], 40, 0⟩ := rng1_ok (m := 3) rfl (by omega)
  have e4 := (exS_nx (ex_for_ hit e2)).trans (lastK (.scr ns) e2' e3' sto')
  have hb : f0.body = .asg (.nm 1) (.callF 1 [(.var 0)] []) :: .for_ (.nm 2) (.rng1 (.cst (.int 3))) lawB :: (match b0 with | _ :: _ :: r => r | _ => []) := rfl
  exact lawRun_of hb e1 rfl rfl e4
end K10

end
theorem PySem.Challenge.cw_codechain_k10_whole_stuffers_for_all_tex_holds : PySem.Challenge.rw_codechain_k10_whole_stuffers_for_all_tex.Holds := by
  exact K10.final K10.pure_
