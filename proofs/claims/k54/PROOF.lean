import PyProof.Rows.All
import Wide.All
import OpenK.AllK
import Wide.FinOn
import HandS.ForMost
import HandS.ForExc
import HandS.WordsExc
import HandS.Codes
import HandS.TupAny
import HandS.RaiseMore
import HandS.IsInst
import HandS.Deep
import HandS.CallSlots
import HandS.ExcField
import HandS.ExcInit
import HandS.SetFor
import KE.KExcIs
import HandS.ExcValue
import HandS.Defaults
import HandS.Style
import HandS.ClsMeth
import KE.IntTextLaws
import HandS.Comp
import HandS.New0
import HandS.ReplaceList
import HandS.ReplaceLit
import HandS.TupMul
import HandS.Flow
import PySem.Challenge.RW_loopmill_k54_told_out
set_option Elab.async false
set_option linter.all false
set_option maxRecDepth 100000
set_option maxHeartbeats 4000000
/-! Ev: a core language, its values, its evaluator. -/
namespace Kn
open PySem L2

/-- a key: a number, a text -/
inductive Kx where
  | i (n : Int) | s (l : List Nat)
deriving DecidableEq
/-- data that nobody changes any more -/
inductive D where
  | non | bl (b : Bool) | int (i : Int) | str (s : List Nat) | ty (n : String) | cls (c : String)
  | arg (ns : List Int) | tup (xs : List D) | lst (xs : List D) | ins (c : String) (ns : List String) (xs : List D)
  | exc (c : String) (ns : List String) (xs : List D) | dk (ks : List Kx) (xs : List D)
/-- what a slot owns -/
inductive SV where
  | d (x : D) | lst (xs : List SV) | ins (c : String) (ns : List String) (xs : List SV) | dk (ks : List Kx) (xs : List SV)
mutual
def frz : SV → D
  | .d x => x
  | .lst xs => .lst (frzs xs)
  | .ins c ns xs => .ins c ns (frzs xs)
  | .dk ks xs => .dk ks (frzs xs)
def frzs : List SV → List D
  | [] => []
  | x :: xs => frz x :: frzs xs
end
abbrev Env := List (Option SV)
structure Xc where
  c : String
  ns : List String
  xs : List D
inductive R (α : Type) where
  | ok (a : α) (ρ : Env) | exc (x : Xc) (ρ : Env) | no
def R.bind {α β : Type} (r : R α) (f : α → Env → R β) : R β := match r with
  | .ok a ρ => f a ρ
  | .exc x ρ => .exc x ρ
  | .no => .no
def R.of {α : Type} (o : Option α) (ρ : Env) : R α := match o with
  | some a => .ok a ρ
  | none => .no
inductive Cr where
  | ok (r : SV) (outs : List (Option SV)) | exc (x : Xc) | excO (x : Xc) (outs : List (Option SV)) | no
inductive Fl where
  | nx (ρ : Env) | rt (r : SV) (ρ : Env) | bk (ρ : Env) | ct (ρ : Env) | exc (x : Xc) (ρ : Env) | no

inductive BOp where | add | sub | mul | fdiv | mod | pow
inductive COp where | eq | ne | lt | le | gt | ge | is_ | isnot | in_ | notin
inductive Bf where | len | str | int | abs | max | min | all | any | list | tuple | isinstance
inductive Bm where | join | upper | count | index | split | startswith
inductive Tg where | nm (i : Nat) | tp (is : List Nat)

/-- expressions; nil and cons are lists of expressions -/
inductive E where
  | var (i : Nat) | non | bl (b : Bool) | int (i : Int) | str (s : List Nat) | glb (x : String) | tyn (n : String)
  | tup (es : E) | lst (es : E) | nil | cons (e es : E)
  | bin (o : BOp) (a b : E) | neg (a : E) | not (a : E) | and (a b : E) | or (a b : E)
  | cmp (o : COp) (a b : E) | chn (o p : COp) (a b c : E) | ife (c a b : E)
  | idx (a i : E) | slc (a lo hi : E) | stp (a k : E) | emp
  | fld (a : E) (f : String)
  | call (f : String) (as : E) | mk (c : String) (as : E) | blt (b : Bf) (as : E)
  | meth (m : String) (a as : E) | bm (m : Bm) (a as : E)
  | comp (t : Tg) (it el : E) | cmpi (t : Tg) (it cnd el : E)
  | rng (a : E) | rng2 (a b : E)
  | edk
  | disp (ks : List Kx) (vs : E) | dget (a k d : E) | enu (a : E)
  | idv (i : Nat) (e : E)
  | bor (e : E) | take (i : Nat)
  | mk0 (c : String) | zip (as : E)
  | io (f : String) (as : E) | iom (m : String) (i : Nat) (as : E) | orv (a b : E) | takef (i : Nat) (f : String)
  | crep (c : List Nat) (e : E) (y z : List Nat)
  | bad
def lenE : E → Nat
  | .cons _ es => lenE es + 1
  | _ => 0
/-- an argument that is handed in by its slot -/
def refE : E → Option Nat
  | .take i => some i
  | _ => none
def refsE : E → List (Option Nat)
  | .cons e es => refE e :: refsE es
  | _ => []
inductive S where
  | nil | cons (s r : S)
  | set (i : Nat) (e : E) | setf (i : Nat) (f : String) (e : E) | app (i : Nat) (e : E)
  | expr (e : E) | ret (e : E) | retn
  | ite (c : E) (a b : S) | for_ (t : Tg) (it : E) (b : S) | whl (c : E) (b : S)
  | pass | doc | brk | cnt | bad
  | raise (c : String) (as : E) | tryk (b : S) (c : String) (i j : Nat)
  | unp (is : List Nat) (e : E) | ext (i : Nat) (e : E) | exm (i : Nat) (e : E)
  | seti (i j : Nat) (e : E) | appf (i : Nat) (f : String) (j : Nat)

/-! ### operators on data -/
def lim : Nat := 1000000
def flat : D → Bool
  | .non => true
  | .bl _ => true
  | .int _ => true
  | .str _ => true
  | _ => false
mutual
def eqvD : D → D → Bool
  | .non, .non => true
  | .bl a, .bl b => a == b
  | .bl a, .int j => (if a then 1 else 0) == j
  | .int i, .bl b => i == (if b then 1 else 0)
  | .int i, .int j => i == j
  | .str x, .str y => x == y
  | .lst xs, .lst ys => eqvDs xs ys
  | .tup xs, .tup ys => eqvDs xs ys
  | _, _ => false
def eqvDs : List D → List D → Bool
  | [], [] => true
  | x :: xs, y :: ys => eqvD x y && eqvDs xs ys
  | _, _ => false
end
mutual
/-- data that == serves: depth n at most -/
def okD : D → Nat → Bool
  | .non, _ => true
  | .bl _, _ => true
  | .int _, _ => true
  | .str s, _ => s.all fun c => decide (c < 1114112)
  | .tup _, 0 => false
  | .lst _, 0 => false
  | .tup xs, n + 1 => okDs xs n
  | .lst xs, n + 1 => okDs xs n
  | _, _ => false
def okDs : List D → Nat → Bool
  | [], _ => true
  | x :: xs, n => okD x n && okDs xs n
end
def eqD (a b : D) : Option Bool := if (flat a && flat b) || (okD a 50 && okD b 50) then some (eqvD a b) else none
def inD (x c : D) : Option Bool := match c with
  | .str l => (match x with
    | .str [k] => some (decide (k ∈ l))
    | _ => none)
  | .lst ds => if okD x 50 && okDs ds 50 then some (ds.any fun y => eqvD y x) else none
  | .tup ds => if flat x && ds.all flat then some (ds.any fun y => eqvD y x) else none
  | _ => none
/-- != of a thing with the empty list, the empty tuple -/
def neE : D → D → Option Bool
  | .lst (_ :: _), .lst [] => some true
  | .tup (_ :: _), .tup [] => some true
  | _, _ => none
def neD (a b : D) : Option Bool := match eqD a b with
  | some r => some (!r)
  | none => neE a b
def isN : D → Bool
  | .non => true
  | _ => false
def cmpD : COp → D → D → Option Bool
  | .eq, a, b => eqD a b
  | .ne, a, b => neD a b
  | .lt, .int i, .int j => some (decide (i < j))
  | .le, .int i, .int j => some (decide (i ≤ j))
  | .gt, .int i, .int j => some (decide (j < i))
  | .ge, .int i, .int j => some (decide (j ≤ i))
  | .is_, a, .non => some (isN a)
  | .isnot, a, .non => some (!isN a)
  | .in_, a, b => inD a b
  | .notin, a, b => (inD a b).map (!·)
  | _, _, _ => none
def reps (n : Nat) (s : List Nat) : List Nat := (List.replicate n s).flatten
def binD : BOp → D → D → Option SV
  | .add, .int i, .int j => some (.d (.int (i + j)))
  | .add, .str s, .str t => if s.length + t.length ≤ lim then some (.d (.str (s ++ t))) else none
  | .add, .lst xs, .lst ys => if xs.length + ys.length ≤ lim then some (.lst ((xs ++ ys).map .d)) else none
  | .add, .tup xs, .tup ys => if xs.length + ys.length ≤ lim then some (.d (.tup (xs ++ ys))) else none
  | .sub, .int i, .int j => some (.d (.int (i - j)))
  | .mul, .int i, .int j => if (-18446744073709551616 < i ∧ i < 18446744073709551616) ∨ (-18446744073709551616 < j ∧ j < 18446744073709551616) then some (.d (.int (i * j))) else none
  | .mul, .str s, .int n => if s.length ≤ 1000 ∧ n ≤ 1000 ∧ -1000 ≤ n then some (.d (.str (reps n.toNat s))) else none
  | .mul, .tup xs, .int n => if xs.length ≤ 1000 ∧ n ≤ 1000 ∧ -1000 ≤ n ∧ xs ≠ [] then some (.d (.tup ((List.replicate n.toNat xs).flatten))) else none
  | .fdiv, .int i, .int j => if 0 < j ∧ j < 1073741824 then some (.d (.int (i / j))) else none
  | .mod, .int i, .int j => if 0 < j then some (.d (.int (i % j))) else none
  | .pow, .int i, .int j => if 0 ≤ j ∧ j ≤ 1000 ∧ i.natAbs < 1000 then some (.d (.int (i ^ j.toNat))) else none
  | _, _, _ => none
/-- the value at a key -/
def kxD : D → Option Kx
  | .int i => some (.i i)
  | .str s => some (.s s)
  | _ => none
def atK {α : Type} (k : Kx) : List Kx → List α → Option α
  | j :: ks, x :: xs => if j = k then some x else atK k ks xs
  | _, _ => none
def idxD : D → D → Option D
  | .dk ks xs, k => (kxD k).bind fun j => atK j ks xs
  | .lst xs, .int i => atI xs i
  | .tup xs, .int i => atI xs i
  | .str s, .int i => if s.length ≤ lim then (atI s i).map fun c => .str [c] else none
  | .arg ns, .int i => (atI ns i).map .int
  | _, _ => none
def cutL {α : Type} (xs : List α) (lo hi : Option Int) : List α := (xs.drop (HT.sIx xs.length 0 lo)).take (HT.sIx xs.length xs.length hi - HT.sIx xs.length 0 lo)
def slcD : D → Option Int → Option Int → Option SV
  | .lst xs, lo, hi => some (.lst ((cutL xs lo hi).map .d))
  | .tup xs, lo, hi => some (.d (.tup (cutL xs lo hi)))
  | .str s, lo, hi => if s.length ≤ lim then some (.d (.str (cutL s lo hi))) else none
  | _, _, _ => none
def stpD : D → D → Option SV
  | .lst xs, .int k => if k = 1 then some (.lst (xs.map .d)) else if k = -1 then some (.lst (xs.reverse.map .d)) else none
  | _, _ => none

/-- an item of a list that stays owned -/
def svIdx : SV → D → Option D
  | .lst xs, .int k => (match atI xs k with
    | some (.d d) => some d
    | _ => none)
  | .d x, y => idxD x y
  | _, _ => none
/-! ### the table of a program -/
structure T where
  /-- a module's constants -/
  glob : String → Option D
  /-- a class's method, by the name under which the def stands -/
  meth : String → String → Option String
  /-- a class's __init__ -/
  init : String → Option String
  /-- a class without __init__ -/
  ini0 : String → Bool
  /-- is an instance of the one an instance of the other -/
  isa : String → String → Option Bool
  /-- the module's own defs -/
  isFn : String → Bool
  /-- a class's fields -/
  fld : String → String → Bool
  /-- what an exception class makes of its arguments -/
  xc : String → List D → Option Xc
  /-- may it be made of so many -/
  xn : String → Nat → Bool
  /-- is an exception of the one an exception of the other -/
  isx : String → String → Option Bool
  /-- may it be named by an except clause -/
  exn : String → Bool
  /-- an exception class's fields -/
  fldx : String → String → Bool
def kind : D → Option String
  | .non => some "NoneType"
  | .bl _ => some "bool"
  | .int _ => some "int"
  | .str _ => some "str"
  | .tup _ => some "tuple"
  | .lst _ => some "list"
  | .dk _ _ => some "dict"
  | _ => none
def bts : List String := ["int", "str", "bool", "tuple", "list"]
def tys : List String := ["int", "str", "bool", "tuple", "list", "ValueError"]
def isaD (t : T) (x c : D) : Option Bool := match c with
  | .ty n => (match x with
    | .exc c' _ _ => if n = "ValueError" then (t.isx c' c').map fun _ => true else none
    | _ => if bts.contains n then (kind x).map fun k => k == n || (k == "bool" && n == "int") else none)
  | .cls C => (match x with
    | .ins c' _ _ => t.isa c' C
    | .exc c' _ _ => t.isx c' C
    | _ => none)
  | _ => none
def istr (i : Int) : List Nat := (Str.ofString (toString i)).cps.toList
def strs? : List D → Option (List (List Nat))
  | [] => some []
  | .str s :: r => (strs? r).map (s :: ·)
  | _ :: _ => none
def bls? : List D → Option (List Bool)
  | [] => some []
  | .bl b :: r => (bls? r).map (b :: ·)
  | _ :: _ => none
def bltD (t : T) : Bf → List D → Option SV
  | .len, [.lst xs] => some (.d (.int xs.length))
  | .len, [.tup xs] => some (.d (.int xs.length))
  | .len, [.str s] => if s.length ≤ lim then some (.d (.int s.length)) else none
  | .len, [.arg ns] => some (.d (.int ns.length))
  | .str, [.int i] => if i.natAbs < 1000000000000000000 then some (.d (.str (istr i))) else none
  | .str, [.str s] => some (.d (.str s))
  | .int, [.bl b] => some (.d (.int (if b then 1 else 0)))
  | .int, [.int i] => some (.d (.int i))
  | .int, [.str s] => if s.length ≤ 640 then (PySem.intText? ⟨s.toArray⟩).map fun i => .d (.int i) else none
  | .abs, [.int i] => some (.d (.int (if i < 0 then -i else i)))
  | .max, [.int i, .int j] => some (.d (.int (if j > i then j else i)))
  | .min, [.int i, .int j] => some (.d (.int (if j < i then j else i)))
  | .all, [.lst xs] => (bls? xs).map fun bs => .d (.bl (bs.all id))
  | .any, [.lst xs] => (bls? xs).map fun bs => .d (.bl (bs.any id))
  | .list, [.lst xs] => some (.lst (xs.map .d))
  | .list, [.tup xs] => some (.lst (xs.map .d))
  | .tuple, [.lst xs] => some (.d (.tup xs))
  | .tuple, [.tup xs] => some (.d (.tup xs))
  | .isinstance, [x, c] => (isaD t x c).map fun b => .d (.bl b)
  | _, _ => none
def ssum : List (List Nat) → Nat
  | [] => 0
  | s :: r => s.length + ssum r
/-- the receivers of a method -/
def okRec : Bm → D → Bool
  | .join, .str _ => true
  | .upper, .str _ => true
  | .count, .lst _ => true
  | .index, .lst _ => true
  | .split, .str _ => true
  | .startswith, .str _ => true
  | _, _ => false
def upS (s : List Nat) : List Nat := s.map fun c => if 97 ≤ c ∧ c ≤ 122 then c - 32 else c
def joinD : D → List D → Option SV
  | .str sep, [.lst xs] => (strs? xs).bind fun ss => if ssum ss + sep.length * ss.length ≤ lim then some (.d (.str (TL.joinL sep ss))) else none
  | .str sep, [.tup xs] => (strs? xs).bind fun ss => if ssum ss + sep.length * ss.length ≤ lim then some (.d (.str (TL.joinL sep ss))) else none
  | _, _ => none
def upperD : D → List D → Option SV
  | .str s, [] => if s.length ≤ 1000 ∧ s.all (fun c => decide (c < 128)) = true then some (.d (.str (upS s))) else none
  | _, _ => none
def countD : D → List D → Option SV
  | .lst xs, [y] => if flat y && xs.all flat then some (.d (.int (xs.countP fun x => eqvD x y : Nat))) else none
  | _, _ => none
def idxOf (y : D) : List D → Nat → Option Nat
  | [], _ => none
  | x :: xs, k => if eqvD x y = true then some k else idxOf y xs (k + 1)
def indexD : D → List D → Option SV
  | .lst xs, [y] => if flat y && xs.all flat then (idxOf y xs 0).map fun k => .d (.int (k : Nat)) else none
  | _, _ => none
def splitD : D → List D → Option SV
  | .str s, [.str [c]] => if s.length ≤ lim ∧ c < 256 then some (.lst ((TL.spl [c] 0 [] s).map fun z => .d (.str z))) else none
  | _, _ => none
def startsD : D → List D → Option SV
  | .str s, [.str p] => some (.d (.bl (decide (s.take p.length = p))))
  | _, _ => none
def bmD : Bm → D → List D → Option SV
  | .join => joinD
  | .upper => upperD
  | .count => countD
  | .index => indexD
  | .split => splitD
  | .startswith => startsD
def bindT : Tg → D → Env → Option Env
  | .nm i, x, ρ => some (ρ.set i (some (.d x)))
  | .tp is, .tup xs, ρ => if is.length = xs.length then some ((is.zip xs).foldl (fun ρ p => ρ.set p.1 (some (.d p.2))) ρ) else none
  | .tp _, _, _ => none
def slotsT : Tg → List Nat
  | .nm i => [i]
  | .tp is => is
def fieldD : List String → List D → String → Option D
  | n :: ns, x :: xs, f => if n = f then some x else fieldD ns xs f
  | _, _, _ => none
def fldD (t : T) : D → String → Option D
  | .ins c ns xs, f => if t.fld c f then fieldD ns xs f else none
  | .exc c ns xs, f => if t.fldx c f then fieldD ns xs f else none
  | _, _ => none
def putN (f : String) (v : SV) : List String → List SV → List String × List SV
  | n :: ns, x :: xs => if n = f then (n :: ns, v :: xs) else let r := putN f v ns xs; (n :: r.1, x :: r.2)
  | ns, xs => (ns ++ [f], xs ++ [v])
/-- may the slots be a comprehension's own: nothing that is owned stands there -/
def freeAt (ρ : Env) : List Nat → Bool
  | [] => true
  | i :: is => (match ρ[i]? with
    | some none => true
    | some (some (.d _)) => true
    | _ => false) && freeAt ρ is
def wipeE (ρ : Env) : List Nat → Env
  | [] => ρ
  | v :: vs => (wipeE ρ vs).set v none
def backE (ρ₀ ρ : Env) : List Nat → Env
  | [] => ρ
  | v :: vs => (backE ρ₀ ρ vs).set v ((ρ₀[v]?).getD none)
/-- a comprehension's turns -/
def compL (step : D → Env → R (Option SV)) : List D → Env → List SV → R (List SV)
  | [], ρ, acc => .ok acc ρ
  | x :: xs, ρ, acc => match step x ρ with
    | .ok (some v) ρ' => if acc.length < lim then compL step xs ρ' (acc ++ [v]) else .no
    | .ok none ρ' => compL step xs ρ' acc
    | .exc x ρ' => .exc x ρ'
    | .no => .no
/-- behind a comprehension -/
def outL (ρ : Env) (sl : List Nat) : R (List SV) → R SV
  | .ok vs ρ' => .ok (.lst vs) (backE ρ (wipeE ρ' sl) sl)
  | .exc x ρ' => .exc x (backE ρ (wipeE ρ' sl) sl)
  | .no => .no
def itemsD : D → Option (List D)
  | .lst xs => some xs
  | .tup xs => some xs
  | .str s => some (s.map fun c => .str [c])
  | _ => none
def rngD (lo hi : Int) : List D := (List.range (hi - lo).toNat).map fun k => .int (lo + (k : Nat))
def enuL : List D → Nat → List D
  | [], _ => []
  | x :: xs, k => .tup [.int (k : Nat), x] :: enuL xs (k + 1)
def zipL : List D → List D → List D
  | x :: xs, y :: ys => .tup [x, y] :: zipL xs ys
  | _, _ => []
def zip2 : List D → Option (List D)
  | [.lst xs, .lst ys] => some (zipL xs ys)
  | _ => none
def optI : D → Option (Option Int)
  | .int i => some (some i)
  | _ => none
def isEmp : E → Bool
  | .emp => true
  | _ => false
def allD : List SV → Option (List D)
  | [] => some []
  | .d x :: r => (allD r).map (x :: ·)
  | _ :: _ => none
/-- an outcome of an own def, in the frame ρ -/
def ofCr (r : Cr) (ρ : Env) : R SV := match r with
  | .ok v _ => .ok v ρ
  | .exc x => .exc x ρ
  | .excO x _ => .exc x ρ
  | .no => .no
/-- a new instance -/
def ofMk (r : Cr) (ρ : Env) : R SV := match r with
  | .ok (.d .non) (some v :: _) => .ok v ρ
  | .ok _ _ => .no
  | .exc x => .exc x ρ
  | .excO x _ => .exc x ρ
  | .no => .no
/-- what is handed in: data, or a slot's own thing -/
def takesR : List (Option Nat) → List D → Env → Option (List SV × Env)
  | [], [], ρ => some ([], ρ)
  | none :: rs, d :: ds, ρ => (takesR rs ds ρ).map fun p => (.d d :: p.1, p.2)
  | some i :: rs, _ :: ds, ρ => (match ρ[i]? with
    | some (some s) => (takesR rs ds (ρ.set i none)).map fun p => (s :: p.1, p.2)
    | _ => none)
  | _, _, _ => none
/-- behind a call by slots: what was handed in stands in its slot again -/
def backIo : List (Option Nat) → List (Option SV) → Env → Option Env
  | [], _, ρ => some ρ
  | none :: rs, _ :: os, ρ => backIo rs os ρ
  | some i :: rs, some s :: os, ρ => if i < ρ.length then backIo rs os (ρ.set i (some s)) else none
  | _, _, _ => none
def ofIo (rs : List (Option Nat)) (r : Cr) (ρ : Env) : R SV := match r with
  | .ok v outs => (match backIo rs outs ρ with
    | some ρ' => .ok v ρ'
    | none => .no)
  | .exc x => .exc x ρ
  | .excO x outs => (match backIo rs outs ρ with
    | some ρ' => .exc x ρ'
    | none => .no)
  | .no => .no
/-- all is data -/
def frzE (ρ : Env) : Env := ρ.map (Option.map fun s => .d (frz s))
def fieldS : List String → List SV → String → Option SV
  | n :: ns, x :: xs, f => if n = f then some x else fieldS ns xs f
  | _, _, _ => none
section
variable (t : T) (F : String → List SV → Cr)
mutual
def ev : E → Env → R SV
  | .var i, ρ => (match ρ[i]? with
    | some (some (.d x)) => .ok (.d x) ρ
    | some (some s) => .ok (.d (frz s)) (ρ.set i (some (.d (frz s))))
    | _ => .no)
  | .non, ρ => .ok (.d .non) ρ
  | .bl b, ρ => .ok (.d (.bl b)) ρ
  | .int i, ρ => .ok (.d (.int i)) ρ
  | .str s, ρ => .ok (.d (.str s)) ρ
  | .glb x, ρ => (match t.glob x with
    | some d => .ok (.d d) ρ
    | none => .no)
  | .tyn n, ρ => .ok (.d (.ty n)) ρ
  | .tup es, ρ => (evs es ρ).bind fun vs ρ => if vs.length ≤ lim then .ok (.d (.tup (frzs vs))) ρ else .no
  | .lst es, ρ => (evs es ρ).bind fun vs ρ => if vs.length ≤ lim then .ok (.lst vs) ρ else .no
  | .bin o a b, ρ => (ev a ρ).bind fun x ρ => (ev b ρ).bind fun y ρ => R.of (binD o (frz x) (frz y)) ρ
  | .neg a, ρ => (ev a ρ).bind fun x ρ => (match frz x with
    | .int i => .ok (.d (.int (-i))) ρ
    | _ => .no)
  | .not a, ρ => (ev a ρ).bind fun x ρ => (match x with
    | .d (.bl b) => .ok (.d (.bl (!b))) ρ
    | _ => .no)
  | .and a b, ρ => (ev a ρ).bind fun x ρ => (match x with
    | .d (.bl true) => ev b ρ
    | .d (.bl false) => .ok (.d (.bl false)) ρ
    | _ => .no)
  | .or a b, ρ => (ev a ρ).bind fun x ρ => (match x with
    | .d (.bl true) => .ok (.d (.bl true)) ρ
    | .d (.bl false) => ev b ρ
    | _ => .no)
  | .cmp o a b, ρ => (ev a ρ).bind fun x ρ => (ev b ρ).bind fun y ρ => (match cmpD o (frz x) (frz y) with
    | some r => .ok (.d (.bl r)) ρ
    | none => .no)
  | .chn o p a b c, ρ => (ev a ρ).bind fun x ρ => (ev b ρ).bind fun y ρ => (match cmpD o (frz x) (frz y) with
    | some true => (ev c ρ).bind fun z ρ => (match cmpD p (frz y) (frz z) with
      | some r => .ok (.d (.bl r)) ρ
      | none => .no)
    | some false => .ok (.d (.bl false)) ρ
    | none => .no)
  | .ife c a b, ρ => (ev c ρ).bind fun x ρ => (match x with
    | .d (.bl true) => ev a ρ
    | .d (.bl false) => ev b ρ
    | _ => .no)
  | .idx a i, ρ => (ev a ρ).bind fun x ρ => (ev i ρ).bind fun y ρ => (match idxD (frz x) (frz y) with
    | some d => .ok (.d d) ρ
    | none => .no)
  | .slc a lo hi, ρ => (ev a ρ).bind fun x ρ => (match lo, hi with
    | .emp, .emp => R.of (slcD (frz x) none none) ρ
    | .emp, hi => (ev hi ρ).bind fun h ρ => (match frz h with
      | .int j => R.of (slcD (frz x) none (some j)) ρ
      | _ => .no)
    | lo, .emp => (ev lo ρ).bind fun l ρ => (match frz l with
      | .int i => R.of (slcD (frz x) (some i) none) ρ
      | _ => .no)
    | lo, hi => (ev lo ρ).bind fun l ρ => (match frz l with
      | .int i => (ev hi ρ).bind fun h ρ => (match frz h with
        | .int j => R.of (slcD (frz x) (some i) (some j)) ρ
        | _ => .no)
      | _ => .no))
  | .stp a k, ρ => (ev a ρ).bind fun x ρ => (ev k ρ).bind fun y ρ => R.of (stpD (frz x) (frz y)) ρ
  | .fld a f, ρ => (ev a ρ).bind fun x ρ => (match fldD t (frz x) f with
    | some d => .ok (.d d) ρ
    | none => .no)
  | .call f as, ρ => if t.isFn f then (evs as ρ).bind fun vs ρ => ofCr (F f ((frzs vs).map .d)) ρ else .no
  | .mk c as, ρ => (match t.init c with
    | some q => (evs as ρ).bind fun vs ρ => ofMk (F q (.ins c [] [] :: (frzs vs).map .d)) ρ
    | none => .no)
  | .blt b as, ρ => (evs as ρ).bind fun vs ρ => R.of (bltD t b (frzs vs)) ρ
  | .meth m a as, ρ => (ev a ρ).bind fun x ρ => (match frz x with
    | .ins c ns xs => (match t.meth c m with
      | some q => if ns.contains m then .no else (evs as ρ).bind fun vs ρ => ofCr (F q (.d (.ins c ns xs) :: (frzs vs).map .d)) ρ
      | none => .no)
    | _ => .no)
  | .bm m a as, ρ => (ev a ρ).bind fun x ρ => if okRec m (frz x) then (evs as ρ).bind fun vs ρ => R.of (bmD m (frz x) (frzs vs)) ρ else .no
  | .edk, ρ => .ok (.dk [] []) ρ
  | .disp ks es, ρ => if ks.Nodup ∧ ks.length ≤ 15 ∧ ks ≠ [] ∧ lenE es = ks.length then (evs es ρ).bind fun vs ρ => .ok (.dk ks ((frzs vs).map .d)) ρ else .no
  | .dget a k d, ρ => (ev a ρ).bind fun x ρ => (match frz x with
    | .dk ks xs => (ev k ρ).bind fun y ρ => (ev d ρ).bind fun z ρ => (match kxD (frz y) with
      | some j => .ok (.d ((atK j ks xs).getD (frz z))) ρ
      | none => .no)
    | _ => .no)
  | .idv i e, ρ => (match ρ[i]? with
    | some (some _) => (ev e ρ).bind fun y ρ => (match ρ[i]? with
      | some (some s) => (match svIdx s (frz y) with
        | some d => .ok (.d d) ρ
        | none => .no)
      | _ => .no)
    | _ => .no)
  | .bor e, ρ => (match ev e (frzE ρ) with
    | .ok (.d x) _ => if flat x then .ok (.d x) ρ else .no
    | .ok _ _ => .no
    | .exc x ρ' => .exc x ρ'
    | .no => .no)
  | .io f as, ρ => if t.isFn f then (evr as ρ).bind fun ds ρ => (match takesR (refsE as) ds ρ with
      | some p => ofIo (refsE as) (F f p.1) p.2
      | none => .no) else .no
  | .iom m i as, ρ => (match ρ[i]? with
    | some (some (.ins c ns xs)) => (match t.meth c m with
      | some q => if ns.contains m then .no else (evr as ρ).bind fun ds ρ => (match takesR (some i :: refsE as) (.non :: ds) ρ with
        | some p => ofIo (some i :: refsE as) (F q p.1) p.2
        | none => .no)
      | none => .no)
    | _ => .no)
  | .orv a b, ρ => (ev a ρ).bind fun x ρ => (match x with
    | .d .non => ev b ρ
    | .d (.tup (y :: ys)) => .ok (.d (.tup (y :: ys))) ρ
    | _ => .no)
  | .takef i f, ρ => (match ρ[i]? with
    | some (some (.ins c ns xs)) => if t.fld c f then (match fieldS ns xs f with
      | some s => .ok s (ρ.set i none)
      | none => .no) else .no
    | _ => .no)
  | .crep c e y z, ρ => (ev e ρ).bind fun x ρ => (match frz x with
    | .str s => if s.length ≤ 10000 ∧ z.length ≤ 1000 ∧ c.length ≤ 1000 ∧ y ≠ [] ∧ y ≠ z then .ok (.d (.str (c ++ PySem.StrLaws.replL y z s))) ρ else .no
    | _ => .no)
  | .take i, ρ => (match ρ[i]? with
    | some (some s) => .ok s (ρ.set i none)
    | _ => .no)
  | .mk0 c, ρ => if t.ini0 c then .ok (.ins c [] []) ρ else .no
  | .zip as, ρ => (evs as ρ).bind fun vs ρ => (match zip2 (frzs vs) with
    | some ds => .ok (.d (.lst ds)) ρ
    | none => .no)
  | .enu a, ρ => (ev a ρ).bind fun x ρ => (match frz x with
    | .lst xs => .ok (.d (.lst (enuL xs 0))) ρ
    | _ => .no)
  | .comp tg it el, ρ => ((ev it ρ).bind fun x ρ => R.of (itemsD (frz x)) ρ).bind fun ds ρ => if freeAt ρ (slotsT tg) then
      outL ρ (slotsT tg) (compL (fun d ρ' => match bindT tg d (wipeE ρ' (slotsT tg)) with
        | some ρ₂ => (ev el ρ₂).bind fun v ρ => .ok (some v) ρ
        | none => .no) ds ρ [])
    else .no
  | .cmpi tg it c el, ρ => ((ev it ρ).bind fun x ρ => R.of (itemsD (frz x)) ρ).bind fun ds ρ => if freeAt ρ (slotsT tg) then
      outL ρ (slotsT tg) (compL (fun d ρ' => match bindT tg d (wipeE ρ' (slotsT tg)) with
        | some ρ₂ => (ev c ρ₂).bind fun b ρ => (match b with
          | .d (.bl true) => (ev el ρ).bind fun v ρ => .ok (some v) ρ
          | .d (.bl false) => .ok none ρ
          | _ => .no)
        | none => .no) ds ρ [])
    else .no
  | .nil, _ => .no
  | .cons _ _, _ => .no
  | .emp, _ => .no
  | .rng a, ρ => (ev a ρ).bind fun x ρ => (match frz x with
    | .int j => if -1000000000000 < j ∧ j < 1000000000000 then .ok (.d (.lst (rngD 0 j))) ρ else .no
    | _ => .no)
  | .rng2 a b, ρ => (ev a ρ).bind fun x ρ => (ev b ρ).bind fun y ρ => (match frz x, frz y with
    | .int i, .int j => if (-1000000000000 < i ∧ i < 1000000000000) ∧ (-1000000000000 < j ∧ j < 1000000000000) then .ok (.d (.lst (rngD i j))) ρ else .no
    | _, _ => .no)
  | .bad, _ => .no
/-- a list of expressions -/
def evs : E → Env → R (List SV)
  | .nil, ρ => .ok [] ρ
  | .cons e es, ρ => (ev e ρ).bind fun v ρ => (evs es ρ).bind fun vs ρ => .ok (v :: vs) ρ
  | _, _ => .no
/-- arguments, of which some are handed in by their slots: these are taken behind all others -/
def evr : E → Env → R (List D)
  | .nil, ρ => .ok [] ρ
  | .cons e es, ρ => (match refE e with
    | some i => (match ρ[i]? with
      | some (some _) => (evr es ρ).bind fun ds ρ => .ok (.non :: ds) ρ
      | _ => .no)
    | none => (ev e ρ).bind fun v ρ => (evr es ρ).bind fun ds ρ => .ok (frz v :: ds) ρ)
  | _, _ => .no
end
/-- what is walked -/
def evi (e : E) (ρ : Env) : R (List D) := (ev t F e ρ).bind fun x ρ => R.of (itemsD (frz x)) ρ
end

/-- a list's items -/
def svl : SV → Option (List SV)
  | .lst ys => some ys
  | .d (.lst ys) => some (ys.map .d)
  | _ => none
/-! ### statements -/
def loopF (step : D → Env → Fl) : List D → Env → Fl
  | [], ρ => .nx ρ
  | x :: xs, ρ => match step x ρ with
    | .nx ρ' => loopF step xs ρ'
    | .ct ρ' => loopF step xs ρ'
    | .bk ρ' => .nx ρ'
    | r => r
def loopW (c : Env → R SV) (b : Env → Fl) : Nat → Env → Fl
  | 0, _ => .no
  | n + 1, ρ => match c ρ with
    | .ok (.d (.bl true)) ρ₁ => (match b ρ₁ with
      | .nx ρ' => loopW c b n ρ'
      | .ct ρ' => loopW c b n ρ'
      | .bk ρ' => .nx ρ'
      | r => r)
    | .ok (.d (.bl false)) ρ₁ => .nx ρ₁
    | .ok _ _ => .no
    | .exc x ρ => .exc x ρ
    | .no => .no
def fuel : Nat := 100000
/-- the rest of a statement behind an expression -/
def thenF {α : Type} (r : R α) (f : α → Env → Fl) : Fl := match r with
  | .ok a ρ => f a ρ
  | .exc x ρ => .exc x ρ
  | .no => .no
section
variable (t : T) (F : String → List SV → Cr) (ro : List Nat)
def exec : S → Env → Fl
  | .nil, ρ => .nx ρ
  | .cons s r, ρ => (match exec s ρ with
    | .nx ρ' => exec r ρ'
    | x => x)
  | .set i e, ρ => thenF (ev t F e ρ) fun v ρ => if ro.contains i then .no else .nx (ρ.set i (some v))
  | .setf i f e, ρ => thenF (ev t F e ρ) fun v ρ => (match ρ[i]? with
    | some (some (.ins c ns xs)) => if ns.length < 900 ∧ ns.length = xs.length ∧ t.fld c f = true then let r := putN f v ns xs; .nx (ρ.set i (some (.ins c r.1 r.2))) else .no
    | _ => .no)
  | .app i e, ρ => (match ρ[i]? with
    | some (some (.lst _)) => thenF (ev t F e ρ) fun v ρ => (match ρ[i]? with
      | some (some (.lst xs)) => if xs.length < lim then .nx (ρ.set i (some (.lst (xs ++ [v])))) else .no
      | _ => .no)
    | _ => .no)
  | .expr e, ρ => thenF (ev t F e ρ) fun _ ρ => .nx ρ
  | .ret e, ρ => thenF (ev t F e ρ) fun v ρ => .rt v ρ
  | .retn, ρ => .rt (.d .non) ρ
  | .ite c a b, ρ => thenF (ev t F c ρ) fun v ρ => (match v with
    | .d (.bl true) => exec a ρ
    | .d (.bl false) => exec b ρ
    | _ => .no)
  | .for_ tg it b, ρ => thenF (evi t F it ρ) fun ds ρ => if (slotsT tg).all (fun i => !ro.contains i) then loopF (fun d ρ => match bindT tg d ρ with
      | some ρ' => exec b ρ'
      | none => .no) ds ρ else .no
  | .whl c b, ρ => loopW (ev t F c) (exec b) fuel ρ
  | .pass, ρ => .nx ρ
  | .doc, ρ => .nx ρ
  | .brk, ρ => .bk ρ
  | .cnt, ρ => .ct ρ
  | .raise c as, ρ => if t.xn c (lenE as) then thenF (evs t F as ρ) fun vs ρ => (match t.xc c (frzs vs) with
    | some x => .exc x ρ
    | none => .no) else .no
  | .tryk b c i j, ρ => if (ro.contains i || ro.contains j) || !t.exn c then .no else (match exec b ρ with
    | .exc x ρ' => (match t.isx x.c c with
      | some true => .nx ((ρ'.set i none).set j (some (.d (.exc x.c x.ns x.xs))))
      | some false => .exc x ρ'
      | none => .no)
    | r => r)
  | .unp is e, ρ => thenF (ev t F e ρ) fun v ρ => (match bindT (.tp is) (frz v) ρ with
    | some ρ' => if is.all (fun i => !ro.contains i) then .nx ρ' else .no
    | none => .no)
  | .ext i e, ρ => (match ρ[i]? with
    | some (some (.lst _)) => thenF (ev t F e ρ) fun v ρ => (match ρ[i]? with
      | some (some (.lst xs)) => (match svl v with
        | some ys => if xs.length + ys.length ≤ lim then .nx (ρ.set i (some (.lst (xs ++ ys)))) else .no
        | none => .no)
      | _ => .no)
    | _ => .no)
  | .exm i e, ρ => (match ρ[i]? with
    | some (some (.lst _)) => thenF (ev t F e ρ) fun v ρ => (match ρ[i]? with
      | some (some (.lst xs)) => (match svl v with
        | some ys => if xs.length + ys.length ≤ lim then .nx (ρ.set i (some (.lst (xs ++ ys)))) else .no
        | none => .no)
      | _ => .no)
    | _ => .no)
  | .seti i j e, ρ => thenF (ev t F e ρ) fun v ρ => (match ρ[i]? with
    | some (some (.lst xs)) => if j < xs.length then .nx (ρ.set i (some (.lst (xs.set j v)))) else .no
    | _ => .no)
  | .appf i f j, ρ => (match ρ[j]?, ρ[i]? with
    | some (some (.d y)), some (some (.ins c ns xs)) => if ns.length = xs.length ∧ t.fld c f = true then (match fieldS ns xs f with
      | some (.lst ys) => if ys.length < lim then let r := putN f (.lst (ys ++ [.d y])) ns xs; .nx (ρ.set i (some (.ins c r.1 r.2))) else .no
      | _ => .no) else .no
    | _, _ => .no)
  | .bad, _ => .no
end
/-- a def: how many parameters, how many names, which parameters are handed back -/
structure FD where
  np : Nat
  n : Nat
  io : List Bool
  body : S
  /-- what was handed in is told behind an exception, too -/
  kx : Bool := false
def modesOk : List Bool → List SV → Bool
  | [], [] => true
  | true :: ms, _ :: ss => modesOk ms ss
  | false :: ms, .d _ :: ss => modesOk ms ss
  | _, _ => false
def roOf : List Bool → Nat → List Nat
  | [], _ => []
  | true :: ms, k => k :: roOf ms (k + 1)
  | false :: ms, k => roOf ms (k + 1)
def outsOf : List Bool → Env → List (Option SV)
  | true :: ms, s :: ρ => s :: outsOf ms ρ
  | false :: ms, _ :: ρ => none :: outsOf ms ρ
  | false :: ms, [] => none :: outsOf ms []
  | _, _ => []
def runF (t : T) (F : String → List SV → Cr) (fd : FD) (ss : List SV) : Cr :=
  if ss.length = fd.np ∧ fd.np ≤ fd.n ∧ fd.io.length = fd.np ∧ modesOk fd.io ss = true then (match exec t F (roOf fd.io 0) fd.body (ss.map some ++ List.replicate (fd.n - fd.np) none) with
    | .nx ρ => .ok (.d .non) (outsOf fd.io ρ)
    | .rt v ρ => .ok v (outsOf fd.io ρ)
    | .exc x ρ => if fd.kx then .excO x (outsOf fd.io ρ) else .exc x
    | _ => .no)
  else .no
def callN (t : T) (P : String → Option FD) : Nat → String → List SV → Cr
  | 0, _, _ => .no
  | n + 1, q, ss => match P q with
    | some fd => runF t (callN t P n) fd ss
    | none => .no
end Kn

set_option Elab.async false
set_option linter.all false
set_option maxRecDepth 100000
set_option maxHeartbeats 4000000
/-! Rel: what core data, slots and temporaries stand for in the abstract heap. -/
namespace Kn
open PySem L2

def mkS (l : List Nat) : Str := ⟨l.toArray⟩
theorem mkS_list (s : Str) : mkS s.cps.toList = s := by cases s; simp [mkS]
def kx : Kx → Key
  | .i n => .inl n
  | .s l => .inr (mkS l)
def zipK (ks : List Kx) (ws : List V) : List (Key × V) := (ks.map kx).zip ws
/-- an exception's object, kept -/
def ExX (C dd a : Addr) : HO := .ext fun h => ∃ oe vs, h.get? a = some oe ∧ oe.cls = .ref C ∧ oe.dict = some dd ∧ oe.data = .fields vs
def zipS (ns : List String) (ws : List V) : List (Str × V) := (ns.map Str.ofString).zip ws

section
variable (K : PySem.W.Frag) (cl : String → Option Addr)
mutual
/-- the data x is the value v; A: addresses that may be changed by somebody -/
def VR (A : Addr → Prop) (H : Hp) : D → V → Prop
  | .non, v => v = .non
  | .bl b, v => v = .bl b
  | .int i, v => v = .int i
  | .str s, v => v = .str (mkS s)
  | .ty n, v => v = .ty n
  | .cls c, v => ∃ C, cl c = some C ∧ v = .ref C
  | .arg ns, v => ∃ a, v = .ref a ∧ (SqL K (fun _ => none) a (ns.map V.int) ∨ (Rd H a (.lst (ns.map V.int)) ∧ ¬ A a))
  | .tup xs, v => ∃ a ws, v = .ref a ∧ H a = some (.tup ws) ∧ ¬ A a ∧ VRs A H xs ws
  | .lst xs, v => ∃ a ws, v = .ref a ∧ H a = some (.lst ws) ∧ ¬ A a ∧ VRs A H xs ws
  | .ins c ns xs, v => ∃ a C dx ws, v = .ref a ∧ cl c = some C ∧ H a = some (.ins C dx (zipS ns ws)) ∧ ¬ A a ∧ ns.length = ws.length ∧ VRs A H xs ws
  | .exc c ns xs, v => ∃ a C dd fs ws, v = .ref a ∧ cl c = some C ∧ H a = some (ExX C dd a) ∧ ¬ A a ∧ H dd = some (.xd fs) ∧ ¬ A dd ∧ ns.length = ws.length ∧ VRs A H xs ws ∧ ∀ n, fs.lookup n = (zipS ns ws).lookup n
  | .dk ks xs, v => ∃ a ws, v = .ref a ∧ H a = some (.dK (zipK ks ws)) ∧ ¬ A a ∧ ks.length = ws.length ∧ VRs A H xs ws
def VRs (A : Addr → Prop) (H : Hp) : List D → List V → Prop
  | [], ws => ws = []
  | x :: xs, ws => ∃ w ws', ws = w :: ws' ∧ VR A H x w ∧ VRs A H xs ws'
end
mutual
/-- the owned thing s is the value v; f: the addresses that it owns -/
def OR (A : Addr → Prop) (H : Hp) : SV → V → List Addr → Prop
  | .d x, v, f => VR K cl A H x v ∧ f = []
  | .lst xs, v, f => ∃ a ws f', v = .ref a ∧ H a = some (.lst ws) ∧ f = a :: f' ∧ ORs A H xs ws f'
  | .ins c ns xs, v, f => ∃ a C dx ws f', v = .ref a ∧ cl c = some C ∧ H a = some (.ins C dx (zipS ns ws)) ∧ ns.length = ws.length ∧ f = a :: f' ∧ ORs A H xs ws f'
  | .dk ks xs, v, f => ∃ a ws f', v = .ref a ∧ H a = some (.dK (zipK ks ws)) ∧ ks.length = ws.length ∧ f = a :: f' ∧ ORs A H xs ws f'
def ORs (A : Addr → Prop) (H : Hp) : List SV → List V → List Addr → Prop
  | [], ws, f => ws = [] ∧ f = []
  | x :: xs, ws, f => ∃ w ws' f1 f2, ws = w :: ws' ∧ f = f1 ++ f2 ∧ OR A H x w f1 ∧ ORs A H xs ws' f2
end
/-- one slot -/
def O1 (A : Addr → Prop) (H : Hp) (s : Option SV) (v : Option V) (f : List Addr) : Prop := match s with
  | none => f = []
  | some s => ∃ w, v = some w ∧ OR K cl A H s w f
def OE (A : Addr → Prop) (H : Hp) : Env → St → List Addr → Prop
  | [], σ, f => σ = [] ∧ f = []
  | s :: ρ, σ, f => ∃ v σ' f1 f2, σ = v :: σ' ∧ f = f1 ++ f2 ∧ O1 K cl A H s v f1 ∧ OE A H ρ σ' f2
end

/-- what A lets stand stays -/
def Stp (A : Addr → Prop) (H : Hp) (A' : Addr → Prop) (H' : Hp) : Prop := ∀ a o, H a = some o → ¬ A a → H' a = some o ∧ ¬ A' a
theorem Stp.refl (A : Addr → Prop) (H : Hp) : Stp A H A H := fun _ _ h n => ⟨h, n⟩
section
variable {K : PySem.W.Frag} {cl : String → Option Addr} {A A' : Addr → Prop} {H H' : Hp}
mutual
theorem VR.stp (h : Stp A H A' H') : ∀ (x : D) (v : V), VR K cl A H x v → VR K cl A' H' x v
  | .non, _, r => r
  | .bl _, _, r => r
  | .int _, _, r => r
  | .str _, _, r => r
  | .ty _, _, r => r
  | .cls _, _, r => r
  | .arg ns, v, r => by
    unfold VR at r ⊢
    obtain ⟨a, e, q⟩ := r
    refine ⟨a, e, ?_⟩
    rcases q with q | ⟨q, n⟩
    · exact .inl q
    · rcases q with q | ⟨o, q⟩
      · exact .inr ⟨.inl (h a _ q n).1, (h a _ q n).2⟩
      · exact .inr ⟨.inr ⟨o, (h a _ q n).1⟩, (h a _ q n).2⟩
  | .tup xs, v, r => by
    unfold VR at r ⊢
    obtain ⟨a, ws, e, q, n, m⟩ := r
    exact ⟨a, ws, e, (h a _ q n).1, (h a _ q n).2, VRs.stp h xs ws m⟩
  | .lst xs, v, r => by
    unfold VR at r ⊢
    obtain ⟨a, ws, e, q, n, m⟩ := r
    exact ⟨a, ws, e, (h a _ q n).1, (h a _ q n).2, VRs.stp h xs ws m⟩
  | .ins c ns xs, v, r => by
    unfold VR at r ⊢
    obtain ⟨a, C, dx, ws, e, ec, q, n, l, m⟩ := r
    exact ⟨a, C, dx, ws, e, ec, (h a _ q n).1, (h a _ q n).2, l, VRs.stp h xs ws m⟩
  | .exc c ns xs, v, r => by
    unfold VR at r ⊢
    obtain ⟨a, C, dd, fs, ws, e, ec, q, n, q2, n2, l, m, z⟩ := r
    exact ⟨a, C, dd, fs, ws, e, ec, (h a _ q n).1, (h a _ q n).2, (h dd _ q2 n2).1, (h dd _ q2 n2).2, l, VRs.stp h xs ws m, z⟩
  | .dk ks xs, v, r => by
    unfold VR at r ⊢
    obtain ⟨a, ws, e, q, n, l, m⟩ := r
    exact ⟨a, ws, e, (h a _ q n).1, (h a _ q n).2, l, VRs.stp h xs ws m⟩
theorem VRs.stp (h : Stp A H A' H') : ∀ (xs : List D) (ws : List V), VRs K cl A H xs ws → VRs K cl A' H' xs ws
  | [], _, r => r
  | x :: xs, ws, r => by
    unfold VRs at r ⊢
    obtain ⟨w, ws', e, q, m⟩ := r
    exact ⟨w, ws', e, VR.stp h x w q, VRs.stp h xs ws' m⟩
end
mutual
theorem OR.stp (h : Stp A H A' H') : ∀ (s : SV) (v : V) (f : List Addr), (∀ a ∈ f, H' a = H a) → OR K cl A H s v f → OR K cl A' H' s v f
  | .d x, v, f, _, r => by
    unfold OR at r ⊢
    exact ⟨VR.stp h x v r.1, r.2⟩
  | .lst xs, v, f, k, r => by
    unfold OR at r ⊢
    obtain ⟨a, ws, f', e, q, ef, m⟩ := r
    exact ⟨a, ws, f', e, (k a (by rw [ef]; exact List.mem_cons_self)).trans q, ef, ORs.stp h xs ws f' (fun b hb => k b (by rw [ef]; exact List.mem_cons_of_mem _ hb)) m⟩
  | .ins c ns xs, v, f, k, r => by
    unfold OR at r ⊢
    obtain ⟨a, C, dx, ws, f', e, ec, q, l, ef, m⟩ := r
    exact ⟨a, C, dx, ws, f', e, ec, (k a (by rw [ef]; exact List.mem_cons_self)).trans q, l, ef, ORs.stp h xs ws f' (fun b hb => k b (by rw [ef]; exact List.mem_cons_of_mem _ hb)) m⟩
  | .dk ks xs, v, f, k, r => by
    unfold OR at r ⊢
    obtain ⟨a, ws, f', e, q, l, ef, m⟩ := r
    exact ⟨a, ws, f', e, (k a (by rw [ef]; exact List.mem_cons_self)).trans q, l, ef, ORs.stp h xs ws f' (fun b hb => k b (by rw [ef]; exact List.mem_cons_of_mem _ hb)) m⟩
theorem ORs.stp (h : Stp A H A' H') : ∀ (xs : List SV) (ws : List V) (f : List Addr), (∀ a ∈ f, H' a = H a) → ORs K cl A H xs ws f → ORs K cl A' H' xs ws f
  | [], _, _, _, r => r
  | x :: xs, ws, f, k, r => by
    unfold ORs at r ⊢
    obtain ⟨w, ws', f1, f2, e, ef, q, m⟩ := r
    exact ⟨w, ws', f1, f2, e, ef, OR.stp h x w f1 (fun b hb => k b (by rw [ef]; exact List.mem_append_left _ hb)) q, ORs.stp h xs ws' f2 (fun b hb => k b (by rw [ef]; exact List.mem_append_right _ hb)) m⟩
end
theorem O1.stp (h : Stp A H A' H') {s : Option SV} {v : Option V} {f : List Addr} (k : ∀ a ∈ f, H' a = H a) (r : O1 K cl A H s v f) : O1 K cl A' H' s v f := by
  cases s with
  | none => exact r
  | some s =>
    obtain ⟨w, e, q⟩ := r
    exact ⟨w, e, OR.stp h s w f k q⟩
theorem OE.stp (h : Stp A H A' H') : ∀ (ρ : Env) (σ : St) (f : List Addr), (∀ a ∈ f, H' a = H a) → OE K cl A H ρ σ f → OE K cl A' H' ρ σ f
  | [], _, _, _, r => r
  | s :: ρ, σ, f, k, r => by
    unfold OE at r ⊢
    obtain ⟨v, σ', f1, f2, e, ef, q, m⟩ := r
    exact ⟨v, σ', f1, f2, e, ef, O1.stp h (fun b hb => k b (by rw [ef]; exact List.mem_append_left _ hb)) q, OE.stp h ρ σ' f2 (fun b hb => k b (by rw [ef]; exact List.mem_append_right _ hb)) m⟩
mutual
/-- frozen: nobody may change it from now on -/
theorem OR.frz (hA : ∀ a, ¬ A a → ¬ A' a) : ∀ (s : SV) (v : V) (f : List Addr), (∀ a ∈ f, ¬ A' a) → OR K cl A H s v f → VR K cl A' H (frz s) v
  | .d x, v, f, _, r => by
    unfold OR at r
    exact VR.stp (fun a o q n => ⟨q, hA a n⟩) x v r.1
  | .lst xs, v, f, k, r => by
    unfold OR at r
    unfold Kn.frz VR
    obtain ⟨a, ws, f', e, q, ef, m⟩ := r
    exact ⟨a, ws, e, q, k a (by rw [ef]; exact List.mem_cons_self), ORs.frz hA xs ws f' (fun b hb => k b (by rw [ef]; exact List.mem_cons_of_mem _ hb)) m⟩
  | .ins c ns xs, v, f, k, r => by
    unfold OR at r
    unfold Kn.frz VR
    obtain ⟨a, C, dx, ws, f', e, ec, q, l, ef, m⟩ := r
    exact ⟨a, C, dx, ws, e, ec, q, k a (by rw [ef]; exact List.mem_cons_self), l, ORs.frz hA xs ws f' (fun b hb => k b (by rw [ef]; exact List.mem_cons_of_mem _ hb)) m⟩
  | .dk ks xs, v, f, k, r => by
    unfold OR at r
    unfold Kn.frz VR
    obtain ⟨a, ws, f', e, q, l, ef, m⟩ := r
    exact ⟨a, ws, e, q, k a (by rw [ef]; exact List.mem_cons_self), l, ORs.frz hA xs ws f' (fun b hb => k b (by rw [ef]; exact List.mem_cons_of_mem _ hb)) m⟩
theorem ORs.frz (hA : ∀ a, ¬ A a → ¬ A' a) : ∀ (xs : List SV) (ws : List V) (f : List Addr), (∀ a ∈ f, ¬ A' a) → ORs K cl A H xs ws f → VRs K cl A' H (frzs xs) ws
  | [], _, _, _, r => by
    unfold ORs at r
    unfold frzs VRs
    exact r.1
  | x :: xs, ws, f, k, r => by
    unfold ORs at r
    unfold frzs VRs
    obtain ⟨w, ws', f1, f2, e, ef, q, m⟩ := r
    exact ⟨w, ws', e, OR.frz hA x w f1 (fun b hb => k b (by rw [ef]; exact List.mem_append_left _ hb)) q, ORs.frz hA xs ws' f2 (fun b hb => k b (by rw [ef]; exact List.mem_append_right _ hb)) m⟩
end
theorem VRs.len : ∀ {xs : List D} {ws : List V}, VRs K cl A H xs ws → xs.length = ws.length
  | [], ws, r => by
    unfold VRs at r
    rw [r]
    rfl
  | x :: xs, ws, r => by
    unfold VRs at r
    obtain ⟨w, ws', e, _, m⟩ := r
    rw [e, List.length_cons, List.length_cons, VRs.len m]
theorem ORs.len : ∀ {xs : List SV} {ws : List V} {f : List Addr}, ORs K cl A H xs ws f → xs.length = ws.length
  | [], ws, _, r => by
    unfold ORs at r
    rw [r.1]
    rfl
  | x :: xs, ws, f, r => by
    unfold ORs at r
    obtain ⟨w, ws', f1, f2, e, _, _, m⟩ := r
    rw [e, List.length_cons, List.length_cons, ORs.len m]
theorem VRs.get : ∀ {xs : List D} {ws : List V} {i : Nat} {x : D}, VRs K cl A H xs ws → xs[i]? = some x → ∃ w, ws[i]? = some w ∧ VR K cl A H x w
  | [], _, _, _, _, e => by simp at e
  | y :: xs, ws, 0, x, r, e => by
    unfold VRs at r
    obtain ⟨w, ws', e', q, m⟩ := r
    simp at e
    subst e
    exact ⟨w, by rw [e']; rfl, q⟩
  | y :: xs, ws, i + 1, x, r, e => by
    unfold VRs at r
    obtain ⟨w, ws', e', q, m⟩ := r
    obtain ⟨z, h1, h2⟩ := VRs.get (i := i) (x := x) m (by simpa using e)
    exact ⟨z, by rw [e']; simpa using h1, h2⟩
theorem VRs.app : ∀ {xs ys : List D} {ws zs : List V}, VRs K cl A H xs ws → VRs K cl A H ys zs → VRs K cl A H (xs ++ ys) (ws ++ zs)
  | [], ys, ws, zs, r, q => by
    unfold VRs at r
    rw [r]
    exact q
  | x :: xs, ys, ws, zs, r, q => by
    unfold VRs at r
    obtain ⟨w, ws', e, h, m⟩ := r
    rw [e, List.cons_append, List.cons_append]
    unfold VRs
    exact ⟨w, _, rfl, h, VRs.app m q⟩
theorem VRs.take : ∀ {xs : List D} {ws : List V} (n : Nat), VRs K cl A H xs ws → VRs K cl A H (xs.take n) (ws.take n)
  | _, _, 0, _ => by
    rw [List.take_zero, List.take_zero]
    unfold VRs
    rfl
  | [], ws, n + 1, r => by
    unfold VRs at r
    rw [r]
    unfold VRs
    rfl
  | x :: xs, ws, n + 1, r => by
    unfold VRs at r
    obtain ⟨w, ws', e, h, m⟩ := r
    rw [e, List.take_succ_cons, List.take_succ_cons]
    unfold VRs
    exact ⟨w, _, rfl, h, VRs.take n m⟩
theorem VRs.drop : ∀ {xs : List D} {ws : List V} (n : Nat), VRs K cl A H xs ws → VRs K cl A H (xs.drop n) (ws.drop n)
  | _, _, 0, r => r
  | [], ws, n + 1, r => by
    unfold VRs at r
    rw [r]
    unfold VRs
    rfl
  | x :: xs, ws, n + 1, r => by
    unfold VRs at r
    obtain ⟨w, ws', e, h, m⟩ := r
    rw [e, List.drop_succ_cons, List.drop_succ_cons]
    exact VRs.drop n m
theorem VRs.nil : VRs K cl A H [] [] := by
  unfold VRs
  rfl
theorem VRs.cons {x : D} {w : V} {xs : List D} {ws : List V} (h : VR K cl A H x w) (t : VRs K cl A H xs ws) : VRs K cl A H (x :: xs) (w :: ws) := by
  unfold VRs
  exact ⟨w, ws, rfl, h, t⟩
theorem VRs.rev : ∀ {xs : List D} {ws : List V}, VRs K cl A H xs ws → VRs K cl A H xs.reverse ws.reverse
  | [], ws, r => by
    unfold VRs at r
    rw [r]
    exact VRs.nil
  | x :: xs, ws, r => by
    unfold VRs at r
    obtain ⟨w, ws', e, h, m⟩ := r
    rw [e, List.reverse_cons, List.reverse_cons]
    exact VRs.app (VRs.rev m) (VRs.cons h VRs.nil)
/-- plain data as owned things -/
theorem ORs.ofD : ∀ {xs : List D} {ws : List V}, VRs K cl A H xs ws → ORs K cl A H (xs.map .d) ws []
  | [], ws, r => by
    unfold VRs at r
    unfold List.map ORs
    exact ⟨r, rfl⟩
  | x :: xs, ws, r => by
    unfold VRs at r
    obtain ⟨w, ws', e, h, m⟩ := r
    rw [List.map_cons]
    unfold ORs
    refine ⟨w, ws', [], [], e, rfl, ?_, ORs.ofD m⟩
    unfold OR
    exact ⟨h, rfl⟩
end
theorem frzs_d (xs : List D) : frzs (xs.map .d) = xs := by
  induction xs with
  | nil => rfl
  | cons x xs ih =>
    rw [List.map_cons]
    unfold frzs frz
    rw [ih]
theorem frzs_len (xs : List SV) : (frzs xs).length = xs.length := by
  induction xs with
  | nil => rfl
  | cons x xs ih =>
    unfold frzs
    rw [List.length_cons, List.length_cons, ih]

/-! ### a frame's state -/
def Av (O : Addr → Prop) (f : List Addr) : Addr → Prop := fun a => O a ∨ a ∈ f
/-- between two states of a frame: f, f': what it owned, owns; what is owned may change -/
def ExW (f : List Addr) (H : Hp) (f' : List Addr) (H' : Hp) : Prop := (∀ a o, H a = some o → a ∉ f → H' a = some o) ∧ ∀ a ∈ f', a ∈ f ∨ H a = none
theorem ExW.refl (f : List Addr) (H : Hp) : ExW f H f H := ⟨fun _ _ h _ => h, fun _ h => .inl h⟩
theorem ExW.trans {f f' f'' : List Addr} {H H' H'' : Hp} (x : ExW f H f' H') (y : ExW f' H' f'' H'') : ExW f H f'' H'' := by
  refine ⟨fun a o h n => ?_, fun a h => ?_⟩
  · refine y.1 a o (x.1 a o h n) fun m => ?_
    rcases x.2 a m with z | z
    · exact n z
    · rw [h] at z; cases z
  · rcases y.2 a h with z | z
    · exact x.2 a z
    · by_cases m : a ∈ f
      · exact .inl m
      · right
        cases q : H a with
        | none => rfl
        | some o =>
          have := x.1 a o q m
          rw [z] at this; cases this
/-- between two states within an expression -/
abbrev Ext (f : List Addr) (H : Hp) (f' : List Addr) (H' : Hp) : Prop := ExW f H f' H'
theorem Ext.refl (f : List Addr) (H : Hp) : Ext f H f H := ExW.refl f H
theorem Ext.w {f f' : List Addr} {H H' : Hp} (x : Ext f H f' H') : ExW f H f' H' := x
theorem ExW.s {f' : List Addr} {H H' : Hp} (x : ExW [] H f' H') : Ext [] H f' H' := x
theorem Ext.trans {f f' f'' : List Addr} {H H' H'' : Hp} (x : Ext f H f' H') (y : Ext f' H' f'' H'') : Ext f H f'' H'' := ExW.trans x y
theorem Ext.upd {f f' f'' : List Addr} {H H' : Hp} {p : Addr} {o : HO} (x : Ext f H f' H') (n : H p = none) (y : ExW f' H' f'' (upd H' p o)) : Ext f H f'' (upd H' p o) := ExW.trans x y
theorem Ext.sub {f f' : List Addr} (H : Hp) (h : ∀ a ∈ f', a ∈ f) : Ext f H f' H := ⟨fun _ _ q _ => q, fun a m => .inl (h a m)⟩
section
variable (K : PySem.W.Frag) (cl : String → Option Addr) (O : Addr → Prop) (ro : List (Nat × V))
/-- ρ: the slots; ts: temporaries, ws: their values; f: all that is owned -/
def Rel (ρ : Env) (ts : List SV) (σ : St) (ws : List V) (f : List Addr) (H : Hp) : Prop :=
  ∃ fe ft, f = fe ++ ft ∧ (∀ a, f.count a ≤ 1) ∧ (∀ a ∈ f, ¬ O a) ∧ (∀ a, O a → H a ≠ none) ∧ OE K cl (Av O f) H ρ σ fe ∧ ORs K cl (Av O f) H ts ws ft ∧ ∀ p ∈ ro, σ[p.1]? = some (some p.2)
end
theorem mem_of_count {f : List Addr} {a : Addr} : a ∈ f ↔ 0 < f.count a := List.count_pos_iff.symm
section
variable {K : PySem.W.Frag} {cl : String → Option Addr} {O : Addr → Prop} {ro : List (Nat × V)} {ρ : Env} {ts : List SV} {σ : St} {ws : List V} {f f' : List Addr} {H H' : Hp} {s s' : SV} {v v' : V} {x : D}
/-- what stands outside of f stays -/
theorem Stp.extW {g g' : List Addr} (e : ExW g H g' H') (hs : ∀ a ∈ g, a ∈ f) (hs' : ∀ a ∈ f', a ∈ g' ∨ a ∈ f) : Stp (Av O f) H (Av O f') H' := fun a o h n => by
  have n1 : ¬ O a := fun z => n (.inl z)
  have n2 : a ∉ f := fun z => n (.inr z)
  refine ⟨e.1 a o h fun z => n2 (hs a z), fun z => ?_⟩
  rcases z with z | z
  · exact n1 z
  · rcases hs' a z with z | z
    · rcases e.2 a z with z | z
      · exact n2 (hs a z)
      · rw [h] at z; cases z
    · exact n2 z
theorem Stp.ext {g g' : List Addr} (e : Ext g H g' H') (hs : ∀ a ∈ g, a ∈ f) (hs' : ∀ a ∈ f', a ∈ g' ∨ a ∈ f) : Stp (Av O f) H (Av O f') H' := Stp.extW e.w hs hs'
/-- an answer in data -/
theorem Rel.top (r : Rel K cl O ro ρ (.d x :: ts) σ (v :: ws) f H) : VR K cl (Av O f) H x v := by
  obtain ⟨fe, ft, _, _, _, _, _, h, _⟩ := r
  unfold ORs at h
  obtain ⟨w, ws', f1, f2, e, _, q, _⟩ := h
  cases e
  unfold OR at q
  exact q.1
theorem Rel.shape (r : Rel K cl O ro ρ (s :: ts) σ ws f H) : ∃ w ws', ws = w :: ws' := by
  obtain ⟨fe, ft, _, _, _, _, _, h, _⟩ := r
  unfold ORs at h
  obtain ⟨w, ws', f1, f2, e, _⟩ := h
  exact ⟨w, ws', e⟩
/-- data put upon the temporaries -/
theorem Rel.push (r : Rel K cl O ro ρ ts σ ws f H) (h : VR K cl (Av O f) H x v) : Rel K cl O ro ρ (.d x :: ts) σ (v :: ws) f H := by
  obtain ⟨fe, ft, e, c, d, o, p, q, z⟩ := r
  refine ⟨fe, ft, e, c, d, o, p, ?_, z⟩
  unfold ORs
  refine ⟨v, ws, [], ft, rfl, rfl, ?_, q⟩
  unfold OR
  exact ⟨h, rfl⟩
/-- fewer owned addresses, no change of the heap -/
theorem Rel.less {fe ft : List Addr} {fe' ft' : List Addr} {ρ' : Env} {ts' : List SV} {σ' : St} {ws' : List V} (c : ∀ a, (fe ++ ft).count a ≤ 1) (d : ∀ a ∈ fe ++ ft, ¬ O a) (o : ∀ a, O a → H a ≠ none)
    (hc : ∀ a, (fe' ++ ft').count a ≤ (fe ++ ft).count a)
    (p : OE K cl (Av O (fe' ++ ft')) H ρ' σ' fe') (q : ORs K cl (Av O (fe' ++ ft')) H ts' ws' ft') (z : ∀ p ∈ ro, σ'[p.1]? = some (some p.2)) :
    Ext (fe ++ ft) H (fe' ++ ft') H ∧ Rel K cl O ro ρ' ts' σ' ws' (fe' ++ ft') H := by
  have sub : ∀ a ∈ fe' ++ ft', a ∈ fe ++ ft := fun a h => by
    rw [mem_of_count] at h ⊢
    exact Nat.lt_of_lt_of_le h (hc a)
  exact ⟨Ext.sub H sub, fe', ft', rfl, fun a => Nat.le_trans (hc a) (c a), fun a h => d a (sub a h), o, p, q, z⟩
theorem Stp.less (h : ∀ a ∈ f', a ∈ f) : Stp (Av O f) H (Av O f') H := fun a o q n => ⟨q, fun z => n (z.imp id (h a))⟩
/-- the last temporary is let go -/
theorem Rel.pop (r : Rel K cl O ro ρ (s :: ts) σ (v :: ws) f H) : ∃ f', Ext f H f' H ∧ Rel K cl O ro ρ ts σ ws f' H := by
  obtain ⟨fe, ft, e, c, d, o, p, q, z⟩ := r
  subst e
  unfold ORs at q
  obtain ⟨w, ws', f1, f2, e, ef, q1, q2⟩ := q
  cases e
  subst ef
  have hc : ∀ a, (fe ++ f2).count a ≤ (fe ++ (f1 ++ f2)).count a := fun a => by simp only [List.count_append]; omega
  have st : Stp (Av O (fe ++ (f1 ++ f2))) H (Av O (fe ++ f2)) H := Stp.less fun a h => by
    simp only [List.mem_append] at h ⊢
    rcases h with h | h
    · exact .inl h
    · exact .inr (.inr h)
  exact ⟨_, Rel.less c d o hc (OE.stp st _ _ _ (fun _ _ => rfl) p) (ORs.stp st _ _ _ (fun _ _ => rfl) q2) z⟩
/-- the last temporary is frozen -/
theorem Rel.freeze (r : Rel K cl O ro ρ (s :: ts) σ (v :: ws) f H) : ∃ f', Ext f H f' H ∧ Rel K cl O ro ρ (.d (frz s) :: ts) σ (v :: ws) f' H := by
  obtain ⟨fe, ft, e, c, d, o, p, q, z⟩ := r
  subst e
  unfold ORs at q
  obtain ⟨w, ws', f1, f2, e, ef, q1, q2⟩ := q
  cases e
  subst ef
  have hc : ∀ a, (fe ++ f2).count a ≤ (fe ++ (f1 ++ f2)).count a := fun a => by simp only [List.count_append]; omega
  have st : Stp (Av O (fe ++ (f1 ++ f2))) H (Av O (fe ++ f2)) H := Stp.less fun a h => by
    simp only [List.mem_append] at h ⊢
    rcases h with h | h
    · exact .inl h
    · exact .inr (.inr h)
  have hA : ∀ a, ¬ Av O (fe ++ (f1 ++ f2)) a → ¬ Av O (fe ++ f2) a := fun a n m => n (by
    rcases m with m | m
    · exact .inl m
    · right
      simp only [List.mem_append] at m ⊢
      rcases m with m | m
      · exact .inl m
      · exact .inr (.inr m))
  have hF : ∀ a ∈ f1, ¬ Av O (fe ++ f2) a := fun a h m => by
    rcases m with m | m
    · exact d a (by simp only [List.mem_append]; exact .inr (.inl h)) m
    · have := c a
      simp only [List.count_append] at this
      rw [mem_of_count] at h m
      simp only [List.count_append] at m
      omega
  have fz : VR K cl (Av O (fe ++ f2)) H (frz s) v := OR.frz hA s v f1 hF q1
  obtain ⟨x, y⟩ := Rel.less c d o hc (OE.stp st _ _ _ (fun _ _ => rfl) p) (ORs.stp st _ _ _ (fun _ _ => rfl) q2) z
  exact ⟨_, x, y.push fz⟩
/-- the two last temporaries change places -/
theorem Rel.swap (r : Rel K cl O ro ρ (s :: s' :: ts) σ (v :: v' :: ws) f H) : ∃ f', Ext f H f' H ∧ Rel K cl O ro ρ (s' :: s :: ts) σ (v' :: v :: ws) f' H := by
  obtain ⟨fe, ft, e, c, d, o, p, q, z⟩ := r
  subst e
  unfold ORs at q
  obtain ⟨w, ws', f1, f2, e, ef, q1, q2⟩ := q
  cases e
  subst ef
  unfold ORs at q2
  obtain ⟨w2, ws2, f3, f4, e, ef, q3, q4⟩ := q2
  cases e
  subst ef
  have hc : ∀ a, (fe ++ (f3 ++ (f1 ++ f4))).count a ≤ (fe ++ (f1 ++ (f3 ++ f4))).count a := fun a => by simp only [List.count_append]; omega
  have st : Stp (Av O (fe ++ (f1 ++ (f3 ++ f4)))) H (Av O (fe ++ (f3 ++ (f1 ++ f4)))) H := Stp.less fun a h => by
    simp only [List.mem_append] at h ⊢
    rcases h with h | h | h | h
    · exact .inl h
    · exact .inr (.inr (.inl h))
    · exact .inr (.inl h)
    · exact .inr (.inr (.inr h))
  refine ⟨_, Rel.less c d o hc (OE.stp st _ _ _ (fun _ _ => rfl) p) ?_ z⟩
  unfold ORs
  refine ⟨v', v :: ws, f3, f1 ++ f4, rfl, rfl, OR.stp st _ _ _ (fun _ _ => rfl) q3, ?_⟩
  unfold ORs
  exact ⟨v, ws, f1, f4, rfl, rfl, OR.stp st _ _ _ (fun _ _ => rfl) q1, ORs.stp st _ _ _ (fun _ _ => rfl) q4⟩
end
end Kn

set_option Elab.async false
set_option linter.all false
set_option maxRecDepth 100000
set_option maxHeartbeats 4000000
/-! Rel2: steps of a frame's state. -/
namespace Kn
open PySem L2
section
variable {K : PySem.W.Frag} {cl : String → Option Addr} {O : Addr → Prop} {ro : List (Nat × V)} {ρ : Env} {ts : List SV} {σ : St} {ws : List V} {f f' : List Addr} {H H' : Hp} {s s' : SV} {v v' : V} {x : D} {A A' : Addr → Prop}
theorem ORs.split : ∀ {xs ys : List SV} {ws : List V} {f : List Addr}, ORs K cl A H (xs ++ ys) ws f → ∃ w1 w2 f1 f2, ws = w1 ++ w2 ∧ f = f1 ++ f2 ∧ ORs K cl A H xs w1 f1 ∧ ORs K cl A H ys w2 f2
  | [], ys, ws, f, r => ⟨[], ws, [], f, rfl, rfl, by unfold ORs; exact ⟨rfl, rfl⟩, r⟩
  | x :: xs, ys, ws, f, r => by
    rw [List.cons_append] at r
    unfold ORs at r
    obtain ⟨w, ws', f1, f2, e, ef, q, m⟩ := r
    obtain ⟨w1, w2, g1, g2, e2, ef2, q2, m2⟩ := ORs.split m
    refine ⟨w :: w1, w2, f1 ++ g1, g2, by rw [e, e2]; rfl, by rw [ef, ef2, List.append_assoc], ?_, m2⟩
    unfold ORs
    exact ⟨w, w1, f1, g1, rfl, rfl, q, q2⟩
theorem ORs.join : ∀ {xs ys : List SV} {w1 w2 : List V} {f1 f2 : List Addr}, ORs K cl A H xs w1 f1 → ORs K cl A H ys w2 f2 → ORs K cl A H (xs ++ ys) (w1 ++ w2) (f1 ++ f2)
  | [], ys, w1, w2, f1, f2, r, q => by
    unfold ORs at r
    rw [r.1, r.2]
    exact q
  | x :: xs, ys, w1, w2, f1, f2, r, q => by
    unfold ORs at r
    obtain ⟨w, ws', g1, g2, e, ef, h, m⟩ := r
    rw [e, ef, List.cons_append, List.cons_append, List.append_assoc]
    unfold ORs
    exact ⟨w, ws' ++ w2, g1, g2 ++ f2, rfl, rfl, h, ORs.join m q⟩
theorem ORs.nil : ORs K cl A H [] [] [] := by
  unfold ORs
  exact ⟨rfl, rfl⟩
theorem ORs.one (h : OR K cl A H s v f) : ORs K cl A H [s] [v] f := by
  unfold ORs
  exact ⟨v, [], f, [], rfl, by simp, h, ORs.nil⟩
theorem ORs.cons {w1 : V} {f1 f2 : List Addr} (h : OR K cl A H s w1 f1) (t : ORs K cl A H ts ws f2) : ORs K cl A H (s :: ts) (w1 :: ws) (f1 ++ f2) := by
  unfold ORs
  exact ⟨w1, ws, f1, f2, rfl, rfl, h, t⟩
/-- one slot, and what stands instead -/
theorem OE.at : ∀ {ρ : Env} {σ : St} {f : List Addr} {i : Nat} {s : Option SV}, OE K cl A H ρ σ f → ρ[i]? = some s → ∃ v f1 f2 f3, σ[i]? = some v ∧ f = f1 ++ (f2 ++ f3) ∧ O1 K cl A H s v f2 ∧
    ∀ {A' : Addr → Prop} {H' : Hp} {s' : Option SV} {v' : Option V} {g : List Addr}, Stp A H A' H' → (∀ a ∈ f1, H' a = H a) → (∀ a ∈ f3, H' a = H a) → O1 K cl A' H' s' v' g → OE K cl A' H' (ρ.set i s') (σ.set i v') (f1 ++ (g ++ f3))
  | [], _, _, _, _, _, e => by simp at e
  | s₀ :: ρ, σ, f, 0, s, r, e => by
    simp at e
    subst e
    unfold OE at r
    obtain ⟨v, σ', f1, f2, e, ef, q, m⟩ := r
    subst e
    subst ef
    refine ⟨v, [], f1, f2, rfl, rfl, q, fun {A' H' s' v' g} st k1 k3 o => ?_⟩
    show OE K cl A' H' (s' :: ρ) (v' :: σ') (g ++ f2)
    unfold OE
    exact ⟨v', σ', g, f2, rfl, rfl, o, OE.stp st _ _ _ k3 m⟩
  | s₀ :: ρ, σ, f, i + 1, s, r, e => by
    unfold OE at r
    obtain ⟨v, σ', f1, f2, e', ef, q, m⟩ := r
    subst e'
    subst ef
    obtain ⟨v1, g1, g2, g3, e1, e2, o1, up⟩ := OE.at (i := i) (s := s) m (by simpa using e)
    subst e2
    refine ⟨v1, f1 ++ g1, g2, g3, by simpa using e1, by rw [List.append_assoc], o1, fun {A' H' s' v' g} st k1 k3 o => ?_⟩
    rw [List.set_cons_succ, List.set_cons_succ, List.append_assoc]
    unfold OE
    exact ⟨v, σ'.set i v', f1, g1 ++ (g ++ g3), rfl, rfl, O1.stp st (fun a h => k1 a (List.mem_append_left _ h)) q, up st (fun a h => k1 a (List.mem_append_right _ h)) k3 o⟩
theorem OE.len : ∀ {ρ : Env} {σ : St} {f : List Addr}, OE K cl A H ρ σ f → ρ.length = σ.length
  | [], σ, f, r => by
    unfold OE at r
    rw [r.1]
    rfl
  | s :: ρ, σ, f, r => by
    unfold OE at r
    obtain ⟨v, σ', f1, f2, e, _, _, m⟩ := r
    rw [e, List.length_cons, List.length_cons, OE.len m]
theorem Rel.len (r : Rel K cl O ro ρ ts σ ws f H) : ρ.length = σ.length := by
  obtain ⟨fe, ft, e, c, d, o, p, q, z⟩ := r
  exact OE.len p
/-- the last temporary goes into a slot -/
theorem Rel.set {i : Nat} (r : Rel K cl O ro ρ (s :: ts) σ (v :: ws) f H) (hi : i < ρ.length) (hr : ∀ p ∈ ro, p.1 ≠ i) : ∃ f', Ext f H f' H ∧ Rel K cl O ro (ρ.set i (some s)) ts (σ.set i (some v)) ws f' H := by
  obtain ⟨fe, ft, e, c, d, o, p, q, z⟩ := r
  subst e
  unfold ORs at q
  obtain ⟨w, ws', f1, f2, e, ef, q1, q2⟩ := q
  cases e
  subst ef
  obtain ⟨v0, g1, g2, g3, e1, e2, o1, up⟩ := OE.at p (List.getElem?_eq_getElem hi)
  subst e2
  have hc : ∀ a, ((g1 ++ (f1 ++ g3)) ++ f2).count a ≤ ((g1 ++ (g2 ++ g3)) ++ (f1 ++ f2)).count a := fun a => by simp only [List.count_append]; omega
  have st : Stp (Av O ((g1 ++ (g2 ++ g3)) ++ (f1 ++ f2))) H (Av O ((g1 ++ (f1 ++ g3)) ++ f2)) H := Stp.less fun a h => by
    rw [mem_of_count] at h ⊢
    exact Nat.lt_of_lt_of_le h (hc a)
  refine ⟨_, Rel.less c d o hc (up st (fun _ _ => rfl) (fun _ _ => rfl) ⟨v, rfl, OR.stp st _ _ _ (fun _ _ => rfl) q1⟩) (ORs.stp st _ _ _ (fun _ _ => rfl) q2) fun p hp => ?_⟩
  rw [List.getElem?_set_ne (Ne.symm (hr p hp))]
  exact z p hp
/-- data in a slot -/
theorem Rel.getD {i : Nat} (r : Rel K cl O ro ρ ts σ ws f H) (e : ρ[i]? = some (some (.d x))) : ∃ v, σ[i]? = some (some v) ∧ VR K cl (Av O f) H x v := by
  obtain ⟨fe, ft, _, c, d, o, p, q, z⟩ := r
  obtain ⟨v0, g1, g2, g3, e1, e2, o1, up⟩ := OE.at p e
  obtain ⟨w, ew, h⟩ := o1
  subst ew
  unfold OR at h
  exact ⟨w, e1, h.1⟩
/-- a slot frozen and read -/
theorem Rel.getF {i : Nat} (r : Rel K cl O ro ρ ts σ ws f H) (e : ρ[i]? = some (some s)) : ∃ v f', σ[i]? = some (some v) ∧ Ext f H f' H ∧ Rel K cl O ro (ρ.set i (some (.d (frz s)))) (.d (frz s) :: ts) σ (v :: ws) f' H := by
  obtain ⟨fe, ft, ef, c, d, o, p, q, z⟩ := r
  subst ef
  obtain ⟨v0, g1, g2, g3, e1, e2, o1, up⟩ := OE.at p e
  subst e2
  obtain ⟨w, ew, h⟩ := o1
  subst ew
  have hc : ∀ a, ((g1 ++ ([] ++ g3)) ++ ft).count a ≤ ((g1 ++ (g2 ++ g3)) ++ ft).count a := fun a => by simp only [List.count_append, List.count_nil]; omega
  have sub : ∀ a ∈ (g1 ++ ([] ++ g3)) ++ ft, a ∈ (g1 ++ (g2 ++ g3)) ++ ft := fun a h => by
    rw [mem_of_count] at h ⊢
    exact Nat.lt_of_lt_of_le h (hc a)
  have st : Stp (Av O ((g1 ++ (g2 ++ g3)) ++ ft)) H (Av O ((g1 ++ ([] ++ g3)) ++ ft)) H := Stp.less sub
  have fz : VR K cl (Av O ((g1 ++ ([] ++ g3)) ++ ft)) H (frz s) w := by
    refine OR.frz (fun a n m => n (m.imp id (sub a))) s w g2 (fun a h m => ?_) h
    rcases m with m | m
    · exact d a (by simp only [List.mem_append]; exact .inl (.inr (.inl h))) m
    · have := c a
      simp only [List.count_append] at this
      rw [mem_of_count] at h m
      simp only [List.count_append, List.count_nil] at m
      omega
  have hσ : σ.set i (some w) = σ := by
    apply List.ext_getElem?
    intro j
    by_cases hj : i = j
    · subst hj
      have hl : i < σ.length := (List.getElem?_eq_some_iff.mp e1).1
      rw [List.getElem?_set_self hl, e1]
    · rw [List.getElem?_set_ne hj]
  have od : O1 K cl (Av O ((g1 ++ ([] ++ g3)) ++ ft)) H (some (.d (frz s))) (some w) [] := ⟨w, rfl, by unfold OR; exact ⟨fz, rfl⟩⟩
  have oe := up st (fun _ _ => rfl) (fun _ _ => rfl) od
  rw [hσ] at oe
  obtain ⟨x, y⟩ := Rel.less (ro := ro) c d o hc oe (ORs.stp st _ _ _ (fun _ _ => rfl) q) z
  exact ⟨w, _, e1, x, y.push fz⟩
/-- what is owned is there -/
theorem Rel.has (r : Rel K cl O ro ρ ts σ ws f H) : ∀ a ∈ f, H a ≠ none := by
    obtain ⟨fe, ft, e, c, d, oo, pp, q, z⟩ := r
    intro a h
    have key : ∀ (A : Addr → Prop), (∀ (s : SV) (v : V) (f : List Addr), OR K cl A H s v f → ∀ a ∈ f, H a ≠ none) ∧ (∀ (xs : List SV) (ws : List V) (f : List Addr), ORs K cl A H xs ws f → ∀ a ∈ f, H a ≠ none) := by
      intro A
      have both : ∀ n : Nat, (∀ (s : SV) (v : V) (f : List Addr), sizeOf s ≤ n → OR K cl A H s v f → ∀ a ∈ f, H a ≠ none) ∧ (∀ (xs : List SV) (ws : List V) (f : List Addr), sizeOf xs ≤ n → ORs K cl A H xs ws f → ∀ a ∈ f, H a ≠ none) := by
        intro n
        induction n with
        | zero =>
          refine ⟨fun s v f hs => ?_, fun xs ws f hs => ?_⟩
          · cases s <;> simp at hs
          · cases xs <;> simp at hs
        | succ n ih =>
          refine ⟨fun s v f hs r a ha => ?_, fun xs ws f hs r a ha => ?_⟩
          · cases s with
            | d x =>
              unfold OR at r
              rw [r.2] at ha
              cases ha
            | lst xs =>
              unfold OR at r
              obtain ⟨b, ws, f', e, q, ef, m⟩ := r
              rw [ef] at ha
              rcases List.mem_cons.mp ha with rfl | ha
              · rw [q]; exact fun z => nomatch z
              · exact ih.2 xs ws f' (by simp at hs; omega) m a ha
            | ins c ns xs =>
              unfold OR at r
              obtain ⟨b, C, dx, ws, f', e, ec, q, l, ef, m⟩ := r
              rw [ef] at ha
              rcases List.mem_cons.mp ha with rfl | ha
              · rw [q]; exact fun z => nomatch z
              · exact ih.2 xs ws f' (by simp at hs; omega) m a ha
            | dk ks xs =>
              unfold OR at r
              obtain ⟨b, ws, f', e, q, l, ef, m⟩ := r
              rw [ef] at ha
              rcases List.mem_cons.mp ha with rfl | ha
              · rw [q]; exact fun z => nomatch z
              · exact ih.2 xs ws f' (by simp at hs; omega) m a ha
          · cases xs with
            | nil =>
              unfold ORs at r
              rw [r.2] at ha
              cases ha
            | cons x xs =>
              unfold ORs at r
              obtain ⟨w, ws', f1, f2, e, ef, q, m⟩ := r
              rw [ef] at ha
              rcases List.mem_append.mp ha with ha | ha
              · exact ih.1 x w f1 (by simp at hs; omega) q a ha
              · exact ih.2 xs ws' f2 (by simp at hs; omega) m a ha
      exact ⟨fun s v f r => (both _).1 s v f (Nat.le_refl _) r, fun xs ws f r => (both _).2 xs ws f (Nat.le_refl _) r⟩
    have keyE : ∀ (A : Addr → Prop) (ρ : Env) (σ : St) (f : List Addr), OE K cl A H ρ σ f → ∀ a ∈ f, H a ≠ none := by
      intro A ρ
      induction ρ with
      | nil =>
        intro σ f r a ha
        unfold OE at r
        rw [r.2] at ha
        cases ha
      | cons s ρ ih =>
        intro σ f r a ha
        unfold OE at r
        obtain ⟨v, σ', f1, f2, e, ef, q, m⟩ := r
        rw [ef] at ha
        rcases List.mem_append.mp ha with ha | ha
        · cases s with
          | none =>
            have q' : f1 = [] := q
            rw [q'] at ha
            cases ha
          | some s =>
            obtain ⟨w, _, q⟩ := q
            exact (key A).1 s w f1 q a ha
        · exact ih σ' f2 m a ha
    have hn : H a ≠ none := by
      rw [e] at h
      rcases List.mem_append.mp h with h | h
      · exact keyE _ ρ σ fe pp a h
      · exact (key _).2 ts ws ft q a h
    exact hn
/-- a new thing that nobody owns -/
theorem Rel.alloc {p : Addr} {o : HO} (r : Rel K cl O ro ρ ts σ ws f H) (n : H p = none) : Ext f H f (upd H p o) ∧ Rel K cl O ro ρ ts σ ws f (upd H p o) ∧ ¬ Av O f p ∧ Stp (Av O f) H (Av O f) (upd H p o) := by
  have keep : ∀ a u, H a = some u → upd H p o a = some u := fun a u q => by rw [upd_ne (ne_of_none q n)]; exact q
  have hf : ∀ a ∈ f, (upd H p o) a = H a := by
    intro a h
    have hn := r.has a h
    exact upd_ne fun z => hn (by rw [z]; exact n)
  have st : Stp (Av O f) H (Av O f) (upd H p o) := fun a u q m => ⟨keep a u q, m⟩
  have np : ¬ Av O f p := by
    intro h
    obtain ⟨fe, ft, e, c, d, oo, pp, q, z⟩ := r
    rcases h with h | h
    · exact oo p h n
    · have := hf p h
      rw [upd_same, n] at this
      cases this
  refine ⟨⟨fun a u q _ => keep a u q, fun a h => .inl h⟩, ?_, np, st⟩
  obtain ⟨fe, ft, e, c, d, oo, pp, q, z⟩ := r
  refine ⟨fe, ft, e, c, d, fun a h => ?_, OE.stp st _ _ _ (fun a h => hf a (by rw [e]; exact List.mem_append_left _ h)) pp, ORs.stp st _ _ _ (fun a h => hf a (by rw [e]; exact List.mem_append_right _ h)) q, z⟩
  cases w : H a with
  | none => exact absurd w (oo a h)
  | some u =>
    rw [keep a u w]
    exact fun z => nomatch z
/-- several temporaries frozen -/
theorem Rel.unsplit {ss : List SV} {vs : List V} (hl : ss.length = vs.length) (r : Rel K cl O ro ρ (ss ++ ts) σ (vs ++ ws) f H) :
    ∃ fe fs ft, f = fe ++ (fs ++ ft) ∧ (∀ a, f.count a ≤ 1) ∧ (∀ a ∈ f, ¬ O a) ∧ (∀ a, O a → H a ≠ none) ∧ OE K cl (Av O f) H ρ σ fe ∧ ORs K cl (Av O f) H ss vs fs ∧ ORs K cl (Av O f) H ts ws ft ∧ ∀ p ∈ ro, σ[p.1]? = some (some p.2) := by
  obtain ⟨fe, ft, e, c, d, o, p, q, z⟩ := r
  obtain ⟨w1, w2, f1, f2, e1, e2, q1, q2⟩ := ORs.split q
  have l1 := q1.len
  obtain ⟨rfl, rfl⟩ := List.append_inj e1 (by omega)
  exact ⟨fe, f1, f2, by rw [e, e2], c, d, o, p, q1, q2, z⟩
theorem Rel.freezes {ss : List SV} {vs : List V} (hl : ss.length = vs.length) (r : Rel K cl O ro ρ (ss ++ ts) σ (vs ++ ws) f H) :
    ∃ f', Ext f H f' H ∧ Rel K cl O ro ρ ts σ ws f' H ∧ VRs K cl (Av O f') H (frzs ss) vs := by
  obtain ⟨fe, fs, ft, e, c, d, o, p, q1, q2, z⟩ := Rel.unsplit hl r
  subst e
  have hc : ∀ a, (fe ++ ft).count a ≤ (fe ++ (fs ++ ft)).count a := fun a => by simp only [List.count_append]; omega
  have sub : ∀ a ∈ fe ++ ft, a ∈ fe ++ (fs ++ ft) := fun a h => by
    rw [mem_of_count] at h ⊢
    exact Nat.lt_of_lt_of_le h (hc a)
  have st : Stp (Av O (fe ++ (fs ++ ft))) H (Av O (fe ++ ft)) H := Stp.less sub
  have fz : VRs K cl (Av O (fe ++ ft)) H (frzs ss) vs := by
    refine ORs.frz (fun a n m => n (m.imp id (sub a))) ss vs fs (fun a h m => ?_) q1
    rcases m with m | m
    · exact d a (by simp only [List.mem_append]; exact .inr (.inl h)) m
    · have := c a
      simp only [List.count_append] at this
      rw [mem_of_count] at h m
      simp only [List.count_append] at m
      omega
  obtain ⟨x, y⟩ := Rel.less (ro := ro) c d o hc (OE.stp st _ _ _ (fun _ _ => rfl) p) (ORs.stp st _ _ _ (fun _ _ => rfl) q2) z
  exact ⟨_, x, y, fz⟩
theorem ORs.app {xs ys : List SV} {us vs : List V} {f1 f2 : List Addr} (h : ORs K cl A H xs us f1) (g : ORs K cl A H ys vs f2) : ORs K cl A H (xs ++ ys) (us ++ vs) (f1 ++ f2) := ORs.join h g
/-- the last item evaluated goes behind the others -/
theorem Rel.rot {ss : List SV} {vs : List V} (hl : ss.length = vs.length) (r : Rel K cl O ro ρ (ss ++ s :: ts) σ (vs ++ v :: ws) f H) : ∃ f', Ext f H f' H ∧ Rel K cl O ro ρ ((s :: ss) ++ ts) σ ((v :: vs) ++ ws) f' H := by
  obtain ⟨fe, fs, ft, e, c, d, o, p, q1, q2, z⟩ := Rel.unsplit hl r
  subst e
  unfold ORs at q2
  obtain ⟨w, ws', f1, f2, e, ef, q3, q4⟩ := q2
  cases e
  subst ef
  have hc : ∀ a, (fe ++ (f1 ++ (fs ++ f2))).count a ≤ (fe ++ (fs ++ (f1 ++ f2))).count a := fun a => by simp only [List.count_append]; omega
  have st : Stp (Av O (fe ++ (fs ++ (f1 ++ f2)))) H (Av O (fe ++ (f1 ++ (fs ++ f2)))) H := Stp.less fun a h => by
    rw [mem_of_count] at h ⊢
    exact Nat.lt_of_lt_of_le h (hc a)
  refine ⟨_, Rel.less c d o hc (OE.stp st _ _ _ (fun _ _ => rfl) p) ?_ z⟩
  rw [List.cons_append, List.cons_append]
  unfold ORs
  exact ⟨v, vs ++ ws, f1, fs ++ f2, rfl, rfl, OR.stp st _ _ _ (fun _ _ => rfl) q3, ORs.join (ORs.stp st _ _ _ (fun _ _ => rfl) q1) (ORs.stp st _ _ _ (fun _ _ => rfl) q4)⟩
/-- a new object that is owned, made of the last temporaries -/
theorem Rel.newO {ss : List SV} {vs : List V} {p : Addr} {ob : HO} {S1 : SV} (hl : ss.length = vs.length) (r : Rel K cl O ro ρ (ss ++ ts) σ (vs ++ ws) f H) (n : H p = none)
    (mk : ∀ A' H' fs, H' p = some ob → ORs K cl A' H' ss vs fs → OR K cl A' H' S1 (.ref p) (p :: fs)) :
    ∃ f', Ext f H f' (upd H p ob) ∧ Rel K cl O ro ρ (S1 :: ts) σ (.ref p :: ws) f' (upd H p ob) := by
  obtain ⟨e1, r1, np, _⟩ := r.alloc (o := ob) n
  obtain ⟨fe, fs, ft, e, c, d, o, pp, q1, q2, z⟩ := Rel.unsplit hl r1
  subst e
  have pn : p ∉ fe ++ (fs ++ ft) := fun h => np (.inr h)
  have st : Stp (Av O (fe ++ (fs ++ ft))) H (Av O (fe ++ ((p :: fs) ++ ft))) (upd H p ob) := fun a u q m => by
    refine ⟨e1.1 a u q (fun z => m (.inr z)), fun h => ?_⟩
    rcases h with h | h
    · exact m (.inl h)
    · simp only [List.mem_append, List.mem_cons] at h
      rcases h with h | (h | h) | h
      · exact m (.inr (by simp only [List.mem_append]; exact .inl h))
      · subst h; rw [n] at q; cases q
      · exact m (.inr (by simp only [List.mem_append]; exact .inr (.inl h)))
      · exact m (.inr (by simp only [List.mem_append]; exact .inr (.inr h)))
  obtain ⟨fe0, fs0, ft0, e0, c0, d0, o0, pp0, q10, q20, z0⟩ := Rel.unsplit hl r
  have same : ∀ a ∈ fe0 ++ (fs0 ++ ft0), (upd H p ob) a = H a := fun a h => upd_ne fun z => pn (by rw [← z, e0]; exact h)
  rw [e0] at pp0 q10 q20
  have st0 : Stp (Av O (fe0 ++ (fs0 ++ ft0))) H (Av O (fe0 ++ ((p :: fs0) ++ ft0))) (upd H p ob) := fun a u q m => by
    refine ⟨e1.1 a u q (fun z => m (.inr (by rw [← e0]; exact z))), fun h => ?_⟩
    rcases h with h | h
    · exact m (.inl h)
    · simp only [List.mem_append, List.mem_cons] at h
      rcases h with h | (h | h) | h
      · exact m (.inr (by simp only [List.mem_append]; exact .inl h))
      · subst h; rw [n] at q; cases q
      · exact m (.inr (by simp only [List.mem_append]; exact .inr (.inl h)))
      · exact m (.inr (by simp only [List.mem_append]; exact .inr (.inr h)))
  refine ⟨fe0 ++ ((p :: fs0) ++ ft0), ⟨e1.1, fun a h => ?_⟩, fe0, (p :: fs0) ++ ft0, rfl, fun a => ?_, fun a h => ?_, o, OE.stp st0 _ _ _ (fun a h => same a (by simp only [List.mem_append]; exact .inl h)) pp0, ?_, z0⟩
  · rw [e0]
    simp only [List.mem_append, List.mem_cons] at h ⊢
    rcases h with h | (h | h) | h
    · exact .inl (.inl h)
    · right; rw [h]; exact n
    · exact .inl (.inr (.inl h))
    · exact .inl (.inr (.inr h))
  · have h1 := c0 a
    rw [e0] at h1
    simp only [List.count_append, List.count_cons] at h1 ⊢
    by_cases ha : p = a
    · subst ha
      have : (fe ++ (fs ++ ft)).count p = 0 := List.count_eq_zero.mpr pn
      rw [e0] at this
      simp only [List.count_append] at this
      simp
      omega
    · have : (p == a) = false := by simpa using ha
      rw [this]
      simp
      omega
  · simp only [List.mem_append, List.mem_cons] at h
    rcases h with h | (h | h) | h
    · exact d0 a (by rw [e0]; simp only [List.mem_append]; exact .inl h)
    · rw [h]; exact fun z => np (.inl z)
    · exact d0 a (by rw [e0]; simp only [List.mem_append]; exact .inr (.inl h))
    · exact d0 a (by rw [e0]; simp only [List.mem_append]; exact .inr (.inr h))
  · refine ORs.cons ?_ (ORs.stp st0 _ _ _ (fun a h => same a (by simp only [List.mem_append]; exact .inr (.inr h))) q20)
    exact mk _ _ fs0 upd_same (ORs.stp st0 _ _ _ (fun a h => same a (by simp only [List.mem_append]; exact .inr (.inl h))) q10)
/-- a new list that is owned -/
theorem Rel.newLst {ss : List SV} {vs : List V} {p : Addr} (hl : ss.length = vs.length) (r : Rel K cl O ro ρ (ss ++ ts) σ (vs ++ ws) f H) (n : H p = none) :
    ∃ f', Ext f H f' (upd H p (.lst vs)) ∧ Rel K cl O ro ρ (.lst ss :: ts) σ (.ref p :: ws) f' (upd H p (.lst vs)) :=
  Rel.newO hl r n fun A' H' fs e q => by
    unfold OR
    exact ⟨p, vs, fs, rfl, e, rfl, q⟩
/-- the empty dict on top is filled -/
theorem Rel.fillDk {ks : List Kx} {xs : List D} {vs : List V} {p : Addr} (hk : ks.length = vs.length) (r : Rel K cl O ro ρ (.dk [] [] :: ts) σ (.ref p :: ws) f H) (m : VRs K cl (Av O f) H xs vs) :
    H p = some (.dK []) ∧ ExW f H f (upd H p (.dK (zipK ks vs))) ∧ Rel K cl O ro ρ (.dk ks (xs.map .d) :: ts) σ (.ref p :: ws) f (upd H p (.dK (zipK ks vs))) := by
  obtain ⟨fe, ft, e, c, d, o, pp, q, z⟩ := r
  unfold ORs at q
  obtain ⟨w, ws', f1, f2, e0, ef, q1, q2⟩ := q
  cases e0
  subst ef
  unfold OR at q1
  obtain ⟨a, zs, fa, ea, hH, hl, ef, q3⟩ := q1
  cases ea
  unfold ORs at q3
  obtain ⟨rfl, rfl⟩ := q3
  subst ef
  subst e
  have hH : H p = some (.dK []) := hH
  have cp := c p
  simp only [List.count_append, List.count_cons_self] at cp
  have np : p ∉ fe ∧ p ∉ f2 := by
    refine ⟨?_, ?_⟩ <;> (intro h; rw [mem_of_count] at h; omega)
  have inp : p ∈ fe ++ ([p] ++ f2) := by simp
  have st : Stp (Av O (fe ++ ([p] ++ f2))) H (Av O (fe ++ ([p] ++ f2))) (upd H p (.dK (zipK ks vs))) := fun b u h n => by
    refine ⟨?_, n⟩
    rw [upd_ne fun z => n (.inr (by rw [z]; exact inp))]
    exact h
  have same : ∀ {g : List Addr}, p ∉ g → ∀ b ∈ g, upd H p (.dK (zipK ks vs)) b = H b := fun hg b h => upd_ne fun z => hg (by rw [← z]; exact h)
  refine ⟨hH, ⟨fun b u h n => ?_, fun b h => .inl h⟩, fe, [p] ++ f2, rfl, c, d, fun b h => ?_, OE.stp st _ _ _ (same np.1) pp, ORs.cons ?_ (ORs.stp st _ _ _ (same np.2) q2), z⟩
  · rw [upd_ne fun z => n (by rw [z]; exact inp)]
    exact h
  · by_cases e : b = p
    · rw [e, upd_same]; exact fun z => nomatch z
    · rw [upd_ne e]; exact o b h
  · unfold OR
    exact ⟨p, vs, [], rfl, upd_same, hk, rfl, ORs.stp st _ _ _ (fun b h => by cases h) (ORs.ofD m)⟩
/-- a new dict that is owned -/
theorem Rel.newDk {ks : List Kx} {ss : List SV} {vs : List V} {p : Addr} (hl : ss.length = vs.length) (hk : ks.length = vs.length) (r : Rel K cl O ro ρ (ss ++ ts) σ (vs ++ ws) f H) (n : H p = none) :
    ∃ f', Ext f H f' (upd H p (.dK (zipK ks vs))) ∧ Rel K cl O ro ρ (.dk ks ss :: ts) σ (.ref p :: ws) f' (upd H p (.dK (zipK ks vs))) :=
  Rel.newO hl r n fun A' H' fs e q => by
    unfold OR
    exact ⟨p, vs, fs, rfl, e, hk, rfl, q⟩
end
end Kn

set_option Elab.async false
set_option linter.all false
set_option maxRecDepth 100000
set_option maxHeartbeats 4000000
/-! Tm0: a tuple told no times, once. -/
namespace Kn
open PySem PySem.Spec PyProof.Rows L2
theorem tuple_mul1 (l : Addr) (items : Array Value) (n : Nat) (dd : Option Addr) (sl : Array (Option Value)) (u : Tok) :
    Meets (Builtin.«tuple.__mul__» ⟨[.ref l, .int 1 u], []⟩) (fun _ R s => s.heap.get? l = some { cls := .type "tuple", dict := dd, data := .seq items n, slots := sl } ∧ R (.ok (.ret (Value.ref l))) s) :=
  .of_wp fun prog w A R s h => by
    obtain ⟨hp, g, d, tk, os⟩ := s
    obtain ⟨hl, h⟩ := h
    have f1 := AutoSeq1.idx_int
    have c1 : (items.isEmpty || (1 : Int) == 1) = true := by simp
    wp_walk using wpAny_loadPart' hl
    repeat (first
      | (refine wpAny_ite_true (decide_eq_true c1) ?_; wp_walk using wpAny_loadPart' hl)
      | (refine wpAny_ite_true (decide_eq_true rfl) ?_; wp_walk using wpAny_loadPart' hl))
    exact ⟨_, rfl, h⟩
theorem tuple_mul0 (l : Addr) (items : Array Value) (n : Nat) (dd : Option Addr) (sl : Array (Option Value)) (x : Int) (u : Tok) (c0 : (decide (x < -(2 ^ 63)) || decide (x ≥ 2 ^ 63)) = false) (c1 : (items.isEmpty || x == 1) = false) (c2 : (decide (x ≤ 0) || items.isEmpty) = true) :
    Meets (Builtin.«tuple.__mul__» ⟨[.ref l, .int x u], []⟩) (fun _ R s => s.heap.get? l = some { cls := .type "tuple", dict := dd, data := .seq items n, slots := sl } ∧
      R (.ok (.ret (Value.ref s.heap.objs.size))) { s with heap := s.heap.push { cls := Value.type "tuple", data := Data.seq #[] }, toks := s.toks }) :=
  .of_wp fun prog w A R s h => by
    obtain ⟨hp, g, d, tk, os⟩ := s
    obtain ⟨hl, h⟩ := h
    have f1 := AutoSeq1.idx_int
    wp_walk using wpAny_loadPart' hl
    repeat (first
      | (refine wpAny_ite_false (decide_eq_false (by rw [c0]; exact Bool.false_ne_true)) ?_; wp_walk using wpAny_loadPart' hl)
      | (refine wpAny_ite_false (decide_eq_false (by rw [c1]; exact Bool.false_ne_true)) ?_; wp_walk using wpAny_loadPart' hl)
      | (refine wpAny_ite_true (decide_eq_true c2) ?_; wp_walk using wpAny_loadPart' hl))
    exact ⟨_, rfl, h⟩
def rRep1 (K : PySem.W.Frag) : R2 := fun x y H Q => ∃ l k xs, x = .ref l ∧ y = .int k ∧ SqT K H l xs ∧ k = 1 ∧ Q (.ref l) H
def rRep0 (K : PySem.W.Frag) : R2 := fun x y H Q => ∃ l k xs, x = .ref l ∧ y = .int k ∧ SqT K H l xs ∧ xs ≠ [] ∧ k ≤ 0 ∧ -1000 ≤ k ∧ ∀ p, H p = none → Q (.ref p) (upd H p (.tup []))
section
variable {X : Cx}
theorem op_rep1 : OpR X (binaryOp .Mult) (rRep1 X.K) := by
  intro pins s σ H x y v u Q I rx ry h
  obtain ⟨l, k, xs, rfl, rfl, hT, rfl, q⟩ := h
  cases rx
  obtain ⟨t, rfl⟩ := ry
  obtain ⟨its, r, ⟨⟨cls, dd, data, sl⟩, ho, hc, n, hd⟩, hs⟩ := I.tuple hT
  simp only at hc hd
  subst hc hd
  refine wpAny_binaryOp_repeat_ref (T := "tuple") (U := "int") (by decide) ⟨_, ho, rfl⟩ (fun s' => typeIs_int s' 1 t) noFill_tuple_mul F.fills_int_mul F.slot_int_rmul repeat_tuple F.slot_int_index.lookup
    (call_meets F.slot_int_rmul (typeIs_int s 1 t) F.entry_int_rmul (F.args_int_rmul_2 _ _) (int_rmul_tuple 1 t l its.toArray n dd sl)
      ⟨ho, rfl, ⟨_, ho, rfl⟩, call_meets F.slot_tuple_mul ⟨_, ho, rfl⟩ F.entry_tuple_mul (F.args_tuple_mul_2 _ _) (tuple_mul1 l its.toArray n dd sl t) ⟨ho, ?_⟩⟩)
  exact ⟨.ref l, H, I, rfl, q⟩
theorem op_rep0 : OpR X (binaryOp .Mult) (rRep0 X.K) := by
  intro pins s σ H x y v u Q I rx ry h
  obtain ⟨l, k, xs, rfl, rfl, hT, hne, h1, h2, q⟩ := h
  cases rx
  obtain ⟨t, rfl⟩ := ry
  obtain ⟨its, r, ⟨⟨cls, dd, data, sl⟩, ho, hc, n, hd⟩, hs⟩ := I.tuple hT
  simp only at hc hd
  subst hc hd
  have hle : its.length = xs.length := r.length.symm
  have hn : its ≠ [] := fun e => hne (by
    rw [e] at hle
    exact List.eq_nil_of_length_eq_zero hle.symm)
  have hi : its.toArray.isEmpty = false := by
    cases its with
    | nil => exact absurd rfl hn
    | cons a b => rfl
  have c0 : (decide (k < -(2 ^ 63)) || decide (k ≥ 2 ^ 63)) = false := by
    rw [decide_eq_false (by omega), decide_eq_false (by omega)] <;> rfl
  have c1 : (its.toArray.isEmpty || k == 1) = false := by
    rw [hi, Bool.false_or]
    exact beq_eq_false_iff_ne.mpr (by omega)
  have c2 : (decide (k ≤ 0) || its.toArray.isEmpty) = true := by
    rw [decide_eq_true h1, Bool.true_or]
  refine wpAny_binaryOp_repeat_ref (T := "tuple") (U := "int") (by decide) ⟨_, ho, rfl⟩ (fun s' => typeIs_int s' k t) noFill_tuple_mul F.fills_int_mul F.slot_int_rmul repeat_tuple F.slot_int_index.lookup
    (call_meets F.slot_int_rmul (typeIs_int s k t) F.entry_int_rmul (F.args_int_rmul_2 _ _) (int_rmul_tuple k t l its.toArray n dd sl)
      ⟨ho, rfl, ⟨_, ho, rfl⟩, call_meets F.slot_tuple_mul ⟨_, ho, rfl⟩ F.entry_tuple_mul (F.args_tuple_mul_2 _ _) (tuple_mul0 l its.toArray n dd sl k t c0 c1 c2) ⟨ho, ?_⟩⟩)
  refine ⟨.ref s.heap.objs.size, _, I.laid (t' := s.toks) (o := .tup []) (fun b ob q => Heap.get?_push_of_some _ q) (Nat.le_refl _) ?_, rfl, q _ (I.hok.fresh (Nat.le_refl _))⟩
  exact ⟨by rw [sizeLine_eq]; decide, [], .nil, IsTup.new _ _⟩
end
theorem VRs.rep {K : PySem.W.Frag} {cl : String → Option Addr} {A : Addr → Prop} {H : Hp} {xs : List D} {ws : List V} : ∀ n : Nat, VRs K cl A H xs ws → VRs K cl A H (List.replicate n xs).flatten (List.replicate n ws).flatten
  | 0, _ => VRs.nil
  | n + 1, h => by
    rw [List.replicate_succ, List.replicate_succ, List.flatten_cons, List.flatten_cons]
    exact VRs.app h (VRs.rep n h)
end Kn

set_option Elab.async false
set_option linter.all false
set_option maxRecDepth 100000
set_option maxHeartbeats 4000000
/-! Ops: an outcome's promise; operators of data are the model's. -/
namespace Kn
open PySem L2

section
variable (K : PySem.W.Frag) (cl : String → Option Addr) (O : Addr → Prop) (ro : List (Nat × V)) (W : WX)
/-- an exception as data -/
def XR (A : Addr → Prop) (H : Hp) (x : Xc) (c : Value) (d : Option Addr) : Prop :=
  ∃ C dd fs ws, cl x.c = some C ∧ c = .ref C ∧ d = some dd ∧ H dd = some (.xd fs) ∧ ¬ A dd ∧ x.ns.length = ws.length ∧ VRs K cl A H x.xs ws ∧ ∀ n, fs.lookup n = (zipS x.ns ws).lookup n
/-- what an outcome promises, upon the temporaries ts -/
def GE (ts : List SV) (σ : St) (ws : List V) (f : List Addr) (H : Hp) (r : R SV) (Q : VK) : Prop := match r with
  | .ok s ρ' => ∀ v H' f', Ext f H f' H' → Rel K cl O ro ρ' (s :: ts) σ (v :: ws) f' H' → Q v H'
  | .exc x ρ' => ∀ c d H' f', Ext f H f' H' → Rel K cl O ro ρ' ts σ ws f' H' → XR K cl (Av O f') H' x c d → W c d σ H'
  | .no => False
def tE (g : Env → R SV) : TE := fun σ H Q => ∃ ρ ts ws f, Rel K cl O ro ρ ts σ ws f H ∧ GE K cl O ro W ts σ ws f H (g ρ) Q
/-- behind one value, two, three -/
def tK1 (h : SV → Env → R SV) (v : V) (σ : St) (H : Hp) (Q : VK) : Prop := ∃ s ρ ts ws f, Rel K cl O ro ρ (s :: ts) σ (v :: ws) f H ∧ GE K cl O ro W ts σ ws f H (h s ρ) Q
def tK2 (h : SV → SV → Env → R SV) (v u : V) (σ : St) (H : Hp) (Q : VK) : Prop := ∃ s s' ρ ts ws f, Rel K cl O ro ρ (s' :: s :: ts) σ (u :: v :: ws) f H ∧ GE K cl O ro W ts σ ws f H (h s s' ρ) Q
def tK3 (h : SV → SV → SV → Env → R SV) (v u w : V) (σ : St) (H : Hp) (Q : VK) : Prop := ∃ s s' s'' ρ ts ws f, Rel K cl O ro ρ (s'' :: s' :: s :: ts) σ (w :: u :: v :: ws) f H ∧ GE K cl O ro W ts σ ws f H (h s s' s'' ρ) Q
end
section
variable {K : PySem.W.Frag} {cl : String → Option Addr} {O : Addr → Prop} {ro : List (Nat × V)} {W : WX} {ρ : Env} {ts : List SV} {σ : St} {ws : List V} {f f' : List Addr} {H H' : Hp} {s s' : SV} {v u : V} {x : D} {A A' : Addr → Prop} {r : R SV} {Q : VK}
theorem GE.ext (e : Ext f H f' H') (h : GE K cl O ro W ts σ ws f H r Q) : GE K cl O ro W ts σ ws f' H' r Q := by
  cases r with
  | ok s ρ' => exact fun v H2 f2 e2 r2 => h v H2 f2 (e.trans e2) r2
  | exc x ρ' => exact fun c d H2 f2 e2 r2 => h c d H2 f2 (e.trans e2) r2
  | no => exact h
theorem tE.bind {g : Env → R SV} {h : SV → Env → R SV} (q : tE K cl O ro W (fun ρ => (g ρ).bind h) σ H Q) : tE K cl O ro W g σ H fun v H1 => tK1 K cl O ro W h v σ H1 Q := by
  obtain ⟨ρ, ts, ws, f, r, q⟩ := q
  dsimp only at q
  refine ⟨ρ, ts, ws, f, r, ?_⟩
  cases e : g ρ with
  | ok s ρ1 =>
    rw [e] at q
    exact fun v H1 f1 e1 r1 => ⟨s, ρ1, ts, ws, f1, r1, GE.ext e1 q⟩
  | exc x ρ1 =>
    rw [e] at q
    exact q
  | no =>
    rw [e] at q
    exact q
theorem tK1.bind {g : Env → R SV} {h : SV → SV → Env → R SV} (q : tK1 K cl O ro W (fun x ρ => (g ρ).bind (h x)) v σ H Q) : tE K cl O ro W g σ H fun u H1 => tK2 K cl O ro W h v u σ H1 Q := by
  obtain ⟨s, ρ, ts, ws, f, r, q⟩ := q
  dsimp only at q
  refine ⟨ρ, s :: ts, v :: ws, f, r, ?_⟩
  cases e : g ρ with
  | ok s1 ρ1 =>
    rw [e] at q
    exact fun u H1 f1 e1 r1 => ⟨s, s1, ρ1, ts, ws, f1, r1, GE.ext e1 q⟩
  | exc x ρ1 =>
    rw [e] at q
    intro c d H' f' e1 r1 xr
    obtain ⟨f2, e2, r2⟩ := r1.pop
    have q' : ∀ c d H' f', Ext f H f' H' → Rel K cl O ro ρ1 ts σ ws f' H' → XR K cl (Av O f') H' x c d → W c d σ H' := q
    refine q' c d H' f2 (e1.trans e2) r2 ?_
    obtain ⟨C, dd, fs, zs, a1, a2, a3, a4, a0, a5, a6, a7⟩ := xr
    refine ⟨C, dd, fs, zs, a1, a2, a3, a4, ((Stp.ext e2 (fun _ h => h) (fun a h => .inl h)) dd _ a4 a0).2, a5, VRs.stp (Stp.ext e2 (fun _ h => h) (fun a h => .inl h)) _ _ a6, a7⟩
  | no =>
    rw [e] at q
    exact q
theorem tK2.bind {g : Env → R SV} {h : SV → SV → SV → Env → R SV} (q : tK2 K cl O ro W (fun x y ρ => (g ρ).bind (h x y)) v u σ H Q) : tE K cl O ro W g σ H fun w H1 => tK3 K cl O ro W h v u w σ H1 Q := by
  obtain ⟨s, s2, ρ, ts, ws, f, r, q⟩ := q
  dsimp only at q
  refine ⟨ρ, s2 :: s :: ts, u :: v :: ws, f, r, ?_⟩
  cases e : g ρ with
  | ok s1 ρ1 =>
    rw [e] at q
    exact fun u H1 f1 e1 r1 => ⟨s, s2, s1, ρ1, ts, ws, f1, r1, GE.ext e1 q⟩
  | exc x ρ1 =>
    rw [e] at q
    intro c d H' f' e1 r1 xr
    obtain ⟨f2, e2, r2⟩ := r1.pop
    obtain ⟨f3, e3, r3⟩ := r2.pop
    have q' : ∀ c d H' f', Ext f H f' H' → Rel K cl O ro ρ1 ts σ ws f' H' → XR K cl (Av O f') H' x c d → W c d σ H' := q
    refine q' c d H' f3 ((e1.trans e2).trans e3) r3 ?_
    obtain ⟨C, dd, fs, zs, a1, a2, a3, a4, a0, a5, a6, a7⟩ := xr
    refine ⟨C, dd, fs, zs, a1, a2, a3, a4, ((Stp.ext (e2.trans e3) (fun _ h => h) (fun a h => .inl h)) dd _ a4 a0).2, a5, VRs.stp (Stp.ext (e2.trans e3) (fun _ h => h) (fun a h => .inl h)) _ _ a6, a7⟩
  | no =>
    rw [e] at q
    exact q
/-- the values as data -/
theorem tK1.frz {h : SV → Env → R SV} (q : tK1 K cl O ro W h v σ H Q) : ∃ s ρ ts ws f, VR K cl (Av O f) H (frz s) v ∧ Rel K cl O ro ρ ts σ ws f H ∧ GE K cl O ro W ts σ ws f H (h s ρ) Q := by
  obtain ⟨s, ρ, ts, ws, f, r, q⟩ := q
  obtain ⟨f1, e1, r1⟩ := r.freeze
  have t1 := r1.top
  obtain ⟨f2, e2, r2⟩ := r1.pop
  exact ⟨s, ρ, ts, ws, f2, VR.stp (Stp.ext e2 (fun _ h => h) fun a h => .inl h) _ _ t1, r2, GE.ext (e1.trans e2) q⟩
theorem tK2.frz {h : SV → SV → Env → R SV} (q : tK2 K cl O ro W h v u σ H Q) :
    ∃ s s' ρ ts ws f, VR K cl (Av O f) H (frz s) v ∧ VR K cl (Av O f) H (frz s') u ∧ Rel K cl O ro ρ ts σ ws f H ∧ GE K cl O ro W ts σ ws f H (h s s' ρ) Q := by
  obtain ⟨s, s', ρ, ts, ws, f, r, q⟩ := q
  obtain ⟨f1, e1, r1, z⟩ := Rel.freezes (ss := [s', s]) (vs := [u, v]) rfl r
  simp only [frzs, VRs] at z
  obtain ⟨w, ws', ee, h1, w2, ws2, ee2, h3, _⟩ := z
  cases ee
  cases ee2
  exact ⟨s, s', ρ, ts, ws, f1, h3, h1, r1, GE.ext e1 q⟩
theorem tK3.frz {h : SV → SV → SV → Env → R SV} {w : V} (q : tK3 K cl O ro W h v u w σ H Q) :
    ∃ s s' s'' ρ ts ws f, VR K cl (Av O f) H (frz s) v ∧ VR K cl (Av O f) H (frz s') u ∧ VR K cl (Av O f) H (frz s'') w ∧ Rel K cl O ro ρ ts σ ws f H ∧ GE K cl O ro W ts σ ws f H (h s s' s'' ρ) Q := by
  obtain ⟨s, s', s'', ρ, ts, ws, f, r, q⟩ := q
  obtain ⟨f1, e1, r1, z⟩ := Rel.freezes (ss := [s'', s', s]) (vs := [w, u, v]) rfl r
  simp only [frzs, VRs] at z
  obtain ⟨w, ws', ee, h1, w2, ws2, ee2, h3, w3, ws3, ee3, h5, _⟩ := z
  cases ee
  cases ee2
  cases ee3
  exact ⟨s, s', s'', ρ, ts, ws, f1, h5, h3, h1, r1, GE.ext e1 q⟩
/-! ### ends -/
theorem fin_d (r : Rel K cl O ro ρ ts σ ws f H) (h : VR K cl (Av O f) H x v) (g : GE K cl O ro W ts σ ws f H (.ok (.d x) ρ) Q) : Q v H := g v H f (Ext.refl f H) (r.push h)
theorem fin_tup {xs : List D} {vs : List V} {p : Addr} (r : Rel K cl O ro ρ ts σ ws f H) (h : VRs K cl (Av O f) H xs vs) (n : H p = none) (g : GE K cl O ro W ts σ ws f H (.ok (.d (.tup xs)) ρ) Q) : Q (.ref p) (upd H p (.tup vs)) := by
  obtain ⟨e, r1, np, st⟩ := r.alloc (o := .tup vs) n
  refine g _ _ f e (r1.push ?_)
  unfold VR
  exact ⟨p, vs, rfl, upd_same, np, VRs.stp st _ _ h⟩
theorem fin_lst {xs : List D} {vs : List V} {p : Addr} (r : Rel K cl O ro ρ ts σ ws f H) (h : VRs K cl (Av O f) H xs vs) (n : H p = none) (g : GE K cl O ro W ts σ ws f H (.ok (.lst (xs.map .d)) ρ) Q) : Q (.ref p) (upd H p (.lst vs)) := by
  have hl : (xs.map SV.d).length = vs.length := by rw [List.length_map]; exact h.len
  have r1 : Rel K cl O ro ρ (xs.map .d ++ ts) σ (vs ++ ws) f H := by
    obtain ⟨fe, ft, e, c, d, o, p, q, z⟩ := r
    refine ⟨fe, ft, e, c, d, o, p, ?_, z⟩
    have := ORs.join (ORs.ofD h) q
    rwa [List.nil_append] at this
  obtain ⟨f1, e1, r2⟩ := Rel.newLst hl r1 n
  exact g _ _ f1 e1 r2

/-! ### shapes of data -/
theorem VR.intE {i : Int} (h : VR K cl A H (.int i) v) : v = .int i := by unfold VR at h; exact h
theorem VR.blE {i : Bool} (h : VR K cl A H (.bl i) v) : v = .bl i := by unfold VR at h; exact h
theorem VR.nonE (h : VR K cl A H .non v) : v = .non := by unfold VR at h; exact h
theorem VR.strE {i : List Nat} (h : VR K cl A H (.str i) v) : v = .str (mkS i) := by unfold VR at h; exact h
theorem VR.lstE {xs : List D} (h : VR K cl A H (.lst xs) v) : ∃ a ws, v = .ref a ∧ H a = some (.lst ws) ∧ ¬ A a ∧ VRs K cl A H xs ws := by unfold VR at h; exact h
theorem VR.tupE {xs : List D} (h : VR K cl A H (.tup xs) v) : ∃ a ws, v = .ref a ∧ H a = some (.tup ws) ∧ ¬ A a ∧ VRs K cl A H xs ws := by unfold VR at h; exact h
theorem VR.argE {ns : List Int} (h : VR K cl A H (.arg ns) v) : ∃ a, v = .ref a ∧ SqL K H a (ns.map V.int) := by
  unfold VR at h
  obtain ⟨a, e, h⟩ := h
  refine ⟨a, e, ?_⟩
  rcases h with h | ⟨h, _⟩
  · rcases h with h | h
    · rcases h with h | ⟨o, h⟩ <;> cases h
    · exact .inr h
  · exact .inl h
theorem VR.insE {c : String} {ns : List String} {xs : List D} (h : VR K cl A H (.ins c ns xs) v) : ∃ a C dx ws, v = .ref a ∧ cl c = some C ∧ H a = some (.ins C dx (zipS ns ws)) ∧ ¬ A a ∧ ns.length = ws.length ∧ VRs K cl A H xs ws := by unfold VR at h; exact h
theorem VR.excE {c : String} {ns : List String} {xs : List D} (h : VR K cl A H (.exc c ns xs) v) : ∃ a C dd fs ws, v = .ref a ∧ cl c = some C ∧ H a = some (ExX C dd a) ∧ ¬ A a ∧ H dd = some (.xd fs) ∧ ¬ A dd ∧ ns.length = ws.length ∧ VRs K cl A H xs ws ∧ ∀ n, fs.lookup n = (zipS ns ws).lookup n := by unfold VR at h; exact h
theorem VR.dkE {ks : List Kx} {xs : List D} (h : VR K cl A H (.dk ks xs) v) : ∃ a ws, v = .ref a ∧ H a = some (.dK (zipK ks ws)) ∧ ¬ A a ∧ ks.length = ws.length ∧ VRs K cl A H xs ws := by unfold VR at h; exact h
theorem VR.int {i : Int} : VR K cl A H (.int i) (.int i) := by unfold VR; rfl
theorem VR.bl {i : Bool} : VR K cl A H (.bl i) (.bl i) := by unfold VR; rfl
theorem VR.non : VR K cl A H .non .non := by unfold VR; rfl
theorem VR.str {i : List Nat} : VR K cl A H (.str i) (.str (mkS i)) := by unfold VR; rfl
theorem VR.strS {z : Str} {i : List Nat} (h : z.cps.toList = i) : VR K cl A H (.str i) (.str z) := by
  unfold VR
  rw [← h, mkS_list]
end
theorem mkS_len (l : List Nat) : (mkS l).length = l.length := by simp [mkS, Str.length]
theorem mkS_app (l m : List Nat) : mkS l ++ mkS m = mkS (l ++ m) := by
  have h : (mkS l ++ mkS m).cps = (mkS (l ++ m)).cps := by
    show (mkS l).cps ++ (mkS m).cps = _
    simp [mkS]
  cases e : (mkS l ++ mkS m)
  rw [e] at h
  cases e2 : mkS (l ++ m)
  rw [e2] at h
  simp at h
  rw [h]
theorem mkS_inj {l m : List Nat} : mkS l = mkS m ↔ l = m := by simp [mkS]
theorem mkS_eq {l m : List Nat} : (mkS l == mkS m) = (l == m) := by
  by_cases h : l = m
  · subst h; simp
  · have : mkS l ≠ mkS m := fun z => h (mkS_inj.mp z)
    rw [beq_eq_false_iff_ne.mpr this, beq_eq_false_iff_ne.mpr h]
theorem lim_le {n : Nat} (h : n ≤ lim) : n ≤ sizeLine := Nat.le_trans h (by decide)
theorem lim_lt {n : Nat} (h : n < lim) : n < sizeLine := Nat.lt_of_lt_of_le h (by decide)

/-! ### + - * // % -/
def opOf : BOp → Operator
  | .add => .Add
  | .sub => .Sub
  | .mul => .Mult
  | .fdiv => .FloorDiv
  | .mod => .Mod
  | .pow => .Pow
theorem tooLong_small {n : Nat} (h : n ≤ 1000000) : Builtin.Str.tooLong n = false := by
  unfold Builtin.Str.tooLong
  simp only [decide_eq_false_iff_not]
  have : sizeLine = 16777216 := sizeLine_eq
  first
    | omega
    | (rw [this]; omega)
section
variable {X : Cx}
theorem op_mul_str : OpR X (binaryOp .Mult) (fun x y H Q => ∃ z n, x = .str z ∧ y = .int n ∧ MulOk z n ∧ Q (.str (Txt.mul z n)) H) := by
  intro pins s σ H x y v u Q I rx ry h
  obtain ⟨z, n, rfl, rfl, hok, q⟩ := h
  obtain ⟨t, rfl⟩ := rx
  obtain ⟨t', rfl⟩ := ry
  exact PySem.SB.mul hok fun t' k => ⟨.str _, H, I.tok _, ⟨_, rfl⟩, q⟩
def rBin (K : PySem.W.Frag) : BOp → R2
  | .add => fun x y H Q => rI0 (fun i j => .int (i + j)) x y H Q ∨ ((∃ i j, x = .str i ∧ y = .str j ∧ i.length + j.length ≤ sizeLine ∧ Q (.str (i ++ j)) H) ∨ (rCat x y H Q ∨ rCatA K x y H Q))
  | .sub => rI0 fun i j => .int (i - j)
  | .mul => fun x y H Q => rI CMul (fun i j => .int (i * j)) x y H Q ∨ ((∃ z n, x = .str z ∧ y = .int n ∧ MulOk z n ∧ Q (.str (Txt.mul z n)) H) ∨ (rRepT K x y H Q ∨ (rRep1 K x y H Q ∨ rRep0 K x y H Q)))
  | .fdiv => rI CDiv fun i j => .int (i / j)
  | .mod => rI (fun _ j => 0 < j) fun i j => .int (i % j)
  | .pow => rI CPow fun i j => .int (i ^ j.toNat)
theorem rBin_ok (o : BOp) : OpR X (binaryOp (opOf o)) (rBin X.K o) := by
  cases o with
  | add => exact op_add.or (op_add_str.or (op_cat.or op_catA))
  | sub => exact op_sub
  | mul => exact op_mul.or (op_mul_str.or (op_repT.or (op_rep1.or op_rep0)))
  | fdiv => exact op_fdiv
  | mod => exact op_mod
  | pow => exact op_pow
end
theorem foldl_cat (l : List Nat) : ∀ (n : Nat) (acc : Array Nat), ((List.replicate n l.toArray).foldl (· ++ ·) acc).toList = acc.toList ++ reps n l
  | 0, acc => by simp [reps]
  | n + 1, acc => by
    rw [List.replicate_succ, List.foldl_cons, foldl_cat l n]
    simp [reps, List.replicate_succ]
theorem mul_reps (l : List Nat) (n : Int) : (Txt.mul (mkS l) n).cps.toList = reps n.toNat l := by
  unfold Txt.mul
  by_cases h : n < 1
  · rw [if_pos h, show n.toNat = 0 by omega]
    rfl
  · rw [if_neg h]
    by_cases h2 : (n == 1 || (mkS l).length == 0) = true
    · rw [if_pos h2]
      rw [mkS_len] at h2
      simp only [Bool.or_eq_true, beq_iff_eq, List.length_eq_zero_iff] at h2
      rcases h2 with h2 | h2
      · subst h2
        simp [reps, mkS]
      · subst h2
        have key : ∀ k, reps k [] = [] := fun k => by
          unfold reps
          induction k with
          | zero => rfl
          | succ k ih => rw [List.replicate_succ, List.flatten_cons, ih]; rfl
        rw [key]
        simp [mkS]
    · rw [if_neg h2]
      show (((List.replicate n.toNat l.toArray).foldl (· ++ ·) #[])).toList = _
      rw [foldl_cat]
      simp
theorem mulOk_small {l : List Nat} {n : Int} (h1 : l.length ≤ 1000) (h2 : n ≤ 1000) (h3 : -(2 ^ 63) ≤ n) : MulOk (mkS l) n := by
  refine ⟨?_, fun h _ => ?_, fun h _ => ?_⟩
  · simp only [Bool.or_eq_false_iff, decide_eq_false_iff_not]
    omega
  · rw [mkS_len]
    have hn : 1 ≤ n := by omega
    have h5 : (1000 : Int) ≤ (2 ^ 63 - 1) / n := by
      refine Int.le_trans (show (1000 : Int) ≤ (2 ^ 63 - 1) / 1000 by decide) ?_
      exact Int.le_ediv_of_mul_le (by omega) (by
        have := Int.mul_le_mul_of_nonneg_left h2 (show (0 : Int) ≤ (2 ^ 63 - 1) / 1000 by decide)
        exact Int.le_trans this (by decide))
    omega
  · rw [mkS_len]
    refine tooLong_small ?_
    have : n.toNat ≤ 1000 := by omega
    exact Nat.mul_le_mul h1 this
section
variable {K : PySem.W.Frag} {cl : String → Option Addr} {O : Addr → Prop} {ro : List (Nat × V)} {W : WX} {ρ : Env} {ts : List SV} {σ : St} {ws : List V} {f f' : List Addr} {H H' : Hp} {v u : V} {x y : D} {Q : VK}
theorem bin_ok (o : BOp) (rr : Rel K cl O ro ρ ts σ ws f H) (h1 : VR K cl (Av O f) H x v) (h2 : VR K cl (Av O f) H y u) (g : GE K cl O ro W ts σ ws f H (R.of (binD o x y) ρ) Q) : rBin K o v u H Q := by
  cases o with
  | add =>
    unfold binD at g
    split at g
    all_goals first | cases ‹BOp.add = _› | skip
    · rw [h1.intE, h2.intE]
      exact .inl ⟨_, _, rfl, rfl, fin_d rr VR.int g⟩
    · split at g
      · rename_i hl
        rw [h1.strE, h2.strE]
        refine .inr (.inl ⟨_, _, rfl, rfl, by rw [mkS_len, mkS_len]; exact lim_le hl, ?_⟩)
        rw [mkS_app]
        exact fin_d rr VR.str g
      · exact g.elim
    · split at g
      · rename_i hl
        obtain ⟨a, zs, rfl, e1, n1, r1⟩ := h1.lstE
        obtain ⟨b, us, rfl, e2, n2, r2⟩ := h2.lstE
        refine .inr (.inr (.inl ⟨a, b, zs, us, rfl, rfl, e1, e2, ?_, fun p np => ?_⟩))
        · rw [← r1.len, ← r2.len]; exact lim_le hl
        · exact fin_lst rr (VRs.app r1 r2) np g
      · exact g.elim
    · split at g
      · rename_i hl
        obtain ⟨a, zs, rfl, e1, n1, r1⟩ := h1.tupE
        obtain ⟨b, us, rfl, e2, n2, r2⟩ := h2.tupE
        have hv : ∀ {c : Addr} {ks : List D} {ls : List V}, H c = some (.tup ls) → ¬ Av O f c → VRs K cl (Av O f) H ks ls → VR K cl (Av O f) H (.tup ks) (.ref c) := fun e n r => by
          unfold VR
          exact ⟨_, _, rfl, e, n, r⟩
        refine .inr (.inr (.inr ⟨a, b, zs, us, rfl, rfl, SqT.of e1, SqT.of e2, ?_, fun hz => ?_, fun hz hu => ?_, fun hz hu p np => ?_⟩))
        · rw [← r1.len, ← r2.len]; exact lim_le hl
        · subst hz
          have e0 := r1.len
          simp at e0
          subst e0
          exact fin_d rr (hv e2 n2 r2) g
        · subst hu
          have e0 := r2.len
          simp at e0
          subst e0
          rw [List.append_nil] at g
          exact fin_d rr (hv e1 n1 r1) g
        · exact fin_tup rr (VRs.app r1 r2) np g
      · exact g.elim
    · exact g.elim
  | sub =>
    unfold binD at g
    split at g
    all_goals first | cases ‹BOp.sub = _› | skip
    · rw [h1.intE, h2.intE]
      exact ⟨_, _, rfl, rfl, fin_d rr VR.int g⟩
    · exact g.elim
  | mul =>
    unfold binD at g
    split at g
    all_goals first | cases ‹BOp.mul = _› | skip
    · split at g
      · rename_i hc
        rw [h1.intE, h2.intE]
        exact .inl ⟨_, _, rfl, rfl, hc, fin_d rr VR.int g⟩
      · exact g.elim
    · split at g
      · rename_i hc
        rw [h1.strE, h2.intE]
        exact .inr (.inl ⟨_, _, rfl, rfl, mulOk_small hc.1 hc.2.1 (by omega), fin_d rr (VR.strS (mul_reps _ _)) g⟩)
      · exact g.elim
    · split at g
      · rename_i xs n hc
        obtain ⟨a, zs, rfl, e1, n1, r1⟩ := h1.tupE
        rw [h2.intE]
        have hz : zs ≠ [] := fun e => hc.2.2.2 (List.eq_nil_of_length_eq_zero (by rw [r1.len, e]; rfl))
        rcases (show n ≤ 0 ∨ n = 1 ∨ 2 ≤ n by omega) with h | h | h
        · refine .inr (.inr (.inr (.inr ⟨a, n, zs, rfl, rfl, SqT.of e1, hz, h, by omega, fun p np => ?_⟩)))
          rw [show n.toNat = 0 by omega] at g
          exact fin_tup rr VRs.nil np g
        · refine .inr (.inr (.inr (.inl ⟨a, n, zs, rfl, rfl, SqT.of e1, h, ?_⟩)))
          subst h
          have e : (List.replicate (1 : Int).toNat xs).flatten = xs := by simp
          rw [e] at g
          exact fin_d rr (by unfold VR; exact ⟨_, _, rfl, e1, n1, r1⟩) g
        · refine .inr (.inr (.inl ⟨a, n, zs, rfl, rfl, SqT.of e1, hz, h, hc.2.1, by rw [← r1.len]; exact hc.1, fun p np => ?_⟩))
          exact fin_tup rr (VRs.rep n.toNat r1) np g
      · exact g.elim
    · exact g.elim
  | fdiv =>
    unfold binD at g
    split at g
    all_goals first | cases ‹BOp.fdiv = _› | skip
    · split at g
      · rename_i hc
        rw [h1.intE, h2.intE]
        exact ⟨_, _, rfl, rfl, hc, fin_d rr VR.int g⟩
      · exact g.elim
    · exact g.elim
  | mod =>
    unfold binD at g
    split at g
    all_goals first | cases ‹BOp.mod = _› | skip
    · split at g
      · rename_i hc
        rw [h1.intE, h2.intE]
        exact ⟨_, _, rfl, rfl, hc, fin_d rr VR.int g⟩
      · exact g.elim
    · exact g.elim
  | pow =>
    unfold binD at g
    split at g
    all_goals first | cases ‹BOp.pow = _› | skip
    · split at g
      · rename_i hc
        rw [h1.intE, h2.intE]
        exact ⟨_, _, rfl, rfl, ⟨hc.1, by omega, by omega⟩, fin_d rr VR.int g⟩
      · exact g.elim
    · exact g.elim
end
end Kn

set_option Elab.async false
set_option linter.all false
set_option maxRecDepth 100000
set_option maxHeartbeats 4000000
/-! Ops2: comparisons, items, slices, built-in functions. -/
namespace Kn
open PySem L2

mutual
def py : D → PyData
  | .non => .none
  | .bl b => .bool b
  | .int i => .int i
  | .str s => .str (mkS s)
  | .tup xs => .tuple (pys xs)
  | .lst xs => .list (pys xs)
  | _ => .none
def pys : List D → List PyData
  | [] => []
  | x :: xs => py x :: pys xs
end
section
variable {K : PySem.W.Frag} {cl : String → Option Addr} {A : Addr → Prop} {H : Hp} {v u : V}
mutual
theorem VR.dp : ∀ (x : D) (n : Nat) (v : V), okD x n = true → VR K cl A H x v → Dp K H v (py x) ∧ (py x).canLay0 = true ∧ (py x).depth ≤ n
  | .non, n, v, _, r => by rw [r.nonE]; unfold py; exact ⟨.non, rfl, Nat.zero_le _⟩
  | .bl b, n, v, _, r => by rw [r.blE]; unfold py; exact ⟨.bl b, rfl, Nat.zero_le _⟩
  | .int b, n, v, _, r => by rw [r.intE]; unfold py; exact ⟨.int b, rfl, Nat.zero_le _⟩
  | .str s, n, v, h, r => by
    rw [r.strE]
    unfold py
    refine ⟨.str _, ?_, Nat.zero_le _⟩
    unfold okD at h
    show (mkS s).cps.all (· < 0x110000) = true
    unfold mkS
    simpa using h
  | .tup xs, 0, v, h, r => by unfold okD at h; cases h
  | .lst xs, 0, v, h, r => by unfold okD at h; cases h
  | .tup xs, n + 1, v, h, r => by
    unfold okD at h
    obtain ⟨a, ws, rfl, e, _, m⟩ := r.tupE
    obtain ⟨h1, h2, h3⟩ := VRs.dp xs n ws h m
    unfold py
    exact ⟨.tup (SqT.of e) h1, h2, Nat.succ_le_succ h3⟩
  | .lst xs, n + 1, v, h, r => by
    unfold okD at h
    obtain ⟨a, ws, rfl, e, _, m⟩ := r.lstE
    obtain ⟨h1, h2, h3⟩ := VRs.dp xs n ws h m
    unfold py
    exact ⟨.lst (SqL.of e) h1, h2, Nat.succ_le_succ h3⟩
  | .ty _, n, v, h, r => by cases n <;> (unfold okD at h; cases h)
  | .cls _, n, v, h, r => by cases n <;> (unfold okD at h; cases h)
  | .arg _, n, v, h, r => by cases n <;> (unfold okD at h; cases h)
  | .ins _ _ _, n, v, h, r => by cases n <;> (unfold okD at h; cases h)
theorem VRs.dp : ∀ (xs : List D) (n : Nat) (ws : List V), okDs xs n = true → VRs K cl A H xs ws → DpAll K H ws (pys xs) ∧ PyData.canLayAll0 (pys xs) = true ∧ PyData.depthAll (pys xs) ≤ n
  | [], n, ws, _, r => by
    unfold VRs at r
    rw [r]
    unfold pys
    exact ⟨.nil, rfl, Nat.zero_le _⟩
  | x :: xs, n, ws, h, r => by
    unfold VRs at r
    unfold okDs at h
    rw [Bool.and_eq_true] at h
    obtain ⟨w, ws', rfl, q, m⟩ := r
    obtain ⟨h1, h2, h3⟩ := VR.dp x n w h.1 q
    obtain ⟨g1, g2, g3⟩ := VRs.dp xs n ws' h.2 m
    unfold pys
    refine ⟨.cons h1 g1, ?_, ?_⟩
    · unfold PyData.canLayAll0
      rw [h2, g2]
      rfl
    · unfold PyData.depthAll
      exact Nat.max_le.mpr ⟨h3, g3⟩
end
mutual
theorem eqv_py : ∀ (x y : D) (n : Nat), okD x n = true → okD y n = true → PyData.eqv (py x) (py y) = eqvD x y
  | .tup xs, .tup ys, 0, h, _ => by unfold okD at h; cases h
  | .lst xs, .lst ys, 0, h, _ => by unfold okD at h; cases h
  | .tup xs, .tup ys, n + 1, h, g => by
    unfold okD at h g
    simp only [py, PyData.eqv, eqvD]
    exact eqv_pys xs ys n h g
  | .lst xs, .lst ys, n + 1, h, g => by
    unfold okD at h g
    simp only [py, PyData.eqv, eqvD]
    exact eqv_pys xs ys n h g
  | .str a, .str b, n, _, _ => by
    simp only [py, PyData.eqv, eqvD]
    exact mkS_eq
  | .ty _, y, n, h, _ => by cases n <;> (unfold okD at h; cases h)
  | .cls _, y, n, h, _ => by cases n <;> (unfold okD at h; cases h)
  | .arg _, y, n, h, _ => by cases n <;> (unfold okD at h; cases h)
  | .ins _ _ _, y, n, h, _ => by cases n <;> (unfold okD at h; cases h)
  | x, .ty _, n, _, h => by cases n <;> (unfold okD at h; cases h)
  | x, .cls _, n, _, h => by cases n <;> (unfold okD at h; cases h)
  | x, .arg _, n, _, h => by cases n <;> (unfold okD at h; cases h)
  | x, .ins _ _ _, n, _, h => by cases n <;> (unfold okD at h; cases h)
  | .non, .non, _, _, _ => by simp only [py, PyData.eqv, eqvD]
  | .non, .bl _, _, _, _ => by simp only [py, PyData.eqv, eqvD]
  | .non, .int _, _, _, _ => by simp only [py, PyData.eqv, eqvD]
  | .non, .str _, _, _, _ => by simp only [py, PyData.eqv, eqvD]
  | .non, .tup _, _, _, _ => by simp only [py, PyData.eqv, eqvD]
  | .non, .lst _, _, _, _ => by simp only [py, PyData.eqv, eqvD]
  | .bl _, .non, _, _, _ => by simp only [py, PyData.eqv, eqvD]
  | .bl _, .bl _, _, _, _ => by simp only [py, PyData.eqv, eqvD]
  | .bl _, .int _, _, _, _ => by simp only [py, PyData.eqv, eqvD]
  | .bl _, .str _, _, _, _ => by simp only [py, PyData.eqv, eqvD]
  | .bl _, .tup _, _, _, _ => by simp only [py, PyData.eqv, eqvD]
  | .bl _, .lst _, _, _, _ => by simp only [py, PyData.eqv, eqvD]
  | .int _, .non, _, _, _ => by simp only [py, PyData.eqv, eqvD]
  | .int _, .bl _, _, _, _ => by simp only [py, PyData.eqv, eqvD]
  | .int _, .int _, _, _, _ => by simp only [py, PyData.eqv, eqvD]
  | .int _, .str _, _, _, _ => by simp only [py, PyData.eqv, eqvD]
  | .int _, .tup _, _, _, _ => by simp only [py, PyData.eqv, eqvD]
  | .int _, .lst _, _, _, _ => by simp only [py, PyData.eqv, eqvD]
  | .str _, .non, _, _, _ => by simp only [py, PyData.eqv, eqvD]
  | .str _, .bl _, _, _, _ => by simp only [py, PyData.eqv, eqvD]
  | .str _, .int _, _, _, _ => by simp only [py, PyData.eqv, eqvD]
  | .str _, .tup _, _, _, _ => by simp only [py, PyData.eqv, eqvD]
  | .str _, .lst _, _, _, _ => by simp only [py, PyData.eqv, eqvD]
  | .tup _, .non, _, _, _ => by simp only [py, PyData.eqv, eqvD]
  | .tup _, .bl _, _, _, _ => by simp only [py, PyData.eqv, eqvD]
  | .tup _, .int _, _, _, _ => by simp only [py, PyData.eqv, eqvD]
  | .tup _, .str _, _, _, _ => by simp only [py, PyData.eqv, eqvD]
  | .tup _, .lst _, _, _, _ => by simp only [py, PyData.eqv, eqvD]
  | .lst _, .non, _, _, _ => by simp only [py, PyData.eqv, eqvD]
  | .lst _, .bl _, _, _, _ => by simp only [py, PyData.eqv, eqvD]
  | .lst _, .int _, _, _, _ => by simp only [py, PyData.eqv, eqvD]
  | .lst _, .str _, _, _, _ => by simp only [py, PyData.eqv, eqvD]
  | .lst _, .tup _, _, _, _ => by simp only [py, PyData.eqv, eqvD]
theorem eqv_pys : ∀ (xs ys : List D) (n : Nat), okDs xs n = true → okDs ys n = true → PyData.eqvAll (pys xs) (pys ys) = eqvDs xs ys
  | [], [], _, _, _ => by simp only [pys, PyData.eqvAll, eqvDs]
  | [], _ :: _, _, _, _ => by simp only [pys, PyData.eqvAll, eqvDs]
  | _ :: _, [], _, _, _ => by simp only [pys, PyData.eqvAll, eqvDs]
  | x :: xs, y :: ys, n, h, g => by
    unfold okDs at h g
    rw [Bool.and_eq_true] at h g
    simp only [pys, PyData.eqvAll, eqvDs]
    rw [eqv_py x y n h.1 g.1, eqv_pys xs ys n h.2 g.2]
end
theorem shaped_of {x : D} {v : V} (h : okD x 50 = true) (r : VR K cl A H x v) : SeqAt.shaped (py x) = true := by
  obtain ⟨_, h2, h3⟩ := VR.dp x 50 v h r
  unfold SeqAt.shaped
  rw [h2, decide_eq_true (Nat.le_trans h3 (by decide))]
  rfl
def cOf : COp → CmpOp
  | .eq => .Eq
  | .ne => .NotEq
  | .lt => .Lt
  | .le => .LtE
  | .gt => .Gt
  | .ge => .GtE
  | .is_ => .Is
  | .isnot => .IsNot
  | .in_ => .In
  | .notin => .NotIn
def rSgn (neg : Bool) : R2 := fun x y H Q => ∃ (c : Nat) (z : Str), x = .str ⟨#[c]⟩ ∧ y = .str z ∧ Q (.bl (if neg then !decide (c ∈ z.cps.toList) else decide (c ∈ z.cps.toList))) H
/-- != of a list, a tuple, with an empty one -/
def rNeE (K : PySem.W.Frag) : R2 := fun x y H Q => ∃ a b, x = .ref a ∧ y = .ref b ∧ ((∃ w ws, SqL K H a (w :: ws) ∧ SqL K H b []) ∨ (∃ w ws, SqT K H a (w :: ws) ∧ SqT K H b [])) ∧ Q (.bl true) H
theorem op_neE {X : Cx} (hu : X.A.units < cLine) : OpR X (compareOp .NotEq) (rNeE X.K) := by
  intro pins s σ H x y v u Q I rx ry h
  obtain ⟨a, b, rfl, rfl, h, q⟩ := h
  cases rx
  cases ry
  have fin : EP X pins σ Q (.bool true) s := ⟨.bl true, H, I, rfl, q⟩
  rcases h with ⟨w, ws, h1, h2⟩ | ⟨w, ws, h1, h2⟩
  · obtain ⟨its, rv, p1, _⟩ := I.list h1
    obtain ⟨its2, rv2, p2, _⟩ := I.list h2
    have l1 := rv.length
    have l2 := rv2.length
    exact SeqAt.RcNeAt.lists_lengths p1.isList p2.isList (by simp only [List.size_toArray, bne_iff_ne]; simp at l1 l2; omega) hu _ _ _ _ fin
  · obtain ⟨its, rv, p1, _⟩ := I.tuple h1
    obtain ⟨its2, rv2, p2, _⟩ := I.tuple h2
    have l1 := rv.length
    have l2 := rv2.length
    have key := SeqAt.RcNeAt.tuples (A := X.A) (e := fun _ => true) (show s.heap.IsTuple a its.toArray from p1) (show s.heap.IsTuple b its2.toArray from p2) hu (fun j h1 h2 => by
      simp at l2 h2
      omega)
    have e : (!((List.range (min its.toArray.size its2.toArray.size)).all (fun _ => true) && its.toArray.size == its2.toArray.size)) = true := by
      simp at l1 l2 ⊢
      omega
    rw [e] at key
    exact key _ _ _ _ fin
def rCmp (K : PySem.W.Frag) : COp → R2
  | .eq => fun x y H Q => rEq x y H Q ∨ rEqD K x y H Q
  | .ne => fun x y H Q => rNe x y H Q ∨ (rNeD K x y H Q ∨ rNeE K x y H Q)
  | .lt => rI0 fun i j => .bl (decide (i < j))
  | .le => rI0 fun i j => .bl (decide (i ≤ j))
  | .gt => rI0 fun i j => .bl (decide (j < i))
  | .ge => rI0 fun i j => .bl (decide (j ≤ i))
  | .is_ => fun x y H Q => y = .non ∧ Q (.bl (decide (x = .non))) H
  | .isnot => fun x y H Q => y = .non ∧ Q (.bl (!decide (x = .non))) H
  | .in_ => fun x y H Q => rSgn false x y H Q ∨ (rIn K false x y H Q ∨ rInD K x y H Q)
  | .notin => fun x y H Q => rSgn true x y H Q ∨ (rIn K true x y H Q ∨ rNotInD K x y H Q)
theorem rCmp_ok {X : Cx} (hu : X.A.units + 70 < cLine) (o : COp) : OpR X (compareOp (cOf o)) (rCmp X.K o) := by
  cases o with
  | eq => exact op_eq.or (op_eqD (by omega))
  | ne => exact op_ne.or ((op_neD (by omega)).or (op_neE (by omega)))
  | lt => exact op_lt
  | le => exact op_le
  | gt => exact op_gt
  | ge => exact op_ge
  | is_ => exact op_isN
  | isnot => exact op_notN
  | in_ => exact OpR.or op_in_sign (op_in_seq.or (op_inD (by omega)))
  | notin => exact OpR.or op_notIn_sign (op_notIn_seq.or (op_notInD (by omega)))
theorem flat_v {x : D} {v : V} (f : flat x = true) (r : VR K cl A H x v) : flatV v = true := by
  cases x with
  | non => rw [r.nonE]; rfl
  | bl b => rw [r.blE]; rfl
  | int b => rw [r.intE]; rfl
  | str b => rw [r.strE]; rfl
  | _ => cases f
theorem flat_eq {x y : D} {v u : V} (f : flat x = true) (g : flat y = true) (r : VR K cl A H x v) (q : VR K cl A H y u) : eqV v u = eqvD x y := by
  cases x with
  | non => rw [r.nonE]; cases y with
    | non => rw [q.nonE]; simp only [eqV, eqvD]
    | bl b => rw [q.blE]; simp only [eqV, eqvD]
    | int b => rw [q.intE]; simp only [eqV, eqvD]
    | str b => rw [q.strE]; simp only [eqV, eqvD]
    | _ => cases g
  | bl a => rw [r.blE]; cases y with
    | non => rw [q.nonE]; simp only [eqV, eqvD]
    | bl b => rw [q.blE]; simp only [eqV, eqvD]
    | int b => rw [q.intE]; simp only [eqV, eqvD]
    | str b => rw [q.strE]; simp only [eqV, eqvD]
    | _ => cases g
  | int a => rw [r.intE]; cases y with
    | non => rw [q.nonE]; simp only [eqV, eqvD]
    | bl b => rw [q.blE]; simp only [eqV, eqvD]
    | int b => rw [q.intE]; simp only [eqV, eqvD]
    | str b => rw [q.strE]; simp only [eqV, eqvD]
    | _ => cases g
  | str a => rw [r.strE]; cases y with
    | non => rw [q.nonE]; simp only [eqV, eqvD]
    | bl b => rw [q.blE]; simp only [eqV, eqvD]
    | int b => rw [q.intE]; simp only [eqV, eqvD]
    | str b =>
      rw [q.strE]
      simp only [eqV, eqvD]
      exact mkS_eq
    | _ => cases g
  | _ => cases f
theorem eq_ok {x y : D} {b : Bool} {v u : V} (h : eqD x y = some b) (r : VR K cl A H x v) (q : VR K cl A H y u) :
    (scal v u = true ∧ decide (v = u) = b) ∨ ∃ d e, Dp K H v d ∧ Dp K H u e ∧ SeqAt.shaped d = true ∧ SeqAt.shaped e = true ∧ PyData.eqv d e = b := by
  unfold eqD at h
  split at h
  · rename_i hc
    cases h
    rw [Bool.or_eq_true] at hc
    rcases hc with hc | hc
    · rw [Bool.and_eq_true] at hc
      obtain ⟨f, g⟩ := hc
      cases x with
      | non => rw [r.nonE]; cases y with
        | non => rw [q.nonE]; exact .inl ⟨rfl, by simp [eqvD]⟩
        | bl b => rw [q.blE]; exact .inl ⟨rfl, by simp [eqvD]⟩
        | int b => rw [q.intE]; exact .inl ⟨rfl, by simp [eqvD]⟩
        | str b => rw [q.strE]; exact .inl ⟨rfl, by simp [eqvD]⟩
        | _ => cases g
      | bl a => rw [r.blE]; cases y with
        | non => rw [q.nonE]; exact .inl ⟨rfl, by simp [eqvD]⟩
        | bl b => rw [q.blE]; exact .inl ⟨rfl, by rw [dec_bl]; simp [eqvD]⟩
        | int b => rw [q.intE]; exact .inr ⟨_, _, .bl a, .int b, rfl, rfl, by simp [eqvD, PyData.eqv]⟩
        | str b => rw [q.strE]; exact .inl ⟨rfl, by simp [eqvD]⟩
        | _ => cases g
      | int a => rw [r.intE]; cases y with
        | non => rw [q.nonE]; exact .inl ⟨rfl, by simp [eqvD]⟩
        | bl b => rw [q.blE]; exact .inr ⟨_, _, .int a, .bl b, rfl, rfl, by simp [eqvD, PyData.eqv]⟩
        | int b => rw [q.intE]; exact .inl ⟨rfl, by rw [dec_int]; simp [eqvD]⟩
        | str b => rw [q.strE]; exact .inl ⟨rfl, by simp [eqvD]⟩
        | _ => cases g
      | str a => rw [r.strE]; cases y with
        | non => rw [q.nonE]; exact .inl ⟨rfl, by simp [eqvD]⟩
        | bl b => rw [q.blE]; exact .inl ⟨rfl, by simp [eqvD]⟩
        | int b => rw [q.intE]; exact .inl ⟨rfl, by simp [eqvD]⟩
        | str b => rw [q.strE]; exact .inl ⟨rfl, by rw [dec_str, mkS_eq]; simp [eqvD]⟩
        | _ => cases g
      | _ => cases f
    · rw [Bool.and_eq_true] at hc
      exact .inr ⟨_, _, (VR.dp x 50 v hc.1 r).1, (VR.dp y 50 u hc.2 q).1, shaped_of hc.1 r, shaped_of hc.2 q, eqv_py x y 50 hc.1 hc.2⟩
  · cases h
theorem any_pys {x : D} (hx : okD x 50 = true) : ∀ {ds : List D} {n : Nat}, okDs ds 50 = true → (pys ds).any (fun z => PyData.eqv z (py x)) = ds.any fun y => eqvD y x
  | [], _, _ => by unfold pys; rfl
  | d :: ds, n, h => by
    unfold okDs at h
    rw [Bool.and_eq_true] at h
    unfold pys
    rw [List.any_cons, List.any_cons, eqv_py d x 50 h.1 hx, any_pys (n := n) hx h.2]
theorem okDs_up : ∀ {ds : List D} {n : Nat}, okDs ds n = true → okDs ds n = true := fun h => h
theorem flats_ok : ∀ {ds : List D} {ws : List V}, ds.all flat = true → VRs K cl A H ds ws → ws.all flatV = true
  | [], ws, _, r => by
    unfold VRs at r
    rw [r]
    rfl
  | d :: ds, ws, h, r => by
    rw [List.all_cons, Bool.and_eq_true] at h
    unfold VRs at r
    obtain ⟨w, ws', rfl, q, m⟩ := r
    rw [List.all_cons, flat_v h.1 q, flats_ok h.2 m]
    rfl
theorem inV_ok {x : D} {v : V} (fx : flat x = true) (rx : VR K cl A H x v) : ∀ {ds : List D} {ws : List V}, ds.all flat = true → VRs K cl A H ds ws → inV v ws = ds.any fun y => eqvD y x
  | [], ws, _, r => by
    unfold VRs at r
    rw [r]
    rfl
  | d :: ds, ws, h, r => by
    rw [List.all_cons, Bool.and_eq_true] at h
    unfold VRs at r
    obtain ⟨w, ws', rfl, q, m⟩ := r
    have ih := inV_ok fx rx h.2 m
    unfold inV at ih ⊢
    rw [List.any_cons, List.any_cons, flat_eq h.1 fx q rx, ih]
theorem in_ok {x y : D} {b neg : Bool} {v u : V} {Q : VK} (h : inD x y = some b) (r : VR K cl A H x v) (q : VR K cl A H y u) (g : Q (.bl (if neg then !b else b)) H) :
    rSgn neg v u H Q ∨ (rIn K neg v u H Q ∨ ∃ d ds, Dp K H v d ∧ Dp K H u (.list ds) ∧ SeqAt.shaped d = true ∧ SeqAt.shaped (.list ds) = true ∧ (ds.any fun z => PyData.eqv z d) = b) := by
  unfold inD at h
  split at h
  · rename_i l
    split at h
    · cases h
      rename_i k
      rw [r.strE, q.strE]
      refine .inl ⟨k, _, rfl, rfl, ?_⟩
      have e : (mkS l).cps.toList = l := by simp [mkS]
      rw [e]
      exact g
    · cases h
  · split at h
    · rename_i hc
      cases h
      rw [Bool.and_eq_true] at hc
      obtain ⟨a, ws, rfl, e, _, m⟩ := q.lstE
      have hd := VRs.dp _ 50 ws hc.2 m
      refine .inr (.inr ⟨_, _, (VR.dp x 50 v hc.1 r).1, .lst (SqL.of e) hd.1, shaped_of hc.1 r, ?_, any_pys (n := 50) hc.1 hc.2⟩)
      unfold SeqAt.shaped
      rw [show (PyData.list (pys _)).canLay0 = true from hd.2.1, decide_eq_true (show (PyData.list (pys _)).depth ≤ 64 from Nat.le_trans (Nat.succ_le_succ hd.2.2) (by decide))]
      rfl
    · cases h
  · split at h
    · rename_i hc
      cases h
      rw [Bool.and_eq_true] at hc
      obtain ⟨a, ws, rfl, e, _, m⟩ := q.tupE
      refine .inr (.inl ⟨a, ws, rfl, .inr (SqT.of e), flat_v hc.1 r, flats_ok hc.2 m, ?_⟩)
      rw [inV_ok hc.1 r hc.2 m]
      exact g
    · cases h
  · cases h
theorem isN_ok {x : D} {v : V} (r : VR K cl A H x v) : decide (v = .non) = isN x := by
  cases x with
  | non => rw [r.nonE]; rfl
  | bl b => rw [r.blE]; rfl
  | int b => rw [r.intE]; rfl
  | str b => rw [r.strE]; rfl
  | ty n => unfold VR at r; rw [r]; rfl
  | cls n => unfold VR at r; obtain ⟨_, _, rfl⟩ := r; rfl
  | arg n => unfold VR at r; obtain ⟨_, rfl, _⟩ := r; rfl
  | tup n => unfold VR at r; obtain ⟨_, _, rfl, _⟩ := r; rfl
  | lst n => unfold VR at r; obtain ⟨_, _, rfl, _⟩ := r; rfl
  | ins c ns xs => unfold VR at r; obtain ⟨_, _, _, _, rfl, _⟩ := r; rfl
  | exc c ns xs => unfold VR at r; obtain ⟨_, _, _, _, _, rfl, _⟩ := r; rfl
  | dk ks xs => unfold VR at r; obtain ⟨_, _, rfl, _⟩ := r; rfl
theorem cmp_ok {o : COp} {x y : D} {b : Bool} {v u : V} {Q : VK} (h : cmpD o x y = some b) (r : VR K cl A H x v) (q : VR K cl A H y u) (g : Q (.bl b) H) : rCmp K o v u H Q := by
  cases o with
  | eq =>
    rcases eq_ok (show eqD x y = some b from h) r q with ⟨h1, h2⟩ | ⟨d, e, h1, h2, h3, h4, h5⟩
    · exact .inl ⟨h1, by rw [h2]; exact g⟩
    · exact .inr ⟨d, e, h1, h2, h3, h4, by rw [h5]; exact g⟩
  | ne =>
    have h' : neD x y = some b := h
    unfold neD at h'
    cases e0 : eqD x y with
    | none =>
      rw [e0] at h'
      have h' : neE x y = some b := h'
      unfold neE at h'
      split at h'
      · cases h'
        obtain ⟨a1, ws, rfl, q1, _, m1⟩ := r.lstE
        obtain ⟨a2, ws2, rfl, q2, _, m2⟩ := q.lstE
        unfold VRs at m1 m2
        obtain ⟨w, ws', rfl, _⟩ := m1
        subst m2
        exact .inr (.inr ⟨_, _, rfl, rfl, .inl ⟨_, _, SqL.of q1, SqL.of q2⟩, g⟩)
      · cases h'
        obtain ⟨a1, ws, rfl, q1, _, m1⟩ := r.tupE
        obtain ⟨a2, ws2, rfl, q2, _, m2⟩ := q.tupE
        unfold VRs at m1 m2
        obtain ⟨w, ws', rfl, _⟩ := m1
        subst m2
        exact .inr (.inr ⟨_, _, rfl, rfl, .inr ⟨_, _, SqT.of q1, SqT.of q2⟩, g⟩)
      · cases h'
    | some b' =>
      rw [e0] at h'
      cases h'
      rcases eq_ok e0 r q with ⟨h1, h2⟩ | ⟨d, e, h1, h2, h3, h4, h5⟩
      · exact .inl ⟨h1, by rw [h2]; exact g⟩
      · exact .inr (.inl ⟨d, e, h1, h2, h3, h4, by rw [h5]; exact g⟩)
  | is_ =>
    cases y with
    | non =>
      cases (show some (isN x) = some b from h)
      exact ⟨q.nonE, by rw [isN_ok r]; exact g⟩
    | _ => cases h
  | isnot =>
    cases y with
    | non =>
      cases (show some (!isN x) = some b from h)
      exact ⟨q.nonE, by rw [isN_ok r]; exact g⟩
    | _ => cases h
  | in_ =>
    rcases in_ok (neg := false) (Q := Q) (show inD x y = some b from h) r q g with z | z | ⟨d, ds, h1, h2, h3, h4, h5⟩
    · exact .inl z
    · exact .inr (.inl z)
    · exact .inr (.inr ⟨d, ds, h1, h2, h3, h4, by rw [h5]; exact g⟩)
  | notin =>
    have h' : (inD x y).map (!·) = some b := h
    cases e0 : inD x y with
    | none => rw [e0] at h'; cases h'
    | some b' =>
      rw [e0] at h'
      cases h'
      rcases in_ok (neg := true) (Q := Q) e0 r q g with z | z | ⟨d, ds, h1, h2, h3, h4, h5⟩
      · exact .inl z
      · exact .inr (.inl z)
      · exact .inr (.inr ⟨d, ds, h1, h2, h3, h4, by rw [h5]; exact g⟩)
  | lt =>
    unfold cmpD at h
    split at h
    all_goals first | cases ‹COp.lt = _› | skip
    · cases h; rw [r.intE, q.intE]; exact ⟨_, _, rfl, rfl, g⟩
    · cases h
  | le =>
    unfold cmpD at h
    split at h
    all_goals first | cases ‹COp.le = _› | skip
    · cases h; rw [r.intE, q.intE]; exact ⟨_, _, rfl, rfl, g⟩
    · cases h
  | gt =>
    unfold cmpD at h
    split at h
    all_goals first | cases ‹COp.gt = _› | skip
    · cases h; rw [r.intE, q.intE]; exact ⟨_, _, rfl, rfl, g⟩
    · cases h
  | ge =>
    unfold cmpD at h
    split at h
    all_goals first | cases ‹COp.ge = _› | skip
    · cases h; rw [r.intE, q.intE]; exact ⟨_, _, rfl, rfl, g⟩
    · cases h
/-! ### items -/
theorem atI_rel {xs : List D} {ws : List V} {i : Int} {d : D} (m : VRs K cl A H xs ws) (h : atI xs i = some d) : ∃ w, atI ws i = some w ∧ VR K cl A H d w := by
  unfold atI at h ⊢
  rw [m.len] at h
  cases e : ixN ws.length i with
  | none => rw [e] at h; cases h
  | some j =>
    rw [e] at h
    exact VRs.get m h
theorem atI_map {α β : Type} {f : α → β} {xs : List α} {i : Int} : atI (xs.map f) i = (atI xs i).map f := by
  unfold atI
  rw [List.length_map]
  cases ixN xs.length i with
  | none => rfl
  | some j =>
    show (xs.map f)[j]? = (xs[j]?).map f
    rw [List.getElem?_map]
theorem kx_inj {j k : Kx} (h : kx j = kx k) : j = k := by
  cases j <;> cases k <;> simp [kx] at h ⊢
  · exact h
  · exact mkS_inj.mp h
theorem valV_atK {k : Kx} : ∀ {ks : List Kx} {ws : List V}, valV (zipK ks ws) (kx k) = atK k ks ws
  | [], _ => by unfold atK; rfl
  | _ :: _, [] => by unfold atK; rfl
  | j :: ks, w :: ws => by
    have ih := valV_atK (k := k) (ks := ks) (ws := ws)
    have e : zipK (j :: ks) (w :: ws) = (kx j, w) :: zipK ks ws := rfl
    rw [e]
    unfold atK
    by_cases h : j = k
    · subst h
      rw [if_pos rfl]
      exact valV_pos rfl
    · rw [if_neg h, ← ih]
      exact valV_neg fun z => h (kx_inj z)
theorem atK_rel {k : Kx} : ∀ {ks : List Kx} {xs : List D} {ws : List V} {d : D}, VRs K cl A H xs ws → atK k ks xs = some d → ∃ w, atK k ks ws = some w ∧ VR K cl A H d w
  | [], _, _, _, _, h => by unfold atK at h; cases h
  | _ :: _, [], _, _, _, h => by unfold atK at h; cases h
  | j :: ks, x :: xs, ws, d, m, h => by
    unfold VRs at m
    obtain ⟨w, ws', rfl, q, m⟩ := m
    unfold atK at h ⊢
    by_cases e : j = k
    · rw [if_pos e] at h ⊢
      cases h
      exact ⟨w, rfl, q⟩
    · rw [if_neg e] at h ⊢
      exact atK_rel m h
theorem atK_rel0 {k : Kx} : ∀ {ks : List Kx} {xs : List D} {ws : List V}, VRs K cl A H xs ws → atK k ks xs = none → atK k ks ws = none
  | [], _, _, _, _ => by unfold atK; rfl
  | _ :: _, [], ws, m, _ => by
    unfold VRs at m
    subst m
    unfold atK
    rfl
  | j :: ks, x :: xs, ws, m, h => by
    unfold VRs at m
    obtain ⟨w, ws', rfl, q, m⟩ := m
    unfold atK at h ⊢
    by_cases e : j = k
    · rw [if_pos e] at h
      cases h
    · rw [if_neg e] at h ⊢
      exact atK_rel0 m h
theorem kxD_rel {y : D} {j : Kx} {u : V} (h : kxD y = some j) (r : VR K cl A H y u) : u = kV (kx j) := by
  unfold kxD at h
  split at h
  · cases h
    exact r.intE
  · cases h
    exact r.strE
  · cases h
/-- d[y] -/
def rIxDk : R2 := fun x y H Q => ∃ a v, x = .ref a ∧ DGet H a y (some v) ∧ Q v H
theorem ix_dk {X : Cx} (hu : X.A.units + 1 < cLine) : IxR X rIxDk := by
  intro value slice pins s σ H x y v u Q I rx ry h hs
  obtain ⟨a, r, rfl, g, q⟩ := h
  obtain rfl : v = Value.ref a := rx
  exact PyProof.Rows.tail_any (dict_typeIs I g) PySem.F.slot_dict_getitem.lookup (d_getItem hu I g ry fun w' s' I' rw' => ⟨r, H, I', rw', q⟩) hs
theorem idx_ok {x y d : D} {v u : V} {Q : VK} (h : idxD x y = some d) (r : VR K cl A H x v) (q : VR K cl A H y u) (g : ∀ w, VR K cl A H d w → Q w H) : rIx K v u H Q ∨ rIxDk v u H Q := by
  unfold idxD at h
  split at h
  · rename_i ks xs _
    obtain ⟨a, ws, rfl, e, _, hl, m⟩ := r.dkE
    obtain ⟨j, hj, h⟩ := Option.bind_eq_some_iff.mp h
    obtain ⟨w, hw, hv⟩ := atK_rel m h
    have hu := kxD_rel hj q
    subst hu
    refine .inr ⟨a, w, rfl, ?_, g w hv⟩
    have := DGet.k (k := kx j) e
    rw [valV_atK, hw] at this
    exact this
  · left
    obtain ⟨a, ws, rfl, e, _, m⟩ := r.lstE
    obtain ⟨w, h1, h2⟩ := atI_rel m h
    rw [q.intE]
    exact .inl ⟨a, ws, _, w, rfl, rfl, SqL.of e, h1, g w h2⟩
  · left
    obtain ⟨a, ws, rfl, e, _, m⟩ := r.tupE
    obtain ⟨w, h1, h2⟩ := atI_rel m h
    rw [q.intE]
    exact .inr (.inl ⟨a, ws, _, w, rfl, rfl, SqT.of e, h1, g w h2⟩)
  · left
    split at h
    · rename_i hl
      rw [r.strE, q.intE]
      obtain ⟨c, hc, rfl⟩ := Option.map_eq_some_iff.mp h
      rename_i s i
      refine .inr (.inr ⟨mkS s, i, c, rfl, rfl, by rw [mkS_len]; exact lim_le hl, by simpa [mkS] using hc, g _ ?_⟩)
      exact VR.strS rfl
    · cases h
  · left
    obtain ⟨a, rfl, hs⟩ := r.argE
    obtain ⟨c, hc, rfl⟩ := Option.map_eq_some_iff.mp h
    rw [q.intE]
    exact .inl ⟨a, _, _, .int c, rfl, rfl, hs, by rw [atI_map, hc]; rfl, g _ VR.int⟩
  · cases h
end
end Kn

set_option Elab.async false
set_option linter.all false
set_option maxRecDepth 100000
set_option maxHeartbeats 4000000
/-! Exk: an exception that is kept as a value: isinstance of it, its fields; the clause that keeps it; counting flat things. -/
namespace Kn
open PySem L2 PySem.Spec PyProof.Rows
/-- what the written part says of an own exception class -/
structure XcK (K : PySem.W.Frag) (C : Addr) : Prop where
  ga : PySem.W.findIn K (.ref C) "__getattribute__" = some (some (.builtin "BaseException.__getattribute__"))
  gg : PySem.W.findIn K (.ref C) "__getattr__" = some none
  exC : PySem.W.subIn K (.ref C) (.type "BaseException") = some true
  hdC : PySem.W.hasDictIn K C = true
  ha : PySem.W.findIn K (.ref C) "__class__" = some (some (.builtin "object.__class__"))
  hn : PySem.W.specialIn K (.builtin "object.__class__") "__get__" = some (some (.builtin "getset_descriptor.__get__"))
  ht : PySem.W.takesIn K (.builtin "object.__class__") = some true
  hm : PySem.W.mroIn K C (.type "object") = some true
  cls : (PySem.W.clsIn K C).isSome = true
section
variable {X : Cx} {pins : List (Addr × Obj)} {σ : L2.St} {H : Hp} {s : Shared}
theorem exX_at {a C dd : Addr} {fs : List (Str × V)} (I : Inv X pins σ H s) (e : H a = some (ExX C dd a)) (ed : H dd = some (.xd fs)) :
    ∃ oe od mA, PySem.W.InstAt s.heap a oe C (some od) ∧ s.heap.get? dd = some od ∧ s.heap.Ns1 dd mA ∧ ∀ f, RelO (fs.lookup f) (mA f) := by
  have hx : ObjOk X.prog X.w H s.heap a (ExX C dd a) := I.hok a _ e
  unfold ExX at hx
  obtain ⟨⟨oe, vs, h1, h2, h3, h4⟩, _, _⟩ := hx
  have hd : ObjOk X.prog X.w H s.heap dd (.xd fs) := I.hok dd _ ed
  obtain ⟨mA, hns, hr⟩ := hd
  obtain ⟨od, es, ep, ho, hz⟩ := id hns
  exact ⟨oe, od, mA, ⟨h1, h2, by unfold PySem.W.notCls; rw [h4] <;> rfl, by rw [h3]; exact ho⟩, ho, hns, hr⟩
/-- isinstance(e, c), e a kept exception -/
def rIsX (K : PySem.W.Frag) : List V → Hp → VK → Prop := fun xs H Q => ∃ (a C dd : Addr) (fs : List (Str × V)) (c : V) (cv : Value) (b : Bool), xs = [.ref a, c] ∧ H a = some (ExX C dd a) ∧ H dd = some (.xd fs) ∧ XcK K C ∧ (∀ u, RelV c u → u = cv) ∧
  PySem.W.kitOne K (.ref C) cv = some b ∧ Q (.bl b) H
theorem call_isX : CallR X (.builtin "isinstance") (rIsX X.K) := by
  intro pins s σ H xs us Q I r h
  obtain ⟨a, C, dd, fs, c, cv, b, rfl, e, ed, T, hc, hk, q⟩ := h
  obtain ⟨u1, u2, rfl, r1, r2⟩ := vals2 r
  cases (show u1 = Value.ref a from r1)
  cases hc _ r2
  obtain ⟨oe, od, mA, J, _⟩ := exX_at I e ed
  exact PySem.W.kia_one (PySem.W.kitx_exc T.cls T.ga T.gg T.exC T.ha T.hn T.ht T.hm) I.kIn J hk (fun z => nomatch z) fun tk => ⟨.bl b, H, I.tok tk, rfl, q⟩
/-- o.f of an own instance or of a kept exception -/
def tFldX (K : PySem.W.Frag) (te : TE) (f : Str) : TE := fun σ H Q => te σ H fun x H1 =>
  (∃ a C dx fs v, x = .ref a ∧ H1 a = some (.ins C dx fs) ∧ Cls K C ∧ NoAttr K C f ∧ fs.lookup f = some v ∧ Q v H1) ∨
  ∃ a C dd fs v, x = .ref a ∧ H1 a = some (ExX C dd a) ∧ H1 dd = some (.xd fs) ∧ XcK K C ∧ PySem.W.findIn K (.ref C) f = some none ∧ fs.lookup f = some v ∧ Q v H1
theorem pe_fldX {e : Expr} {te : TE} {f : Str} {pos : Pos} (he : PE X e te) (hb : attributeBase e f X.env (eval e X.env) = eval e X.env) : PE X (.Attribute e f pos) (tFldX X.K te f) := by
  refine ⟨fun pins s σ H Q I h => attr_of hb (thn (he.run pins s σ H _ I h) fun u s1 hh => ?_)⟩
  obtain ⟨x, H1, I1, rx, hh⟩ := hh
  rcases hh with ⟨a, C, dx, fs, v, rfl, ea, c, n, l, q⟩ | ⟨a, C, dd, fs, v, rfl, ea, ed, T, hno, l, q⟩
  · cases (show u = Value.ref a from rx)
    exact getattr_ok I1 ea c n l fun u' s2 I2 ru => ⟨v, H1, I2, ru, q⟩
  · cases (show u = Value.ref a from rx)
    obtain ⟨oe, od, mA, J, ho, hns, hr⟩ := exX_at I1 ea ed
    obtain ⟨od', ho', hl⟩ := lookIn_ns hns
    rw [ho] at ho'
    cases ho'
    obtain ⟨u, hu, ru⟩ := RelO.some_of (v := v) (o := mA f) (by rw [← l]; exact hr f)
    exact HandSPX.exc_get I1.kIn J T.ga T.gg T.exC (PySem.W.findObj_own T.hdC hno rfl (by rw [hl, hu])) (handed_of ru) ⟨v, H1, I1.tok _, ru, q⟩
/-- xs.count(y), flat things -/
def rCntF (K : PySem.W.Frag) : V → List V → Hp → VK → Prop := fun x xs H Q => ∃ (a : Addr) (ys : List V) (y : V), x = V.ref a ∧ xs = [y] ∧ SqL K H a ys ∧ flatV y = true ∧ ys.all flatV = true ∧ Q (.int (ys.countP (fun z => eqV z y) : Nat)) H
theorem cntF {y : V} : ∀ {its : List Value} {ys : List V}, Vals ys its → ys.all flatV = true → its.countP (eqU y) = ys.countP fun z => eqV z y
  | _, _, .nil, _ => rfl
  | _, _, .cons (a := z) (b := u) r t, f => by
    rw [List.all_cons, Bool.and_eq_true] at f
    rw [List.countP_cons, List.countP_cons, cntF t f.2, eqU_of r f.1]
theorem mt_countF : MtR X "list.count" (rCntF X.K) := by
  intro pins s σ H x xs v us Q I rx rxs h
  obtain ⟨a, ys, y, rfl, rfl, hs, fy, fys, q⟩ := h
  cases rx
  obtain ⟨uy, rfl, ry⟩ := rxs.one
  obtain ⟨its, rv, ⟨⟨cls, dd, data, sl⟩, n, ho, hc, hdn, hd⟩, hlen⟩ := I.list hs
  simp only at hc hd
  subst hc hd
  refine call_meets PySem.F.slot_list_count ⟨_, ho, rfl⟩ PySem.F.entry_list_count (PySem.F.args_list_count_2 _ _) (SeqAt.list_countAt a its.toArray n dd sl uy (eqU y)) ⟨ho, fun u' hu' => mem_eqAt ry fy rv fys u' (by simpa using hu'), ?_⟩
  refine ⟨.int (ys.countP (fun z => eqV z y) : Nat), H, I.tok _, ⟨s.toks, ?_⟩, q⟩
  rw [← cntF rv fys]
end
end Kn

set_option Elab.async false
set_option linter.all false
set_option maxRecDepth 100000
set_option maxHeartbeats 4000000
/-! Try: try: .. except C as n: m = n; the exception stays in m's slot, tracked. -/
namespace Kn
open PySem L2 PySem.Spec PyProof.Rows
theorem exX_ok {P : Program} {w : World} {H : Hp} {h : Heap} {a C dd : Addr} {oe : Obj} {vs : Array Value} (e : h.get? a = some oe) (z : Zc (.ref C) (some dd) oe) (d : oe.data = .fields vs) : ObjOk P w H h a (ExX C dd a) :=
  ⟨⟨oe, vs, e, z.1, z.2, d⟩, ⟨oe, e⟩, fun h1 h2 hh k => by
    obtain ⟨o, v, q1, q2⟩ := hh
    exact ⟨o, v, k _ q1, q2⟩⟩
/-- a pinned exception, new in this frame, is tracked from now on -/
theorem Inv.keepX {X : Cx} {pins : List (Addr × Obj)} {σ : L2.St} {H : Hp} {s : Shared} {a C dd : Addr} {oe : Obj} {vs : Array Value} (I : Inv X ((a, oe) :: pins) σ H s) (n0 : X.s_0.heap.get? a = none) (hp : ∀ p ∈ X.pn ++ pins, p.1 ≠ a)
    (z : Zc (.ref C) (some dd) oe) (d : oe.data = .fields vs) : Inv X pins σ (upd H a (ExX C dd a)) s := by
  obtain ⟨ha, hn, hL, hF, hc⟩ := I.pin (a, oe) (List.mem_append_right _ List.mem_cons_self)
  have ne : ∀ {b : Addr} {u : HO}, H b = some u → b ≠ a := fun {b u} q e => by rw [e, hn] at q; cases q
  refine ⟨I.ok, I.os, I.bare, ⟨I.base.keep, I.base.slot, fun b o q n hx => ?_, I.base.there, fun b xs q => ?_, fun b o u q => ?_, fun b ps q => ?_⟩, I.loc, I.cell, ?_, fun x c e => ?_, fun p hp' => ?_, ?_, I.len⟩
  · rw [upd_ne fun e => by rw [e, n0] at q; cases q]
    exact I.base.free b o q n hx
  · have q2 := I.base.tups b xs q
    rw [upd_ne (ne q2)]
    exact q2
  · have q2 := I.base.frzs b o u q
    rw [upd_ne (ne q2)]
    exact q2
  · obtain ⟨more, q2⟩ := I.base.tbls b ps q
    exact ⟨more, by rw [upd_ne (ne q2)]; exact q2⟩
  · rw [upd_ne fun e => hL e.symm]
    exact I.free
  · obtain ⟨v, o, ho, hd⟩ := I.cell x c e
    rw [upd_ne fun e2 => by rw [e2] at ho; rw [ha] at ho; cases ho; exact hc v hd]
    exact I.freeC x c e
  · obtain ⟨q1, q2, q3, q4, q5⟩ := I.pin p (by
      rcases List.mem_append.mp hp' with h | h
      · exact List.mem_append_left _ h
      · exact List.mem_append_right _ (List.mem_cons_of_mem _ h))
    exact ⟨q1, by rw [upd_ne (hp p hp')]; exact q2, q3, q4, q5⟩
  · exact I.hok.laidN (fun _ _ q => q) hn (exX_ok ha z d)
/-- what the clause wishes of an exception of the body -/
def wKeep (K : PySem.W.Frag) (c : Value) (i j : Nat) (Wout : WX) (D : Ends) : WX := fun cls d σ H =>
  ∃ b, PySem.W.exmOne K cls c = some b ∧ (b = true → ∀ a, H a = none → ∃ C dd, cls = .ref C ∧ d = some dd ∧ D.nx ((σ.set i none).set j (some (.ref a))) (upd H a (ExX C dd a))) ∧ (b = false → Wout cls d σ H)
theorem sets_swap {α : Type} {l : List α} {i j : Nat} (h : i ≠ j) (x y z : α) : (((l.set i x).set j y).set i z) = ((l.set i z).set j y) := by
  apply List.ext_getElem?
  intro k
  simp only [List.getElem?_set, List.length_set]
  by_cases h1 : i = k
  · subst h1
    have h2 : ¬ j = i := fun e => h e.symm
    by_cases h3 : i < l.length <;> simp [h2, h3]
  · by_cases h2 : j = k
    · subst h2
      simp [h1, h]
    · simp [h1, h2]
section
variable {X : Cx} {x n m : Str} {c : Value} {i j : Nat} {body : List Stmt} {np np2 mp ap pos pos' : Pos} {tb : WX → TS} {Wout : WX}
theorem ps_try_keep (hex : X.ex = []) (hs : X.stack = X.env :: X.outer) (hf : X.env.frame = some X.env.locals) (hN : X.N.Nodup) (hi : X.N[i]? = some n) (hln : X.env.kindOf n = some .local) (hj : X.N[j]? = some m) (hlm : X.env.kindOf m = some .local) (hij : i ≠ j)
    (hnb : (n == ("__debug__" : Str)) = false) (hnc : (n == ("__classdict__" : Str)) = false) (hc : Names X x c) (tk : Takes X Wout)
    (hb : ∀ (W : WX) (pn : List (Addr × Obj)) (xe : Value → Shared → Prop), Takes (X.tr pn xe) W → PassesOwn (model X.prog X.w) X.A X.env xe → PSs (X.tr pn xe) body (tb W)) :
    PS X (.Try body [.ExceptHandler (some (.Name x np)) (some n) [.Assign [.Name m mp] (.Name n np2) ap] pos'] [] [] pos) (fun D σ H => tb (wKeep X.K c i j Wout D) D σ H) := by
  refine ⟨fun pins s σ H D I h => wpAny_Try_except (wpAny_mono ((hb (wKeep X.K c i j Wout D) (X.pn ++ pins) _ (fun u s' xx => ?_) PassesOwn.looking).run [] s σ H D (I.toTry _) h) (fun f s1 hsp => ?_) fun e s1 he => he)⟩
  · have ok := I.ok
    obtain ⟨a, B, sI, pins', σ', H', cls, d, rfl, J0, nb, up, sky, na, os, ag, b, hb1, hyes, hno⟩ := xx
    have J : Inv X pins σ' H' sI := J0.ofTry ok
    have hfr : X.A.frames = some (X.env :: X.outer) := by rw [ok.frames, hs]
    refine Sky.land Zc.steady hfr hf (by rw [← hs]; exact sky) fun h3 fl3 up3 => ?_
    have J3 : Inv X pins σ' H' { s' with heap := h3 } := J.landed nb fl3.1 (up.trans up3) os ag
    obtain ⟨oe3, vs3, he3, hz3, hd3⟩ := fl3.there
    have nfr : a ∉ frs (X.env :: X.outer) := fun hm => by
      obtain ⟨_, o', e', hnf⟩ := fl3.2.2.1.mem hm
      rw [he3] at e'
      cases e'
      exact hnf _ hd3
    have nL : a ≠ X.env.locals := fun z => nfr (List.mem_filterMap.mpr ⟨X.env, List.mem_cons_self, by rw [hf, z]⟩)
    have nF : a ∉ X.fs := fun hm => by
      obtain ⟨e, he, q⟩ := List.mem_filterMap.mp hm
      exact nfr (List.mem_filterMap.mpr ⟨e, List.mem_cons_of_mem _ he, q⟩)
    -- it stood nowhere ahead of its making
    have nI : sI.heap.get? a = none := by
      cases q : sI.heap.get? a with
      | none => rfl
      | some o =>
        have z := nb a o q (by rw [hs]; exact nfr)
        rw [fl3.2.1] at z
        cases z
    have n0 : X.s_0.heap.get? a = none := by
      cases q : X.s_0.heap.get? a with
      | none => rfl
      | some o =>
        obtain ⟨o', z⟩ := J.base.there a o q (by rw [hex]; simp)
        rw [nI] at z
        cases z
    have npn : ∀ p ∈ X.pn ++ pins, p.1 ≠ a := fun p hp e => by
      obtain ⟨q1, _⟩ := J.pin p hp
      rw [e, nI] at q1
      cases q1
    have S3 := J3.suite he3 hd3 na nL nF
    refine wpAny_handleBy_cons (codeAny_handlers_test ?_) (by intro q; cases q)
    have LM := PySem.W.exm_one (M := model X.prog X.w) J3.kIn (fun A Q E s k q => wpAny_typeOf_ref (k _ _ he3) (by rw [hz3.1]; exact q) : PySem.W.Looks (model X.prog X.w) h3 (typeOf (.ref a)) cls) hb1
    have test : ∀ {Q : Value → Shared → Prop} {E : Value → Shared → Prop}, Q c { s' with heap := h3 } → wpAny (model X.prog X.w) (X.A.mark (some (.ref a))) (eval (.Name x np) X.env) Q E { s' with heap := h3 } := fun {Q E} q => by
      obtain ⟨hg, hdbg, hm | ⟨hm, hv, hnn⟩⟩ := hc
      · exact ld_glob (X := X.suite a ((a, oe3) :: (X.pn ++ pins))) S3 hg hm q hdbg
      · exact ld_blt (X := X.suite a ((a, oe3) :: (X.pn ++ pins))) S3 hg hm hv q hnn hdbg
    refine test (LM.here ?_)
    cases b with
    | true =>
      obtain ⟨C, dd, rfl, rfl, hfin⟩ := hyes rfl a na
      refine codeAny_handlers_suite_as (HandSPX.lands_againZ fl3 fun h4 fl4 up4 => ?_)
      have J4 : Inv X pins σ' H' { s' with heap := h4 } := J.landed nb fl4.1 ((up.trans up3).trans up4) os ag
      obtain ⟨oe4, vs4, he4, hz4, hd4⟩ := fl4.there
      have S4 := J4.suite he4 hd4 na nL nF
      refine store_ok (X := X.suite a ((a, oe4) :: (X.pn ++ pins))) (v := .ref a) S4 hN hi (.inl hln) rfl (fun s5 S5 => ?_) (.inr hln)
      have hlt : i < σ'.length := by rw [J.len]; exact (List.getElem?_eq_some_iff.mp hi).1
      have P : PSs (X.suite a ((a, oe4) :: (X.pn ++ pins))) [.Assign [.Name m mp] (.Name n np2) ap] (tAsg (tVar i) (gName j)) :=
        pss_one (ps_set (X := X.suite a ((a, oe4) :: (X.pn ++ pins))) hN hj (.inl hlm) (pe_var (X := X.suite a ((a, oe4) :: (X.pn ++ pins))) hi (.inl hln) hnb hnc) rfl (.inr hlm))
      refine wpAny_mono (P.run [] s5 _ H' { nx := fun σ6 H6 => σ6 = (σ'.set i (some (.ref a))).set j (some (.ref a)) ∧ H6 = H', rt := fun _ _ => False } S5 ⟨.ref a, by rw [List.getElem?_set_self hlt], rfl, rfl⟩) (fun f s6 hsp => ?_) (fun _ _ z => False.elim z)
      cases f with
      | next =>
        obtain ⟨σ6, H6, S6, rfl, rfl⟩ := hsp
        have S7 : Inv X ((a, oe4) :: pins) ((σ'.set i (some (.ref a))).set j (some (.ref a))) H6 s6 := ⟨ok, S6.os, S6.bare, S6.base, S6.loc, S6.cell, S6.free, S6.freeC, fun p hp => S6.pin p (by
          rw [List.append_nil]
          rcases List.mem_append.mp hp with h | h
          · exact List.mem_cons_of_mem _ (List.mem_append_left _ h)
          · rcases List.mem_cons.mp h with h | h
            · rw [h]; exact List.mem_cons_self
            · exact List.mem_cons_of_mem _ (List.mem_append_right _ h)), S6.hok, S6.len⟩
        refine gone_ok S7 hN hi hln fun s7 J7 => ⟨_, _, Inv.keepX J7 n0 npn hz4 hd4, ?_⟩
        rw [sets_swap hij]
        exact hfin
      | brk =>
        obtain ⟨σ6, H6, S6, q6⟩ := hsp
        exact q6.elim
      | cont =>
        obtain ⟨σ6, H6, S6, q6⟩ := hsp
        exact q6.elim
      | ret u =>
        obtain ⟨v6, σ6, H6, S6, r6, q6⟩ := hsp
        exact q6.elim
    | false =>
      show wpAny _ X.A (handleBy (.ref a) X.env []) _ _ _
      refine wpAny_handleBy_nil ?_
      obtain ⟨k1, k2, k3, oe, vs, T, oT, ts', he, hz, hd, h1, hr⟩ := id fl3
      unfold PySem.passOn
      refine wpAny_bind (wpAny_field he hd h1 ?_)
      rw [if_neg (show ¬ ((Value.ref T == Value.none) = true) from by simp)]
      have fin : wpAny (model X.prog X.w) X.A (setFlight (.ref a) X.env.frame) (fun _ s4 => wpAny (model X.prog X.w) X.A (throw (.ref a) : Sem Flow) (SP X pins D) X.xe s4) X.xe { s' with heap := h3 } := by
        rw [hf]
        refine HandSPX.setFlight_upZ fl3 fun h4 hh4 up4 => wpAny_throw (tk _ _ ?_)
        exact ⟨a, B, sI, pins, σ', H', cls, d, rfl, J, nb, (up.trans up3).trans up4, .inr (.inr (by rw [hs]; exact hh4)), na, os, ag, hno rfl⟩
      first
        | exact wpAny_bind (wpAny_pure (wpAny_bind fin))
        | exact wpAny_bind fin
  · cases f with
    | next =>
      obtain ⟨σ', H', J', q⟩ := hsp
      exact wpAny_execs_nil ⟨σ', H', J'.ofTry I.ok, q⟩
    | brk =>
      obtain ⟨σ', H', J', q⟩ := hsp
      exact ⟨σ', H', J'.ofTry I.ok, q⟩
    | cont =>
      obtain ⟨σ', H', J', q⟩ := hsp
      exact ⟨σ', H', J'.ofTry I.ok, q⟩
    | ret u =>
      obtain ⟨v, σ', H', J', r, q⟩ := hsp
      exact ⟨v, σ', H', J'.ofTry I.ok, r, q⟩
end
end Kn

set_option Elab.async false
set_option linter.all false
set_option maxRecDepth 100000
set_option maxHeartbeats 4000000
/-! Ops3: slices, built-in functions. -/
namespace Kn
open PySem L2
section
variable {K : PySem.W.Frag} {cl : String → Option Addr} {O : Addr → Prop} {ro : List (Nat × V)} {W : WX} {ρ : Env} {ts : List SV} {σ : St} {ws : List V} {f f' : List Addr} {H H' : Hp} {v u : V} {x y : D} {Q : VK} {A : Addr → Prop}
theorem GE.of {sv : Option SV} {s : SV} (h : sv = some s) (g : GE K cl O ro W ts σ ws f H (R.of sv ρ) Q) : GE K cl O ro W ts σ ws f H (.ok s ρ) Q := by
  rw [h] at g
  exact g
theorem VRs.cut {xs : List D} {zs : List V} (m : VRs K cl A H xs zs) (lo hi : Option Int) : VRs K cl A H (cutL xs lo hi) (cutV zs lo hi) := by
  unfold cutL cutV
  rw [m.len]
  exact VRs.take _ (VRs.drop _ m)
theorem cut_whole {α : Type} {xs : List α} {lo hi : Option Int} (h1 : HT.sIx xs.length 0 lo = 0) (h2 : HT.sIx xs.length xs.length hi = xs.length) : cutL xs lo hi = xs := by
  unfold cutL
  rw [h1, h2]
  simp
def rSlc (K : PySem.W.Frag) : V → Option Int → Option Int → Hp → VK → Prop := fun x lo hi H Q => rSlL K x lo hi H Q ∨ (rSlA K x lo hi H Q ∨ rSlS x lo hi H Q)
theorem rSlc_ok {X : Cx} : SlR X (rSlc X.K) := sl_list.or (sl_tupA.or sl_str)
theorem slc_ok {lo hi : Option Int} (rr : Rel K cl O ro ρ ts σ ws f H) (h1 : VR K cl (Av O f) H x v) (g : GE K cl O ro W ts σ ws f H (R.of (slcD x lo hi) ρ) Q) : rSlc K v lo hi H Q := by
  cases x with
  | lst xs =>
    obtain ⟨a, zs, rfl, e, n, m⟩ := h1.lstE
    exact .inl ⟨a, zs, rfl, SqL.of e, fun p np => fin_lst rr (m.cut lo hi) np g⟩
  | tup xs =>
    have h1' := h1
    obtain ⟨a, zs, rfl, e, n, m⟩ := h1.tupE
    refine .inr (.inl ⟨a, zs, rfl, SqT.of e, fun hw => ?_, fun hw p np => fin_tup rr (m.cut lo hi) np g⟩)
    rw [← m.len] at hw
    have g' : GE K cl O ro W ts σ ws f H (.ok (.d (.tup (cutL xs lo hi))) ρ) Q := g
    rw [cut_whole hw.1 hw.2] at g'
    exact fin_d rr h1' g'
  | str s =>
    unfold slcD at g
    dsimp only at g
    split at g
    · rename_i hl
      rw [h1.strE]
      refine .inr (.inr ⟨mkS s, rfl, by rw [mkS_len]; exact lim_le hl, fin_d rr (VR.strS ?_) g⟩)
      unfold cutS cutL
      rw [mkS_len]
      simp [mkS]
    · exact g.elim
  | _ => exact g.elim
theorem pick_one (items : Array Value) : slicePick items none none (some 1) = slicePick items none none none := by
  unfold slicePick
  rfl
/-- xs[::k], k 1 or -1 -/
def tStp (K : PySem.W.Frag) (te tk : TE) : TE := fun σ H Q => te σ H fun x H1 => tk σ H1 fun y H2 => ∃ a xs k, x = .ref a ∧ SqL K H2 a xs ∧ y = .int k ∧ ((k = 1 ∧ ∀ p, H2 p = none → Q (.ref p) (upd H2 p (.lst xs))) ∨ (k = -1 ∧ ∀ p, H2 p = none → Q (.ref p) (upd H2 p (.lst xs.reverse))))
theorem pe_stp {X : Cx} {e s : Expr} {te tk : TE} {p3 pos : Pos} (he : PE X e te) (hk : PE X s tk) (hs : ∀ o i, subscripted (.Slice none none (some s) p3) false o i = operate [o, i] (getItem o i)) :
    PE X (.Subscript e (.Slice none none (some s) p3) pos) (tStp X.K te tk) := by
  refine ⟨fun pins s0 σ H Q I h => ?_⟩
  refine PyProof.Rows.Subscript_ (thn (he.run pins s0 σ H _ I h) fun v s1 ⟨x, H1, I1, r1, q1⟩ => ?_)
  refine PySem.wpAny_Slice (thn (po_none.run pins s1 σ H1 (fun o H2 => o = none ∧ H2 = H1) I1 ⟨rfl, rfl⟩) fun vl s2 ⟨l, H2, I2, pl, el, e2⟩ => ?_)
  subst el e2
  refine thn (po_none.run pins s2 σ H2 (fun o H3 => o = none ∧ H3 = H2) I2 ⟨rfl, rfl⟩) fun vu s3 ⟨u, H3, I3, pu, eu, e3⟩ => ?_
  subst eu e3
  rw [evalPart_some]
  refine thn (hk.run pins s3 σ H3 _ I3 q1) fun vs s4 ⟨y, H4, I4, r4, q4⟩ => ?_
  obtain ⟨a, xs, k, ex, hx, ey, q⟩ := q4
  subst ex ey
  cases r1
  obtain ⟨tk, rfl⟩ := r4
  have I5 : Inv X pins σ H4 { s4 with heap := s4.heap.push { cls := .type "slice", data := .fields #[vl, vu, .int k tk] } } := I4.kept (t' := s4.toks) fun b ob q => Heap.get?_push_of_some _ q
  obtain ⟨its, r, ht, hz⟩ := I5.list hx
  have hlen := r.length
  show wpAny (model X.prog X.w) X.A (PyProof.Rows.subscriptTail e (.Slice none none (some s) p3) (.ref a) (.ref s4.heap.objs.size)) (EP X pins σ Q) X.xe { s4 with heap := s4.heap.push { cls := .type "slice", data := .fields #[vl, vu, .int k tk] } }
  refine PyProof.Rows.tail_any (ops := [.ref a, .ref s4.heap.objs.size]) ht.isList.typeIs (PySem.slot_list_getitem.lookup) ?_ (hs _ _)
  rcases q with ⟨rfl, q⟩ | ⟨rfl, q⟩
  · refine wpAny_getItem_list_slice ht.isList (Heap.IsSliceOf.new _ vl vu _) pl pu (.int 1 tk) (by decide) ?_ (by rw [List.size_toArray]; omega)
    rw [pick_one, slicePick_cut]
    have e0 : (its.drop (HT.sIx its.length 0 none)).take (HT.sIx its.length its.length none - HT.sIx its.length 0 none) = its := by
      rw [HT.sIx_none, HT.sIx_none]
      simp
    refine ⟨.ref _, _, I5.laid (t' := s4.toks) (o := .lst xs) (fun b ob q => Heap.get?_push_of_some _ q) (Nat.le_refl _) ?_, rfl, q _ (I5.hok.fresh (Nat.le_refl _))⟩
    refine ⟨hz, its, 0, r, ?_⟩
    rw [e0]
    exact Heap.get?_push_size _ rfl
  · refine wpAny_getItem_list_slice ht.isList (Heap.IsSliceOf.new _ vl vu _) pl pu (.int (-1) tk) (by decide) ?_ (by rw [List.size_toArray]; omega)
    rw [PySem.W.krv_pick]
    refine ⟨.ref _, _, I5.laid (t' := s4.toks) (o := .lst xs.reverse) (fun b ob q => Heap.get?_push_of_some _ q) (Nat.le_refl _) ?_, rfl, q _ (I5.hok.fresh (Nat.le_refl _))⟩
    exact ⟨by rw [List.length_reverse]; exact hz, _, 0, r.reverse, Heap.get?_push_size _ rfl⟩
theorem stp_ok {X : Cx} (hK : X.K = K) {te tk : TE} (rr : Rel K cl O ro ρ ts σ ws f H) (h1 : VR K cl (Av O f) H x v) (h2 : VR K cl (Av O f) H y u) (g : GE K cl O ro W ts σ ws f H (R.of (stpD x y) ρ) Q) :
    ∃ a xs k, v = .ref a ∧ SqL X.K H a xs ∧ u = .int k ∧ ((k = 1 ∧ ∀ p, H p = none → Q (.ref p) (upd H p (.lst xs))) ∨ (k = -1 ∧ ∀ p, H p = none → Q (.ref p) (upd H p (.lst xs.reverse)))) := by
  cases x with
  | lst xs =>
    cases y with
    | int k =>
      obtain ⟨a, zs, rfl, e, n, m⟩ := h1.lstE
      rw [h2.intE]
      unfold stpD at g
      dsimp only at g
      by_cases hk : k = 1
      · rw [if_pos hk] at g
        exact ⟨a, zs, k, rfl, SqL.of e, rfl, .inl ⟨hk, fun p np => fin_lst rr m np g⟩⟩
      · rw [if_neg hk] at g
        by_cases hk2 : k = -1
        · rw [if_pos hk2] at g
          exact ⟨a, zs, k, rfl, SqL.of e, rfl, .inr ⟨hk2, fun p np => fin_lst rr m.rev np g⟩⟩
        · rw [if_neg hk2] at g
          exact g.elim
    | _ => exact g.elim
  | _ => exact g.elim

/-! ### built-in functions -/
theorem CallR.or {X : Cx} {fv : Value} {r r' : List V → Hp → VK → Prop} (h : CallR X fv r) (h' : CallR X fv r') : CallR X fv (fun xs H Q => r xs H Q ∨ r' xs H Q) := by
  intro pins s σ H xs us Q I rx q
  rcases q with q | q
  · exact h pins s σ H xs us Q I rx q
  · exact h' pins s σ H xs us Q I rx q
/-- what the written part says of exception classes -/
structure IsxOk (K : PySem.W.Frag) (cl : String → Option Addr) (t : T) : Prop where
  isx : ∀ c C b a A, t.isx c C = some b → cl c = some a → cl C = some A → PySem.W.kitOne K (.ref a) (.ref A) = some b ∧ PySem.W.exmOne K (.ref a) (.ref A) = some b
  cls : ∀ c C b a, t.isx c C = some b → cl c = some a → XcK K a ∧ PySem.W.kitOne K (.ref a) (.type "ValueError") = some true
  fldx : ∀ c f a, t.fldx c f = true → cl c = some a → XcK K a ∧ PySem.W.findIn K (.ref a) (Str.ofString f) = some none
/-- what isinstance knows of own classes -/
structure IsaOk (K : PySem.W.Frag) (cl : String → Option Addr) (t : T) : Prop where
  kit : ∀ c C b a A, t.isa c C = some b → cl c = some a → cl C = some A → PySem.W.kitOne K (.ref a) (.ref A) = some b
  cls : ∀ c C b a, t.isa c C = some b → cl c = some a → Cls K a ∧ PySem.W.findIn K (.ref a) "__class__" = some (some (.builtin "object.__class__")) ∧
    PySem.W.specialIn K (.builtin "object.__class__") "__get__" = some (some (.builtin "getset_descriptor.__get__")) ∧ PySem.W.takesIn K (.builtin "object.__class__") = some true ∧ PySem.W.mroIn K a (.type "object") = some true
def bfV : Bf → Value
  | .len => .builtin "len"
  | .str => .type "str"
  | .int => .type "int"
  | .abs => .builtin "abs"
  | .max => .builtin "max"
  | .min => .builtin "min"
  | .all => .builtin "all"
  | .any => .builtin "any"
  | .list => .type "list"
  | .tuple => .type "tuple"
  | .isinstance => .builtin "isinstance"
def bfN : Bf → String
  | .len => "len"
  | .str => "str"
  | .int => "int"
  | .abs => "abs"
  | .max => "max"
  | .min => "min"
  | .all => "all"
  | .any => "any"
  | .list => "list"
  | .tuple => "tuple"
  | .isinstance => "isinstance"
def rBlt (K : PySem.W.Frag) : Bf → List V → Hp → VK → Prop
  | .len => fun xs H Q => (∃ p ys, xs = [.ref p] ∧ (SqL K H p ys ∨ SqT K H p ys) ∧ Q (.int ys.length) H) ∨ ∃ z, xs = [.str z] ∧ z.length ≤ sizeLine ∧ Q (.int z.length) H
  | .str => fun xs H Q => (∃ i : Int, xs = [.int i] ∧ i.natAbs.log2 < 1920 ∧ Q (.str (toString i)) H) ∨ ∃ a, xs = [.str a] ∧ Q (.str a) H
  | .int => fun xs H Q => ((∃ i, xs = [.int i] ∧ Q (.int i) H) ∨ ∃ k, xs = [.bl k] ∧ Q (.int (if k then 1 else 0)) H) ∨ ∃ a n, xs = [.str a] ∧ PySem.intText? a = some n ∧ a.length ≤ 640 ∧ Q (.int n) H
  | .abs => fun xs H Q => ∃ i, xs = [.int i] ∧ Q (.int (if i < 0 then -i else i)) H
  | .max => fun xs H Q => ∃ i j, xs = [.int i, .int j] ∧ Q (.int (if j > i then j else i)) H
  | .min => fun xs H Q => ∃ i j, xs = [.int i, .int j] ∧ Q (.int (if j < i then j else i)) H
  | .all => rAll K
  | .any => rAny K
  | .list => fun xs H Q => ∃ p ys, xs = [.ref p] ∧ (SqL K H p ys ∨ SqT K H p ys) ∧ ∀ l, H l = none → Q (.ref l) (upd H l (.lst ys))
  | .tuple => fun xs H Q => ∃ p ys, xs = [.ref p] ∧ ((SqL K H p ys ∧ ∀ l, H l = none → Q (.ref l) (upd H l (.tup ys))) ∨ (SqT K H p ys ∧ Q (.ref p) H))
  | .isinstance => fun xs H Q => rIsi K xs H Q ∨ rIsX K xs H Q
theorem rBlt_ok {X : Cx} (hc : X.calm = true) (b : Bf) : CallR X (bfV b) (rBlt X.K b) := by
  cases b with
  | len => exact CallR.or call_len_seq call_len_str
  | str => exact CallR.or call_str_int SkE.call_str_str
  | int => exact CallR.or call_int1 call_int_str
  | abs => exact call_abs
  | max => exact call_max2 hc
  | min => exact call_min2 hc
  | all => exact cr_all hc
  | any => exact cr_any hc
  | list => exact call_list_of
  | tuple => exact call_tuple_of
  | isinstance => exact CallR.or call_isi call_isX
theorem bls_rel : ∀ {xs : List D} {bs : List Bool} {zs : List V}, bls? xs = some bs → VRs K cl A H xs zs → zs = bs.map V.bl
  | [], bs, zs, h, r => by
    cases (show some [] = some bs from h)
    unfold VRs at r
    exact r
  | x :: xs, bs, zs, h, r => by
    cases x with
    | bl b =>
      obtain ⟨bs', h1, h2⟩ := Option.map_eq_some_iff.mp (show (bls? xs).map (b :: ·) = some bs from h)
      unfold VRs at r
      obtain ⟨w, ws', rfl, q, m⟩ := r
      rw [← h2, bls_rel h1 m, q.blE]
      rfl
    | _ => cases h
theorem strs_rel : ∀ {xs : List D} {ss : List (List Nat)} {zs : List V}, strs? xs = some ss → VRs K cl A H xs zs → zs = (ss.map mkS).map V.str
  | [], bs, zs, h, r => by
    cases (show some [] = some bs from h)
    unfold VRs at r
    exact r
  | x :: xs, bs, zs, h, r => by
    cases x with
    | str b =>
      obtain ⟨bs', h1, h2⟩ := Option.map_eq_some_iff.mp (show (strs? xs).map (b :: ·) = some bs from h)
      unfold VRs at r
      obtain ⟨w, ws', rfl, q, m⟩ := r
      rw [← h2, strs_rel h1 m, q.strE]
      rfl
    | _ => cases h
theorem log_small {i : Int} (h : i.natAbs < 1000000000000000000) : i.natAbs.log2 < 1920 := by
  by_cases h0 : i.natAbs = 0
  · rw [h0]; decide
  · have := (Nat.log2_lt h0 (k := 64)).mpr (Nat.lt_trans h (by decide))
    omega
theorem kindTy {x : D} {k : String} {v : V} (h : kind x = some k) (r : VR K cl A H x v) : TyX K H v (.type k) := by
  cases x with
  | non => cases h; rw [r.nonE]; exact .base .non
  | bl b => cases h; rw [r.blE]; exact .base (.bl b)
  | int b => cases h; rw [r.intE]; exact .base (.int b)
  | str b => cases h; rw [r.strE]; exact .base (.str _)
  | tup xs => cases h; obtain ⟨a, zs, rfl, e, _⟩ := r.tupE; exact .base (.tup e)
  | lst xs => cases h; obtain ⟨a, zs, rfl, e, _⟩ := r.lstE; exact .base (.lst e)
  | dk ks xs => cases h; obtain ⟨a, zs, rfl, e, _⟩ := r.dkE; exact .base (.dK e)
  | _ => cases h
theorem kind_kit {x : D} {k n : String} (h : kind x = some k) (hn : bts.contains n = true) : PySem.W.kitOne K (.type k) (.type n) = some (k == n || (k == "bool" && n == "int")) := by
  refine kit_ty ?_
  have hn' : n = "int" ∨ n = "str" ∨ n = "bool" ∨ n = "tuple" ∨ n = "list" := by simpa [bts] using hn
  have hk : k = "NoneType" ∨ k = "bool" ∨ k = "int" ∨ k = "str" ∨ k = "tuple" ∨ k = "list" ∨ k = "dict" := by
    cases x <;> cases h <;> simp
  rcases hk with rfl | rfl | rfl | rfl | rfl | rfl | rfl <;> rcases hn' with rfl | rfl | rfl | rfl | rfl <;> decide +kernel
theorem blt_ok {t : T} (Z : IsaOk K cl t) (ZX : IsxOk K cl t) (b : Bf) {xs : List D} {vs : List V} (rr : Rel K cl O ro ρ ts σ ws f H) (m : VRs K cl (Av O f) H xs vs) (g : GE K cl O ro W ts σ ws f H (R.of (bltD t b xs) ρ) Q) : rBlt K b vs H Q := by
  have one : ∀ {x : D} {vs : List V}, VRs K cl (Av O f) H [x] vs → ∃ v, vs = [v] ∧ VR K cl (Av O f) H x v := fun {x vs} m => by
    unfold VRs at m
    obtain ⟨w, ws', rfl, q, m⟩ := m
    unfold VRs at m
    subst m
    exact ⟨w, rfl, q⟩
  have two : ∀ {x y : D} {vs : List V}, VRs K cl (Av O f) H [x, y] vs → ∃ v u, vs = [v, u] ∧ VR K cl (Av O f) H x v ∧ VR K cl (Av O f) H y u := fun {x y vs} m => by
    unfold VRs at m
    obtain ⟨w, ws', rfl, q, m⟩ := m
    obtain ⟨v, rfl, q2⟩ := one m
    exact ⟨w, v, rfl, q, q2⟩
  unfold bltD at g
  split at g
  · obtain ⟨v, rfl, q⟩ := one m
    obtain ⟨a, zs, rfl, e, _, mm⟩ := q.lstE
    refine .inl ⟨a, zs, rfl, .inl (SqL.of e), ?_⟩
    rw [← mm.len]
    exact fin_d rr VR.int g
  · obtain ⟨v, rfl, q⟩ := one m
    obtain ⟨a, zs, rfl, e, _, mm⟩ := q.tupE
    refine .inl ⟨a, zs, rfl, .inr (SqT.of e), ?_⟩
    rw [← mm.len]
    exact fin_d rr VR.int g
  · split at g
    · rename_i hl
      obtain ⟨v, rfl, q⟩ := one m
      rw [q.strE]
      refine .inr ⟨_, rfl, by rw [mkS_len]; exact lim_le hl, ?_⟩
      rw [mkS_len]
      exact fin_d rr VR.int g
    · exact g.elim
  · obtain ⟨v, rfl, q⟩ := one m
    obtain ⟨a, rfl, hs⟩ := q.argE
    refine .inl ⟨a, _, rfl, .inl hs, ?_⟩
    rw [List.length_map]
    exact fin_d rr VR.int g
  · split at g
    · rename_i hl
      obtain ⟨v, rfl, q⟩ := one m
      rw [q.intE]
      exact .inl ⟨_, rfl, log_small hl, fin_d rr (VR.strS rfl) g⟩
    · exact g.elim
  · obtain ⟨v, rfl, q⟩ := one m
    rw [q.strE]
    exact .inr ⟨_, rfl, fin_d rr VR.str g⟩
  · obtain ⟨v, rfl, q⟩ := one m
    rw [q.blE]
    exact .inl (.inr ⟨_, rfl, fin_d rr VR.int g⟩)
  · obtain ⟨v, rfl, q⟩ := one m
    rw [q.intE]
    exact .inl (.inl ⟨_, rfl, fin_d rr VR.int g⟩)
  · split at g
    · rename_i s hl
      obtain ⟨v, rfl, q⟩ := one m
      rw [q.strE]
      cases hi : PySem.intText? (mkS s) with
      | none =>
        have g : GE K cl O ro W ts σ ws f H (R.of ((PySem.intText? (mkS s)).map fun i => SV.d (.int i)) ρ) Q := g
        rw [hi] at g
        exact g.elim
      | some i =>
        have g : GE K cl O ro W ts σ ws f H (R.of ((PySem.intText? (mkS s)).map fun i => SV.d (.int i)) ρ) Q := g
        rw [hi] at g
        exact .inr ⟨_, i, rfl, hi, by rw [mkS_len]; exact hl, fin_d rr VR.int g⟩
    · exact g.elim
  · obtain ⟨v, rfl, q⟩ := one m
    rw [q.intE]
    exact ⟨_, rfl, fin_d rr VR.int g⟩
  · obtain ⟨v, u, rfl, q, q2⟩ := two m
    rw [q.intE, q2.intE]
    exact ⟨_, _, rfl, fin_d rr VR.int g⟩
  · obtain ⟨v, u, rfl, q, q2⟩ := two m
    rw [q.intE, q2.intE]
    exact ⟨_, _, rfl, fin_d rr VR.int g⟩
  · rename_i xs
    obtain ⟨v, rfl, q⟩ := one m
    obtain ⟨a, zs, rfl, e, _, mm⟩ := q.lstE
    cases hb : bls? xs with
    | none => rw [hb] at g; exact g.elim
    | some bs =>
      rw [hb] at g
      rw [bls_rel hb mm] at e
      exact ⟨a, bs, rfl, SqL.of e, fin_d rr VR.bl g⟩
  · rename_i xs
    obtain ⟨v, rfl, q⟩ := one m
    obtain ⟨a, zs, rfl, e, _, mm⟩ := q.lstE
    cases hb : bls? xs with
    | none => rw [hb] at g; exact g.elim
    | some bs =>
      rw [hb] at g
      rw [bls_rel hb mm] at e
      exact ⟨a, bs, rfl, SqL.of e, fin_d rr VR.bl g⟩
  · obtain ⟨v, rfl, q⟩ := one m
    obtain ⟨a, zs, rfl, e, _, mm⟩ := q.lstE
    exact ⟨a, zs, rfl, .inl (SqL.of e), fun p np => fin_lst rr mm np g⟩
  · obtain ⟨v, rfl, q⟩ := one m
    obtain ⟨a, zs, rfl, e, _, mm⟩ := q.tupE
    exact ⟨a, zs, rfl, .inr (SqT.of e), fun p np => fin_lst rr mm np g⟩
  · obtain ⟨v, rfl, q⟩ := one m
    obtain ⟨a, zs, rfl, e, _, mm⟩ := q.lstE
    exact ⟨a, zs, rfl, .inl ⟨SqL.of e, fun p np => fin_tup rr mm np g⟩⟩
  · obtain ⟨v, rfl, q⟩ := one m
    have q' := q
    obtain ⟨a, zs, rfl, e, _, mm⟩ := q.tupE
    exact ⟨a, zs, rfl, .inr ⟨SqT.of e, fin_d rr q' g⟩⟩
  · rename_i x c
    obtain ⟨v, u, rfl, q, q2⟩ := two m
    cases c with
    | ty n =>
      unfold isaD at g
      dsimp only at g
      have q2' : u = .ty n := by unfold VR at q2; exact q2
      rw [q2']
      split at g
      · rename_i c' ns xs
        by_cases hn : n = "ValueError"
        · subst hn
          rw [if_pos rfl] at g
          cases hi : t.isx c' c' with
          | none => rw [hi] at g; exact g.elim
          | some b =>
            rw [hi] at g
            obtain ⟨a, C, dd, fs, ws, rfl, hc, e, _, ed, _, _, _, _⟩ := q.excE
            obtain ⟨T, k1⟩ := ZX.cls c' c' b C hi hc
            exact .inr ⟨a, C, dd, fs, .ty "ValueError", .type "ValueError", true, rfl, e, ed, T, fun u h => h, k1, fin_d rr VR.bl g⟩
        · rw [if_neg hn] at g
          exact g.elim
      · by_cases hn : bts.contains n = true
        · rw [if_pos hn] at g
          cases hk : kind x with
          | none => rw [hk] at g; exact g.elim
          | some k =>
            rw [hk] at g
            exact .inl ⟨v, .ty n, .type k, .type n, _, rfl, .ty n, kindTy hk q, kind_kit hk hn, fin_d rr VR.bl g⟩
        · rw [if_neg hn] at g
          exact g.elim
    | cls C =>
      unfold isaD at g
      cases x with
      | ins c' ns xs =>
        dsimp only at g
        cases hi : t.isa c' C with
        | none => rw [hi] at g; exact g.elim
        | some b =>
          rw [hi] at g
          obtain ⟨a, Ca, dx, zs, rfl, hc, e, _, hl, mm⟩ := q.insE
          have q2' : ∃ C', cl C = some C' ∧ u = .ref C' := by unfold VR at q2; exact q2
          obtain ⟨CA, hC, rfl⟩ := q2'
          obtain ⟨k1, k2, k3, k4, k5⟩ := Z.cls c' C b Ca hi hc
          exact .inl ⟨_, _, .ref Ca, .ref CA, b, rfl, .own CA, .base (.ins e k1 k2 k3 k4 k5), Z.kit c' C b Ca CA hi hc hC, fin_d rr VR.bl g⟩
      | exc c' ns xs =>
        dsimp only at g
        cases hi : t.isx c' C with
        | none => rw [hi] at g; exact g.elim
        | some b =>
          rw [hi] at g
          obtain ⟨a, Ca, dd, fs, ws, rfl, hc, e, _, ed, _, _, _, _⟩ := q.excE
          have q2' : ∃ C', cl C = some C' ∧ u = .ref C' := by unfold VR at q2; exact q2
          obtain ⟨CA, hC, rfl⟩ := q2'
          obtain ⟨T, _⟩ := ZX.cls c' C b Ca hi hc
          exact .inr ⟨a, Ca, dd, fs, .ref CA, .ref CA, b, rfl, e, ed, T, fun u h => h, (ZX.isx c' C b Ca CA hi hc hC).1, fin_d rr VR.bl g⟩
      | _ => exact g.elim
    | _ => exact g.elim
  · exact g.elim
theorem ssum_map : ∀ ss : List (List Nat), ((ss.map mkS).map (·.length)).sum = ssum ss
  | [] => rfl
  | s :: ss => by
    rw [List.map_cons, List.map_cons, List.sum_cons, ssum_map ss, mkS_len]
    rfl
theorem join_list (sep : List Nat) (ss : List (List Nat)) : (Txt.join (mkS sep) (ss.map mkS)).cps.toList = TL.joinL sep ss := by
  have h := TL.tl_join (mkS sep) (ss.map mkS)
  rw [← TL.join_eq] at h
  have e : ∀ l, TL.tl (mkS l) = l := fun l => by simp [TL.tl, mkS]
  have e2 : (ss.map mkS).map TL.tl = ss := by
    rw [List.map_map]
    conv => rhs; rw [← List.map_id ss]
    refine List.map_congr_left fun l _ => ?_
    exact e l
  rw [e, e2] at h
  exact h
theorem join_ok {x : D} {xs : List D} {vs : List V} (rr : Rel K cl O ro ρ ts σ ws f H) (h1 : VR K cl (Av O f) H x v) (m : VRs K cl (Av O f) H xs vs) (g : GE K cl O ro W ts σ ws f H (R.of (joinD x xs) ρ) Q) :
    (∃ a, v = .str a) ∧ ∃ y, vs = [y] ∧ ∃ a p, ∃ ys : List Str, v = .str a ∧ [y] = [.ref p] ∧ (SqL K H p (ys.map V.str) ∨ SqT K H p (ys.map V.str)) ∧ (ys.map (·.length)).sum + ys.length * a.length ≤ 16777216 ∧ Q (.str (Txt.join a ys)) H := by
  have one : ∀ {x : D} {vs : List V}, VRs K cl (Av O f) H [x] vs → ∃ v, vs = [v] ∧ VR K cl (Av O f) H x v := fun {x vs} m => by
    unfold VRs at m
    obtain ⟨w, ws', rfl, q, m⟩ := m
    unfold VRs at m
    subst m
    exact ⟨w, rfl, q⟩
  unfold joinD at g
  split at g
  · rename_i sep zs
    obtain ⟨y, rfl, q⟩ := one m
    obtain ⟨a, ks, rfl, e, _, mm⟩ := q.lstE
    cases hs : strs? zs with
    | none => rw [hs] at g; exact g.elim
    | some ss =>
      rw [hs] at g
      dsimp only [Option.bind] at g
      split at g
      · rename_i hl
        rw [strs_rel hs mm] at e
        rw [h1.strE]
        refine ⟨⟨_, rfl⟩, _, rfl, _, a, ss.map mkS, rfl, rfl, .inl (SqL.of e), ?_, fin_d rr (VR.strS (join_list _ _)) g⟩
        rw [ssum_map, List.length_map, mkS_len, Nat.mul_comm]
        exact Nat.le_trans hl (by decide)
      · exact g.elim
  · rename_i sep zs
    obtain ⟨y, rfl, q⟩ := one m
    obtain ⟨a, ks, rfl, e, _, mm⟩ := q.tupE
    cases hs : strs? zs with
    | none => rw [hs] at g; exact g.elim
    | some ss =>
      rw [hs] at g
      dsimp only [Option.bind] at g
      split at g
      · rename_i hl
        rw [strs_rel hs mm] at e
        rw [h1.strE]
        refine ⟨⟨_, rfl⟩, _, rfl, _, a, ss.map mkS, rfl, rfl, .inr (SqT.of e), ?_, fin_d rr (VR.strS (join_list _ _)) g⟩
        rw [ssum_map, List.length_map, mkS_len, Nat.mul_comm]
        exact Nat.le_trans hl (by decide)
      · exact g.elim
  · exact g.elim
theorem up_ascii : ∀ c, c < 128 → Unicode.upperOf c = [if 97 ≤ c ∧ c ≤ 122 then c - 32 else c] := by decide +kernel
theorem up_txt (s : List Nat) (h : s.all (fun c => decide (c < 128)) = true) : Txt.upper (mkS s) = mkS (upS s) := by
  have e1 : ∀ g : Nat → Array Nat, s.toArray.mapIdx (fun _ c => g c) = s.toArray.map g := fun g => by
    apply Array.ext
    · simp
    · intro i h1 h2
      simp
  unfold Txt.upper placed mkS upS
  congr 1
  rw [e1 fun c => (Unicode.upperOf c).toArray]
  apply Array.ext'
  simp only [Array.toList_flatten, List.map_toArray, List.map_map]
  induction s with
  | nil => rfl
  | cons c s ih =>
    rw [List.all_cons, Bool.and_eq_true] at h
    have hc := up_ascii c (of_decide_eq_true h.1)
    have ih := ih h.2 (fun g => by
      apply Array.ext
      · simp
      · intro i h1 h2
        simp)
    simp only [List.map_cons, List.flatten_cons, Function.comp] at ih ⊢
    rw [hc, ih]
    rfl
def rBm (K : PySem.W.Frag) : Bm → V → List V → Hp → VK → Prop
  | .join => fun x xs H Q => ∃ (a : Str) (p : Addr) (ys : List Str), x = .str a ∧ xs = [.ref p] ∧ (SqL K H p (ys.map V.str) ∨ SqT K H p (ys.map V.str)) ∧ (ys.map (·.length)).sum + ys.length * a.length ≤ 16777216 ∧ Q (.str (Txt.join a ys)) H
  | .upper => fun x xs H Q => ∃ a, x = .str a ∧ xs = [] ∧ a.length ≤ 5592405 ∧ Q (.str (Txt.upper a)) H
  | .count => rCntF K
  | .index => rIndex K
  | .split => fun x xs H Q => ∃ a b, x = .str a ∧ xs = [.str b] ∧ (b.length == 0) = false ∧ a.length + 2 ≤ sizeLine ∧ rNewStrs (Txt.split a b) H Q
  | .startswith => fun x xs H Q => ∃ a b, x = .str a ∧ xs = [.str b] ∧ Q (.bl (Txt.startswith a b)) H
def bmT : Bm → String
  | .join => "str"
  | .upper => "str"
  | .count => "list"
  | .index => "list"
  | .split => "str"
  | .startswith => "str"
def bmN : Bm → String
  | .join => "join"
  | .upper => "upper"
  | .count => "count"
  | .index => "index"
  | .split => "split"
  | .startswith => "startswith"
def bmI : Bm → String
  | .join => "str.join"
  | .upper => "str.upper"
  | .count => "list.count"
  | .index => "list.index"
  | .split => "str.split"
  | .startswith => "str.startswith"
theorem rBm_ok {X : Cx} (m : Bm) : MtR X (bmI m) (rBm X.K m) := by
  cases m with
  | join => exact mt_join
  | upper => exact mt_upper
  | count => exact mt_countF
  | index => exact mt_index
  | split => exact mt_split
  | startswith => exact mt_startswith
theorem bm_ty {m : Bm} {x : D} {v : V} (h : okRec m x = true) (r : VR K cl A H x v) : tyV K (bmT m) v H := by
  cases m <;> cases x <;> first
    | (cases h; done)
    | (rw [r.strE]; rfl)
    | (obtain ⟨a, zs, rfl, e, _, _⟩ := r.lstE; exact .inl ⟨rfl, _, SqL.of e⟩)
theorem flats_all {ds : List D} {zs : List V} (h : ds.all flat = true) (m : VRs K cl A H ds zs) : zs.all flatV = true := flats_ok h m
theorem cnt_rel {y : D} {v : V} (fy : flat y = true) (ry : VR K cl A H y v) : ∀ {ds : List D} {zs : List V}, ds.all flat = true → VRs K cl A H ds zs → zs.countP (fun z => eqV z v) = ds.countP fun x => eqvD x y
  | [], zs, _, m => by
    unfold VRs at m
    rw [m]
    rfl
  | d :: ds, zs, h, m => by
    unfold VRs at m
    obtain ⟨w, ws', rfl, q, m⟩ := m
    rw [List.all_cons, Bool.and_eq_true] at h
    rw [List.countP_cons, List.countP_cons, cnt_rel fy ry h.2 m, flat_eq h.1 fy q ry]
theorem idx_rel {y : D} {v : V} (fy : flat y = true) (ry : VR K cl A H y v) : ∀ {ds : List D} {zs : List V} {k j : Nat}, ds.all flat = true → VRs K cl A H ds zs → idxOf y ds k = some j →
    ∃ n z, j = k + n ∧ zs[n]? = some z ∧ eqV z v = true ∧ ∀ (m : Nat) (z' : V), m < n → zs[m]? = some z' → eqV z' v = false
  | [], zs, k, j, _, _, e => by cases e
  | d :: ds, zs, k, j, h, m, e => by
    unfold VRs at m
    obtain ⟨w, ws', rfl, q, m⟩ := m
    rw [List.all_cons, Bool.and_eq_true] at h
    have e0 := flat_eq h.1 fy q ry
    unfold idxOf at e
    by_cases hd : eqvD d y = true
    · rw [if_pos hd] at e
      cases e
      exact ⟨0, w, rfl, rfl, by rw [e0, hd], fun m z' hm => absurd hm (Nat.not_lt_zero _)⟩
    · rw [if_neg hd] at e
      obtain ⟨n, z, rfl, h1, h2, h3⟩ := idx_rel fy ry h.2 m e
      refine ⟨n + 1, z, by omega, by simpa using h1, h2, fun m z' hm hz => ?_⟩
      cases m with
      | zero =>
        have hz' : w = z' := by simpa using hz
        rw [← hz', e0]
        simpa using hd
      | succ m => exact h3 m z' (by omega) (by simpa using hz)
theorem split_rel (s : List Nat) {c : Nat} (h : c < 256) : Txt.split (mkS s) (mkS [c]) = (TL.spl [c] 0 [] s).map mkS := by
  have e : ∀ l, TL.tl (mkS l) = l := fun l => by simp [TL.tl, mkS]
  refine TL.map_tl_inj ?_
  rw [TL.split_spl (mkS s) (mkS [c]) (by rw [e]; simp) (TL.kind_ok (by simp [mkS, h])), e, e, List.map_map]
  symm
  conv => rhs; rw [← List.map_id (TL.spl [c] 0 [] s)]
  exact List.map_congr_left fun l _ => e l
theorem starts_rel (s p : List Nat) : Txt.startswith (mkS s) (mkS p) = decide (s.take p.length = p) := by
  unfold Txt.startswith Builtin.Str.subAt
  rw [mkS_len, mkS_len]
  have e : ((mkS s).cps.extract 0 (0 + p.length) == (mkS p).cps) = decide (s.take p.length = p) := by
    unfold mkS
    rw [Bool.eq_iff_iff]
    simp only [beq_iff_eq, decide_eq_true_eq]
    constructor
    · intro h
      have := congrArg Array.toList h
      simpa using this
    · intro h
      apply Array.ext'
      simpa using h
  rw [e]
  by_cases h : s.take p.length = p
  · rw [decide_eq_true h, Bool.and_true]
    have : p.length ≤ s.length := by
      have := congrArg List.length h
      rw [List.length_take] at this
      omega
    exact decide_eq_true (by omega)
  · rw [decide_eq_false h, Bool.and_false]
theorem lst_new {xs : List D} {zs : List V} {p : Addr} (r : Rel K cl O ro ρ ts σ ws f H) (m : VRs K cl (Av O f) H xs zs) (n : H p = none) (g : GE K cl O ro W ts σ ws f H (.ok (.lst (xs.map .d)) ρ) Q) : Q (.ref p) (upd H p (.lst zs)) := fin_lst r m n g
theorem strs_vr : ∀ (l : List (List Nat)), VRs K cl A H (l.map .str) ((l.map mkS).map V.str)
  | [] => VRs.nil
  | x :: l => VRs.cons VR.str (strs_vr l)
theorem bm_ok (m : Bm) {x : D} {xs : List D} {vs : List V} (rr : Rel K cl O ro ρ ts σ ws f H) (h1 : VR K cl (Av O f) H x v) (mm : VRs K cl (Av O f) H xs vs) (g : GE K cl O ro W ts σ ws f H (R.of (bmD m x xs) ρ) Q) : rBm K m v vs H Q := by
  have one : ∀ {x : D} {vs : List V}, VRs K cl (Av O f) H [x] vs → ∃ v, vs = [v] ∧ VR K cl (Av O f) H x v := fun {x vs} m => by
    unfold VRs at m
    obtain ⟨w, ws', rfl, q, m⟩ := m
    unfold VRs at m
    subst m
    exact ⟨w, rfl, q⟩
  cases m with
  | join =>
    obtain ⟨_, y, rfl, a, p, ys, k1, k2, k3⟩ := join_ok rr h1 mm g
    exact ⟨a, p, ys, k1, k2, k3⟩
  | upper =>
    have g : GE K cl O ro W ts σ ws f H (R.of (upperD x xs) ρ) Q := g
    unfold upperD at g
    split at g
    · split at g
      · rename_i hl
        unfold VRs at mm
        rw [h1.strE, mm]
        refine ⟨_, rfl, rfl, by rw [mkS_len]; omega, ?_⟩
        rw [up_txt _ hl.2]
        exact fin_d rr VR.str g
      · exact g.elim
    · exact g.elim
  | count =>
    have g : GE K cl O ro W ts σ ws f H (R.of (countD x xs) ρ) Q := g
    unfold countD at g
    split at g
    · split at g
      · rename_i hf
        rw [Bool.and_eq_true] at hf
        obtain ⟨u, rfl, q⟩ := one mm
        obtain ⟨a, zs, rfl, e, _, m2⟩ := h1.lstE
        refine ⟨a, zs, u, rfl, rfl, SqL.of e, flat_v hf.1 q, flats_ok hf.2 m2, ?_⟩
        rw [cnt_rel hf.1 q hf.2 m2]
        exact fin_d rr VR.int g
      · exact g.elim
    · exact g.elim
  | index =>
    have g : GE K cl O ro W ts σ ws f H (R.of (indexD x xs) ρ) Q := g
    unfold indexD at g
    split at g
    · rename_i ds y _
      split at g
      · rename_i hf
        rw [Bool.and_eq_true] at hf
        obtain ⟨u, rfl, q⟩ := one mm
        obtain ⟨a, zs, rfl, e, _, m2⟩ := h1.lstE
        cases hi : idxOf y ds 0 with
        | none => rw [hi] at g; exact g.elim
        | some j =>
          rw [hi] at g
          obtain ⟨n, z, hj, k1, k2, k3⟩ := idx_rel hf.1 q hf.2 m2 hi
          rw [Nat.zero_add] at hj
          subst hj
          exact ⟨a, zs, u, j, z, rfl, rfl, SqL.of e, flat_v hf.1 q, flats_ok hf.2 m2, k1, k2, k3, fin_d rr VR.int g⟩
      · exact g.elim
    · exact g.elim
  | split =>
    have g : GE K cl O ro W ts σ ws f H (R.of (splitD x xs) ρ) Q := g
    unfold splitD at g
    split at g
    · rename_i s c _
      split at g
      · rename_i hl
        obtain ⟨u, rfl, q⟩ := one mm
        rw [h1.strE, q.strE]
        refine ⟨mkS s, mkS [c], rfl, rfl, by rw [mkS_len]; rfl, by rw [mkS_len, sizeLine_eq]; have := hl.1; unfold lim at this; omega, fun p np => ?_⟩
        rw [split_rel s hl.2]
        refine fin_lst (W := W) rr (strs_vr _) np ?_
        rw [List.map_map]
        exact g
      · exact g.elim
    · exact g.elim
  | startswith =>
    have g : GE K cl O ro W ts σ ws f H (R.of (startsD x xs) ρ) Q := g
    unfold startsD at g
    split at g
    · rename_i s p _
      obtain ⟨u, rfl, q⟩ := one mm
      rw [h1.strE, q.strE]
      refine ⟨mkS s, mkS p, rfl, rfl, ?_⟩
      rw [starts_rel]
      exact fin_d rr VR.bl g
    · exact g.elim
end
end Kn

set_option Elab.async false
set_option linter.all false
set_option maxRecDepth 100000
set_option maxHeartbeats 4000000
/-! Cmp: a list comprehension whose items may raise: the exception leaves it. -/
namespace Kn
open PySem L2 PySem.Spec PyProof.Rows
theorem HOk.minus {P : Program} {w : World} {H : Hp} {h h' : Heap} {C : Addr} (x : HOk P w H h) (k : ∀ b o, b ≠ C → h.get? b = some o → h'.get? b = some o) (hn : H C = none) : HOk P w H h' := fun b u e => by
  have nit : ∀ b u, H b = some u → b ≠ C := fun b u e z => by rw [z, hn] at e; cases e
  refine (x b u e).stay (fun c v hc q => k c v ?_ q) (fun _ q => q) fun _ _ q => q
  rcases hc with z | z
  · rw [z]; exact nit b u e
  · exact nit c _ z
theorem ff_minus {h h' B B' : Heap} {C : Addr} {oC : Obj} (sb : ∀ b, b ≠ C → h'.get? b = h.get? b) (hC : B.get? C = some oC) (hB : ∀ b, B.get? b = none → B'.get? b = none) : ∀ {l : List PySem.Env}, h.FunFrames B l → h'.FunFrames B' l
  | [], _ => trivial
  | _ :: _, ⟨hk, ⟨L', o, hf, hb, ho, hd⟩, hr⟩ => ⟨hk, ⟨L', o, hf, hB _ hb, (sb L' (fun z => by rw [z, hC] at hb; cases hb)).trans ho, hd⟩, ff_minus sb hC hB hr⟩
/-- behind a call that let an exception out: it flies, or the frame L0 holds it -/
def CXh (P : Program) (w : World) (outer : List PySem.Env) (L0 : Addr) (H : Hp) (s : Shared) (E : XK) (u : Value) (s' : Shared) : Prop :=
  ∃ (a : Addr) (B : Heap) (H' : Hp) (cls : Value) (d : Option Addr), u = .ref a ∧ (HandSPX.FlyingZ B outer a (Zc cls d) s'.heap ∨ HandSPX.HeldZ B outer a (Zc cls d) L0 s'.heap) ∧ HOk P w H' B ∧ UB (frs outer) H H' s.heap B s'.heap ∧ H' a = none ∧ s'.os = s.os ∧ AllBare s'.gens ∧ E cls d H'
/-- an exception that a call lets out may go on -/
def Fly (X : Cx) (W : WX) : Prop := ∃ (L0 : Addr) (e0 : PySem.Env) (outer : List PySem.Env), X.stack = e0 :: outer ∧ e0.frame = some L0 ∧ X.env.frame = some L0 ∧
  ∀ (pins : List (Addr × Obj)) (σ : L2.St) (H : Hp) (s : Shared) (u : Value) (s' : Shared), Inv X pins σ H s → CXh X.prog X.w X.stack L0 H s (fun c d H' => W c d σ H') u s' → X.xe u s'
theorem Fly.pass {X : Cx} {W : WX} (h : Fly X W) : ∀ σ, PassesAt (L2.CX X.prog X.w) X σ (fun c d H => W c d σ H) := fun σ => by
  obtain ⟨L0, e0, outer, _, _, _, k⟩ := h
  intro pins H s e s' I c
  obtain ⟨a, B, H', cls, d, h0, h1, h2⟩ := c
  exact k pins σ H s e s' I ⟨a, B, H', cls, d, h0, .inl h1, h2⟩
section
variable {X : Cx} {pins : List (Addr × Obj)} {σ : L2.St} {H : Hp} {s s' : Shared} {W : WX} {E : XK}
theorem xe_of {u : Value} (I : Inv X pins σ H s) (hW : ∀ cls d H', E cls d H' → W cls d σ H') (c : CXh X.prog X.w X.stack X.env.locals H s E u s') : XE X W u s' := by
  obtain ⟨a, B, H', cls, d, rfl, fl, hok, ub, na, os, ag, hE⟩ := c
  obtain ⟨G, g1, g2⟩ := restrict s'.heap fun b => (B.get? b).isSome || decide (b ∈ frs X.stack)
  have st : B.StaysIn s'.heap := by rcases fl with fl | fl <;> exact fl.1
  have gB : ∀ b o, B.get? b = some o → G.get? b = some o := fun b o e => by
    rw [g1 b (by simp [e])]
    exact st b o e
  have gF : ∀ b, b ∈ frs X.stack → G.get? b = s'.heap.get? b := fun b hb => g1 b (by simp [hb])
  have og : ∀ b o, G.get? b = some o → s'.heap.get? b = some o ∧ ((B.get? b).isSome = true ∨ b ∈ frs X.stack) := fun b o e => by
    cases q : ((B.get? b).isSome || decide (b ∈ frs X.stack)) with
    | false => rw [g2 b q] at e; cases e
    | true =>
      rw [g1 b q] at e
      exact ⟨e, by simpa [Bool.or_eq_true] using q⟩
  refine ⟨a, B, { s with heap := G, gens := s'.gens, drawn := s'.drawn, toks := s'.toks }, pins, σ, H', cls, d, rfl, ?_, fun b o e hb => ?_, Heap.UpToSlots.of_keeps fun b o e => (og b o e).1, .inr fl, na, os, ag, hW _ _ _ hE⟩
  · refine I.call (ch := []) ⟨fun b o e n hb _ => gB b o (ub.keep b o e n hb), fun b o e n hb _ => ?_, fun b o e n _ => ub.free b o e n, fun b o e _ => ?_, ub.tups, ub.frzs, ub.tbls⟩ (hok.kept gB) ag (fun _ z => nomatch z)
    · obtain ⟨sl, q⟩ := ub.slot b o e hb
      exact ⟨sl, by rw [gF b hb]; exact q⟩
    · by_cases hb : b ∈ frs X.stack
      · obtain ⟨sl, q⟩ := ub.slot b o e hb
        exact ⟨_, by rw [gF b hb]; exact q⟩
      · obtain ⟨o', q⟩ := ub.there b o e hb
        exact ⟨o', gB b o' q⟩
  · obtain ⟨e', h⟩ := og b o e
    rcases h with h | h
    · obtain ⟨o', q⟩ := Option.isSome_iff_exists.mp h
      have z := st b o' q
      rw [e'] at z; cases z
      exact q
    · exact absurd h hb
/-- in a def -/
theorem fly_def (tk : Takes X W) (hs : X.stack = X.env :: X.outer) (hf : X.env.frame = some X.env.locals) : Fly X W :=
  ⟨X.env.locals, X.env, X.outer, hs, hf, hf, fun pins σ H s u s' I c => tk u s' (xe_of I (fun _ _ _ h => h) c)⟩
end
theorem noteFrame_eq {e : Value} {env env' : PySem.Env} (h : env.frame = env'.frame) : noteFrame e env = noteFrame e env' := by
  unfold noteFrame PySem.frameOf
  rw [h]
/-! ### the block -/
/-- what a comprehension's block is to reach -/
def compPostX (M : Model) (A : Around) (E : Value → Shared → Prop) (use : Option (Value → Sem Unit)) (Q : Value → Shared → Prop) (acc : Value) (C : Addr) (fr : Option Addr) (r : Result) (s' : Shared) : Prop :=
  match r, use with
  | .ok _, none => ∃ m, s'.heap.Ns C m ∧ ∀ h', Heap.SameBut C s'.heap h' → Q acc { s' with heap := h' }
  | .ok _, some u => wpAny M A (u acc) (fun _ s'' => ∃ m, s''.heap.Ns C m ∧ ∀ h', Heap.SameBut C s''.heap h' → Q .none { s'' with heap := h' }) E s'
  | .error x, _ => ∃ m, s'.heap.Ns C m ∧ ∀ h', Heap.SameBut C s'.heap h' → ∀ cenv : PySem.Env, cenv.locals = C → cenv.frame = fr → wpAny M A (PySem.passOn "comprehension.variables-let-go" x cenv : Sem Value) (fun _ _ => False) E { s' with heap := h' }
theorem comp_freeX {M : Model} {A : Around} {E : Value → Shared → Prop} {s : Shared} {env : PySem.Env} {e : Expr} {scope : Scope} {pos : Pos} {newAcc first : Sem Value} {g : Comprehension} {gs : List Comprehension} {cl : List (Str × Addr)} {use : Option (Value → Sem Unit)}
    {Q : Value → Shared → Prop}
    (hcl : clausesOf e = g :: gs) (hs : ∀ x, foldedSetIterable g.iter env x = pure x) (hclos : closureFor scope env = pure cl)
    (hkind : scope.kind = .function) (hnames : ∀ x ∈ scope.names, x.2 = .local → scope.names.lookup x.1 = some .local)
    (h : wpAny M A first (fun x s₁ => wpAny M A (pyIter x) (fun it s₂ => wpAny M A newAcc (fun acc s₃ =>
      wpAny M A (newFunctionEnv scope env.globals cl [] env.qual none .none (some env)) (fun cenv s₄ =>
        codeAny M A (.compStart e 0 it acc { cenv with scope := relabel scope env }) (compPostX M A E use Q acc cenv.locals cenv.frame) s₄) E s₃) E s₂) E s₁) E s) :
    wpAny M A (comprehension e scope env pos newAcc false first use) Q E s := by
  unfold comprehension
  rw [hclos, hcl]
  refine wpAny_bind (wpAny_mono h (fun x s₁ h₁ => wpAny_bind (wpAny_standAt (wpAny_bind (wpAny_of_eq (hs x) (wpAny_bind (wpAny_holding (wpAny_mono h₁ (fun it s₂ h₂ =>
    wpAny_standIf (wpAny_bind (wpAny_mono h₂ (fun acc s₃ h₃ => wpAny_bind (wpAny_pure (wpAny_bind (wpAny_mono h₃ (fun cenv s₄ h₄ => ?_) fun _ _ h' => h')))) fun _ _ h' => h')))
      fun _ _ h' => h'))))))) fun _ _ h' => h')
  dsimp only
  have hv : ∀ x ∈ (scope.names.filter fun x => (x.2 == .local || x.2 == .cell) && x.1 != (".0" : Str)).reverse, x.2 = .local →
      Env.kindOf { cenv with scope := relabel scope env } x.1 = some .local := fun x hx hl => lookup_relabel_local (hnames x (List.mem_filter.mp (List.mem_reverse.mp hx)).1 hl)
  have hv' : ∀ x ∈ (scope.names.filter fun x => (x.2 == .local || x.2 == .cell) && x.1 != (".0" : Str)).reverse.drop 1 ++ (scope.names.filter fun x => (x.2 == .local || x.2 == .cell) && x.1 != (".0" : Str)).reverse.take 1,
      x.2 = .local → Env.kindOf { cenv with scope := relabel scope env } x.1 = some .local := fun x hx hl => by
    rcases List.mem_append.mp hx with h1 | h1
    · exact hv x (List.mem_of_mem_drop h1) hl
    · exact hv x (List.mem_of_mem_take h1) hl
  refine wpAny_holding (wpAny_bind (wpAny_attempt (wpAny_holding (wpAny_run (codeAny_mono h₄ fun r s' hr => ?_)))))
  cases r with
  | ok f =>
    cases use with
    | none =>
      obtain ⟨m, hn, hr⟩ := hr
      exact wpAny_bind (wpAny_holding (wpAny_comp_letGo (cenv := { cenv with scope := relabel scope env }) hkind _ s' m hv hn fun h' m' _ hs' => wpAny_pure (hr h' hs')))
    | some u =>
      refine wpAny_bind (wpAny_rule (wpAny_bind (wpAny_holding (wpAny_mono hr (fun _ s'' hr' => ?_) fun _ _ h' => h'))))
      obtain ⟨m, hn, hr'⟩ := hr'
      exact wpAny_bind (wpAny_comp_letGo (cenv := { cenv with scope := relabel scope env }) hkind _ s'' m hv' hn fun h' m' _ hs' => wpAny_pure (hr' h' hs'))
  | error x =>
    have hr' : ∃ m, s'.heap.Ns cenv.locals m ∧ ∀ h', Heap.SameBut cenv.locals s'.heap h' → ∀ cenv' : PySem.Env, cenv'.locals = cenv.locals → cenv'.frame = cenv.frame → wpAny M A (PySem.passOn "comprehension.variables-let-go" x cenv' : Sem Value) (fun _ _ => False) E { s' with heap := h' } := by cases use <;> exact hr
    obtain ⟨m, hn, hr⟩ := hr'
    exact wpAny_bind (wpAny_holding (wpAny_comp_letGo (cenv := { cenv with scope := relabel scope env }) hkind _ s' m hv hn fun h' m' _ hs' => wpAny_mono (hr h' hs' _ rfl rfl) (fun _ _ f => f.elim) fun _ _ y => y))
section
variable {X : Cx} {pins : List (Addr × Obj)} {σ : L2.St} {H H3 : Hp} {s s3 s' : Shared} {W : WX}
/-- the block's context, with what it lets out -/
abbrev blkE (X : Cx) (s : Shared) (H : Hp) (scope : Scope) (cenv : PySem.Env) (fp : List Addr) (xe : Value → Shared → Prop) : Cx := (X.blk s H scope cenv fp).tr [] xe
/-- .. in which an exception may go on, too -/
theorem fly_blk {scope : Scope} {ce : PySem.Env} {fp : List Addr} {use : Option (Value → Sem Unit)} {Qf : Value → Shared → Prop} {acc : Value} (hF : Fly X W) (I3 : Inv X pins σ H3 s3) (f3 : ∀ b ∈ fp, FpOk X pins H3 b ∧ b < s3.heap.objs.size) (hce : ce.locals = s3.heap.objs.size) (hcf : ce.frame = X.env.frame) :
    Fly (blkE X s3 H3 scope ce fp (notedBy (model X.prog X.w) X.A ce fun e s' => compPostX (model X.prog X.w) X.A X.xe use Qf acc s3.heap.objs.size ce.frame (.error e) s')) (fun c d _ H' => W c d σ H') := by
  obtain ⟨L0, e0, outer, hst, he0, hxf, fx⟩ := hF
  refine ⟨L0, e0, outer, hst, he0, hcf.trans hxf, fun pins1 σ1 H1 sB u s' IB c => ?_⟩
  obtain ⟨a, B, H', cls, d, rfl, fl, hok, ub, na, os, ag, w⟩ := c
  have fl : HandSPX.FlyingZ B X.stack a (Zc cls d) s'.heap ∨ HandSPX.HeldZ B X.stack a (Zc cls d) L0 s'.heap := fl
  have ub : UB (frs X.stack) H1 H' sB.heap B s'.heap := ub
  have I7 : Inv X pins σ H1 sB := I3.call' (ch := fp) IB.os IB.base IB.hok IB.bare fun b hb => ⟨(f3 b hb).1.2.2.2.1, (f3 b hb).1.2.1, (f3 b hb).1.2.2.2.2.1, (f3 b hb).1.2.2.2.2.2⟩
  have nC : H1 s3.heap.objs.size = none := by
    have z : H1 ce.locals = none := IB.free
    rw [hce] at z
    exact z
  have fC := I3.fpOk (Nat.le_refl _) nC
  obtain ⟨f0, f1, f2, f4, f5, f6⟩ := fC
  obtain ⟨m, hn, _⟩ := IB.loc
  have hn : sB.heap.Ns s3.heap.objs.size m := by rw [← hce]; exact hn
  generalize hCC : s3.heap.objs.size = C at *
  have nfs : C ∉ frs X.stack := by
    intro hm
    rw [← hCC] at hm
    rcases List.mem_cons.mp (I3.stkSub _ hm) with z | z
    · exact absurd z (Nat.ne_of_gt I3.lt)
    · exact I3.nofs (Nat.le_refl _) z
  obtain ⟨oC, hoC⟩ : ∃ oC, sB.heap.get? C = some oC := by
    obtain ⟨o, _, _, ho, _⟩ := hn
    exact ⟨o, ho⟩
  have hBC : B.get? C = some oC := ub.keep C oC hoC nC nfs
  obtain ⟨G, g1, g2⟩ := restrict sB.heap fun b => decide (b ≠ C)
  have gk : ∀ b o, b ≠ C → sB.heap.get? b = some o → G.get? b = some o := fun b o hb e => by rw [g1 b (decide_eq_true hb)]; exact e
  have go : ∀ b o, G.get? b = some o → b ≠ C ∧ sB.heap.get? b = some o := fun b o e => by
    by_cases hb : b = C
    · rw [g2 b (decide_eq_false (fun z => z hb))] at e; cases e
    · exact ⟨hb, by rw [g1 b (decide_eq_true hb)] at e; exact e⟩
  have I8 : Inv X pins σ H1 { sB with heap := G } := I7.turned (t' := sB.toks) gk f0 f1 f4 f5 f6
  obtain ⟨B', b1, b2⟩ := restrict B fun b => decide (b ≠ C)
  have bk : ∀ b o, b ≠ C → B.get? b = some o → B'.get? b = some o := fun b o hb e => by rw [b1 b (decide_eq_true hb)]; exact e
  have bo : ∀ b o, B'.get? b = some o → b ≠ C ∧ B.get? b = some o := fun b o e => by
    by_cases hb : b = C
    · rw [b2 b (decide_eq_false (fun z => z hb))] at e; cases e
    · exact ⟨hb, by rw [b1 b (decide_eq_true hb)] at e; exact e⟩
  have bn : ∀ b, B.get? b = none → B'.get? b = none := fun b e => by
    cases q : B'.get? b with
    | none => rfl
    | some o => rw [(bo b o q).2] at e; cases e
  have hC' : H' C = none := ub.free C oC hoC nC
  have hok' : HOk X.prog X.w H' B' := HOk.minus hok bk hC'
  -- noted, let go, passed on
  have step : ∀ h1, HandSPX.HeldZ B X.stack a (Zc cls d) L0 h1 → (∀ b ∈ frs X.stack, ∀ o, sB.heap.get? b = some o → ∃ sl, h1.get? b = some { o with slots := sl }) → compPostX (model X.prog X.w) X.A X.xe use Qf acc C ce.frame (.error (.ref a)) { s' with heap := h1 } := by
    intro h1 hh up
    have hm : ∃ m, h1.Ns C m := ⟨m, hn.at' fun o e => by
      have e2 : B.get? C = some o := ub.keep C o e nC nfs
      exact hh.1 C o e2⟩
    obtain ⟨m, hm⟩ := hm
    have goal : ∃ m, h1.Ns C m ∧ ∀ h', Heap.SameBut C h1 h' → ∀ cenv : PySem.Env, cenv.locals = C → cenv.frame = ce.frame → wpAny (model X.prog X.w) X.A (PySem.passOn "comprehension.variables-let-go" (.ref a) cenv : Sem Value) (fun _ _ => False) X.xe { s' with heap := h' } := by
      refine ⟨m, hm, fun h' sb cenv _ hfr => ?_⟩
      have hfr : cenv.frame = some L0 := hfr.trans (hcf.trans hxf)
      have same : ∀ b, b ≠ C → h'.get? b = h1.get? b := fun b hb => sb.2 b hb
      obtain ⟨k1, k2, k3, oe, vs, T, oT, ts, he, hz, hd, h1', hnT, hTe, hT, hdT, h3⟩ := hh
      have aC : a ≠ C := fun z => by rw [z, hBC] at k2; cases k2
      have TC : T ≠ C := fun z => by rw [z, hBC] at hnT; cases hnT
      have hh' : HandSPX.HeldZ B' X.stack a (Zc cls d) L0 h' :=
        ⟨fun b o e => (same b (bo b o e).1).trans (k1 b o (bo b o e).2), bn a k2, ff_minus same hBC bn k3, oe, vs, T, oT, ts, (same a aC).trans he, hz, hd, h1', bn T hnT, hTe, (same T TC).trans hT, hdT, h3⟩
      have upF : ∀ b ∈ frs X.stack, ∀ o, sB.heap.get? b = some o → ∃ sl, h'.get? b = some { o with slots := sl } := fun b hb o e => by
        obtain ⟨sl, q⟩ := up b hb o e
        exact ⟨sl, (same b fun z => nfs (by rw [← z]; exact hb)).trans q⟩
      unfold PySem.passOn
      refine wpAny_bind (wpAny_field (s := { s' with heap := h' }) ((same a aC).trans he) hd h1' ?_)
      rw [if_neg (show ¬ ((Value.ref T == Value.none) = true) from by simp)]
      rw [hfr]
      refine wpAny_bind (HandSPX.setFlight_onZ (s := { s' with heap := h' }) hh' fun h2 hh2 up2 => ?_)
      refine wpAny_throw ?_
      refine fx pins σ H1 { sB with heap := G } (.ref a) _ I8 ⟨a, B', H', cls, d, rfl, .inr hh2, hok', ⟨fun b o e n hb => ?_, fun b o e hb => ?_, fun b o e n => ?_, fun b o e hb => ?_, ub.tups, ub.frzs, ub.tbls⟩, na, os, ag, w⟩
      · obtain ⟨e1, e2⟩ := go b o e
        exact bk b o e1 (ub.keep b o e2 n hb)
      · obtain ⟨e1, e2⟩ := go b o e
        obtain ⟨sl, q⟩ := upF b hb o e2
        obtain ⟨L', o', _, _, ho', hnf⟩ : ∃ L' o', L' = b ∧ True ∧ h'.get? b = some o' ∧ ∀ vs, o'.data ≠ .fields vs := by
          obtain ⟨_, o', ho', hnf⟩ := (ff_minus (B' := B') same hBC bn k3).mem hb
          exact ⟨b, o', rfl, trivial, ho', hnf⟩
        rw [q] at ho'
        cases ho'
        obtain ⟨sl2, q2⟩ := up2 b _ q hnf
        exact ⟨sl2, q2⟩
      · exact ub.free b o (go b o e).2 n
      · obtain ⟨e1, e2⟩ := go b o e
        obtain ⟨o', q⟩ := ub.there b o e2 hb
        exact ⟨o', bk b o' e1 q⟩
    cases use <;> exact goal
  show wpAny (model X.prog X.w) X.A (noteFrame (.ref a) ce) _ _ s'
  rw [noteFrame_eq (env' := e0) (hcf.trans (hxf.trans he0.symm))]
  have hfr : X.A.frames = some (e0 :: outer) := by
    have z : X.A.frames = some X.stack := I3.ok.frames
    rw [z, hst]
  have up0 : ∀ b ∈ frs X.stack, ∀ o, sB.heap.get? b = some o → ∃ sl, s'.heap.get? b = some { o with slots := sl } := fun b hb o e => ub.slot b o e hb
  rcases fl with fl | fl
  · have fl2 := fl
    rw [hst] at fl2
    refine HandSPX.looks_onZ Zc.steady hfr he0 fl2 fun h1 hh up => step h1 (by rw [hst]; exact hh) fun b hb o e => ?_
    obtain ⟨sl, q⟩ := up0 b hb o e
    obtain ⟨_, o', ho', hnf⟩ := fl.2.2.1.mem hb
    rw [q] at ho'
    cases ho'
    obtain ⟨sl2, q2⟩ := up b _ q hnf
    exact ⟨sl2, q2⟩
  · exact HandSPX.againZ he0 fl.2.2.2 (step s'.heap fl up0)
end
section
variable {X : Cx} {pins : List (Addr × Obj)} {σ : L2.St} {H : Hp} {s : Shared} {W : WX}
/-- a turn's head -/
def Head (Y : Cx) (σ0 : L2.St) (fp : List Addr) (tn : Nat → Heap → Prop) (P : Nat → Nat → Hp → Prop) (n : Nat) (s : Shared) : Prop := ∃ i H, L2.Inv Y [] σ0 H s ∧ tn i s.heap ∧ (∀ b ∈ fp, H b = none) ∧ P i n H
/-- what a block lets out, told by the state ahead of it -/
abbrev WB (W : WX) (σ : L2.St) : WX := fun c d _ H' => W c d σ H'
theorem lc_coreX {Q : VK} {elt tg iter : Expr} {ifs : List Expr} {scope : Scope} {own : List (Str × Nat)} {pos pos' : Pos} {wi : TI} {g : TG} {tt : TT} {te : TE} {use : Option (Value → Sem Unit)} {Qf : Value → Shared → Prop}
    (calm : X.calm = true) (nd : X.N.Nodup) (I : L2.Inv X pins σ H s) (walk : PI X tg iter wi) (ok : BlkOk X.N X.env.scope scope own) (hF : Fly X W)
    (htg : ∀ (s : Shared) (H : Hp) (C : Addr) (cl : List (Str × Addr)) (fp : List Addr) (xe : Value → Shared → Prop), PG (blkE X s H scope (compEnvC scope cl C X.env) fp xe) tg g)
    (hifs : ∀ (s : Shared) (H : Hp) (C : Addr) (cl : List (Str × Addr)) (fp : List Addr) (xe : Value → Shared → Prop), Fly (blkE X s H scope (compEnvC scope cl C X.env) fp xe) (WB W σ) → PTs (blkE X s H scope (compEnvC scope cl C X.env) fp xe) ifs tt)
    (helt : ∀ (s : Shared) (H : Hp) (C : Addr) (cl : List (Str × Addr)) (fp : List Addr) (xe : Value → Shared → Prop), Fly (blkE X s H scope (compEnvC scope cl C X.env) fp xe) (WB W σ) → PE (blkE X s H scope (compEnvC scope cl C X.env) fp xe) elt te)
    (plain : ∀ x, foldedSetIterable iter X.env x = pure x) (want : tLc wi g tt te (own.map (·.2)) σ H Q)
    (out : ∀ D C s' m H', L2.Inv X pins σ H' s' → Q (.ref D) H' → s'.heap.Ns C m → FpOk X pins H' C → ∀ fr, compPostX (model X.prog X.w) X.A X.xe use Qf (.ref D) C fr (.ok .next) s') :
    wpAny (model X.prog X.w) X.A (comprehension (.ListComp elt [⟨tg, iter, ifs, 0⟩] scope pos) scope X.env pos' (newList []) false (eval iter X.env) use) Qf X.xe s := by
  have cells : ∀ y ∈ scope.names, y.2 = .free → ∃ c, X.env.cells.lookup y.1 = some c := fun y hy e => I.ok.has _ ((ok.free y hy e).imp (fun z => z) fun z => z)
  refine comp_freeX (use := use) rfl plain (closure_ok cells) ok.kind (fun y hy e => by rw [ok.uniq y hy, e]) (thn (walk.run pins s σ H _ I want) fun xv s1 h1 => thn h1 fun itv s2 h2 => ?_)
  obtain ⟨it, fp, tn, J, H2, rfl, I2, T, t0, okfp, turns⟩ := h2
  refine wpAny_newObj_type (newEnv_comp ?_) (Nat.zero_le _)
  obtain ⟨D, hD⟩ : ∃ D, D = s2.heap.objs.size := ⟨_, rfl⟩
  have freshD : H2 D = none := I2.hok.fresh (Nat.le_of_eq hD.symm)
  obtain ⟨P, ⟨n0, p0⟩, turn⟩ := turns D freshD
  rw [← hD]
  obtain ⟨s3, hs3⟩ : ∃ s3 : Shared, s3 = { s2 with heap := s2.heap.push { cls := .type "list", data := .seq ([] : List Value).toArray } } := ⟨_, rfl⟩
  have heap3 : s3.heap = s2.heap.push { cls := .type "list", data := .seq ([] : List Value).toArray } := by rw [hs3]
  have I3 : L2.Inv X pins σ (upd H2 D (.lst [])) s3 := by
    rw [hs3]
    refine I2.laid (t' := s2.toks) (fun b o e => Heap.get?_push_of_some _ e) (Nat.le_of_eq hD.symm) ⟨Nat.zero_le _, [], 0, .nil, ?_⟩
    rw [hD]
    exact Heap.get?_push_size _ rfl
  have okfp3 : ∀ b ∈ fp, FpOk X pins (upd H2 D (.lst [])) b ∧ b < s3.heap.objs.size := fun b hb => by
    obtain ⟨o, e, _⟩ := T.obj _ _ t0 b hb
    have lt := Heap.lt_size e
    refine ⟨⟨?_, (okfp b hb).2⟩, by rw [heap3, Heap.size_push]; exact Nat.lt_succ_of_lt lt⟩
    rw [upd_ne (by rw [hD]; exact Nat.ne_of_lt lt)]
    exact (okfp b hb).1
  have t3 : tn 0 s3.heap := T.keep _ _ _ t0 fun b _ o e => by rw [heap3]; exact Heap.get?_push_of_some _ e
  have I4 := block_start I3 ok nd okfp3
  rw [← hs3]
  obtain ⟨cl, hcl⟩ : ∃ cl, cl = cellsFrom (s3.heap.objs.size + 1) scope.names (cloFrom X.env.cells scope.names []) := ⟨_, rfl⟩
  obtain ⟨ce, hce⟩ : ∃ ce, ce = compEnvC scope cl s3.heap.objs.size X.env := ⟨_, rfl⟩
  rw [← hcl, ← hce] at I4
  have ceL : ce.locals = s3.heap.objs.size := by rw [hce]; rfl
  have ceF : ce.frame = X.env.frame := by rw [hce]; rfl
  show codeAny _ _ (.compStart (.ListComp elt [⟨tg, iter, ifs, 0⟩] scope pos) 0 (.ref it) (.ref D) (compEnvC scope (cellsFrom (s3.heap.objs.size + 1) scope.names (cloFrom X.env.cells scope.names [])) s3.heap.objs.size X.env)) (compPostX (model X.prog X.w) X.A X.xe use Qf (.ref D) s3.heap.objs.size X.env.frame) { s3 with heap := pushCells (s3.heap.push { cls := .type "dict", data := .dict #[] }) scope.names }
  rw [← hcl, ← hce, ← ceF]
  have hY := fly_blk (scope := scope) (use := use) (Qf := Qf) (acc := .ref D) hF I3 okfp3 ceL ceF
  obtain ⟨xe, hxe⟩ : ∃ xe, xe = notedBy (model X.prog X.w) X.A ce fun e s' => compPostX (model X.prog X.w) X.A X.xe use Qf (.ref D) s3.heap.objs.size ce.frame (.error e) s' := ⟨_, rfl⟩
  rw [← hxe] at hY
  have mtg := htg s3 (upd H2 D (.lst [])) s3.heap.objs.size cl fp xe
  rw [← hce] at mtg
  have mifs := hifs s3 (upd H2 D (.lst [])) s3.heap.objs.size cl fp xe
  rw [← hce] at mifs
  have mifs := mifs hY
  have melt := helt s3 (upd H2 D (.lst [])) s3.heap.objs.size cl fp xe
  rw [← hce] at melt
  have melt := melt hY
  obtain ⟨s4, hs4⟩ : ∃ s4 : Shared, s4 = { s3 with heap := pushCells (s3.heap.push { cls := .type "dict", data := .dict #[] }) scope.names } := ⟨_, rfl⟩
  rw [← hs4] at I4 ⊢
  have t4 : tn 0 s4.heap := T.keep _ _ _ t3 fun b _ o e => by rw [hs4]; exact pushCells_keeps _ _ _ _ (Heap.get?_push_of_some _ e)
  have J4 : L2.Inv (blkE X s3 (upd H2 D (.lst [])) scope ce fp xe) [] (L2.wipe σ (own.map (·.2))) (upd H2 D (.lst [])) s4 := I4.toTry xe
  have n4 : ∀ b ∈ fp, (upd H2 D (.lst [])) b = none := fun b hb => (okfp3 b hb).1.1
  have still : ∀ {σ' : L2.St} {H' : Hp} {s' : Shared}, L2.Inv (blkE X s3 (upd H2 D (.lst [])) scope ce fp xe) [] σ' H' s' → (∀ b ∈ fp, H' b = none) → ∀ b ∈ fp, FpOk (blkE X s3 (upd H2 D (.lst [])) scope ce fp xe) [] H' b := fun {σ' H' s'} I' hn b hb => by
    refine ⟨hn b hb, (I'.ok.exf b hb).1, I'.ok.exfs b hb, .inl hb, fun x c e => (I'.ok.exf b hb).2 x c e, fun p hp => ?_⟩
    have hp : p ∈ ([] : List (Addr × Obj)) ++ [] := hp
    simp at hp
  have loop : codeAny (model X.prog X.w) X.A (.compLoop (.ListComp elt [⟨tg, iter, ifs, 0⟩] scope pos) 0 (.ref it) (.ref D) ce) (compPostX (model X.prog X.w) X.A X.xe use Qf (.ref D) s3.heap.objs.size ce.frame) s4 := by
    refine compLoop_any (Head (blkE X s3 (upd H2 D (.lst [])) scope ce fp xe) (L2.wipe σ (own.map (·.2))) fp tn P) (fun n s5 hd => ?_) n0 ⟨0, _, J4, t4, n4, p0⟩
    obtain ⟨i, H5, I5, t5, n5, p5⟩ := hd
    rw [← hxe]
    rcases turn i n H5 p5 with ⟨stop, q5⟩ | ⟨go, N, hN, next⟩
    · refine thnF (T.done (blkE X s3 (upd H2 D (.lst [])) scope ce fp xe) rfl rfl rfl calm i [] s5 _ H5 (fun _ _ => False) I5 (still I5 n5) t5 stop) fun r s6 h6 => ?_
      obtain ⟨rfl, I6⟩ := h6
      have I7 : L2.Inv X pins σ H5 s6 := I3.call' (ch := fp) I6.os I6.base I6.hok I6.bare fun b hb => by
        obtain ⟨_, u1, _, u3, u4, u5⟩ := (okfp3 b hb).1
        exact ⟨u3, u1, u4, u5⟩
      have freeC : H5 s3.heap.objs.size = none := by
        have z : H5 ce.locals = none := I6.free
        rw [ceL] at z
        exact z
      obtain ⟨m, hn, _⟩ := I6.loc
      exact out D s3.heap.objs.size s6 m H5 I7 q5 (by rw [← ceL]; exact hn) (I3.fpOk (Nat.le_refl _) freeC) _
    · refine thnF (T.item (blkE X s3 (upd H2 D (.lst [])) scope ce fp xe) rfl rfl rfl calm i [] s5 _ H5 (fun _ _ => False) I5 (still I5 n5) t5 go) fun r s6 h6 => ?_
      obtain ⟨u, rfl, h6⟩ := h6
      refine thnF h6 fun _ s7 h7 => ?_
      obtain ⟨x, H7, I7, r7, y7, t7, n7⟩ := h7
      have J7 := I7.pinned (still I7 n7) (T.obj _ _ t7)
      refine thn (mtg.run _ s7 _ H7 x u _ J7 r7 (next x H7 y7)) fun _ s8 h8 => ?_
      obtain ⟨σ8, H8, I8, w8, q8⟩ := h8
      refine thn (mifs.run _ s8 σ8 H8 _ I8 q8) fun b s9 h9 => ?_
      obtain ⟨H9, I9, q9⟩ := h9
      have close : ∀ {s' : Shared} {H' : Hp}, L2.Inv (blkE X s3 (upd H2 D (.lst [])) scope ce fp xe) ([] ++ pinsAt fp s7.heap) σ8 H' s' → N H' → ∃ m, m < n ∧ Head (blkE X s3 (upd H2 D (.lst [])) scope ce fp xe) (L2.wipe σ (own.map (·.2))) fp tn P m s' := fun {s' H'} I' hn => by
        obtain ⟨m', lt, p'⟩ := hN H' hn
        have keep : ∀ b ∈ fp, ∀ o, s7.heap.get? b = some o → s'.heap.get? b = some o ∧ H' b = none := fun b hb o e => by
          obtain ⟨z1, z2, _⟩ := I'.pin (b, o) (List.mem_append_right _ (List.mem_append_right _ (mem_pinsAt hb e)))
          exact ⟨z1, z2⟩
        refine ⟨m', lt, i + 1, H', (I'.unpinned (pins := [])).weak (by rw [← w8, wipe_length]) (fun j v e => ?_), T.keep _ _ _ t7 fun b hb o e => (keep b hb o e).1, fun b hb => ?_, p'⟩
        · rw [← w8] at e
          exact (wipe_some e).1
        · obtain ⟨o, e, _⟩ := T.obj _ _ t7 b hb
          exact (keep b hb o e).2
      cases b with
      | false =>
        rw [if_neg Bool.false_ne_true] at q9 ⊢
        exact close I9 q9
      | true =>
        rw [if_pos rfl] at q9 ⊢
        refine thn (melt.run _ s9 σ8 H9 _ I9 q9) fun z s10 h10 => ?_
        obtain ⟨yv, H10, I10, r10, acc, hacc, small, nx⟩ := h10
        exact app_ok (X := blkE X s3 (upd H2 D (.lst [])) scope ce fp xe) I10 hacc small r10 fun s11 I11 => close I11 nx
  exact codeAny_compStart_list loop (T.self X.A 0 _ _ _ t4 loop)
/-- as a value -/
theorem pe_lcX {elt tg iter : Expr} {ifs : List Expr} {scope : Scope} {own : List (Str × Nat)} {pos : Pos} {wi : TI} {g : TG} {tt : L2.St → TT} {te : L2.St → TE} (calm : X.calm = true) (nd : X.N.Nodup) (walk : PI X tg iter wi) (ok : BlkOk X.N X.env.scope scope own) (hF : Fly X W)
    (htg : ∀ (s : Shared) (H : Hp) (C : Addr) (cl : List (Str × Addr)) (fp : List Addr) (xe : Value → Shared → Prop), PG (blkE X s H scope (compEnvC scope cl C X.env) fp xe) tg g)
    (hifs : ∀ (σ : L2.St) (s : Shared) (H : Hp) (C : Addr) (cl : List (Str × Addr)) (fp : List Addr) (xe : Value → Shared → Prop), Fly (blkE X s H scope (compEnvC scope cl C X.env) fp xe) (WB W σ) → PTs (blkE X s H scope (compEnvC scope cl C X.env) fp xe) ifs (tt σ))
    (helt : ∀ (σ : L2.St) (s : Shared) (H : Hp) (C : Addr) (cl : List (Str × Addr)) (fp : List Addr) (xe : Value → Shared → Prop), Fly (blkE X s H scope (compEnvC scope cl C X.env) fp xe) (WB W σ) → PE (blkE X s H scope (compEnvC scope cl C X.env) fp xe) elt (te σ))
    (plain : ∀ x, foldedSetIterable iter X.env x = pure x) : PE X (.ListComp elt [⟨tg, iter, ifs, 0⟩] scope pos) (fun σ H Q => tLc wi g (tt σ) (te σ) (own.map (·.2)) σ H Q) := by
  refine ⟨fun pins s σ H Q I want => ?_⟩
  rw [eval_ListComp]
  refine lc_coreX calm nd I walk ok hF htg (hifs σ) (helt σ) plain want fun D C s' m H' I' q hn f fr => ?_
  obtain ⟨u0, u1, _, u3, u4, u5⟩ := f
  exact ⟨m, hn, fun h'' sb => ⟨.ref D, H', I'.turned (t' := s'.toks) (fun b o hb e => (sb.2 b hb).trans e) u0 u1 u3 u4 u5, rfl, q⟩⟩
/-- stored at once -/
theorem ps_setLcX {i : Nat} {y : Str} {py : Pos} {elt tg iter : Expr} {ifs : List Expr} {scope : Scope} {own : List (Str × Nat)} {pos spos : Pos} {wi : TI} {g : TG} {tt : L2.St → TT} {te : L2.St → TE} (calm : X.calm = true) (nd : X.N.Nodup) (hy : X.N[i]? = some y) (loc : X.env.scope.names.lookup y = some .local)
    (sw : swapsWith (.ListComp elt [⟨tg, iter, ifs, 0⟩] scope pos) (some (.Name y py)) spos.line X.env = pure true) (walk : PI X tg iter wi) (ok : BlkOk X.N X.env.scope scope own) (hF : Fly X W)
    (htg : ∀ (s : Shared) (H : Hp) (C : Addr) (cl : List (Str × Addr)) (fp : List Addr) (xe : Value → Shared → Prop), PG (blkE X s H scope (compEnvC scope cl C X.env) fp xe) tg g)
    (hifs : ∀ (σ : L2.St) (s : Shared) (H : Hp) (C : Addr) (cl : List (Str × Addr)) (fp : List Addr) (xe : Value → Shared → Prop), Fly (blkE X s H scope (compEnvC scope cl C X.env) fp xe) (WB W σ) → PTs (blkE X s H scope (compEnvC scope cl C X.env) fp xe) ifs (tt σ))
    (helt : ∀ (σ : L2.St) (s : Shared) (H : Hp) (C : Addr) (cl : List (Str × Addr)) (fp : List Addr) (xe : Value → Shared → Prop), Fly (blkE X s H scope (compEnvC scope cl C X.env) fp xe) (WB W σ) → PE (blkE X s H scope (compEnvC scope cl C X.env) fp xe) elt (te σ))
    (plain : ∀ x, foldedSetIterable iter X.env x = pure x) : PS X (.Assign [.Name y py] (.ListComp elt [⟨tg, iter, ifs, 0⟩] scope pos) spos) (tAsg (fun σ H Q => tLc wi g (tt σ) (te σ) (own.map (·.2)) σ H Q) (gName i)) := by
  refine ⟨fun pins s σ H En I want => ?_⟩
  rw [exec_Assign_Name_used _ _ _ _ sw]
  have want : tLc wi g (tt σ) (te σ) (own.map (·.2)) σ H (fun x H1 => gName i x σ H1 En.nx) := want
  have core := lc_coreX (pos' := firstIterPos [⟨tg, iter, ifs, 0⟩] pos) (pos := pos) (use := some (assign (.Name y py) X.env)) (Qf := fun _ s' => SP X pins En .next s') calm nd I walk ok hF htg (hifs σ) (helt σ) plain want fun L C s' m H' I' q hn f fr => by
    show wpAny _ _ (assign (.Name y py) X.env (.ref L)) _ _ _
    refine wpAny_assign_Name (store_ok2 (v := V.ref L) I' nd hy (.inl loc) rfl (fun s2 I2 z => ?_) (.inr loc))
    obtain ⟨a, sb, ha⟩ := z
    obtain ⟨u0, u1, _, u3, u4, u5⟩ := f
    have ne : C ≠ a := by
      rcases ha with z | z
      · rw [z]
        exact u1
      · exact fun e => u4 y a z e.symm
    exact ⟨m, hn.sameBut sb ne, fun h3 sb3 => ⟨_, H', I2.turned (t' := s2.toks) (fun b o hb e => (sb3.2 b hb).trans e) u0 u1 u3 u4 u5, q⟩⟩
  exact wpAny_bind (wpAny_standAt (wpAny_bind (wpAny_bind (thn core fun _ s' hq => wpAny_pure (wpAny_pure hq)))))
end
end Kn

set_option Elab.async false
set_option linter.all false
set_option maxRecDepth 100000
set_option maxHeartbeats 4000000
/-! Snd0: lists of expressions, calls' promises. -/
namespace Kn
open PySem L2
def stOf (x : String) : Str := Str.ofString x
section
variable (K : PySem.W.Frag) (cl : String → Option Addr) (O : Addr → Prop) (ro : List (Nat × V)) (W : WX)
def GEs (ts : List SV) (σ : St) (ws : List V) (f : List Addr) (H : Hp) (r : R (List SV)) (Q : List V → Hp → Prop) : Prop := match r with
  | .ok ss ρ' => ∀ vs H' f', ss.length = vs.length → Ext f H f' H' → Rel K cl O ro ρ' (ss ++ ts) σ (vs ++ ws) f' H' → Q vs H'
  | .exc x ρ' => ∀ c d H' f', Ext f H f' H' → Rel K cl O ro ρ' ts σ ws f' H' → XR K cl (Av O f') H' x c d → W c d σ H'
  | .no => False
def tEs (g : Env → R (List SV)) : TA := fun σ H Q => ∃ ρ ts ws f, Rel K cl O ro ρ ts σ ws f H ∧ GEs K cl O ro W ts σ ws f H (g ρ) Q
def tKs (h : List SV → Env → R SV) (vs : List V) (σ : St) (H : Hp) (Q : VK) : Prop := ∃ ss ρ ts ws f, ss.length = vs.length ∧ Rel K cl O ro ρ (ss ++ ts) σ (vs ++ ws) f H ∧ GE K cl O ro W ts σ ws f H (h ss ρ) Q
def tK1s (h : SV → List SV → Env → R SV) (v : V) (vs : List V) (σ : St) (H : Hp) (Q : VK) : Prop := ∃ s ss ρ ts ws f, ss.length = vs.length ∧ Rel K cl O ro ρ (ss ++ s :: ts) σ (vs ++ v :: ws) f H ∧ GE K cl O ro W ts σ ws f H (h s ss ρ) Q
end
section
variable {K : PySem.W.Frag} {cl : String → Option Addr} {O : Addr → Prop} {ro : List (Nat × V)} {W : WX} {ρ : Env} {ts : List SV} {σ : St} {ws : List V} {f f' : List Addr} {H H' : Hp} {s s' : SV} {v u : V} {x : D} {A A' : Addr → Prop} {r : R SV} {Q : VK} {Ql : List V → Hp → Prop}
theorem XR.stp {x : Xc} {c : Value} {d : Option Addr} (st : Stp A H A' H) (h : XR K cl A H x c d) : XR K cl A' H x c d := by
  obtain ⟨C, dd, fs, zs, a1, a2, a3, a4, a0, a5, a6, a7⟩ := h
  exact ⟨C, dd, fs, zs, a1, a2, a3, a4, (st _ _ a4 a0).2, a5, VRs.stp st _ _ a6, a7⟩
theorem GEs.ext {r : R (List SV)} (e : Ext f H f' H') (h : GEs K cl O ro W ts σ ws f H r Ql) : GEs K cl O ro W ts σ ws f' H' r Ql := by
  cases r with
  | ok s ρ' => exact fun v H2 f2 l e2 r2 => h v H2 f2 l (e.trans e2) r2
  | exc x ρ' => exact fun c d H2 f2 e2 r2 => h c d H2 f2 (e.trans e2) r2
  | no => exact h
/-- an exception above one more temporary -/
theorem exc_pop {Φ : Prop} {x : Xc} {ρ : Env} {c : Value} {d : Option Addr} (q : ∀ c d H' f', Ext f H f' H' → Rel K cl O ro ρ ts σ ws f' H' → XR K cl (Av O f') H' x c d → W c d σ H')
    (e1 : Ext f H f' H') (r1 : Rel K cl O ro ρ (s :: ts) σ (v :: ws) f' H') (xr : XR K cl (Av O f') H' x c d) : W c d σ H' := by
  obtain ⟨f2, e2, r2⟩ := r1.pop
  exact q c d H' f2 (e1.trans e2) r2 (xr.stp (Stp.ext e2 (fun _ h => h) fun a h => .inl h))
theorem tEs.nil (q : tEs K cl O ro W (fun ρ => .ok [] ρ) σ H Ql) : Ql [] H := by
  obtain ⟨ρ, ts, ws, f, r, q⟩ := q
  exact q [] H f rfl (Ext.refl f H) r
theorem tEs.cons {g : Env → R SV} {h : Env → R (List SV)} (q : tEs K cl O ro W (fun ρ => (g ρ).bind fun v ρ => (h ρ).bind fun vs ρ => .ok (v :: vs) ρ) σ H Ql) :
    tE K cl O ro W g σ H fun x H1 => tEs K cl O ro W h σ H1 fun xs H2 => Ql (x :: xs) H2 := by
  obtain ⟨ρ, ts, ws, f, r, q⟩ := q
  dsimp only at q
  refine ⟨ρ, ts, ws, f, r, ?_⟩
  cases e : g ρ with
  | ok s ρ1 =>
    rw [e] at q
    refine fun v H1 f1 e1 r1 => ⟨ρ1, s :: ts, v :: ws, f1, r1, ?_⟩
    have q : GEs K cl O ro W ts σ ws f H ((h ρ1).bind fun vs ρ => .ok (s :: vs) ρ) Ql := q
    cases e' : h ρ1 with
    | ok ss ρ2 =>
      rw [e'] at q
      refine fun vs H2 f2 l e2 r2 => ?_
      obtain ⟨f3, e3, r3⟩ := Rel.rot l r2
      exact q (v :: vs) H2 f3 (by rw [List.length_cons, List.length_cons, l]) ((e1.trans e2).trans e3) r3
    | exc x ρ2 =>
      rw [e'] at q
      intro c d H' f' e2 r2 xr
      exact exc_pop (Φ := True) q (e1.trans e2) r2 xr
    | no =>
      rw [e'] at q
      exact q
  | exc x ρ1 =>
    rw [e] at q
    exact q
  | no =>
    rw [e] at q
    exact q
theorem tEs.bind {g : Env → R (List SV)} {h : List SV → Env → R SV} (q : tE K cl O ro W (fun ρ => (g ρ).bind h) σ H Q) : tEs K cl O ro W g σ H fun vs H1 => tKs K cl O ro W h vs σ H1 Q := by
  obtain ⟨ρ, ts, ws, f, r, q⟩ := q
  dsimp only at q
  refine ⟨ρ, ts, ws, f, r, ?_⟩
  cases e : g ρ with
  | ok ss ρ1 =>
    rw [e] at q
    exact fun vs H1 f1 l e1 r1 => ⟨ss, ρ1, ts, ws, f1, l, r1, GE.ext e1 q⟩
  | exc x ρ1 =>
    rw [e] at q
    exact q
  | no =>
    rw [e] at q
    exact q
theorem tK1.binds {g : Env → R (List SV)} {h : SV → List SV → Env → R SV} (q : tK1 K cl O ro W (fun x ρ => (g ρ).bind (h x)) v σ H Q) : tEs K cl O ro W g σ H fun vs H1 => tK1s K cl O ro W h v vs σ H1 Q := by
  obtain ⟨s, ρ, ts, ws, f, r, q⟩ := q
  dsimp only at q
  refine ⟨ρ, s :: ts, v :: ws, f, r, ?_⟩
  cases e : g ρ with
  | ok ss ρ1 =>
    rw [e] at q
    exact fun vs H1 f1 l e1 r1 => ⟨s, ss, ρ1, ts, ws, f1, l, r1, GE.ext e1 q⟩
  | exc x ρ1 =>
    rw [e] at q
    intro c d H' f' e1 r1 xr
    exact exc_pop (Φ := True) q e1 r1 xr
  | no =>
    rw [e] at q
    exact q
theorem tKs.frz {h : List SV → Env → R SV} {vs : List V} (q : tKs K cl O ro W h vs σ H Q) : ∃ ss ρ ts ws f, ss.length = vs.length ∧ VRs K cl (Av O f) H (frzs ss) vs ∧ Rel K cl O ro ρ ts σ ws f H ∧ GE K cl O ro W ts σ ws f H (h ss ρ) Q := by
  obtain ⟨ss, ρ, ts, ws, f, l, r, q⟩ := q
  obtain ⟨f1, e1, r1, m⟩ := Rel.freezes l r
  exact ⟨ss, ρ, ts, ws, f1, l, m, r1, GE.ext e1 q⟩
theorem tK1s.frz {h : SV → List SV → Env → R SV} {vs : List V} (q : tK1s K cl O ro W h v vs σ H Q) : ∃ s ss ρ ts ws f, ss.length = vs.length ∧ VR K cl (Av O f) H (Kn.frz s) v ∧ VRs K cl (Av O f) H (frzs ss) vs ∧ Rel K cl O ro ρ ts σ ws f H ∧ GE K cl O ro W ts σ ws f H (h s ss ρ) Q := by
  obtain ⟨s, ss, ρ, ts, ws, f, l, r, q⟩ := q
  have r' : Rel K cl O ro ρ ((ss ++ [s]) ++ ts) σ ((vs ++ [v]) ++ ws) f H := by
    rw [List.append_assoc, List.append_assoc]
    exact r
  obtain ⟨f1, e1, r1, m⟩ := Rel.freezes (by rw [List.length_append, List.length_append, l]; rfl) r'
  have key : ∀ (ss : List SV) (vs : List V), ss.length = vs.length → VRs K cl (Av O f1) H (frzs (ss ++ [s])) (vs ++ [v]) → VRs K cl (Av O f1) H (frzs ss) vs ∧ VR K cl (Av O f1) H (Kn.frz s) v := by
    intro ss
    induction ss with
    | nil =>
      intro vs l m
      cases vs with
      | nil =>
        simp only [List.nil_append, frzs, VRs] at m
        obtain ⟨w, ws', e, q, _⟩ := m
        cases e
        exact ⟨VRs.nil, q⟩
      | cons _ _ => cases l
    | cons z ss ih =>
      intro vs l m
      cases vs with
      | nil => cases l
      | cons w vs =>
        simp only [List.cons_append, frzs, VRs] at m
        obtain ⟨w', ws', e, q, m⟩ := m
        cases e
        obtain ⟨h1, h2⟩ := ih vs (by simpa using l) m
        exact ⟨VRs.cons q h1, h2⟩
  obtain ⟨m1, m2⟩ := key ss vs l m
  exact ⟨s, ss, ρ, ts, ws, f1, l, m2, m1, r1, GE.ext e1 q⟩
end
/-- a def's promise: it does what F tells -/
def spF (K : PySem.W.Frag) (cl : String → Option Addr) (F : String → List SV → Cr) (q : String) : Sp := fun vs H Q E => ∃ O ss f, Rel K cl O [] (ss.map some) [] (vs.map some) [] f H ∧ (match F q ss with
  | .ok s outs => ∀ v H' f', ExW f H f' H' → Rel K cl O [] outs [s] (vs.map some) [v] f' H' → Q v H'
  | .exc x => ∀ c d H', ExW f H [] H' → XR K cl O H' x c d → E c d H'
  | .excO x outs => ∀ c d H' f', ExW f H f' H' → Rel K cl O [] outs [] (vs.map some) [] f' H' → XR K cl (Av O f') H' x c d → E c d H'
  | .no => False)
def CallOk (X : Cx) (cl : String → Option Addr) (F : String → List SV → Cr) (q : String) (a : Addr) : Prop :=
  ∃ fd ps k, FnOk X.prog X.w X.K X.mg X.base (L2.CX X.prog X.w) k a fd ps (spF X.K cl F q) ∧ Room (k + 1) X.A ∧ Binds X.K fd ps []
/-- the fields that an exception's __init__ leaves -/
def spEff (K : PySem.W.Frag) (eff : List V → Option (List (Str × V))) : Sp := fun vs H Q _ => ∃ (a C : Addr) (args : List V) (fs : List (Str × V)), vs = .ref a :: args ∧ OexC K C ∧ H a = some (exo a C none) ∧ eff args = some fs ∧
  (∀ f ∈ fs.map (·.1), PySem.W.findIn K (.ref C) f = some none) ∧ ∀ d, H d = none → d ≠ a → Q .non (upd (upd H d (exd d fs)) a (exo a C (some d)))
/-- an exception of the class c may be made of n things -/
def XMk (P : Program) (w : World) (K : PySem.W.Frag) (mg : Str → Option Value) (base : Heap) (cl : String → Option Addr) (xc : String → List D → Option Xc) (c : String) (n : Nat) : Prop :=
  ∃ (C fI : Addr) (fd : FuncData) (ps : List Str) (ds : List Value) (dvs : List V) (eff : List V → Option (List (Str × V))), cl c = some C ∧ mg (stOf c) = some (.ref C) ∧ OexC K C ∧ PySem.W.findIn K (.ref C) "__init__" = some (some (.ref fI)) ∧
    PySem.W.typeIn K (.ref fI) = some (.type "function") ∧ FnOk P w K mg base (L2.CX P w) 10 fI fd ps (spEff K eff) ∧ Binds K fd ps ds ∧ Vals dvs ds ∧ n ≤ 100 ∧
    ∀ xs x, xs.length = n → xc c xs = some x → x.c = c ∧ ∀ A H vs, VRs K cl A H xs vs → ∃ fs ws, eff (vs ++ dvs) = some fs ∧ (∀ f ∈ fs.map (·.1), PySem.W.findIn K (.ref C) f = some none) ∧ x.ns.length = ws.length ∧ VRs K cl A H x.xs ws ∧ ∀ n, fs.lookup n = (zipS x.ns ws).lookup n
/-- a class that is called without more: __init__ is object's -/
structure Mk0 (K : PySem.W.Frag) (C : Addr) : Prop where
  makes : PySem.W.makesIn K C = true
  init : PySem.W.findIn K (.ref C) "__init__" = some (some (.builtin "object.__init__"))
  top : PySem.W.mroIn K C (.type "object") = some true
  kp : PySem.W.keepIn K (.ref C) = true
/-- what a body may lean on -/
structure Sd (X : Cx) (t : T) (F : String → List SV → Cr) (cl : String → Option Addr) (W : WX) : Prop where
  calm : X.calm = true
  nd : X.N.Nodup
  hu : X.A.units + 70 < cLine
  glob : ∀ x d, t.glob x = some d → ∃ u v, X.mg (stOf x) = some u ∧ RelV v u ∧ ∀ A H, VR X.K cl A H d v
  blt : ∀ b : Bf, X.mg (stOf (bfN b)) = none
  tyn : ∀ n, tys.contains n = true → X.mg (stOf n) = none
  isx : IsxOk X.K cl t
  xcl : ∀ c, t.exn c = true → ∃ A, cl c = some A ∧ X.mg (stOf c) = some (.ref A)
  xmk : ∀ c n, t.xn c n = true → XMk X.prog X.w X.K X.mg X.base cl t.xc c n
  xroom : Room 11 X.A
  rng : X.mg "range" = none
  enm : X.mg "enumerate" = none
  isa : IsaOk X.K cl t
  fn : ∀ f, t.isFn f = true → ∃ a, X.mg (stOf f) = some (.ref a) ∧ PySem.W.keepIn X.K (.ref a) = true ∧ CallOk X cl F f a
  meth : ∀ c m q C, t.meth c m = some q → cl c = some C → Cls X.K C ∧ ∃ a, Meth X.K C (stOf m) a ∧ CallOk X cl F q a
  ini0 : ∀ c, t.ini0 c = true → ∃ C, cl c = some C ∧ X.mg (stOf c) = some (.ref C) ∧ Mk0 X.K C
  zp : X.mg "zip" = none
  init : ∀ c q, t.init c = some q → ∃ C a, cl c = some C ∧ X.mg (stOf c) = some (.ref C) ∧ Mk X.K C a ∧ CallOk X cl F q a
  fld : ∀ c f C, t.fld c f = true → cl c = some C → Cls X.K C ∧ NoAttr X.K C (stOf f)
  fly : Fly X W
section
variable {K : PySem.W.Frag} {cl : String → Option Addr} {O : Addr → Prop} {ro : List (Nat × V)} {W : WX} {ρ : Env} {ts : List SV} {σ : St} {ws : List V} {f f' : List Addr} {H H' : Hp} {s s' : SV} {v u : V} {x : D} {A A' : Addr → Prop} {r : R SV} {Q : VK}
mutual
theorem OR.dom : ∀ (s : SV) (v : V) (f : List Addr), OR K cl A H s v f → ∀ a ∈ f, H a ≠ none
  | .d x, v, f, r => by
    unfold OR at r
    rw [r.2]
    intro a h
    cases h
  | .lst xs, v, f, r => by
    unfold OR at r
    obtain ⟨b, ws, f', e, q, ef, m⟩ := r
    intro a h
    rw [ef] at h
    rcases List.mem_cons.mp h with rfl | h
    · rw [q]; exact fun z => nomatch z
    · exact ORs.dom xs ws f' m a h
  | .ins c ns xs, v, f, r => by
    unfold OR at r
    obtain ⟨b, C, dx, ws, f', e, ec, q, l, ef, m⟩ := r
    intro a h
    rw [ef] at h
    rcases List.mem_cons.mp h with rfl | h
    · rw [q]; exact fun z => nomatch z
    · exact ORs.dom xs ws f' m a h
  | .dk ks xs, v, f, r => by
    unfold OR at r
    obtain ⟨b, ws, f', e, q, l, ef, m⟩ := r
    intro a h
    rw [ef] at h
    rcases List.mem_cons.mp h with rfl | h
    · rw [q]; exact fun z => nomatch z
    · exact ORs.dom xs ws f' m a h
theorem ORs.dom : ∀ (xs : List SV) (ws : List V) (f : List Addr), ORs K cl A H xs ws f → ∀ a ∈ f, H a ≠ none
  | [], _, _, r => by
    unfold ORs at r
    rw [r.2]
    intro a h
    cases h
  | x :: xs, ws, f, r => by
    unfold ORs at r
    obtain ⟨w, ws', f1, f2, e, ef, q, m⟩ := r
    intro a h
    rw [ef] at h
    rcases List.mem_append.mp h with h | h
    · exact OR.dom x w f1 q a h
    · exact ORs.dom xs ws' f2 m a h
end
theorem OE.dom : ∀ {ρ : Env} {σ : St} {f : List Addr}, OE K cl A H ρ σ f → ∀ a ∈ f, H a ≠ none
  | [], _, _, r => by
    unfold OE at r
    rw [r.2]
    intro a h
    cases h
  | s :: ρ, σ, f, r => by
    unfold OE at r
    obtain ⟨v, σ', f1, f2, e, ef, q, m⟩ := r
    intro a h
    rw [ef] at h
    rcases List.mem_append.mp h with h | h
    · cases s with
      | none =>
        have q' : f1 = [] := q
        rw [q'] at h
        cases h
      | some s =>
        obtain ⟨w, _, q⟩ := q
        exact OR.dom s w f1 q a h
    · exact OE.dom m a h
theorem Rel.dom (r : Rel K cl O ro ρ ts σ ws f H) : ∀ a, Av O f a → H a ≠ none := by
  obtain ⟨fe, ft, e, c, d, o, p, q, z⟩ := r
  intro a h
  rcases h with h | h
  · exact o a h
  · rw [e] at h
    rcases List.mem_append.mp h with h | h
    · exact OE.dom p a h
    · exact ORs.dom _ _ _ q a h
/-- data handed in -/
theorem OE.ofD : ∀ {xs : List D} {vs : List V}, VRs K cl A H xs vs → OE K cl A H ((xs.map SV.d).map some) (vs.map some) []
  | [], vs, r => by
    unfold VRs at r
    rw [r]
    unfold List.map OE
    exact ⟨rfl, rfl⟩
  | x :: xs, vs, r => by
    unfold VRs at r
    obtain ⟨w, ws', rfl, q, m⟩ := r
    rw [List.map_cons, List.map_cons, List.map_cons]
    unfold OE
    refine ⟨some w, ws'.map some, [], [], rfl, rfl, ⟨w, rfl, ?_⟩, OE.ofD m⟩
    unfold OR
    exact ⟨q, rfl⟩
theorem Rel.enter {xs : List D} {vs : List V} (r : Rel K cl O ro ρ ts σ ws f H) (m : VRs K cl (Av O f) H xs vs) : Rel K cl (Av O f) [] ((xs.map SV.d).map some) [] (vs.map some) [] [] H := by
  have e : Av (Av O f) [] = Av O f := by
    funext a
    simp [Av]
  refine ⟨[], [], rfl, fun a => (by simp), fun a h => (by cases h), r.dom, ?_, ORs.nil, fun p h => (by cases h)⟩
  rw [e]
  exact OE.ofD m
/-- behind a call: what it made stands above the caller's -/
theorem Rel.back {g g1 : List Addr} (r : Rel K cl O ro ρ ts σ ws f H) (e : ExW [] H g H') (hs : ∀ a, g1.count a ≤ g.count a) (hc : ∀ a, g.count a ≤ 1) (q : OR K cl (Av (Av O f) g) H' s v g1) :
    ∃ f'', Ext f H f'' H' ∧ Rel K cl O ro ρ (s :: ts) σ (v :: ws) f'' H' := by
  have dm := r.dom
  obtain ⟨fe, ft, ef, c, d, o, p, q2, z⟩ := r
  subst ef
  have keep : ∀ a o, H a = some o → H' a = some o := fun a o h => e.1 a o h fun m => by cases m
  have g1g : ∀ a ∈ g1, a ∈ g := fun a h => by
    rw [mem_of_count] at h ⊢
    exact Nat.lt_of_lt_of_le h (hs a)
  have new : ∀ a ∈ g1, H a = none := fun a h => (e.2 a (g1g a h)).elim (fun z => by cases z) id
  have same : ∀ a ∈ fe ++ ft, H' a = H a := fun a h => by
    cases q : H a with
    | none => exact absurd q (dm a (.inr h))
    | some o => exact keep a o q
  have st : Stp (Av O (fe ++ ft)) H (Av O (fe ++ (g1 ++ ft))) H' := fun a u h n => by
    refine ⟨keep a u h, fun m => ?_⟩
    rcases m with m | m
    · exact n (.inl m)
    · simp only [List.mem_append] at m
      rcases m with m | m | m
      · exact n (.inr (by simp only [List.mem_append]; exact .inl m))
      · rw [new a m] at h; cases h
      · exact n (.inr (by simp only [List.mem_append]; exact .inr m))
  have st2 : Stp (Av (Av O (fe ++ ft)) g) H' (Av O (fe ++ (g1 ++ ft))) H' := fun a u h n => by
    refine ⟨h, fun m => n ?_⟩
    rcases m with m | m
    · exact .inl (.inl m)
    · simp only [List.mem_append] at m
      rcases m with m | m | m
      · exact .inl (.inr (by simp only [List.mem_append]; exact .inl m))
      · exact .inr (g1g a m)
      · exact .inl (.inr (by simp only [List.mem_append]; exact .inr m))
  refine ⟨fe ++ (g1 ++ ft), ⟨fun a o h _ => keep a o h, fun a h => ?_⟩, fe, g1 ++ ft, rfl, fun a => ?_, fun a h => ?_, fun a h => ?_, OE.stp st _ _ _ (fun a h => same a (List.mem_append_left _ h)) p,
    ORs.cons (OR.stp st2 _ _ _ (fun _ _ => rfl) q) (ORs.stp st _ _ _ (fun a h => same a (List.mem_append_right _ h)) q2), z⟩
  · simp only [List.mem_append] at h ⊢
    rcases h with h | h | h
    · exact .inl (.inl h)
    · exact .inr (new a h)
    · exact .inl (.inr h)
  · have h1 := c a
    have h2 := hc a
    have h3 := hs a
    simp only [List.count_append] at h1 ⊢
    by_cases hg : a ∈ g1
    · have h4 : (fe ++ ft).count a = 0 := List.count_eq_zero.mpr fun m => dm a (.inr m) (new a hg)
      simp only [List.count_append] at h4
      omega
    · have h4 : g1.count a = 0 := List.count_eq_zero.mpr hg
      omega
  · simp only [List.mem_append] at h
    rcases h with h | h | h
    · exact d a (List.mem_append_left _ h)
    · exact fun z => o a z (new a h)
    · exact d a (List.mem_append_right _ h)
  · cases w : H a with
    | none => exact absurd w (o a h)
    | some u =>
      rw [keep a u w]
      exact fun z => nomatch z
/-- an exception, nothing changed -/
theorem exc_grow {x : Xc} {c : Value} {d : Option Addr} (rr : Rel K cl O ro ρ ts σ ws f H) (keep : ∀ a o, H a = some o → H' a = some o)
    (g : ∀ c d H' f', Ext f H f' H' → Rel K cl O ro ρ ts σ ws f' H' → XR K cl (Av O f') H' x c d → W c d σ H') (xr : XR K cl (Av O f) H' x c d) : W c d σ H' := by
  have dm := rr.dom
  obtain ⟨fe, ft, ef, cc, dd, o, p, q2, z⟩ := rr
  have same : ∀ a ∈ f, H' a = H a := fun a h => by
    cases q : H a with
    | none => exact absurd q (dm a (.inr h))
    | some o => exact keep a o q
  have st : Stp (Av O f) H (Av O f) H' := fun a u h n => ⟨keep a u h, n⟩
  refine g c d H' f ⟨fun a o h _ => keep a o h, fun a h => .inl h⟩ ⟨fe, ft, ef, cc, dd, fun a h => ?_, OE.stp st _ _ _ (fun a h => same a (by rw [ef]; exact List.mem_append_left _ h)) p, ORs.stp st _ _ _ (fun a h => same a (by rw [ef]; exact List.mem_append_right _ h)) q2, z⟩ xr
  cases w : H a with
  | none => exact absurd w (o a h)
  | some u =>
    rw [keep a u w]
    exact fun z => nomatch z
/-- an own def called with data -/
theorem call_ok {F : String → List SV → Cr} {q : String} {xs : List D} {vs : List V} {E : XK} (hE : E = fun c d H => W c d σ H) (rr : Rel K cl O ro ρ ts σ ws f H) (m : VRs K cl (Av O f) H xs vs)
    (g : GE K cl O ro W ts σ ws f H (ofCr (F q (xs.map .d)) ρ) Q) : spF K cl F q vs H Q E := by
  subst hE
  refine ⟨Av O f, xs.map .d, [], rr.enter m, ?_⟩
  cases e : F q (xs.map .d) with
  | ok s outs =>
    rw [e] at g
    intro v H' g' ex r'
    obtain ⟨fe, ft, e0, c, d, o, p, q2, z⟩ := r'
    have q3 : OR K cl (Av (Av O f) g') H' s v ft := by
      unfold ORs at q2
      obtain ⟨w, ws', f1, f2, e1, e2, h1, h2⟩ := q2
      unfold ORs at h2
      cases e1
      rw [e2, h2.2, List.append_nil]
      exact h1
    obtain ⟨f'', e'', r''⟩ := Rel.back rr ex (g1 := ft) (fun a => by rw [e0, List.count_append]; omega) c q3
    exact g v H' f'' e'' r''
  | exc x =>
    rw [e] at g
    intro c d H' ex xr
    exact exc_grow rr (fun a o h => ex.1 a o h fun m => by cases m) g xr
  | excO x outs =>
    rw [e] at g
    intro c d H' f' ex _ xr
    exact exc_grow rr (fun a o h => ex.1 a o h fun m => by cases m) g (xr.stp fun a o h n => ⟨h, fun z => n (.inl z)⟩)
  | no =>
    rw [e] at g
    exact g
/-- an own class's instance made with data -/
theorem mk_ok {F : String → List SV → Cr} {q c : String} {C : Addr} {xs : List D} {vs : List V} {E : XK} {a dx : Addr} (hE : E = fun c d H => W c d σ H) (hC : cl c = some C) (rr : Rel K cl O ro ρ ts σ ws f H) (m : VRs K cl (Av O f) H xs vs)
    (g : GE K cl O ro W ts σ ws f H (ofMk (F q (.ins c [] [] :: xs.map .d)) ρ) Q) (na : H a = none) (nd : H dx = none) (ne : dx ≠ a) :
    spF K cl F q (.ref a :: vs) (upd (upd H dx (.own a)) a (.ins C dx [])) (fun v H2 => v = .non ∧ Q (.ref a) H2) E := by
  subst hE
  obtain ⟨e1, r1, np1, st1⟩ := rr.alloc (o := .own a) nd
  have na1 : (upd H dx (.own a)) a = none := by rw [upd_ne (Ne.symm ne)]; exact na
  obtain ⟨e2, r2, np2, st2⟩ := r1.alloc (o := .ins C dx []) na1
  have nfa : ¬ Av O f a := np2
  have m2 : VRs K cl (Av (Av O f) [a]) (upd (upd H dx (.own a)) a (.ins C dx [])) xs vs := by
    refine VRs.stp (A := Av O f) (fun b u h n => ?_) _ _ m
    have hb : b ≠ a := fun z => by rw [z, na] at h; cases h
    have hb2 : b ≠ dx := fun z => by rw [z, nd] at h; cases h
    refine ⟨by rw [upd_ne hb, upd_ne hb2]; exact h, fun z => ?_⟩
    rcases z with z | z
    · exact n z
    · exact hb (by simpa using z)
  have ent : Rel K cl (Av O f) [] ((SV.ins c [] [] :: xs.map SV.d).map some) [] ((V.ref a :: vs).map some) [] [a] (upd (upd H dx (.own a)) a (.ins C dx [])) := by
    refine ⟨[a], [], rfl, fun b => (by simp only [List.append_nil, List.count_cons, List.count_nil]; split <;> omega), fun b h => ?_, r2.dom, ?_, ORs.nil, fun p h => (by cases h)⟩
    · rw [show b = a by simpa using h]
      exact nfa
    · rw [List.map_cons, List.map_cons]
      unfold OE
      refine ⟨some (.ref a), vs.map some, [a], [], rfl, rfl, ⟨.ref a, rfl, ?_⟩, OE.ofD m2⟩
      unfold OR
      exact ⟨a, C, dx, [], [], rfl, hC, upd_same, rfl, rfl, ORs.nil⟩
  refine ⟨Av O f, .ins c [] [] :: xs.map .d, [a], ent, ?_⟩
  have keep : ∀ {g' : List Addr} {H' : Hp}, ExW [a] (upd (upd H dx (.own a)) a (.ins C dx [])) g' H' → ExW [] H g' H' := fun {g' H'} ex => by
    refine ⟨fun b u h _ => ?_, fun b h => ?_⟩
    · have hb : b ≠ a := fun z => by rw [z, na] at h; cases h
      have hb2 : b ≠ dx := fun z => by rw [z, nd] at h; cases h
      exact ex.1 b u (by rw [upd_ne hb, upd_ne hb2]; exact h) fun m => hb (by simpa using m)
    · right
      rcases ex.2 b h with z | z
      · rw [show b = a by simpa using z]; exact na
      · by_cases hb : b = a
        · rw [hb]; exact na
        · rw [upd_ne hb] at z
          by_cases hb2 : b = dx
          · rw [hb2]; exact nd
          · rw [upd_ne hb2] at z; exact z
  cases e : F q (.ins c [] [] :: xs.map .d) with
  | ok s outs =>
    rw [e] at g
    intro v H' g' ex r'
    obtain ⟨fe, ft, e0, cc, d, o, p, q2, z⟩ := r'
    unfold ofMk at g
    split at g
    · rename_i heq
      cases heq
      have hv : v = .non := by
        unfold ORs at q2
        obtain ⟨w', ws', f1, f2, e1, e2, h1, h2⟩ := q2
        cases e1
        unfold OR at h1
        exact h1.1.nonE
      refine ⟨hv, ?_⟩
      rw [List.map_cons] at p
      unfold OE at p
      obtain ⟨v0, σ', f1, f2, e1, e2, h1, h2⟩ := p
      cases e1
      obtain ⟨w0, e3, h3⟩ := h1
      cases e3
      obtain ⟨f'', e'', r''⟩ := Rel.back rr (keep ex) (g1 := f1) (fun b => by rw [e0, e2, List.count_append, List.count_append]; omega) cc h3
      exact g (.ref a) H' f'' e'' r''
    · exact g.elim
    · cases ‹Cr.ok _ _ = _›
    · cases ‹Cr.ok _ _ = _›
    · cases ‹Cr.ok _ _ = _›
  | exc x =>
    rw [e] at g
    intro c' d' H' ex xr
    exact exc_grow rr (fun a o h => (keep ex).1 a o h fun m => by cases m) g xr
  | excO x outs =>
    rw [e] at g
    intro c' d' H' f' ex _ xr
    exact exc_grow rr (fun a o h => (keep ex).1 a o h fun m => by cases m) g (xr.stp fun a o h n => ⟨h, fun z => n (.inl z)⟩)
  | no =>
    rw [e] at g
    exact g
end
end Kn

set_option Elab.async false
set_option linter.all false
set_option maxRecDepth 100000
set_option maxHeartbeats 4000000
/-! Syn: what the model's syntax asks besides; the look at core text and text. -/
open PySem L2
namespace Kn
def noSt : Expr → Bool
  | .Starred _ _ => false
  | _ => true
theorem star_cons {x : Expr} {xs : List Expr} {env : PySem.Env} (h : noSt x = true) : starEach (x :: xs) env = (false, eval x env) :: starEach xs env := by
  cases x <;> first | rfl | cases h
theorem star_any {pos : Pos} {env : PySem.Env} : ∀ {xs : List Expr}, xs.all noSt = true → (backTo pos (starEach xs env)).any (·.1) = false
  | [], _ => rfl
  | x :: xs, h => by
    rw [List.all_cons, Bool.and_eq_true] at h
    rw [star_cons h.1]
    have ih := star_any (pos := pos) (env := env) h.2
    cases xs with
    | nil => rfl
    | cons y ys =>
      rw [List.all_cons, Bool.and_eq_true] at h
      rw [star_cons h.2.1] at ih ⊢
      exact ih
end Kn
namespace Kn
def noSl : Expr → Bool
  | .Slice _ _ _ _ => false
  | _ => true
theorem plainIx {b : Expr} (h : noSl b = true) : PlainIx b := by
  intro o i
  cases b <;> first | rfl | cases h
theorem stepIx {s : Expr} {p : Pos} : ∀ o i, PySem.subscripted (.Slice none none (some s) p) false o i = operate [o, i] (getItem o i) := fun _ _ => rfl
def noSup : Expr → Bool
  | .Call (.Name id _) [] [] _ => !(id == Str.ofString "super")
  | _ => true
theorem attr_base {o : Expr} {f : Str} {env : PySem.Env} (h : noSup o = true) : attributeBase o f env (eval o env) = eval o env := by
  cases o with
  | Call fn args kws pos =>
    cases fn with
    | Name id p =>
      cases args with
      | nil =>
        cases kws with
        | nil =>
          have h' : (id != Str.ofString "super") = true := h
          unfold attributeBase
          simp only [h', Bool.true_or, if_true]
        | cons _ _ => rfl
      | cons _ _ => rfl
    | _ => rfl
  | _ => rfl
def noLc : Expr → Bool
  | .ListComp _ _ _ _ => false
  | .SetComp _ _ _ _ => false
  | .DictComp _ _ _ _ _ => false
  | _ => true
theorem swaps_no {e : Expr} {t : Option Expr} {l : Nat} {env : PySem.Env} (h : noLc e = true) : swapsWith e t l env = pure false := by
  cases e <;> first | rfl | cases h
def noSet : Expr → Bool
  | .Set _ _ _ => false
  | _ => true
theorem fold_no {e : Expr} {env : PySem.Env} (h : noSet e = true) : ∀ x, foldedSetIterable e env x = pure x := by
  intro x
  cases e <;> first | rfl | cases h
theorem mark_no {e : Expr} {op : CmpOp} (h : noSet e = true) : behindInMarks op e = false := by
  cases e <;> first | rfl | cases h
theorem marks_no {e e2 : Expr} {op op2 : CmpOp} (h : noSet e2 = true) : lastMarks [op, op2] [e, e2] = false := by
  show behindInMarks op2 e2 = false
  exact mark_no h
def plT : Expr → Bool
  | .Name _ _ => true
  | .Call _ _ _ _ => true
  | .Attribute _ _ _ => true
  | .Subscript _ _ _ => true
  | _ => false
theorem plain_test {e : Expr} {env : PySem.Env} (h : plT e = true) : ∀ whole, isTrue e env whole = (do let v ← whole; standAt e.pos; holding [v] (truthy v)) := by
  intro whole
  cases e <;> first | rfl | cases h
theorem star_all {pos : Pos} {env : PySem.Env} : ∀ {xs : List Expr}, xs.all noSt = true → (backTo pos (starEach xs env)).all (fun x => !x.1) = true
  | [], _ => rfl
  | x :: xs, h => by
    rw [List.all_cons, Bool.and_eq_true] at h
    rw [star_cons h.1]
    exact star_all (pos := pos) (env := env) h.2
theorem few_ok {pos : Pos} {env : PySem.Env} {xs : List Expr} (h : xs.all noSt = true) (hn : xs.length < 30) : methodCallForm (xs.length + ([] : List Keyword).length) (backTo pos (starEach xs env)) (backToKw pos (keywordEach [] env)) = true := by
  unfold methodCallForm
  rw [star_all h]
  show (true && true && decide (xs.length + 0 + 0 < 30)) = true
  rw [decide_eq_true (by omega)]
  rfl
theorem meth_eval {o : Expr} {m : Str} {apos pos : Pos} {args : List Expr} {env : PySem.Env} (h : noSup o = true) (ha : args.all noSt = true) (hn : args.length < 30) (hl : (apos.endLine == pos.line) = true) :
    eval (.Call (.Attribute o m apos) args [] pos) env = (do
      let ov ← eval o env
      standAt apos.atName
      let (f, first) ← holding [ov] (getMethod ov m (do return (← importBound o env).getD true))
      callWith pos f first (backTo pos (starEach args env)) (backToKw pos (keywordEach [] env))) := by
  show (do
    let ov ← attributeBase o m env (eval o env)
    standAt apos.atName
    methodCall o m apos pos env ov (args.length + ([] : List Keyword).length) (backTo pos (starEach args env)) (backToKw pos (keywordEach [] env))) = _
  rw [attr_base h]
  unfold methodCall calleeOf methodCallPos
  rw [few_ok ha hn, hl]
  rfl
end Kn
namespace Kn
open PySem L2
def visB (sc : Scope) (x : Str) : Bool := match sc.names.lookup x with
  | some .local => true
  | some .cell => true
  | some .free => true
  | _ => false
def locB (sc : Scope) (x : Str) : Bool := match sc.names.lookup x with
  | some .local => true
  | some .cell => true
  | _ => false
def glB (sc : Scope) (x : Str) : Bool := match sc.names.lookup x with
  | some .globalImplicit => true
  | _ => false
def nmB (x : Str) : Bool := !(x == ("__debug__" : Str)) && (!(x == ("__classdict__" : Str)) && decide (x ≠ ("__name__" : Str)))
theorem visB_ok {sc : Scope} {x : Str} (h : visB sc x = true) : Vis sc x := by
  unfold visB at h
  unfold Vis
  split at h
  · exact .inl ‹_›
  · exact .inr (.inl ‹_›)
  · exact .inr (.inr ‹_›)
  · cases h
theorem locB_ok {sc : Scope} {x : Str} (h : locB sc x = true) : L2.Loc sc x := by
  unfold locB at h
  unfold L2.Loc
  split at h
  · exact .inl ‹_›
  · exact .inr ‹_›
  · cases h
theorem glB_ok {X : Cx} {x : Str} (h : glB X.env.scope x = true) : Gl X x := by
  unfold glB at h
  unfold Gl Env.kindOf
  split at h
  · assumption
  · cases h
theorem nmB_ok {x : Str} (h : nmB x = true) : (x == ("__debug__" : Str)) = false ∧ (x == ("__classdict__" : Str)) = false ∧ x ≠ ("__name__" : Str) := by
  unfold nmB at h
  simp only [Bool.and_eq_true, Bool.not_eq_true', decide_eq_true_eq] at h
  exact ⟨h.1, h.2.1, h.2.2⟩
/-- a name of the module -/
def gnB (sc : Scope) (x y : Str) : Bool := decide (x = y) && (glB sc x && nmB x)
def opB : BOp → Operator → Bool
  | .add, .Add => true
  | .sub, .Sub => true
  | .mul, .Mult => true
  | .fdiv, .FloorDiv => true
  | .mod, .Mod => true
  | .pow, .Pow => true
  | _, _ => false
theorem opB_ok {o : BOp} {op : Operator} (h : opB o op = true) : op = opOf o := by
  cases o <;> cases op <;> first | rfl | cases h
def copB : COp → CmpOp → Bool
  | .eq, .Eq => true
  | .ne, .NotEq => true
  | .lt, .Lt => true
  | .le, .LtE => true
  | .gt, .Gt => true
  | .ge, .GtE => true
  | .is_, .Is => true
  | .isnot, .IsNot => true
  | .in_, .In => true
  | .notin, .NotIn => true
  | _, _ => false
theorem copB_ok {o : COp} {op : CmpOp} (h : copB o op = true) : op = cOf o := by
  cases o <;> cases op <;> first | rfl | cases h
def ownT (N : List Str) (tg : Tg) : List (Str × Nat) := (slotsT tg).map fun i => ((N[i]?).getD Str.empty, i)
/-- a target's names -/
def ckN (N : List Str) (sc : Scope) : List Nat → List Expr → Bool
  | [], [] => true
  | i :: is, .Name x _ :: xs => decide (N[i]? = some x) && (locB sc x && ckN N sc is xs)
  | _, _ => false
def ckG (N : List Str) (sc : Scope) : Tg → Expr → Bool
  | .nm i, .Name x _ => decide (N[i]? = some x) && locB sc x
  | .tp is, .Tuple xs _ _ => ckN N sc is xs && decide (is.Nodup)
  | _, _ => false
/-- enumerate is walked into a tuple of names only -/
def enuOk (it : E) (g : Expr) : Bool := match it with
  | .enu _ => (match g with
    | .Tuple _ _ _ => true
    | _ => false)
  | .zip _ => (match g with
    | .Tuple _ _ _ => true
    | _ => false)
  | _ => true
/-- a display's keys -/
def ckK1 (k : Kx) (e : Option Expr) : Bool := match k with
  | .i n => (match e with
    | some (.Constant (.int c) _ _) => decide (n = c)
    | _ => false)
  | .s l => (match e with
    | some (.Constant (.str c) _ _) => decide (c = mkS l)
    | _ => false)
def ckK : List Kx → List (Option Expr) → Bool
  | [], [] => true
  | k :: ks, e :: es => ckK1 k e && ckK ks es
  | _, _ => false
def isCmp : E → Bool
  | .cmp _ _ _ => true
  | .chn _ _ _ _ _ => true
  | .bor e => isCmp e
  | _ => false
mutual
/-- is the text what the core text says (b: a thing that is walked) -/
def ck (N : List Str) : E → Bool → Scope → Expr → Bool
  | .var i, _, sc, x => (match x with
    | .Name y _ => decide (N[i]? = some y) && (visB sc y && nmB y)
    | _ => false)
  | .non, _, _, x => (match x with
    | .Constant .none _ _ => true
    | _ => false)
  | .bl b, _, _, x => (match x with
    | .Constant (.bool c) _ _ => decide (b = c)
    | _ => false)
  | .int i, _, _, x => (match x with
    | .Constant (.int c) _ _ => decide (i = c)
    | _ => false)
  | .str s, _, _, x => (match x with
    | .Constant (.str c) _ _ => decide (c = mkS s)
    | _ => false)
  | .glb g, _, sc, x => (match x with
    | .Name y _ => gnB sc y (stOf g)
    | _ => false)
  | .tyn g, _, sc, x => (match x with
    | .Name y _ => gnB sc y (stOf g) && tys.contains g
    | _ => false)
  | .tup es, _, sc, x => (match x with
    | .Tuple xs _ _ => cks N es sc xs
    | _ => false)
  | .lst es, _, sc, x => (match x with
    | .List xs _ => cks N es sc xs
    | _ => false)
  | .bin o a b, _, sc, x => (match x with
    | .BinOp y op z _ => opB o op && (ck N a false sc y && ck N b false sc z)
    | _ => false)
  | .neg a, _, sc, x => (match x with
    | .UnaryOp .USub y _ => ck N a false sc y
    | _ => false)
  | .not a, _, sc, x => (match x with
    | .UnaryOp .Not y _ => ck N a false sc y
    | _ => false)
  | .and a b, _, sc, x => (match x with
    | .BoolOp .And [y, z] _ => ck N a false sc y && ck N b false sc z
    | .BoolOp .And (y :: z :: u :: r) p => ck N a false sc y && ck N b false sc (.BoolOp .And (z :: u :: r) p)
    | _ => false)
  | .or a b, _, sc, x => (match x with
    | .BoolOp .Or [y, z] _ => ck N a false sc y && ck N b false sc z
    | .BoolOp .Or (y :: z :: u :: r) p => ck N a false sc y && ck N b false sc (.BoolOp .Or (z :: u :: r) p)
    | _ => false)
  | .cmp o a b, _, sc, x => (match x with
    | .Compare y [op] [z] _ => copB o op && (ck N a false sc y && (ck N b false sc z && noSet z))
    | _ => false)
  | .chn o p a b c, _, sc, x => (match x with
    | .Compare y [op, oq] [z, u] _ => copB o op && (copB p oq && (ck N a false sc y && (ck N b false sc z && (ck N c false sc u && noSet u))))
    | _ => false)
  | .ife c a b, _, sc, x => (match x with
    | .IfExp y p q _ => (ck N c false sc y && (plT y || isCmp c)) && (ck N a false sc p && ck N b false sc q)
    | _ => false)
  | .idx a i, _, sc, x => (match x with
    | .Subscript y z _ => ck N a false sc y && (ck N i false sc z && noSl z)
    | _ => false)
  | .slc a lo hi, _, sc, x => (match x with
    | .Subscript y (.Slice none none none _) _ => ck N a false sc y && (isEmp lo && isEmp hi)
    | .Subscript y (.Slice none (some h) none _) _ => ck N a false sc y && (isEmp lo && (ck N hi false sc h && !isEmp hi))
    | .Subscript y (.Slice (some l) none none _) _ => ck N a false sc y && (ck N lo false sc l && (isEmp hi && !isEmp lo))
    | .Subscript y (.Slice (some l) (some h) none _) _ => ck N a false sc y && (ck N lo false sc l && (ck N hi false sc h && (!isEmp lo && !isEmp hi)))
    | _ => false)
  | .stp a k, _, sc, x => (match x with
    | .Subscript y (.Slice none none (some z) _) _ => ck N a false sc y && ck N k false sc z
    | _ => false)
  | .fld a g, _, sc, x => (match x with
    | .Attribute y z _ => decide (z = stOf g) && (ck N a false sc y && noSup y)
    | _ => false)
  | .call g as, _, sc, x => (match x with
    | .Call (.Name y _) es [] _ => gnB sc y (stOf g) && cks N as sc es
    | _ => false)
  | .mk g as, _, sc, x => (match x with
    | .Call (.Name y _) es [] _ => gnB sc y (stOf g) && cks N as sc es
    | _ => false)
  | .blt b as, _, sc, x => (match x with
    | .Call (.Name y _) (e :: es) [] _ => gnB sc y (stOf (bfN b)) && cks N as sc (e :: es)
    | _ => false)
  | .meth m a as, _, sc, x => (match x with
    | .Call (.Attribute y z ap) es [] p => decide (z = stOf m) && (ck N a false sc y && (noSup y && (cks N as sc es && (decide (es.length < 30) && (ap.endLine == p.line)))))
    | _ => false)
  | .bm m a as, _, sc, x => (match x with
    | .Call (.Attribute y z ap) es [] p => decide (z = stOf (bmN m)) && (ck N a false sc y && (noSup y && (cks N as sc es && (decide (es.length < 29) && (ap.endLine == p.line)))))
    | _ => false)
  | .edk, _, _, x => (match x with
    | .Dict [] [] _ => true
    | _ => false)
  | .disp ks es, _, sc, x => (match x with
    | .Dict kes ves _ => ckK ks kes && (ves.all noSt && cks N es sc ves)
    | _ => false)
  | .dget a k d, _, sc, x => (match x with
    | .Call (.Attribute y z ap) [u, w] [] p => decide (z = ("get" : Str)) && (ck N a false sc y && (noSup y && ((ck N k false sc u && noSt u) && ((ck N d false sc w && noSt w) && (ap.endLine == p.line)))))
    | _ => false)
  | .idv i e, _, sc, x => (match x with
    | .Subscript (.Name y _) z _ => decide (N[i]? = some y) && ((visB sc y && nmB y) && (ck N e false sc z && noSl z))
    | _ => false)
  | .bor e, _, sc, x => noLc x && ck N e false sc x
  | .take i, _, sc, x => (match x with
    | .Name y _ => decide (N[i]? = some y) && (visB sc y && nmB y)
    | _ => false)
  | .io g as, _, sc, x => (match x with
    | .Call (.Name y _) es [] _ => gnB sc y (stOf g) && cks N as sc es
    | _ => false)
  | .iom m i as, _, sc, x => (match x with
    | .Call (.Attribute (.Name y _) z ap) es [] p => decide (z = stOf m) && (decide (N[i]? = some y) && ((visB sc y && nmB y) && (cks N as sc es && (decide (es.length < 30) && (ap.endLine == p.line)))))
    | _ => false)
  | .orv a b, _, sc, x => (match x with
    | .BoolOp .Or [y, z] _ => ck N a false sc y && ck N b false sc z
    | _ => false)
  | .takef i g, _, sc, x => (match x with
    | .Attribute (.Name y _) z _ => decide (z = stOf g) && (decide (N[i]? = some y) && (visB sc y && nmB y))
    | _ => false)
  | .crep c e y z, _, sc, x => (match x with
    | .BinOp (.Constant (.str c') _ _) .Add (.Call (.Attribute o a ap) [.Constant (.str y') _ _, .Constant (.str z') _ _] [] pos) _ => ((decide (c' = mkS c) && decide (y ≠ z)) && decide (a = ("replace" : Str))) && ((decide (y' = mkS y) && decide (z' = mkS z)) && (ck N e false sc o && (noSup o && (ap.endLine == pos.line))))
    | _ => false)
  | .enu a, true, sc, x => (match x with
    | .Call (.Name y _) [z] [] _ => gnB sc y "enumerate" && (ck N a false sc z && noSt z)
    | _ => false)
  | .enu _, false, _, _ => false
  | .mk0 g, _, sc, x => (match x with
    | .Call (.Name y _) [] [] _ => gnB sc y (stOf g)
    | _ => false)
  | .zip as, true, sc, x => (match x with
    | .Call (.Name y _) [z, u] [] _ => gnB sc y "zip" && cks N as sc [z, u]
    | _ => false)
  | .zip _, false, _, _ => false
  | .comp tg it el, _, sc, x => (match x with
    | .ListComp e [⟨g, i, [], 0⟩] scope _ => ck N it true sc i && ((noSet i && enuOk it g) && (blkC N sc scope (ownT N tg) && (ckG N scope tg g && ck N el false (relS scope sc) e)))
    | _ => false)
  | .cmpi tg it c el, _, sc, x => (match x with
    | .ListComp e [⟨g, i, [y], 0⟩] scope _ => ck N it true sc i && ((noSet i && enuOk it g) && (blkC N sc scope (ownT N tg) && (ckG N scope tg g && ((ck N c false (relS scope sc) y && (plT y || isCmp c)) && ck N el false (relS scope sc) e))))
    | _ => false)
  | .rng a, true, sc, x => (match x with
    | .Call (.Name y _) [z] [] _ => gnB sc y "range" && (ck N a false sc z && noSt z)
    | _ => false)
  | .rng2 a b, true, sc, x => (match x with
    | .Call (.Name y _) [z, u] [] _ => gnB sc y "range" && (ck N a false sc z && (noSt z && (ck N b false sc u && noSt u)))
    | _ => false)
  | .rng _, false, _, _ => false
  | .rng2 _ _, false, _, _ => false
  | .nil, _, _, _ => false
  | .cons _ _, _, _, _ => false
  | .emp, _, _, _ => false
  | .bad, _, _, _ => true
def cks (N : List Str) : E → Scope → List Expr → Bool
  | .nil, _, xs => (match xs with
    | [] => true
    | _ => false)
  | .cons e es, sc, xs => (match xs with
    | x :: xs => ck N e false sc x && (noSt x && cks N es sc xs)
    | _ => false)
  | _, _, _ => false
end
/-- the same of a test -/
def ckt (N : List Str) : E → Scope → Expr → Bool
  | .and a b, sc, x => (match x with
    | .BoolOp .And [y, z] _ => ckt N a sc y && ckt N b sc z
    | .BoolOp .And (y :: z :: u :: r) p => ckt N a sc y && ckt N b sc (.BoolOp .And (z :: u :: r) p)
    | _ => false)
  | .or a b, sc, x => (match x with
    | .BoolOp .Or [y, z] _ => ckt N a sc y && ckt N b sc z
    | .BoolOp .Or (y :: z :: u :: r) p => ckt N a sc y && ckt N b sc (.BoolOp .Or (z :: u :: r) p)
    | _ => false)
  | .not a, sc, x => (match x with
    | .UnaryOp .Not y _ => ckt N a sc y
    | _ => false)
  | .bor e, sc, x => ckt N e sc x
  | .cmp o a b, sc, x => ck N (.cmp o a b) false sc x
  | .chn o p a b c, sc, x => ck N (.chn o p a b c) false sc x
  | e, sc, x => ck N e false sc x && plT x
def isBor : E → Bool
  | .bor _ => true
  | _ => false
theorem ckt_of1 {N : List Str} {c : E} {sc : Scope} {y : Expr} (h : ck N c false sc y = true) (h2 : (plT y || isCmp c) = true) (hb : isBor c = false) : ckt N c sc y = true := by
  rw [Bool.or_eq_true] at h2
  rcases h2 with h2 | h2
  · have key : (ck N c false sc y && plT y) = true := by rw [h, h2]; rfl
    cases c with
    | and a b => unfold ck at h; cases y <;> first | (cases h2; done) | (simp at h; done)
    | or a b => unfold ck at h; cases y <;> first | (cases h2; done) | (simp at h; done)
    | not a => unfold ck at h; cases y <;> first | (cases h2; done) | (simp at h; done)
    | cmp o a b => exact h
    | chn o p a b c => exact h
    | bor e => cases hb
    | _ => exact key
  · cases c with
    | cmp o a b => exact h
    | chn o p a b c => exact h
    | bor e => cases hb
    | _ => cases h2
theorem ckt_of {N : List Str} {sc : Scope} {y : Expr} : ∀ {c : E}, ck N c false sc y = true → (plT y || isCmp c) = true → ckt N c sc y = true := by
  intro c
  induction c with
  | bor e ih =>
    intro h h2
    unfold ck at h
    rw [Bool.and_eq_true] at h
    exact ih h.2 h2
  | _ => exact fun h h2 => ckt_of1 h h2 rfl
end Kn

set_option Elab.async false
set_option linter.all false
set_option maxRecDepth 100000
set_option maxHeartbeats 4000000
/-! Snd1: expressions, one construct after another. -/
namespace Kn
open PySem L2
section
variable (t : T) (F : String → List SV → Cr) (cl : String → Option Addr)
/-- a test's outcome -/
def GT (K : PySem.W.Frag) (O : Addr → Prop) (ro : List (Nat × V)) (W : WX) (ts : List SV) (σ : L2.St) (ws : List V) (f : List Addr) (H : Hp) (r : R SV) (Q : Bool → Hp → Prop) : Prop := match r with
  | .ok (.d (.bl b)) ρ' => ∀ H' f', Ext f H f' H' → Rel K cl O ro ρ' ts σ ws f' H' → Q b H'
  | .ok _ _ => False
  | .exc x ρ' => ∀ c d H' f', Ext f H f' H' → Rel K cl O ro ρ' ts σ ws f' H' → XR K cl (Av O f') H' x c d → W c d σ H'
  | .no => False
def tT (K : PySem.W.Frag) (O : Addr → Prop) (ro : List (Nat × V)) (W : WX) (g : Env → R SV) : TT := fun σ H Q => ∃ ρ ts ws f, Rel K cl O ro ρ ts σ ws f H ∧ GT cl K O ro W ts σ ws f H (g ρ) Q
def PEp (e : E) : Prop := ∀ (X : Cx) (W : WX) (O : Addr → Prop) (ro : List (Nat × V)) (x : Expr), Sd X t F cl W → ck X.N e false X.env.scope x = true → PE X x (tE X.K cl O ro W (ev t F e))
def PTp (e : E) : Prop := ∀ (X : Cx) (W : WX) (O : Addr → Prop) (ro : List (Nat × V)) (x : Expr), Sd X t F cl W → ckt X.N e X.env.scope x = true → PT X x (tT cl X.K O ro W (ev t F e))
def PWp (e : E) : Prop := ∀ (X : Cx) (W : WX) (O : Addr → Prop) (ro : List (Nat × V)) (o : BoolOp) (xs : List Expr) (p : Pos), Sd X t F cl W → ckt X.N e X.env.scope (.BoolOp o xs p) = true → PW X (.BoolOp o xs p) (tT cl X.K O ro W (ev t F e))
def PKp (e : E) : Prop := ∀ (X : Cx) (W : WX) (O : Addr → Prop) (ro : List (Nat × V)) (ks : List Kx) (kes : List (Option Expr)) (xs : List Expr) (pos : Pos), Sd X t F cl W → ckK ks kes = true → lenE e = ks.length → cks X.N e X.env.scope xs = true →
  ∃ trs, PPs X pos kes xs trs ∧ ∀ σ H (Q : List (V × V) → Hp → Prop), tEs X.K cl O ro W (evs t F e) σ H (fun vs H' => Q ((ks.map fun k => kV (kx k)).zip vs) H') → tPairs trs σ H Q
def PAp (e : E) : Prop := ∀ (X : Cx) (W : WX) (O : Addr → Prop) (ro : List (Nat × V)) (xs : List Expr), Sd X t F cl W → cks X.N e X.env.scope xs = true → PA X xs (tEs X.K cl O ro W (evs t F e))
end
section
variable {t : T} {F : String → List SV → Cr} {cl : String → Option Addr} {X : Cx} {W : WX} {O : Addr → Prop} {ro : List (Nat × V)} {x : Expr}
theorem PE.imp {u u' : TE} (h : PE X x u) (k : ∀ σ H Q, u' σ H Q → u σ H Q) : PE X x u' := ⟨fun pins s σ H Q I q => h.run pins s σ H Q I (k σ H Q q)⟩
theorem PT.imp {u u' : TT} (h : PT X x u) (k : ∀ σ H Q, u' σ H Q → u σ H Q) : PT X x u' := ⟨fun pins s σ H Q I q => h.run pins s σ H Q I (k σ H Q q)⟩
theorem PW.imp {u u' : TT} (h : PW X x u) (k : ∀ σ H Q, u' σ H Q → u σ H Q) : PW X x u' := ⟨fun wh pins s σ H Q I q => h.run wh pins s σ H Q I (k σ H Q q)⟩
theorem PA.imp {xs : List Expr} {u u' : TA} (h : PA X xs u) (k : ∀ σ H Q, u' σ H Q → u σ H Q) : PA X xs u' := ⟨fun pos pins s σ H Q I q => h.run pos pins s σ H Q I (k σ H Q q)⟩
theorem bf_split {a b : Bool} (h : (a && b) = true) : a = true ∧ b = true := by rw [Bool.and_eq_true] at h; exact h
theorem tE.mono {K : PySem.W.Frag} {g : Env → R SV} {σ : L2.St} {H : Hp} {Q Q' : VK} (h : tE K cl O ro W g σ H Q) (k : ∀ v H', Q v H' → Q' v H') : tE K cl O ro W g σ H Q' := by
  obtain ⟨ρ, ts, ws, f, r, q⟩ := h
  refine ⟨ρ, ts, ws, f, r, ?_⟩
  cases e : g ρ with
  | ok s ρ' => rw [e] at q; exact fun v H' f' e' r' => k v H' (q v H' f' e' r')
  | exc x ρ' => rw [e] at q; exact q
  | no => rw [e] at q; exact q
/-- an answer at once -/
theorem tE.now {K : PySem.W.Frag} {d : D} {v : V} {σ : L2.St} {H : Hp} {Q : VK} (h : tE K cl O ro W (fun ρ => .ok (.d d) ρ) σ H Q) (hv : ∀ A, VR K cl A H d v) : Q v H := by
  obtain ⟨ρ, ts, ws, f, r, q⟩ := h
  exact fin_d r (hv _) q
theorem s_const (e : E) (d : D) (v : V) (he : ∀ ρ, ev t F e ρ = .ok (.d d) ρ) (hv : ∀ A H, VR X.K cl A H d v) (h : PE X x (tC v)) : PE X x (tE X.K cl O ro W (ev t F e)) := by
  refine PE.imp h fun σ H Q q => ?_
  have e0 : ev t F e = fun ρ => .ok (.d d) ρ := funext he
  rw [e0] at q
  exact tE.now q fun A => hv A H
theorem s_var (i : Nat) : PEp t F cl (.var i) := by
  intro X W O ro x S h
  unfold ck at h
  split at h
  · obtain ⟨h1, h2⟩ := bf_split h
    obtain ⟨h2, h3⟩ := bf_split h2
    obtain ⟨h4, h5, _⟩ := nmB_ok h3
    refine PE.imp (pe_var (of_decide_eq_true h1) (visB_ok h2) h4 h5) fun σ H Q q => ?_
    obtain ⟨ρ, ts, ws, f, r, q⟩ := q
    unfold ev at q
    cases e : ρ[i]? with
    | none => rw [e] at q; exact q.elim
    | some o =>
      cases o with
      | none => rw [e] at q; exact q.elim
      | some s =>
        cases s with
        | d y =>
          rw [e] at q
          obtain ⟨v, e1, hv⟩ := r.getD e
          exact ⟨v, e1, fin_d r hv q⟩
        | lst xs =>
          rw [e] at q
          obtain ⟨v, f', e1, ex, r'⟩ := r.getF e
          exact ⟨v, e1, q v H f' ex r'⟩
        | ins c ns xs =>
          rw [e] at q
          obtain ⟨v, f', e1, ex, r'⟩ := r.getF e
          exact ⟨v, e1, q v H f' ex r'⟩
        | dk ks xs =>
          rw [e] at q
          obtain ⟨v, f', e1, ex, r'⟩ := r.getF e
          exact ⟨v, e1, q v H f' ex r'⟩
  · cases h
theorem s_glb (g : String) : PEp t F cl (.glb g) := by
  intro X W O ro x S h
  unfold ck at h
  split at h
  · unfold gnB at h
    obtain ⟨h1, h2⟩ := bf_split h
    obtain ⟨h2, h3⟩ := bf_split h2
    have h1 := of_decide_eq_true h1
    subst h1
    obtain ⟨h4, _, _⟩ := nmB_ok h3
    cases e : t.glob g with
    | none =>
      refine ⟨fun pins s σ H Q I q => ?_⟩
      obtain ⟨ρ, ts, ws, f, r, q⟩ := q
      unfold ev at q
      rw [e] at q
      exact q.elim
    | some d =>
      obtain ⟨u, v, hm, rv, hv⟩ := S.glob g d e
      refine s_const _ d v (fun ρ => by simp only [ev, e]) hv (pe_glob (glB_ok h2) hm rv h4)
  · cases h
theorem boot_ty : ∀ n, tys.contains n = true → bootBuiltins (stOf n) = some (.type n) := by
  intro n hn
  have hn' : n = "int" ∨ n = "str" ∨ n = "bool" ∨ n = "tuple" ∨ n = "list" ∨ n = "ValueError" := by simpa [tys] using hn
  rcases hn' with rfl | rfl | rfl | rfl | rfl | rfl <;> decide +kernel
theorem boot_bf : ∀ b : Bf, bootBuiltins (stOf (bfN b)) = some (bfV b) := by
  intro b
  cases b <;> decide +kernel
theorem s_tyn (g : String) : PEp t F cl (.tyn g) := by
  intro X W O ro x S h
  unfold ck at h
  split at h
  · obtain ⟨h, hb⟩ := bf_split h
    unfold gnB at h
    obtain ⟨h1, h2⟩ := bf_split h
    obtain ⟨h2, h3⟩ := bf_split h2
    have h1 := of_decide_eq_true h1
    subst h1
    obtain ⟨h4, _, h5⟩ := nmB_ok h3
    refine s_const _ (.ty g) (.ty g) (fun ρ => by simp only [ev]) (fun A H => by unfold VR; rfl) (pe_bltn (glB_ok h2) (S.tyn g hb) (boot_ty g hb) rfl h5 h4)
  · cases h
theorem s_non : PEp t F cl .non := by
  intro X W O ro x S h
  unfold ck at h
  split at h
  · exact s_const _ .non .non (fun ρ => by simp only [ev]) (fun A H => VR.non) pe_non
  · cases h
theorem s_bl (b : Bool) : PEp t F cl (.bl b) := by
  intro X W O ro x S h
  unfold ck at h
  split at h
  · have h := of_decide_eq_true h
    subst h
    exact s_const _ (.bl b) (.bl b) (fun ρ => by simp only [ev]) (fun A H => VR.bl) pe_bl
  · cases h
theorem s_int (b : Int) : PEp t F cl (.int b) := by
  intro X W O ro x S h
  unfold ck at h
  split at h
  · have h := of_decide_eq_true h
    subst h
    exact s_const _ (.int b) (.int b) (fun ρ => by simp only [ev]) (fun A H => VR.int) pe_int
  · cases h
theorem s_str (b : List Nat) : PEp t F cl (.str b) := by
  intro X W O ro x S h
  unfold ck at h
  split at h
  · have h := of_decide_eq_true h
    subst h
    exact s_const _ (.str b) (.str (mkS b)) (fun ρ => by simp only [ev]) (fun A H => VR.str) pe_str
  · cases h
theorem s_bin (o : BOp) {a b : E} (ha : PEp t F cl a) (hb : PEp t F cl b) : PEp t F cl (.bin o a b) := by
  intro X W O ro x S h
  unfold ck at h
  split at h
  · obtain ⟨h1, h2⟩ := bf_split h
    obtain ⟨h2, h3⟩ := bf_split h2
    rw [opB_ok h1]
    refine PE.imp (pe_op (rBin_ok o) (ha X W O ro _ S h2) (hb X W O ro _ S h3)) fun σ H Q q => ?_
    have q' : tE X.K cl O ro W (fun ρ => (ev t F a ρ).bind fun x ρ => (ev t F b ρ).bind fun y ρ => R.of (binD o (frz x) (frz y)) ρ) σ H Q := by
      have e : ev t F (.bin o a b) = fun ρ => (ev t F a ρ).bind fun x ρ => (ev t F b ρ).bind fun y ρ => R.of (binD o (frz x) (frz y)) ρ := by (funext ρ; first | (simp only [ev]; done) | (simp only [ev]; rfl))
      rw [e] at q
      exact q
    refine tE.mono q'.bind fun v H1 q1 => tE.mono q1.bind fun u H2 q2 => ?_
    obtain ⟨s, s', ρ, ts, ws, f, h1, h2, r, g⟩ := q2.frz
    exact bin_ok o r h1 h2 g
  · cases h
theorem s_neg {a : E} (ha : PEp t F cl a) : PEp t F cl (.neg a) := by
  intro X W O ro x S h
  unfold ck at h
  split at h
  · refine PE.imp (pe_un un_neg (ha X W O ro _ S h)) fun σ H Q q => ?_
    have e : ev t F (.neg a) = fun ρ => (ev t F a ρ).bind fun x ρ => (match frz x with | .int i => .ok (.d (.int (-i))) ρ | _ => .no) := by (funext ρ; first | (simp only [ev]; done) | (simp only [ev]; rfl))
    rw [e] at q
    refine tE.mono q.bind fun v H1 q1 => ?_
    obtain ⟨s, ρ, ts, ws, f, h1, r, g⟩ := q1.frz
    split at g
    · rename_i i ei
      rw [ei] at h1
      rw [h1.intE]
      exact ⟨i, rfl, fin_d r VR.int g⟩
    · exact g.elim
  · cases h
theorem ev_cmp {o : COp} {a b : E} : ev t F (.cmp o a b) = fun ρ => (ev t F a ρ).bind fun x ρ => (ev t F b ρ).bind fun y ρ => (match cmpD o (frz x) (frz y) with
    | some r => .ok (.d (.bl r)) ρ
    | none => .no) := by (funext ρ; first | (simp only [ev]; done) | (simp only [ev]; rfl))
theorem cmp_end {K : PySem.W.Frag} {o : COp} {v u : V} {σ : L2.St} {H : Hp} {Q : VK} (q : tK2 K cl O ro W (fun x y ρ => (match cmpD o (frz x) (frz y) with
    | some r => .ok (.d (.bl r)) ρ
    | none => .no)) v u σ H Q) : rCmp K o v u H Q := by
  obtain ⟨s, s', ρ, ts, ws, f, h1, h2, r, g⟩ := q.frz
  cases hc : cmpD o (frz s) (frz s') with
  | none => simp only [hc] at g; exact g.elim
  | some b =>
    simp only [hc] at g
    exact cmp_ok hc h1 h2 (fin_d r VR.bl g)
theorem s_cmp (o : COp) {a b : E} (ha : PEp t F cl a) (hb : PEp t F cl b) : PEp t F cl (.cmp o a b) := by
  intro X W O ro x S h
  unfold ck at h
  split at h
  · obtain ⟨h1, h2⟩ := bf_split h
    obtain ⟨h2, h3⟩ := bf_split h2
    obtain ⟨h3, h4⟩ := bf_split h3
    rw [copB_ok h1]
    refine PE.imp (pe_cmpR (rCmp_ok S.hu o) (ha X W O ro _ S h2) (hb X W O ro _ S h3) (mark_no h4)) fun σ H Q q => ?_
    rw [ev_cmp] at q
    exact tE.mono q.bind fun v H1 q1 => tE.mono q1.bind fun u H2 q2 => cmp_end q2
  · cases h
/-- what a test wants of the value -/
theorem tE.test {K : PySem.W.Frag} {g : Env → R SV} {σ : L2.St} {H : Hp} {Q : Bool → Hp → Prop} (q : tT cl K O ro W g σ H Q) : tE K cl O ro W g σ H fun v H' => ∃ b, v = .bl b ∧ Q b H' := by
  obtain ⟨ρ, ts, ws, f, r, q⟩ := q
  refine ⟨ρ, ts, ws, f, r, ?_⟩
  cases e : g ρ with
  | ok s ρ' =>
    rw [e] at q
    unfold GT at q
    split at q
    · rename_i b ρ'' h
      cases h
      intro v H' f' e' r'
      obtain ⟨f2, e2, r2⟩ := r'.pop
      exact ⟨b, (r'.top).blE, q H' f2 (e'.trans e2) r2⟩
    · exact q.elim
    · cases ‹R.ok _ _ = _›
    · cases ‹R.ok _ _ = _›
  | exc x ρ' => rw [e] at q; exact q
  | no => rw [e] at q; exact q
theorem t_plain {e : E} (he : PEp t F cl e) : ∀ (X : Cx) (W : WX) (O : Addr → Prop) (ro : List (Nat × V)) (x : Expr), Sd X t F cl W → ck X.N e false X.env.scope x = true → plT x = true → PT X x (tT cl X.K O ro W (ev t F e)) := by
  intro X W O ro x S h hp
  exact PT.imp (pt_val (he X W O ro x S h) (plain_test hp)) fun σ H Q q => tE.test q
theorem t_cmp (o : COp) {a b : E} (ha : PEp t F cl a) (hb : PEp t F cl b) : PTp t F cl (.cmp o a b) := by
  intro X W O ro x S h
  unfold ckt ck at h
  split at h
  · obtain ⟨h1, h2⟩ := bf_split h
    obtain ⟨h2, h3⟩ := bf_split h2
    obtain ⟨h3, h4⟩ := bf_split h3
    rw [copB_ok h1]
    refine PT.imp (pt_cmpR (rCmp_ok S.hu o) (ha X W O ro _ S h2) (hb X W O ro _ S h3) (mark_no h4)) fun σ H Q q => ?_
    have q := tE.test q
    rw [ev_cmp] at q
    exact tE.mono q.bind fun v H1 q1 => tE.mono q1.bind fun u H2 q2 => cmp_end q2
  · cases h
theorem ev_chn {o p : COp} {a b c : E} : ev t F (.chn o p a b c) = fun ρ => (ev t F a ρ).bind fun x ρ => (ev t F b ρ).bind fun y ρ => (match cmpD o (frz x) (frz y) with
    | some true => (ev t F c ρ).bind fun z ρ => (match cmpD p (frz y) (frz z) with
      | some r => .ok (.d (.bl r)) ρ
      | none => .no)
    | some false => .ok (.d (.bl false)) ρ
    | none => .no) := by (funext ρ; first | (simp only [ev]; done) | (simp only [ev]; rfl))
theorem chn_end {K : PySem.W.Frag} {o p : COp} {c : E} {v u : V} {σ : L2.St} {H : Hp} {Q : VK} (q : tK2 K cl O ro W (fun x y ρ => (match cmpD o (frz x) (frz y) with
    | some true => (ev t F c ρ).bind fun z ρ => (match cmpD p (frz y) (frz z) with
      | some r => .ok (.d (.bl r)) ρ
      | none => .no)
    | some false => .ok (.d (.bl false)) ρ
    | none => .no)) v u σ H Q) : rCmp K o v u H fun z H3 => ∃ k, z = .bl k ∧ (if k = true then tE K cl O ro W (ev t F c) σ H3 (fun w H4 => rCmp K p u w H4 Q) else Q (.bl false) H3) := by
  obtain ⟨s, s', ρ, ts, ws, f, h1, h2, r, g⟩ := q.frz
  cases hc : cmpD o (frz s) (frz s') with
  | none => simp only [hc] at g; exact g.elim
  | some b =>
    simp only [hc] at g
    refine cmp_ok hc h1 h2 ?_
    cases b with
    | false => exact ⟨false, rfl, fin_d r VR.bl g⟩
    | true =>
      refine ⟨true, rfl, ?_⟩
      rw [if_pos rfl]
      have r1 := r.push h2
      have g' : tK1 K cl O ro W (fun y ρ => (ev t F c ρ).bind fun z ρ => (match cmpD p (frz y) (frz z) with
        | some r => .ok (.d (.bl r)) ρ
        | none => .no)) u σ H Q := ⟨.d (frz s'), ρ, ts, ws, f, r1, by
          have e : frz (.d (frz s')) = frz s' := rfl
          simp only [e]
          exact g⟩
      exact tE.mono g'.bind fun w H4 q2 => cmp_end q2
theorem s_chn (o p : COp) {a b c : E} (ha : PEp t F cl a) (hb : PEp t F cl b) (hc : PEp t F cl c) : PEp t F cl (.chn o p a b c) := by
  intro X W O ro x S h
  unfold ck at h
  split at h
  · obtain ⟨h1, h2⟩ := bf_split h
    obtain ⟨h2, h3⟩ := bf_split h2
    obtain ⟨h3, h4⟩ := bf_split h3
    obtain ⟨h4, h5⟩ := bf_split h4
    obtain ⟨h5, h6⟩ := bf_split h5
    rw [copB_ok h1, copB_ok h2]
    refine PE.imp (pe_chain (rCmp_ok S.hu o) (rCmp_ok S.hu p) (ha X W O ro _ S h3) (hb X W O ro _ S h4) (hc X W O ro _ S h5) (marks_no h6)) fun σ H Q q => ?_
    rw [ev_chn] at q
    exact tE.mono q.bind fun v H1 q1 => tE.mono q1.bind fun u H2 q2 => chn_end q2
  · cases h
theorem t_chn (o p : COp) {a b c : E} (ha : PEp t F cl a) (hb : PEp t F cl b) (hc : PEp t F cl c) : PTp t F cl (.chn o p a b c) := by
  intro X W O ro x S h
  unfold ckt ck at h
  split at h
  · obtain ⟨h1, h2⟩ := bf_split h
    obtain ⟨h2, h3⟩ := bf_split h2
    obtain ⟨h3, h4⟩ := bf_split h3
    obtain ⟨h4, h5⟩ := bf_split h4
    obtain ⟨h5, h6⟩ := bf_split h5
    rw [copB_ok h1, copB_ok h2]
    refine PT.imp (pt_chain (rCmp_ok S.hu o) (rCmp_ok S.hu p) (ha X W O ro _ S h3) (hb X W O ro _ S h4) (hc X W O ro _ S h5) (marks_no h6)) fun σ H Q q => ?_
    have q := tE.test q
    rw [ev_chn] at q
    exact tE.mono q.bind fun v H1 q1 => tE.mono q1.bind fun u H2 q2 => chn_end q2
  · cases h
/-! ### not, and, or -/
theorem s_not {a : E} (ha : PEp t F cl a) : PEp t F cl (.not a) := by
  intro X W O ro x S h
  unfold ck at h
  split at h
  · refine PE.imp (pe_not (ha X W O ro _ S h)) fun σ H Q q => ?_
    have e : ev t F (.not a) = fun ρ => (ev t F a ρ).bind fun x ρ => (match x with | .d (.bl b) => .ok (.d (.bl (!b))) ρ | _ => .no) := by (funext ρ; first | (simp only [ev]; done) | (simp only [ev]; rfl))
    rw [e] at q
    refine tE.mono q.bind fun v H1 q1 => ?_
    obtain ⟨s, ρ, ts, ws, f, r, g⟩ := q1
    dsimp only at g
    split at g
    · rename_i b
      obtain ⟨f2, e2, r2⟩ := r.pop
      exact ⟨b, (r.top).blE, fin_d r2 VR.bl (g.ext e2)⟩
    · exact g.elim
  · cases h
theorem s_and {a b : E} (ha : PEp t F cl a) (hb : PEp t F cl b) : PEp t F cl (.and a b) := by
  intro X W O ro x S h
  have e : ev t F (.and a b) = fun ρ => (ev t F a ρ).bind fun x ρ => (match x with
    | .d (.bl true) => ev t F b ρ
    | .d (.bl false) => .ok (.d (.bl false)) ρ
    | _ => .no) := by (funext ρ; first | (simp only [ev]; done) | (simp only [ev]; rfl))
  have key : ∀ σ H Q, tE X.K cl O ro W (ev t F (.and a b)) σ H Q → tAndV (tE X.K cl O ro W (ev t F a)) (tE X.K cl O ro W (ev t F b)) σ H Q := fun σ H Q q => by
    rw [e] at q
    refine tE.mono q.bind fun v H1 q1 => ?_
    obtain ⟨s, ρ, ts, ws, f, r, g⟩ := q1
    dsimp only at g
    split at g
    · obtain ⟨f2, e2, r2⟩ := r.pop
      refine ⟨true, (r.top).blE, ?_⟩
      rw [if_pos rfl]
      exact ⟨ρ, ts, ws, f2, r2, g.ext e2⟩
    · obtain ⟨f2, e2, r2⟩ := r.pop
      refine ⟨false, (r.top).blE, ?_⟩
      rw [if_neg Bool.false_ne_true]
      exact fin_d r2 VR.bl (g.ext e2)
    · exact g.elim
  unfold ck at h
  split at h
  · obtain ⟨h1, h2⟩ := bf_split h
    exact PE.imp (pe_and (ha X W O ro _ S h1) (pe_one (hb X W O ro _ S h2))) key
  · obtain ⟨h1, h2⟩ := bf_split h
    exact PE.imp (pe_and (ha X W O ro _ S h1) (hb X W O ro _ S h2)) key
  · cases h
theorem s_or {a b : E} (ha : PEp t F cl a) (hb : PEp t F cl b) : PEp t F cl (.or a b) := by
  intro X W O ro x S h
  have e : ev t F (.or a b) = fun ρ => (ev t F a ρ).bind fun x ρ => (match x with
    | .d (.bl true) => .ok (.d (.bl true)) ρ
    | .d (.bl false) => ev t F b ρ
    | _ => .no) := by (funext ρ; first | (simp only [ev]; done) | (simp only [ev]; rfl))
  have key : ∀ σ H Q, tE X.K cl O ro W (ev t F (.or a b)) σ H Q → tOrV (tE X.K cl O ro W (ev t F a)) (tE X.K cl O ro W (ev t F b)) σ H Q := fun σ H Q q => by
    rw [e] at q
    refine tE.mono q.bind fun v H1 q1 => ?_
    obtain ⟨s, ρ, ts, ws, f, r, g⟩ := q1
    dsimp only at g
    split at g
    · obtain ⟨f2, e2, r2⟩ := r.pop
      refine ⟨true, (r.top).blE, ?_⟩
      rw [if_pos rfl]
      exact fin_d r2 VR.bl (g.ext e2)
    · obtain ⟨f2, e2, r2⟩ := r.pop
      refine ⟨false, (r.top).blE, ?_⟩
      rw [if_neg Bool.false_ne_true]
      exact ⟨ρ, ts, ws, f2, r2, g.ext e2⟩
    · exact g.elim
  unfold ck at h
  split at h
  · obtain ⟨h1, h2⟩ := bf_split h
    exact PE.imp (pe_or (ha X W O ro _ S h1) (pe_one (hb X W O ro _ S h2))) key
  · obtain ⟨h1, h2⟩ := bf_split h
    exact PE.imp (pe_or (ha X W O ro _ S h1) (hb X W O ro _ S h2)) key
  · cases h
/-- a test's value, pointwise -/
theorem GT.ext {K : PySem.W.Frag} {ts : List SV} {σ : L2.St} {ws : List V} {f f' : List Addr} {H H' : Hp} {r : R SV} {Q : Bool → Hp → Prop} (e : Ext f H f' H') (h : GT cl K O ro W ts σ ws f H r Q) : GT cl K O ro W ts σ ws f' H' r Q := by
  unfold GT at h ⊢
  split
  · exact fun H2 f2 e2 r2 => h H2 f2 (e.trans e2) r2
  · rename_i hn
    split at h
    · rename_i b ρ1 h1
      cases h1
      exact (hn b rfl).elim
    · exact h
    · cases ‹R.ok _ _ = _›
    · cases ‹R.ok _ _ = _›
  · exact fun c d H2 f2 e2 r2 => h c d H2 f2 (e.trans e2) r2
  · exact h
theorem t_not {a : E} (ha : PTp t F cl a) : PTp t F cl (.not a) := by
  intro X W O ro x S h
  unfold ckt at h
  split at h
  · refine PT.imp (pt_not (ha X W O ro _ S h)) fun σ H Q q => ?_
    obtain ⟨ρ, ts, ws, f, r, q⟩ := q
    refine ⟨ρ, ts, ws, f, r, ?_⟩
    have e : ev t F (.not a) ρ = (ev t F a ρ).bind fun x ρ => (match x with | .d (.bl b) => .ok (.d (.bl (!b))) ρ | _ => .no) := by (first | (simp only [ev]; done) | (simp only [ev]; rfl))
    rw [e] at q
    cases e1 : ev t F a ρ with
    | ok s ρ' =>
      rw [e1] at q
      simp only [R.bind] at q
      split at q
      · exact q
      · exact q.elim
    | exc x ρ' => rw [e1] at q; exact q
    | no => rw [e1] at q; exact q.elim
  · cases h
theorem and_key {a b : E} (σ : L2.St) (H : Hp) (Q : Bool → Hp → Prop) (q : tT cl X.K O ro W (ev t F (.and a b)) σ H Q) : tAnd (tT cl X.K O ro W (ev t F a)) (tT cl X.K O ro W (ev t F b)) σ H Q := by
  obtain ⟨ρ, ts, ws, f, r, q⟩ := q
  refine ⟨ρ, ts, ws, f, r, ?_⟩
  have e : ev t F (.and a b) ρ = (ev t F a ρ).bind fun x ρ => (match x with
    | .d (.bl true) => ev t F b ρ
    | .d (.bl false) => .ok (.d (.bl false)) ρ
    | _ => .no) := by (first | (simp only [ev]; done) | (simp only [ev]; rfl))
  rw [e] at q
  cases e1 : ev t F a ρ with
  | ok s ρ' =>
    rw [e1] at q
    simp only [R.bind] at q
    split at q
    · intro H' f' ex r'
      rw [if_pos rfl]
      exact ⟨ρ', ts, ws, f', r', GT.ext ex q⟩
    · intro H' f' ex r'
      rw [if_neg Bool.false_ne_true]
      exact q H' f' ex r'
    · exact q.elim
  | exc x ρ' => rw [e1] at q; exact q
  | no => rw [e1] at q; exact q.elim
theorem or_key {a b : E} (σ : L2.St) (H : Hp) (Q : Bool → Hp → Prop) (q : tT cl X.K O ro W (ev t F (.or a b)) σ H Q) : tOr (tT cl X.K O ro W (ev t F a)) (tT cl X.K O ro W (ev t F b)) σ H Q := by
  obtain ⟨ρ, ts, ws, f, r, q⟩ := q
  refine ⟨ρ, ts, ws, f, r, ?_⟩
  have e : ev t F (.or a b) ρ = (ev t F a ρ).bind fun x ρ => (match x with
    | .d (.bl true) => .ok (.d (.bl true)) ρ
    | .d (.bl false) => ev t F b ρ
    | _ => .no) := by (first | (simp only [ev]; done) | (simp only [ev]; rfl))
  rw [e] at q
  cases e1 : ev t F a ρ with
  | ok s ρ' =>
    rw [e1] at q
    simp only [R.bind] at q
    split at q
    · intro H' f' ex r'
      rw [if_pos rfl]
      exact q H' f' ex r'
    · intro H' f' ex r'
      rw [if_neg Bool.false_ne_true]
      exact ⟨ρ', ts, ws, f', r', GT.ext ex q⟩
    · exact q.elim
  | exc x ρ' => rw [e1] at q; exact q
  | no => rw [e1] at q; exact q.elim
theorem w_and {a b : E} (ha : PTp t F cl a) (hb : PTp t F cl b) (hw : PWp t F cl b) : PWp t F cl (.and a b) := by
  intro X W O ro o xs p S h
  unfold ckt at h
  split at h
  · rename_i y z p' he
    cases he
    obtain ⟨h1, h2⟩ := bf_split h
    exact PW.imp (pw_and (ha X W O ro _ S h1) (pw_and1 (hb X W O ro _ S h2))) and_key
  · rename_i y z u r p' he
    cases he
    obtain ⟨h1, h2⟩ := bf_split h
    exact PW.imp (pw_and (ha X W O ro _ S h1) (hw X W O ro _ _ _ S h2)) and_key
  · cases h
theorem w_or {a b : E} (ha : PTp t F cl a) (hb : PTp t F cl b) (hw : PWp t F cl b) : PWp t F cl (.or a b) := by
  intro X W O ro o xs p S h
  unfold ckt at h
  split at h
  · rename_i y z p' he
    cases he
    obtain ⟨h1, h2⟩ := bf_split h
    exact PW.imp (pw_or (ha X W O ro _ S h1) (pw_or1 (hb X W O ro _ S h2))) or_key
  · rename_i y z u r p' he
    cases he
    obtain ⟨h1, h2⟩ := bf_split h
    exact PW.imp (pw_or (ha X W O ro _ S h1) (hw X W O ro _ _ _ S h2)) or_key
  · cases h
theorem t_and {a b : E} (hw : PWp t F cl (.and a b)) : PTp t F cl (.and a b) := by
  intro X W O ro x S h
  have h0 := h
  unfold ckt at h
  split at h
  · exact (hw X W O ro _ _ _ S h0).pt
  · exact (hw X W O ro _ _ _ S h0).pt
  · cases h
theorem t_or {a b : E} (hw : PWp t F cl (.or a b)) : PTp t F cl (.or a b) := by
  intro X W O ro x S h
  have h0 := h
  unfold ckt at h
  split at h
  · exact (hw X W O ro _ _ _ S h0).pt
  · exact (hw X W O ro _ _ _ S h0).pt
  · cases h
end
end Kn

set_option Elab.async false
set_option linter.all false
set_option maxRecDepth 100000
set_option maxHeartbeats 4000000
/-! Snd2: displays, items, slices, fields, calls. -/
namespace Kn
open PySem L2
theorem stOf_inj {a b : String} (h : stOf a = stOf b) : a = b := by
  unfold stOf at h
  rw [Str.ofString_eq_toList, Str.ofString_eq_toList] at h
  have h1 := congrArg (fun s => s.cps.toList) h
  have h2 : a.toList.map Char.toNat = b.toList.map Char.toNat := by simpa using h1
  have inj : ∀ l m : List Char, l.map Char.toNat = m.map Char.toNat → l = m := by
    intro l
    induction l with
    | nil =>
      intro m e
      cases m with
      | nil => rfl
      | cons _ _ => cases e
    | cons c l ih =>
      intro m e
      cases m with
      | nil => cases e
      | cons d m =>
        rw [List.map_cons, List.map_cons, List.cons.injEq] at e
        have hc : c = d := by
          apply Char.ext
          apply UInt32.toNat_inj.mp
          exact e.1
        rw [hc, ih m e.2]
  exact String.toList_inj.mp (inj _ _ h2)
theorem look_none {m : String} : ∀ {ns : List String} {ws : List V}, ns.contains m = false → (zipS ns ws).lookup (stOf m) = none
  | [], ws, _ => by simp [zipS]
  | n :: ns, [], _ => by simp [zipS]
  | n :: ns, w :: ws, h => by
    have h1 : m ≠ n ∧ ns.contains m = false := by simpa [List.contains_cons] using h
    have h2 : (stOf m == Str.ofString n) = false := beq_eq_false_iff_ne.mpr fun z => h1.1 (stOf_inj z)
    unfold zipS
    rw [List.map_cons, List.zip_cons_cons, List.lookup_cons, h2]
    exact look_none h1.2
theorem look_some {K : PySem.W.Frag} {cl : String → Option Addr} {A : Addr → Prop} {H : Hp} {f : String} {x : D} : ∀ {ns : List String} {xs : List D} {ws : List V}, VRs K cl A H xs ws → fieldD ns xs f = some x → ∃ w, (zipS ns ws).lookup (stOf f) = some w ∧ VR K cl A H x w
  | [], xs, ws, _, h => by
    unfold fieldD at h
    cases h
  | n :: ns, [], ws, _, h => by
    unfold fieldD at h
    cases h
  | n :: ns, y :: xs, ws, r, h => by
    unfold VRs at r
    obtain ⟨w, ws', rfl, q, m⟩ := r
    unfold fieldD at h
    unfold zipS
    rw [List.map_cons, List.zip_cons_cons, List.lookup_cons]
    by_cases e : n = f
    · subst e
      rw [if_pos rfl] at h
      cases h
      have : (stOf n == Str.ofString n) = true := beq_self_eq_true _
      rw [this]
      exact ⟨w, rfl, q⟩
    · rw [if_neg e] at h
      have h2 : (stOf f == Str.ofString n) = false := beq_eq_false_iff_ne.mpr fun z => e (stOf_inj z).symm
      rw [h2]
      exact look_some m h
section
variable {t : T} {F : String → List SV → Cr} {cl : String → Option Addr} {X : Cx} {W : WX} {O : Addr → Prop} {ro : List (Nat × V)} {x : Expr}
theorem tEs.mono {K : PySem.W.Frag} {g : Env → R (List SV)} {σ : L2.St} {H : Hp} {Q Q' : List V → Hp → Prop} (h : tEs K cl O ro W g σ H Q) (k : ∀ v H', Q v H' → Q' v H') : tEs K cl O ro W g σ H Q' := by
  obtain ⟨ρ, ts, ws, f, r, q⟩ := h
  refine ⟨ρ, ts, ws, f, r, ?_⟩
  cases e : g ρ with
  | ok s ρ' => rw [e] at q; exact fun v H' f' l e' r' => k v H' (q v H' f' l e' r')
  | exc x ρ' => rw [e] at q; exact q
  | no => rw [e] at q; exact q
theorem a_nil : PAp t F cl .nil := by
  intro X W O ro xs S h
  unfold cks at h
  split at h
  · refine PA.imp pa_nil fun σ H Q q => ?_
    have e : evs t F .nil = fun ρ => .ok [] ρ := by (funext ρ; simp only [evs])
    rw [e] at q
    exact tEs.nil q
  · cases h
theorem a_cons {e es : E} (he : PEp t F cl e) (hs : PAp t F cl es) : PAp t F cl (.cons e es) := by
  intro X W O ro xs S h
  unfold cks at h
  split at h
  · obtain ⟨h1, h2⟩ := bf_split h
    obtain ⟨h2, h3⟩ := bf_split h2
    refine PA.imp (pa_cons (he X W O ro _ S h1) (hs X W O ro _ S h3) (star_cons h2)) fun σ H Q q => ?_
    have e0 : evs t F (.cons e es) = fun ρ => (ev t F e ρ).bind fun v ρ => (evs t F es ρ).bind fun vs ρ => .ok (v :: vs) ρ := by (funext ρ; simp only [evs])
    rw [e0] at q
    exact tEs.cons q
  · cases h
theorem cks_st {N : List Str} {sc : Scope} : ∀ {es : E} {xs : List Expr}, cks N es sc xs = true → xs.all noSt = true := by
  intro es
  induction es with
  | nil =>
    intro xs h
    unfold cks at h
    split at h
    · rfl
    · cases h
  | cons e es _ ih =>
    intro xs h
    unfold cks at h
    split at h
    · obtain ⟨h1, h2⟩ := bf_split h
      obtain ⟨h2, h3⟩ := bf_split h2
      rw [List.all_cons, h2, ih h3]
      rfl
    · cases h
  | _ => intro xs h; unfold cks at h; cases h
theorem s_tup {es : E} (hs : PAp t F cl es) : PEp t F cl (.tup es) := by
  intro X W O ro x S h
  unfold ck at h
  split at h
  · refine PE.imp (pe_tup (hs X W O ro _ S h)) fun σ H Q q => ?_
    have e : ev t F (.tup es) = fun ρ => (evs t F es ρ).bind fun vs ρ => if vs.length ≤ lim then .ok (.d (.tup (frzs vs))) ρ else .no := by (funext ρ; simp only [ev])
    rw [e] at q
    refine tEs.mono (tEs.bind q) fun vs H1 q1 => ?_
    obtain ⟨ss, ρ, ts, ws, f, l, m, r, g⟩ := q1.frz
    by_cases hl : ss.length ≤ lim
    · rw [if_pos hl] at g
      exact ⟨by rw [← l]; exact lim_le hl, fun p np => fin_tup r m np g⟩
    · rw [if_neg hl] at g
      exact g.elim
  · cases h
theorem s_lst {es : E} (hs : PAp t F cl es) : PEp t F cl (.lst es) := by
  intro X W O ro x S h
  unfold ck at h
  split at h
  · refine PE.imp (pe_lst (hs X W O ro _ S h)) fun σ H Q q => ?_
    have e : ev t F (.lst es) = fun ρ => (evs t F es ρ).bind fun vs ρ => if vs.length ≤ lim then .ok (.lst vs) ρ else .no := by (funext ρ; simp only [ev])
    rw [e] at q
    refine tEs.mono (tEs.bind q) fun vs H1 q1 => ?_
    obtain ⟨ss, ρ, ts, ws, f, l, r, g⟩ := q1
    dsimp only at g
    by_cases hl : ss.length ≤ lim
    · rw [if_pos hl] at g
      refine ⟨by rw [← l]; exact lim_le hl, fun p np => ?_⟩
      obtain ⟨f', e', r'⟩ := Rel.newLst l r np
      obtain ⟨f0, e0, r0⟩ : ∃ f0, Ext f H1 f0 H1 ∧ True := ⟨f, Ext.refl f H1, trivial⟩
      exact g _ _ f' e' r'
    · rw [if_neg hl] at g
      exact g.elim
  · cases h
theorem s_idx {a i : E} (ha : PEp t F cl a) (hi : PEp t F cl i) : PEp t F cl (.idx a i) := by
  intro X W O ro x S h
  unfold ck at h
  split at h
  · obtain ⟨h1, h2⟩ := bf_split h
    obtain ⟨h2, h3⟩ := bf_split h2
    refine PE.imp (pe_ix (ix_seq.or (ix_dk (by have := S.hu; omega))) (ha X W O ro _ S h1) (hi X W O ro _ S h2) (plainIx h3)) fun σ H Q q => ?_
    have e : ev t F (.idx a i) = fun ρ => (ev t F a ρ).bind fun x ρ => (ev t F i ρ).bind fun y ρ => (match idxD (frz x) (frz y) with | some d => .ok (.d d) ρ | none => .no) := by (funext ρ; first | (simp only [ev]; done) | (simp only [ev]; rfl))
    rw [e] at q
    refine tE.mono q.bind fun v H1 q1 => tE.mono q1.bind fun u H2 q2 => ?_
    obtain ⟨s, s', ρ, ts, ws, f, h1, h2, r, g⟩ := q2.frz
    cases hx : idxD (frz s) (frz s') with
    | none => simp only [hx] at g; exact g.elim
    | some d =>
      simp only [hx] at g
      exact idx_ok hx h1 h2 fun w hw => fin_d r hw g
  · cases h
theorem emp_of {e : E} (h : isEmp e = true) : e = .emp := by
  cases e <;> first | rfl | cases h
theorem ev_slc {a lo hi : E} : ev t F (.slc a lo hi) = fun ρ => (ev t F a ρ).bind fun x ρ => (match lo, hi with
    | .emp, .emp => R.of (slcD (frz x) none none) ρ
    | .emp, hi => (ev t F hi ρ).bind fun h ρ => (match frz h with
      | .int j => R.of (slcD (frz x) none (some j)) ρ
      | _ => .no)
    | lo, .emp => (ev t F lo ρ).bind fun l ρ => (match frz l with
      | .int i => R.of (slcD (frz x) (some i) none) ρ
      | _ => .no)
    | lo, hi => (ev t F lo ρ).bind fun l ρ => (match frz l with
      | .int i => (ev t F hi ρ).bind fun h ρ => (match frz h with
        | .int j => R.of (slcD (frz x) (some i) (some j)) ρ
        | _ => .no)
      | _ => .no)) := by (funext ρ; first | (simp only [ev]; done) | (simp only [ev]; rfl))
theorem slc_11 {a lo hi : E} (h1 : isEmp lo = false) (h2 : isEmp hi = false) : ev t F (.slc a lo hi) = fun ρ => (ev t F a ρ).bind fun x ρ => (ev t F lo ρ).bind fun l ρ => (match frz l with
      | .int i => (ev t F hi ρ).bind fun h ρ => (match frz h with
        | .int j => R.of (slcD (frz x) (some i) (some j)) ρ
        | _ => .no)
      | _ => .no) := by
  rw [ev_slc]
  funext ρ
  cases lo <;> first | (cases h1; done) | (cases hi <;> first | rfl | cases h2)
theorem slc_01 {a hi : E} (h2 : isEmp hi = false) : ev t F (.slc a .emp hi) = fun ρ => (ev t F a ρ).bind fun x ρ => (ev t F hi ρ).bind fun h ρ => (match frz h with
        | .int j => R.of (slcD (frz x) none (some j)) ρ
        | _ => .no) := by
  rw [ev_slc]
  funext ρ
  cases hi <;> first | rfl | cases h2
theorem slc_10 {a lo : E} (h1 : isEmp lo = false) : ev t F (.slc a lo .emp) = fun ρ => (ev t F a ρ).bind fun x ρ => (ev t F lo ρ).bind fun l ρ => (match frz l with
      | .int i => R.of (slcD (frz x) (some i) none) ρ
      | _ => .no) := by
  rw [ev_slc]
  funext ρ
  cases lo <;> first | rfl | cases h1
theorem slc_00 {a : E} : ev t F (.slc a .emp .emp) = fun ρ => (ev t F a ρ).bind fun x ρ => R.of (slcD (frz x) none none) ρ := by
  rw [ev_slc] <;> rfl
theorem s_slc {a lo hi : E} (ha : PEp t F cl a) (hl : PEp t F cl lo) (hh : PEp t F cl hi) : PEp t F cl (.slc a lo hi) := by
  intro X W O ro x S h
  unfold ck at h
  split at h
  · obtain ⟨h1, h2⟩ := bf_split h
    obtain ⟨h2, h3⟩ := bf_split h2
    have e1 := emp_of h2
    have e2 := emp_of h3
    subst e1 e2
    refine PE.imp (pe_slice rSlc_ok (ha X W O ro _ S h1) po_none po_none) fun σ H Q q => ?_
    rw [slc_00] at q
    refine tE.mono q.bind fun v H1 q1 => ?_
    obtain ⟨s, ρ, ts, ws, f, h1, r, g⟩ := q1.frz
    exact slc_ok r h1 g
  · obtain ⟨h1, h2⟩ := bf_split h
    obtain ⟨h2, h3⟩ := bf_split h2
    obtain ⟨h3, h4⟩ := bf_split h3
    have e1 := emp_of h2
    subst e1
    refine PE.imp (pe_slice rSlc_ok (ha X W O ro _ S h1) po_none (po_some (hh X W O ro _ S h3))) fun σ H Q q => ?_
    rw [slc_01 (by simpa using h4)] at q
    refine tE.mono q.bind fun v H1 q1 => tE.mono q1.bind fun u H2 q2 => ?_
    obtain ⟨s, s', ρ, ts, ws, f, h1, h2, r, g⟩ := q2.frz
    split at g
    · rename_i j ej
      rw [ej] at h2
      exact ⟨j, h2.intE, slc_ok r h1 g⟩
    · exact g.elim
  · obtain ⟨h1, h2'⟩ := bf_split h
    obtain ⟨h2, h3'⟩ := bf_split h2'
    obtain ⟨h3, h4⟩ := bf_split h3'
    have e1 := emp_of h3
    subst e1
    refine PE.imp (pe_slice rSlc_ok (ha X W O ro _ S h1) (po_some (hl X W O ro _ S h2)) po_none) fun σ H Q q => ?_
    rw [slc_10 (by simpa using h4)] at q
    refine tE.mono q.bind fun v H1 q1 => tE.mono q1.bind fun u H2 q2 => ?_
    obtain ⟨s, s', ρ, ts, ws, f, h1, h2, r, g⟩ := q2.frz
    split at g
    · rename_i j ej
      rw [ej] at h2
      exact ⟨j, h2.intE, slc_ok r h1 g⟩
    · exact g.elim
  · obtain ⟨h1, h2⟩ := bf_split h
    obtain ⟨h2, h3⟩ := bf_split h2
    obtain ⟨h3, h4⟩ := bf_split h3
    obtain ⟨h4, h5⟩ := bf_split h4
    refine PE.imp (pe_slice rSlc_ok (ha X W O ro _ S h1) (po_some (hl X W O ro _ S h2)) (po_some (hh X W O ro _ S h3))) fun σ H Q q => ?_
    rw [slc_11 (by simpa using h4) (by simpa using h5)] at q
    refine tE.mono q.bind fun v H1 q1 => tE.mono q1.bind fun u H2 q2 => ?_
    obtain ⟨s, s', ρ, ts, ws, f, h1, h2, r, g⟩ := q2.frz
    split at g
    · rename_i i ei
      rw [ei] at h2
      refine ⟨i, h2.intE, ?_⟩
      have q3 : tK1 X.K cl O ro W (fun x ρ => (ev t F hi ρ).bind fun h ρ => (match frz h with
        | .int j => R.of (slcD (frz x) (some i) (some j)) ρ
        | _ => .no)) v σ H2 Q := ⟨.d (frz s), ρ, ts, ws, f, r.push h1, g⟩
      refine tE.mono q3.bind fun w H3 q4 => ?_
      obtain ⟨s, s', ρ, ts, ws, f, h1, h2, r, g⟩ := q4.frz
      split at g
      · rename_i j ej
        rw [ej] at h2
        exact ⟨j, h2.intE, slc_ok r h1 g⟩
      · exact g.elim
    · exact g.elim
  · cases h
theorem s_stp {a k : E} (ha : PEp t F cl a) (hk : PEp t F cl k) : PEp t F cl (.stp a k) := by
  intro X W O ro x S h
  unfold ck at h
  split at h
  · obtain ⟨h1, h2⟩ := bf_split h
    refine PE.imp (pe_stp (ha X W O ro _ S h1) (hk X W O ro _ S h2) stepIx) fun σ H Q q => ?_
    have e : ev t F (.stp a k) = fun ρ => (ev t F a ρ).bind fun x ρ => (ev t F k ρ).bind fun y ρ => R.of (stpD (frz x) (frz y)) ρ := by (funext ρ; simp only [ev])
    rw [e] at q
    refine tE.mono q.bind fun v H1 q1 => tE.mono q1.bind fun u H2 q2 => ?_
    obtain ⟨s, s', ρ, ts, ws, f, h1, h2, r, g⟩ := q2.frz
    exact stp_ok (te := fun _ _ _ => True) (tk := fun _ _ _ => True) rfl r h1 h2 g
  · cases h
theorem s_fld {a : E} (f : String) (ha : PEp t F cl a) : PEp t F cl (.fld a f) := by
  intro X W O ro x S h
  unfold ck at h
  split at h
  · obtain ⟨h1, h2⟩ := bf_split h
    obtain ⟨h2, h3⟩ := bf_split h2
    have h1 := of_decide_eq_true h1
    subst h1
    refine PE.imp (pe_fldX (ha X W O ro _ S h2) (attr_base h3)) fun σ H Q q => ?_
    have e : ev t F (.fld a f) = fun ρ => (ev t F a ρ).bind fun x ρ => (match fldD t (frz x) f with | some d => .ok (.d d) ρ | none => .no) := by (funext ρ; first | (simp only [ev]; done) | (simp only [ev]; rfl))
    rw [e] at q
    refine tE.mono q.bind fun v H1 q1 => ?_
    obtain ⟨s, ρ, ts, ws, fp, z1, r, g⟩ := q1.frz
    cases hx : fldD t (frz s) f with
    | none => simp only [hx] at g; exact g.elim
    | some d =>
      simp only [hx] at g
      unfold fldD at hx
      split at hx
      · rename_i c ns xs es
        split at hx
        · rename_i hf
          rw [es] at z1
          obtain ⟨b, C, dx, zs, rfl, hc, eb, _, hl, m⟩ := z1.insE
          obtain ⟨k1, k2⟩ := S.fld _ _ _ hf hc
          obtain ⟨w, hw, hv⟩ := look_some m hx
          exact .inl ⟨b, C, dx, _, w, rfl, eb, k1, k2, hw, fin_d r hv g⟩
        · cases hx
      · rename_i c ns xs es
        split at hx
        · rename_i hf
          rw [es] at z1
          obtain ⟨b, C, dd, fs, zs, rfl, hc, eb, _, ed, _, hl, m, hlk⟩ := z1.excE
          obtain ⟨k1, k2⟩ := S.isx.fldx _ _ _ hf hc
          obtain ⟨w, hw, hv⟩ := look_some m hx
          exact .inr ⟨b, C, dd, fs, w, rfl, eb, ed, k1, k2, (hlk _).trans hw, fin_d r hv g⟩
        · cases hx
      · cases hx
  · cases h
/-! ### calls -/
/-- the arguments of a call, any number -/
theorem callArgs {f : Value} {first : List Value} {es : List Expr} {ta : TA} {pos : Pos} {pins : List (Addr × Obj)} {s : Shared} {σ : L2.St} {H : Hp} {Q : Value → Shared → Prop} (hk : PySem.W.keepIn X.K f = true) (ha : PA X es ta) (hs : es.all noSt = true) (I : Inv X pins σ H s)
    {R : List V → Hp → Prop} (h : ta σ H R) (h0 : es = [] → R [] H) (k : ∀ us s1 vs H1, Inv X pins σ H1 s1 → Vals vs us → R vs H1 → wpAny (model X.prog X.w) X.A (PySem.call f (first ++ us)) Q X.xe s1) :
    wpAny (model X.prog X.w) X.A (callWith pos f first (backTo pos (starEach es X.env)) (backToKw pos (keywordEach [] X.env))) Q X.xe s := by
  cases es with
  | nil =>
    have z := k [] s [] H I .nil (h0 rfl)
    exact PySem.W.callWith_K0 I.kIn hk z
  | cons e es =>
    rw [List.all_cons, Bool.and_eq_true] at hs
    exact PySem.W.callWith_K (h₀ := X.base) I.ok.mod.kin hk (thn (ha.run pos pins s σ H R I h) fun us s1 ⟨vs, H1, I1, r, q⟩ => ⟨I1.kIn, k us s1 vs H1 I1 r q⟩) (star_cons hs.1) (star_any hs.2)
theorem nil_args {N : List Str} {sc : Scope} {as : E} (h : cks N as sc [] = true) : evs t F as = fun ρ => .ok [] ρ := by
  cases as with
  | nil => (funext ρ; simp only [evs])
  | cons e es => unfold cks at h; cases h
  | _ => unfold cks at h; cases h
/-- f(..), a def of the module -/
theorem pe_callD {sp : Sp} {fd : FuncData} {ps : List Str} {k : Nat} {y : Str} {a : Addr} {es : List Expr} {ta : TA} {p pos : Pos} {E : L2.St → XK} (G : FnOk X.prog X.w X.K X.mg X.base (L2.CX X.prog X.w) k a fd ps sp) (hr : Room k X.A) (hb : Binds X.K fd ps []) (hg : Gl X y) (hm : X.mg y = some (.ref a)) (hk : PySem.W.keepIn X.K (.ref a) = true)
    (hx : ∀ σ, PassesAt (L2.CX X.prog X.w) X σ (E σ)) (ha : PA X es ta) (hs : es.all noSt = true) (hd : (y == ("__debug__" : Str)) = false) (h0 : es = [] → ∀ σ H R, ta σ H R → R [] H) :
    PE X (.Call (.Name y p) es [] pos) (fun σ H Q => ta σ H fun vs H1 => sp vs H1 Q (E σ)) := by
  refine ⟨fun pins s σ H Q I h => ?_⟩
  refine wpAny_Call_Name_kw (ld_glob I hg hm ?_ hd)
  refine callArgs (first := []) hk ha hs I h (fun e => h0 e σ H _ h) fun us s1 vs H1 I1 r q => ?_
  have q' : sp (vs ++ []) H1 Q (E σ) := by rw [List.append_nil]; exact q
  exact run_fnSD G hr hb .nil (hx σ) I1 r q'
theorem s_call {as : E} (f : String) (hs : PAp t F cl as) : PEp t F cl (.call f as) := by
  intro X W O ro x S h
  unfold ck at h
  split at h
  · rename_i y p es pos
    obtain ⟨h1, h2⟩ := bf_split h
    unfold gnB at h1
    obtain ⟨h3, h4⟩ := bf_split h1
    obtain ⟨h5, h6⟩ := bf_split h4
    have h3 := of_decide_eq_true h3
    subst h3
    by_cases hf : t.isFn f = true
    · have e : ev t F (.call f as) = fun ρ => (evs t F as ρ).bind fun vs ρ => ofCr (F f ((frzs vs).map .d)) ρ := by (funext ρ; simp only [ev, hf, if_true])
      obtain ⟨a, hm, hk, fd, ps, k, G, hr, hb⟩ := S.fn f hf
      refine PE.imp (pe_callD (E := fun σ c d H => W c d σ H) G (hr.mono (by omega)) hb (glB_ok h5) hm hk S.fly.pass (hs X W O ro _ S h2) (cks_st h2) (nmB_ok h6).1 fun e0 σ H R q => ?_) fun σ H Q q => ?_
      · subst e0
        rw [nil_args h2] at q
        exact tEs.nil q
      · rw [e] at q
        refine tEs.mono (tEs.bind q) fun vs H1 q1 => ?_
        obtain ⟨ss, ρ, ts, ws, fp, l, m, r, g⟩ := q1.frz
        exact call_ok rfl r m g
    · refine ⟨fun pins s σ H Q I q => ?_⟩
      obtain ⟨ρ, ts, ws, f', r, g⟩ := q
      simp only [ev, if_neg hf] at g
      exact g.elim
  · cases h
/-- a new instance, exceptions at the slots -/
theorem run_makeD {C f : Addr} {k : Nat} {fd : FuncData} {ps : List Str} {sp : Sp} {pins : List (Addr × Obj)} {σ : L2.St} {H : Hp} {s : Shared} {Q : VK} {us : List Value} {vs : List V} {E : XK} (M : Mk X.K C f) (G : FnOk X.prog X.w X.K X.mg X.base (L2.CX X.prog X.w) k f fd ps sp) (hr : Room (k + 1) X.A) (hb : Binds X.K fd ps [])
    (hx : PassesAt (L2.CX X.prog X.w) X σ E) (hxe : ∀ {H' : Hp} {s' : Shared} {e : Value} {s2 : Shared} {x dx : Addr}, Inv X pins σ H s → Inv X pins σ (upd (upd H dx (.own x)) x (.ins C dx [])) s' → L2.CX X.prog X.w X.stack (upd (upd H dx (.own x)) x (.ins C dx [])) s' E e s2 → X.xe e s2) (I : Inv X pins σ H s) (r : Vals vs us)
    (h : ∀ x dx, H x = none → H dx = none → dx ≠ x → sp (.ref x :: vs) (upd (upd H dx (.own x)) x (.ins C dx [])) (fun v H2 => v = .non ∧ Q (.ref x) H2) E) :
    wpAny (model X.prog X.w) X.A (PySem.call (.ref C) us) (EP X pins σ Q) X.xe s := by
  have hq := h (s.heap.objs.size + 1) s.heap.objs.size (I.hok.fresh (Nat.le_succ _)) (I.hok.fresh (Nat.le_refl _)) (Nat.ne_of_lt (Nat.lt_succ_self _))
  have I2 := Inv.made (C := C) I
  have r2 : Vals (V.ref (s.heap.objs.size + 1) :: vs) (Value.ref (s.heap.objs.size + 1) :: us) := .cons rfl r
  have hl : ((Value.ref (s.heap.objs.size + 1) :: us) ++ []).length = ps.length := by
    have e := r2.length
    rw [G.len _ _ _ _ hq] at e
    rw [List.append_nil]
    exact e.symm
  have hb2 := hb ⟨(s.heap.push PySem.W.emptyDict).push (PySem.W.instObj C s.heap.objs.size), s.gens, s.drawn, s.toks, s.os⟩ (Value.ref (s.heap.objs.size + 1) :: us) I2.kIn hl
  rw [List.append_nil] at hb2
  refine wpAny_call (make_map (f := f) I.kIn M.makes M.init (beq_iff_eq.mp M.fn) (codeAny_mono (G.run _ X.stack _ _ ⟨Value.ref (s.heap.objs.size + 1) :: us, []⟩ (Value.ref (s.heap.objs.size + 1) :: us) _ _ E (hr.make C us [])
    (I2.env0.make C us []) hb2 r2 hq) fun r s' hq' => ?_))
  cases r with
  | error e => exact hx pins _ _ e s' I2 hq'
  | ok fl =>
    cases fl with
    | ret u =>
      obtain ⟨v, H', I3, rv, ev, q3⟩ := I2.after hq'
      subst ev
      exact ⟨rv, ⟨V.ref (s.heap.objs.size + 1), H', I3, rfl, q3⟩⟩
    | next => exact False.elim hq'
    | brk => exact False.elim hq'
    | cont => exact False.elim hq'
theorem s_mk {as : E} (c : String) (hs : PAp t F cl as) : PEp t F cl (.mk c as) := by
  intro X W O ro x S h
  unfold ck at h
  split at h
  · rename_i y p es pos
    obtain ⟨h1, h2⟩ := bf_split h
    unfold gnB at h1
    obtain ⟨h3, h4⟩ := bf_split h1
    obtain ⟨h5, h6⟩ := bf_split h4
    have h3 := of_decide_eq_true h3
    subst h3
    refine ⟨fun pins s σ H Q I q => ?_⟩
    cases hi : t.init c with
    | none =>
      obtain ⟨ρ, ts, ws, f', r, g⟩ := q
      simp only [ev, hi] at g
      exact g.elim
    | some i =>
      have e : ev t F (.mk c as) = fun ρ => (evs t F as ρ).bind fun vs ρ => ofMk (F i (.ins c [] [] :: (frzs vs).map .d)) ρ := by (funext ρ; simp only [ev, hi])
      rw [e] at q
      obtain ⟨C, a, hc, hm, M, fd, ps, k, G, hr, hb⟩ := S.init c i hi
      refine wpAny_Call_Name_kw (ld_glob I (glB_ok h5) hm ?_ (nmB_ok h6).1)
      refine callArgs (first := []) M.kp (hs X W O ro _ S h2) (cks_st h2) I (tEs.bind q) (fun e0 => ?_) fun us s1 vs H1 I1 r q1 => ?_
      · subst e0
        have q2 := tEs.bind q
        rw [nil_args h2] at q2
        exact tEs.nil q2
      · refine run_makeD (E := fun c d H => W c d σ H) M G hr hb (S.fly.pass σ) (fun {_ _ _ _ _ _} _ I2 z => S.fly.pass σ pins _ _ _ _ I2 z) I1 r fun x dx nx nd ne => ?_
        obtain ⟨ss, ρ, ts, ws, fp, l, m, r, g⟩ := tKs.frz q1
        exact mk_ok rfl hc r m g nx nd ne
  · cases h
/-- C(): nothing but the new instance -/
theorem run_make0 {C : Addr} {pins : List (Addr × Obj)} {σ : L2.St} {H : Hp} {s : Shared} {Q : VK} (M : Mk0 X.K C) (I : Inv X pins σ H s)
    (h : ∀ x dx, H x = none → H dx = none → dx ≠ x → Q (.ref x) (upd (upd H dx (.own x)) x (.ins C dx []))) : wpAny (model X.prog X.w) X.A (PySem.call (.ref C) []) (EP X pins σ Q) X.xe s := by
  have q := h (s.heap.objs.size + 1) s.heap.objs.size (I.hok.fresh (Nat.le_succ _)) (I.hok.fresh (Nat.le_refl _)) (Nat.ne_of_lt (Nat.lt_succ_self _))
  have I2 := Inv.made (C := C) I
  have ho : ((s.heap.push PySem.W.emptyDict).push (PySem.W.instObj C s.heap.objs.size)).get? (s.heap.objs.size + 1) = some (PySem.W.instObj C s.heap.objs.size) := by
    have e : s.heap.objs.size + 1 = (s.heap.push PySem.W.emptyDict).objs.size := (Heap.size_push ..).symm
    rw [e]
    exact Heap.get?_push_size _ rfl
  have t1 : PySem.W.Looks (model X.prog X.w) ((s.heap.push PySem.W.emptyDict).push (PySem.W.instObj C s.heap.objs.size)) (typeOf (.ref (s.heap.objs.size + 1))) (.ref C) := NwA.type_at ho rfl
  have t2 : PySem.W.Looks (model X.prog X.w) ((s.heap.push PySem.W.emptyDict).push (PySem.W.instObj C s.heap.objs.size)) (isInstance (.ref (s.heap.objs.size + 1)) (.type "object")) true := t1.andThen (PySem.W.looks_mroIn I2.kIn M.top)
  refine wpAny_call (make_map0 I.kIn M.makes M.init (fun self => PySem.W.Looks.of_pure (PySem.W.oi_bind self)) ?_)
  refine codeAny_call_builtin PySem.W.oi_plain PySem.W.entry_oi (@PySem.W.check_slot (model X.prog X.w) _ _ _ "object.__init__" "object" "__init__" (.ref (s.heap.objs.size + 1)) [] [] _ PySem.W.oi_kind PySem.W.oi_split t2 (NwA.oi_args_any (.ref (s.heap.objs.size + 1)) [] []) ?_)
  rw [PySem.W.oi_run]
  exact wpAny_pure ⟨rfl, V.ref (s.heap.objs.size + 1), _, I2, rfl, q⟩
theorem s_mk0 (c : String) : PEp t F cl (.mk0 c) := by
  intro X W O ro x S h
  unfold ck at h
  split at h
  · rename_i y p pos
    unfold gnB at h
    obtain ⟨h3, h4⟩ := bf_split h
    obtain ⟨h5, h6⟩ := bf_split h4
    have h3 := of_decide_eq_true h3
    subst h3
    refine ⟨fun pins s σ H Q I q => ?_⟩
    obtain ⟨ρ, ts, ws, f, r, g⟩ := q
    by_cases hi : t.ini0 c = true
    · have e : ev t F (.mk0 c) ρ = .ok (.ins c [] []) ρ := by simp only [ev, hi, if_true]
      rw [e] at g
      obtain ⟨C, hc, hm, M⟩ := S.ini0 c hi
      refine wpAny_Call_Name_kw (ld_glob I (glB_ok h5) hm ?_ (nmB_ok h6).1)
      refine PySem.W.callWith_K0 I.kIn M.kp (run_make0 M I fun x dx nx nd ne => ?_)
      obtain ⟨e1, r1, np1, st1⟩ := r.alloc (o := .own x) nd
      have nx1 : (upd H dx (.own x)) x = none := by rw [upd_ne (Ne.symm ne)]; exact nx
      obtain ⟨f2, e2, r2⟩ := Rel.newO (ob := .ins C dx []) (ss := []) (vs := []) (S1 := .ins c [] []) rfl r1 nx1 fun A' H' fs hH hs => by
        unfold ORs at hs
        obtain ⟨_, rfl⟩ := hs
        unfold OR
        exact ⟨x, C, dx, [], [], rfl, hc, hH, rfl, rfl, ORs.nil⟩
      exact g (.ref x) _ f2 (e1.trans e2) r2
    · simp only [ev, if_neg hi] at g
      exact g.elim
  · cases h
theorem s_blt {as : E} (b : Bf) (hs : PAp t F cl as) : PEp t F cl (.blt b as) := by
  intro X W O ro x S h
  unfold ck at h
  split at h
  · rename_i y p e0 es pos
    obtain ⟨h1, h2⟩ := bf_split h
    unfold gnB at h1
    obtain ⟨h3, h4⟩ := bf_split h1
    obtain ⟨h5, h6⟩ := bf_split h4
    have h3 := of_decide_eq_true h3
    subst h3
    obtain ⟨h7, _, h8⟩ := nmB_ok h6
    have st := cks_st h2
    rw [List.all_cons, Bool.and_eq_true] at st
    have hv := boot_bf b
    have key : PE X (.Call (.Name (stOf (bfN b)) p) (e0 :: es) [] pos) (tCB (rBlt X.K b) (tEs X.K cl O ro W (evs t F as))) := by
      have hc := rBlt_ok S.calm b
      cases b with
      | len => exact pe_callB hc (glB_ok h5) (S.blt _) hv (hs X W O ro _ S h2) h8 h7 (star_cons st.1) (star_any st.2)
      | abs => exact pe_callB hc (glB_ok h5) (S.blt _) hv (hs X W O ro _ S h2) h8 h7 (star_cons st.1) (star_any st.2)
      | max => exact pe_callB hc (glB_ok h5) (S.blt _) hv (hs X W O ro _ S h2) h8 h7 (star_cons st.1) (star_any st.2)
      | min => exact pe_callB hc (glB_ok h5) (S.blt _) hv (hs X W O ro _ S h2) h8 h7 (star_cons st.1) (star_any st.2)
      | all => exact pe_callB hc (glB_ok h5) (S.blt _) hv (hs X W O ro _ S h2) h8 h7 (star_cons st.1) (star_any st.2)
      | any => exact pe_callB hc (glB_ok h5) (S.blt _) hv (hs X W O ro _ S h2) h8 h7 (star_cons st.1) (star_any st.2)
      | isinstance => exact pe_callB hc (glB_ok h5) (S.blt _) hv (hs X W O ro _ S h2) h8 h7 (star_cons st.1) (star_any st.2)
      | str => exact pe_callTy hc (glB_ok h5) (S.blt _) hv (hs X W O ro _ S h2) h8 h7 (star_cons st.1) (star_any st.2)
      | int => exact pe_callTy hc (glB_ok h5) (S.blt _) hv (hs X W O ro _ S h2) h8 h7 (star_cons st.1) (star_any st.2)
      | list => exact pe_callTy hc (glB_ok h5) (S.blt _) hv (hs X W O ro _ S h2) h8 h7 (star_cons st.1) (star_any st.2)
      | tuple => exact pe_callTy hc (glB_ok h5) (S.blt _) hv (hs X W O ro _ S h2) h8 h7 (star_cons st.1) (star_any st.2)
    refine PE.imp key fun σ H Q q => ?_
    have e : ev t F (.blt b as) = fun ρ => (evs t F as ρ).bind fun vs ρ => R.of (bltD t b (frzs vs)) ρ := by (funext ρ; simp only [ev])
    rw [e] at q
    refine tEs.mono (tEs.bind q) fun vs H1 q1 => ?_
    obtain ⟨ss, ρ, ts, ws, fp, l, m, r, g⟩ := q1.frz
    exact blt_ok S.isa S.isx b r m g
  · cases h
theorem bm_fact (m : Bm) : PlainAttrs (bmT m) ∧ Slot (bmT m) (stOf (bmN m)) (bmI m) ∧ typeOf (.builtin (bmI m)) = pure (.type "method_descriptor") := by
  cases m with
  | join => exact ⟨PySem.F.plainAttrs_str, PySem.F.slot_str_join, PySem.F.type_str_join⟩
  | upper => exact ⟨PySem.F.plainAttrs_str, PySem.F.slot_str_upper, PySem.F.type_str_upper⟩
  | count => exact ⟨PySem.F.plainAttrs_list, PySem.F.slot_list_count, PySem.F.type_list_count⟩
  | index => exact ⟨PySem.F.plainAttrs_list, PySem.F.slot_list_index, PySem.F.type_list_index⟩
  | split => exact ⟨PySem.F.plainAttrs_str, PySem.F.slot_str_split, PySem.F.type_str_split⟩
  | startswith => exact ⟨PySem.F.plainAttrs_str, PySem.F.slot_str_startswith, PySem.F.type_str_startswith⟩
theorem few_at {es : List Expr} {env : PySem.Env} {pos : Pos} (h : es.all noSt = true) (hn : es.length < 29) : ((backTo pos (starEach es env)).all (fun x => !x.1) && (backToKw pos (keywordEach [] env)).all (fun x => x.1.isSome) && decide (es.length + ([] : List Keyword).length + (if ([] : List Keyword).isEmpty then 0 else 1) < 30)) = true := by
  rw [star_all h]
  show (true && true && decide (es.length + 0 + 0 < 30)) = true
  rw [decide_eq_true (by omega)]
  rfl
theorem s_bm {a as : E} (m : Bm) (ha : PEp t F cl a) (hs : PAp t F cl as) : PEp t F cl (.bm m a as) := by
  intro X W O ro x S h
  have e : ev t F (.bm m a as) = fun ρ => (ev t F a ρ).bind fun x ρ => if okRec m (frz x) then (evs t F as ρ).bind fun vs ρ => R.of (bmD m (frz x) (frzs vs)) ρ else .no := by (funext ρ; first | (simp only [ev]; done) | (simp only [ev]; rfl))
  unfold ck at h
  split at h
  · rename_i y z ap es p
    obtain ⟨h1, h2⟩ := bf_split h
    obtain ⟨h3, h4⟩ := bf_split h2
    obtain ⟨h5, h6⟩ := bf_split h4
    obtain ⟨h7, h8⟩ := bf_split h6
    obtain ⟨h9, h10⟩ := bf_split h8
    have h1 := of_decide_eq_true h1
    subst h1
    obtain ⟨f1, f2, f3⟩ := bm_fact m
    have st := cks_st h7
    have key : ∀ {v : V} {σ : L2.St} {H1 : Hp} {Q : VK}, tK1 X.K cl O ro W (fun x ρ => if okRec m (frz x) then (evs t F as ρ).bind fun vs ρ => R.of (bmD m (frz x) (frzs vs)) ρ else .no) v σ H1 Q →
        tyV X.K (bmT m) v H1 ∧ tEs X.K cl O ro W (evs t F as) σ H1 fun vs H2 => rBm X.K m v vs H2 Q := fun {v σ H1 Q} q1 => by
      obtain ⟨s, ρ, ts, ws, f, z1, r, g⟩ := q1.frz
      by_cases ho : okRec m (frz s) = true
      · rw [if_pos ho] at g
        have q3 : tK1 X.K cl O ro W (fun x ρ => (evs t F as ρ).bind fun vs ρ => R.of (bmD m (frz x) (frzs vs)) ρ) v σ H1 Q := ⟨.d (frz s), ρ, ts, ws, f, r.push z1, g⟩
        refine ⟨bm_ty ho z1, tEs.mono q3.binds fun vs H2 q4 => ?_⟩
        obtain ⟨s, ss, ρ, ts, ws, f, l, z1, m1, r, g⟩ := q4.frz
        exact bm_ok m r z1 m1 g
      · rw [if_neg ho] at g
        exact g.elim
    cases es with
    | nil =>
      refine PE.imp (pe_bm0 (X := X) (o := y) (apos := ap) (cpos := p) f1 f2 f3 (rBm_ok m) (ha X W O ro _ S h3) (attr_base h5) h10) fun σ H Q q => ?_
      rw [e] at q
      refine tE.mono q.bind fun v H1 q1 => ?_
      obtain ⟨k1, k2⟩ := key q1
      rw [nil_args h7] at k2
      exact ⟨k1, tEs.nil k2⟩
    | cons e0 es =>
      have st2 := st
      rw [List.all_cons, Bool.and_eq_true] at st2
      refine PE.imp (pe_bm (X := X) (o := y) (e := e0) (es := es) (apos := ap) (cpos := p) f1 f2 f3 (rBm_ok m) (ha X W O ro _ S h3) (hs X W O ro _ S h7) (attr_base h5) (few_at st (of_decide_eq_true h9)) h10 (star_cons st2.1) (star_any st2.2)) fun σ H Q q => ?_
      rw [e] at q
      refine tE.mono q.bind fun v H1 q1 => ?_
      exact key q1
  · cases h
theorem s_edk : PEp t F cl .edk := by
  intro X W O ro x S h
  unfold ck at h
  split at h
  · refine PE.imp pe_dnewK fun σ H Q q => ?_
    obtain ⟨ρ, ts, ws, f, r, g⟩ := q
    simp only [ev] at g
    intro p np
    obtain ⟨f', ex, r'⟩ := Rel.newDk (ks := []) (ss := []) (vs := []) (ts := ts) (ws := ws) rfl rfl r np
    exact g _ _ f' ex r'
  · cases h
theorem evs_len : ∀ (as : E) (ρ : Env) (ss : List SV) (ρ1 : Env), evs t F as ρ = .ok ss ρ1 → ss.length = lenE as
  | .nil, ρ, ss, ρ1, h => by
    simp only [evs] at h
    cases h
    rfl
  | .cons e es, ρ, ss, ρ1, h => by
    simp only [evs] at h
    cases e1 : ev t F e ρ with
    | ok s ρ2 =>
      rw [e1] at h
      have h : (evs t F es ρ2).bind (fun vs ρ => R.ok (s :: vs) ρ) = .ok ss ρ1 := h
      cases e2 : evs t F es ρ2 with
      | ok s2 ρ3 =>
        rw [e2] at h
        cases h
        rw [List.length_cons, evs_len es ρ2 s2 _ e2]
        rfl
      | exc x ρ3 => rw [e2] at h; cases h
      | no => rw [e2] at h; cases h
    | exc x ρ3 => rw [e1] at h; cases h
    | no => rw [e1] at h; cases h
  | .var _, _, _, _, h => by simp only [evs] at h; cases h
  | .non, _, _, _, h => by simp only [evs] at h; cases h
  | .bl _, _, _, _, h => by simp only [evs] at h; cases h
  | .int _, _, _, _, h => by simp only [evs] at h; cases h
  | .str _, _, _, _, h => by simp only [evs] at h; cases h
  | .glb _, _, _, _, h => by simp only [evs] at h; cases h
  | .tyn _, _, _, _, h => by simp only [evs] at h; cases h
  | .tup _, _, _, _, h => by simp only [evs] at h; cases h
  | .lst _, _, _, _, h => by simp only [evs] at h; cases h
  | .bin _ _ _, _, _, _, h => by simp only [evs] at h; cases h
  | .neg _, _, _, _, h => by simp only [evs] at h; cases h
  | .not _, _, _, _, h => by simp only [evs] at h; cases h
  | .and _ _, _, _, _, h => by simp only [evs] at h; cases h
  | .or _ _, _, _, _, h => by simp only [evs] at h; cases h
  | .cmp _ _ _, _, _, _, h => by simp only [evs] at h; cases h
  | .chn _ _ _ _ _, _, _, _, h => by simp only [evs] at h; cases h
  | .ife _ _ _, _, _, _, h => by simp only [evs] at h; cases h
  | .idx _ _, _, _, _, h => by simp only [evs] at h; cases h
  | .slc _ _ _, _, _, _, h => by simp only [evs] at h; cases h
  | .stp _ _, _, _, _, h => by simp only [evs] at h; cases h
  | .emp, _, _, _, h => by simp only [evs] at h; cases h
  | .fld _ _, _, _, _, h => by simp only [evs] at h; cases h
  | .call _ _, _, _, _, h => by simp only [evs] at h; cases h
  | .mk _ _, _, _, _, h => by simp only [evs] at h; cases h
  | .blt _ _, _, _, _, h => by simp only [evs] at h; cases h
  | .meth _ _ _, _, _, _, h => by simp only [evs] at h; cases h
  | .bm _ _ _, _, _, _, h => by simp only [evs] at h; cases h
  | .comp _ _ _, _, _, _, h => by simp only [evs] at h; cases h
  | .cmpi _ _ _ _, _, _, _, h => by simp only [evs] at h; cases h
  | .rng _, _, _, _, h => by simp only [evs] at h; cases h
  | .rng2 _ _, _, _, _, h => by simp only [evs] at h; cases h
  | .edk, _, _, _, h => by simp only [evs] at h; cases h
  | .disp _ _, _, _, _, h => by simp only [evs] at h; cases h
  | .dget _ _ _, _, _, _, h => by simp only [evs] at h; cases h
  | .enu _, _, _, _, h => by simp only [evs] at h; cases h
  | .idv _ _, _, _, _, h => by simp only [evs] at h; cases h
  | .bor _, _, _, _, h => by simp only [evs] at h; cases h
  | .take _, _, _, _, h => by simp only [evs] at h; cases h
  | .mk0 _, _, _, _, h => by simp only [evs] at h; cases h
  | .zip _, _, _, _, h => by simp only [evs] at h; cases h
  | .io _ _, _, _, _, h => by simp only [evs] at h; cases h
  | .iom _ _ _, _, _, _, h => by simp only [evs] at h; cases h
  | .orv _ _, _, _, _, h => by simp only [evs] at h; cases h
  | .takef _ _, _, _, _, h => by simp only [evs] at h; cases h
  | .crep _ _ _ _, _, _, _, h => by simp only [evs] at h; cases h
  | .bad, _, _, _, h => by simp only [evs] at h; cases h
theorem zip_kV : ∀ (ks : List Kx) (vs : List V), (ks.map fun k => kV (kx k)).zip vs = ((ks.map kx).zip vs).map fun kv => (kV kv.1, kv.2)
  | [], _ => rfl
  | _ :: _, [] => rfl
  | k :: ks, v :: vs => by
    show (kV (kx k), v) :: (ks.map fun k => kV (kx k)).zip vs = (kV (kx k), v) :: ((ks.map kx).zip vs).map fun kv => (kV kv.1, kv.2)
    rw [zip_kV ks vs]
theorem merge_new : ∀ (more acc : List (Key × V)), ((acc ++ more).map (·.1)).Nodup → mergeK acc more = acc ++ more
  | [], acc, _ => by rw [List.append_nil]; rfl
  | p :: r, acc, h => by
    have e : putK acc p.1 p.2 = acc ++ [p] := by
      unfold putK
      rw [if_neg]
      intro z
      rw [List.any_eq_true] at z
      obtain ⟨q, hq, hz⟩ := z
      have hz := of_decide_eq_true hz
      rw [List.map_append, List.nodup_append] at h
      exact h.2.2 q.1 (List.mem_map_of_mem hq) p.1 (List.mem_map_of_mem List.mem_cons_self) hz
    show mergeK (putK acc p.1 p.2) r = _
    rw [e, merge_new r (acc ++ [p]) (by rw [List.append_assoc]; exact h), List.append_assoc]
    rfl
theorem nodup_kx : ∀ {ks : List Kx}, ks.Nodup → (ks.map kx).Nodup
  | [], _ => List.nodup_nil
  | k :: ks, h => by
    rw [List.nodup_cons] at h
    rw [List.map_cons, List.nodup_cons]
    refine ⟨fun z => ?_, nodup_kx h.2⟩
    obtain ⟨j, hj, e⟩ := List.mem_map.mp z
    rw [kx_inj e] at hj
    exact h.1 hj
theorem zipK_fst : ∀ {ks : List Kx} {vs : List V}, ks.length = vs.length → (zipK ks vs).map (fun p => p.1) = ks.map kx
  | [], [], _ => rfl
  | [], _ :: _, h => by cases h
  | _ :: _, [], h => by cases h
  | k :: ks, v :: vs, h => by
    show kx k :: (zipK ks vs).map (fun p => p.1) = kx k :: ks.map kx
    rw [zipK_fst (Nat.succ.inj h)]
theorem merge_zip {ks : List Kx} {vs : List V} (h : ks.Nodup) (hl : ks.length = vs.length) : mergeK [] (zipK ks vs) = zipK ks vs := by
  refine merge_new (zipK ks vs) [] ?_
  rw [List.nil_append]
  show ((zipK ks vs).map (fun p => p.1)).Nodup
  rw [zipK_fst hl]
  exact nodup_kx h
theorem key_pe {k : Kx} {ke : Option Expr} (h : ckK1 k ke = true) : ∃ x, ke = some x ∧ PE X x (tC (kV (kx k))) := by
  unfold ckK1 at h
  split at h
  · split at h
    · have h := of_decide_eq_true h
      subst h
      exact ⟨_, rfl, pe_int⟩
    · cases h
  · split at h
    · have h := of_decide_eq_true h
      subst h
      exact ⟨_, rfl, pe_str⟩
    · cases h
theorem ckK_len : ∀ {ks : List Kx} {kes : List (Option Expr)}, ckK ks kes = true → kes.length = ks.length ∧ kes.all (·.isSome) = true
  | [], [], _ => ⟨rfl, rfl⟩
  | [], _ :: _, h => by cases h
  | _ :: _, [], h => by cases h
  | k :: ks, e :: kes, h => by
    obtain ⟨h0, h⟩ := bf_split (show (ckK1 k e && ckK ks kes) = true from h)
    obtain ⟨h1, h2⟩ := ckK_len h
    have h3 : e.isSome = true := by
      unfold ckK1 at h0
      split at h0
      · split at h0
        · rfl
        · cases h0
      · split at h0
        · rfl
        · cases h0
    exact ⟨by rw [List.length_cons, List.length_cons, h1], by rw [List.all_cons, h2, h3]; rfl⟩
theorem cks_len {N : List Str} {sc : Scope} : ∀ {es : E} {xs : List Expr}, cks N es sc xs = true → xs.length = lenE es := by
  intro es
  induction es with
  | nil =>
    intro xs h
    unfold cks at h
    split at h
    · rfl
    · cases h
  | cons e es _ ih =>
    intro xs h
    unfold cks at h
    split at h
    · obtain ⟨_, h⟩ := bf_split h
      obtain ⟨_, h⟩ := bf_split h
      rw [List.length_cons, ih h]
      rfl
    · cases h
  | _ => intro xs h; cases h
theorem k_nil : PKp t F cl .nil := by
  intro X W O ro ks kes xs pos S h1 h2 h3
  have e : ks = [] := by
    cases ks with
    | nil => rfl
    | cons _ _ => cases h2
  subst e
  have e2 : kes = [] := List.eq_nil_of_length_eq_zero (ckK_len h1).1
  subst e2
  have e3 : xs = [] := List.eq_nil_of_length_eq_zero (cks_len h3)
  subst e3
  refine ⟨[], pps_nil, fun σ H Q q => ?_⟩
  have e : evs t F .nil = fun ρ => .ok [] ρ := by (funext ρ; simp only [evs])
  rw [e] at q
  exact tEs.nil q
theorem k_cons {e es : E} (he : PEp t F cl e) (hs : PKp t F cl es) : PKp t F cl (.cons e es) := by
  intro X W O ro ks kes xs pos S h1 h2 h3
  cases ks with
  | nil => cases h2
  | cons k ks =>
    cases kes with
    | nil => cases h1
    | cons ke kes =>
      obtain ⟨h0, h4⟩ := bf_split (show (ckK1 k ke && ckK ks kes) = true from h1)
      obtain ⟨x, rfl, hk⟩ := key_pe (X := X) h0
      unfold cks at h3
      split at h3
      · rename_i y ys
        obtain ⟨h5, h6⟩ := bf_split h3
        obtain ⟨_, h6⟩ := bf_split h6
        obtain ⟨trs, hp, hq⟩ := hs X W O ro ks kes _ pos S h4 (Nat.succ.inj h2) h6
        refine ⟨_, pps_cons hk (he X W O ro _ S h5) hp, fun σ H Q q => ?_⟩
        have e0 : evs t F (.cons e es) = fun ρ => (ev t F e ρ).bind fun v ρ => (evs t F es ρ).bind fun vs ρ => .ok (v :: vs) ρ := by (funext ρ; simp only [evs])
        rw [e0] at q
        exact tE.mono (tEs.cons q) fun v H1 q1 => hq σ H1 _ q1
      · cases h3
theorem s_disp {es : E} (ks : List Kx) (hs : PKp t F cl es) : PEp t F cl (.disp ks es) := by
  intro X W O ro x S h
  by_cases hg : ks.Nodup ∧ ks.length ≤ 15 ∧ ks ≠ [] ∧ lenE es = ks.length
  · unfold ck at h
    split at h
    · rename_i kes ves pos
      obtain ⟨h1, h2⟩ := bf_split h
      obtain ⟨h2, h3⟩ := bf_split h2
      obtain ⟨g1, g2, g3, g4⟩ := hg
      obtain ⟨l1, l2⟩ := ckK_len h1
      have l3 := cks_len h3
      obtain ⟨trs, hp, hq⟩ := hs X W O ro ks kes ves pos S h1 g4 h3
      refine PE.imp (pe_disp hp l2 (by rw [l1, l3, g4]) (fun z => by rw [z] at l1; exact g3 (List.eq_nil_of_length_eq_zero l1.symm)) (by rw [l1]; exact g2)) fun σ H Q q => ?_
      obtain ⟨ρ, ts, ws, f, r, g⟩ := q
      have e : ev t F (.disp ks es) ρ = (evs t F es ρ).bind fun vs ρ => .ok (.dk ks ((frzs vs).map .d)) ρ := by
        simp only [ev]
        rw [if_pos ⟨g1, g2, g3, g4⟩]
      rw [e] at g
      intro p np
      obtain ⟨f1, ex1, r1⟩ := Rel.newDk (ks := []) (ss := []) (vs := []) (ts := ts) (ws := ws) rfl rfl r np
      refine hq σ (upd H p (.dK [])) _ ⟨ρ, .dk [] [] :: ts, .ref p :: ws, f1, r1, ?_⟩
      cases e1 : evs t F es ρ with
      | ok ss ρ2 =>
        rw [e1] at g
        intro vs H2 f2 hl ex2 r2
        obtain ⟨f3, ex3, r3, m⟩ := Rel.freezes hl r2
        have hk : ks.length = vs.length := by rw [← hl, evs_len _ _ _ _ e1, g4]
        obtain ⟨h2, ex4, r4⟩ := Rel.fillDk hk r3 m
        refine ⟨h2, zipK ks vs, zip_kV ks vs, ?_, ?_⟩
        · unfold zipK
          rw [List.length_zip, List.length_map]
          omega
        · rw [merge_zip g1 hk]
          exact g _ _ f3 (Ext.upd ((ex1.trans ex2).trans ex3) np ex4) r4
      | exc y ρ2 =>
        rw [e1] at g
        intro c d H2 f2 ex2 r2 xr
        exact exc_pop (Φ := True) g (ex1.trans ex2) r2 xr
      | no =>
        rw [e1] at g
        exact g
    · cases h
  · refine ⟨fun pins s σ H Q I q => ?_⟩
    obtain ⟨ρ, ts, ws, f, r, g⟩ := q
    have e : ev t F (.disp ks es) ρ = .no := by
      simp only [ev]
      rw [if_neg hg]
    rw [e] at g
    exact g.elim
theorem s_dget {a k d : E} (ha : PEp t F cl a) (hk : PEp t F cl k) (hd : PEp t F cl d) : PEp t F cl (.dget a k d) := by
  intro X W O ro x S h
  unfold ck at h
  split at h
  · rename_i y z ap u w p
    obtain ⟨h1, h⟩ := bf_split h
    obtain ⟨h2, h⟩ := bf_split h
    obtain ⟨h3, h⟩ := bf_split h
    obtain ⟨h4, h⟩ := bf_split h
    obtain ⟨h5, h6⟩ := bf_split h
    obtain ⟨h4, h4s⟩ := bf_split h4
    obtain ⟨h5, h5s⟩ := bf_split h5
    have h1 := of_decide_eq_true h1
    subst h1
    have hst : [u, w].all noSt = true := by simp [h4s, h5s]
    refine PE.imp (pe_dget2 (by have := S.hu; omega) (ha X W O ro _ S h2) (hk X W O ro _ S h4) (hd X W O ro _ S h5) ⟨attr_base h3, few_at hst (Nat.le_of_ble_eq_true rfl), h6, by rw [star_cons h4s, star_cons h5s]; rfl⟩) fun σ H Q q => ?_
    have e : ev t F (.dget a k d) = fun ρ => (ev t F a ρ).bind fun x ρ => (match frz x with
      | .dk ks xs => (ev t F k ρ).bind fun y ρ => (ev t F d ρ).bind fun z ρ => (match kxD (frz y) with
        | some j => .ok (.d ((atK j ks xs).getD (frz z))) ρ
        | none => .no)
      | _ => .no) := by (funext ρ; first | (simp only [ev]; done) | (simp only [ev]; rfl))
    rw [e] at q
    refine tE.mono q.bind fun v H1 q1 => ?_
    obtain ⟨s0, ρ, ts, ws, fp, z1, r, g⟩ := q1.frz
    split at g
    · rename_i ks xs es0
      rw [es0] at z1
      have z2 := z1
      obtain ⟨b, zs, rfl, hb, _, hl, mm⟩ := z1.dkE
      refine ⟨b, rfl, .inl ⟨_, .inl hb⟩, ?_⟩
      have q3 : tK1 X.K cl O ro W (fun x ρ => (ev t F k ρ).bind fun y ρ => (fun x y ρ => (ev t F d ρ).bind fun z ρ => (match frz x with
        | .dk ks xs => (match kxD (frz y) with
          | some j => .ok (.d ((atK j ks xs).getD (frz z))) ρ
          | none => .no)
        | _ => .no)) x y ρ) (.ref b) σ H1 Q := ⟨.d (.dk ks xs), ρ, ts, ws, fp, r.push z2, g⟩
      refine tE.mono q3.bind fun u H2 q4 => tE.mono q4.bind fun w H3 q5 => ?_
      obtain ⟨s1, s2, s3, ρ3, ts3, ws3, f3, y1, y2, y3, r3, g3⟩ := q5.frz
      split at g3
      · rename_i ks xs es1
        rw [es1] at y1
        obtain ⟨b', zs, eb, hb, _, hl, mm⟩ := y1.dkE
        cases eb
        cases hj : kxD (frz s2) with
        | none => rw [hj] at g3; exact g3.elim
        | some j =>
          rw [hj] at g3
          have hu := kxD_rel hj y2
          subst hu
          refine ⟨atK j ks zs, ?_, ?_⟩
          · have := DGet.k (k := kx j) hb
            rw [valV_atK] at this
            exact this
          · cases ha : atK j ks xs with
            | none =>
              have g3 : GE X.K cl O ro W ts3 σ ws3 f3 H3 (.ok (.d ((atK j ks xs).getD (frz s3))) ρ3) Q := g3
              rw [ha] at g3
              rw [atK_rel0 mm ha]
              exact fin_d r3 y3 g3
            | some d0 =>
              have g3 : GE X.K cl O ro W ts3 σ ws3 f3 H3 (.ok (.d ((atK j ks xs).getD (frz s3))) ρ3) Q := g3
              rw [ha] at g3
              obtain ⟨w0, hw, hv⟩ := atK_rel mm ha
              rw [hw]
              exact fin_d r3 hv g3
      · exact g3.elim
    · exact g.elim
  · cases h
theorem ORs.getD {K : PySem.W.Frag} {A : Addr → Prop} {H : Hp} {d : D} : ∀ {xs : List SV} {ws : List V} {f : List Addr} {j : Nat}, ORs K cl A H xs ws f → xs[j]? = some (.d d) → ∃ w, ws[j]? = some w ∧ VR K cl A H d w
  | [], _, _, _, _, h => by simp at h
  | x :: xs, ws, f, 0, r, h => by
    unfold ORs at r
    obtain ⟨w, ws', f1, f2, rfl, _, q, _⟩ := r
    simp at h
    subst h
    unfold OR at q
    exact ⟨w, rfl, q.1⟩
  | x :: xs, ws, f, j + 1, r, h => by
    unfold ORs at r
    obtain ⟨w, ws', f1, f2, rfl, _, _, m⟩ := r
    have h : xs[j]? = some (.d d) := by simpa using h
    obtain ⟨w2, k1, k2⟩ := ORs.getD m h
    exact ⟨w2, by simpa using k1, k2⟩
theorem own_at {K : PySem.W.Frag} {ρ : Env} {ts : List SV} {σ : L2.St} {ws : List V} {f : List Addr} {H : Hp} {i : Nat} {S0 : SV} (r : Rel K cl O ro ρ ts σ ws f H) (e : ρ[i]? = some (some S0)) : ∃ v g, σ[i]? = some (some v) ∧ OR K cl (Av O f) H S0 v g := by
  obtain ⟨fe, ft, ef, c, d, oo, p, q, z⟩ := r
  obtain ⟨v0, g1, g2, g3, e1, e2, o1, up⟩ := OE.at p e
  obtain ⟨w, ew, h⟩ := o1
  subst ew
  exact ⟨w, g2, e1, h⟩
theorem s_idv {e : E} (i : Nat) (he : PEp t F cl e) : PEp t F cl (.idv i e) := by
  intro X W O ro x S h
  unfold ck at h
  split at h
  · obtain ⟨h1, h⟩ := bf_split h
    obtain ⟨h2, h3⟩ := bf_split h
    obtain ⟨h2, h4⟩ := bf_split h2
    obtain ⟨h5, h6⟩ := bf_split h3
    obtain ⟨n1, n2, _⟩ := nmB_ok h4
    refine PE.imp (pe_ix (ix_seq.or (ix_dk (by have := S.hu; omega))) (pe_var (of_decide_eq_true h1) (visB_ok h2) n1 n2) (he X W O ro _ S h5) (plainIx h6)) fun σ H Q q => ?_
    obtain ⟨ρ, ts, ws, f, r, g⟩ := q
    have e0 : ev t F (.idv i e) ρ = (match ρ[i]? with
      | some (some _) => (ev t F e ρ).bind fun y ρ => (match ρ[i]? with
        | some (some s) => (match svIdx s (frz y) with
          | some d => .ok (.d d) ρ
          | none => .no)
        | _ => .no)
      | _ => .no) := by first | (simp only [ev]; done) | (simp only [ev]; rfl)
    rw [e0] at g
    split at g
    · rename_i s0 es0
      obtain ⟨v, g0, e1, q1⟩ := own_at r es0
      refine ⟨v, e1, ?_⟩
      have q2 : tE X.K cl O ro W (fun ρ => (ev t F e ρ).bind fun y ρ => (match ρ[i]? with
        | some (some s) => (match svIdx s (frz y) with
          | some d => .ok (.d d) ρ
          | none => .no)
        | _ => .no)) σ H Q := ⟨ρ, ts, ws, f, r, g⟩
      refine tE.mono q2.bind fun u H2 q3 => ?_
      obtain ⟨s, ρ2, ts2, ws2, f2, z1, r2, g2⟩ := q3.frz
      split at g2
      · rename_i s1 es1
        obtain ⟨v', g1, e1', o1⟩ := own_at r2 es1
        rw [e1] at e1'
        cases e1'
        cases hd : svIdx s1 (frz s) with
        | none => rw [hd] at g2; exact g2.elim
        | some d =>
          rw [hd] at g2
          unfold svIdx at hd
          split at hd
          · rename_i xs k ek
            rw [ek] at z1
            split at hd
            · rename_i d' hat
              cases hd
              unfold OR at o1
              obtain ⟨a, wa, fa, rfl, hH, _, m⟩ := o1
              unfold atI at hat
              obtain ⟨j, hj, hx⟩ := Option.bind_eq_some_iff.mp hat
              obtain ⟨w, hw, hv⟩ := ORs.getD m hx
              rw [z1.intE]
              refine .inl (.inl ⟨a, wa, k, w, rfl, rfl, SqL.of hH, ?_, fin_d r2 hv g2⟩)
              unfold atI
              rw [← m.len, hj]
              exact hw
            · cases hd
          · rename_i x0 y0
            unfold OR at o1
            exact idx_ok hd o1.1 z1 fun w hw => fin_d r2 hw g2
          · cases hd
      · exact g2.elim
    · exact g.elim
  · cases h
theorem VR.flat {K : PySem.W.Frag} {A A' : Addr → Prop} {H H' : Hp} {x : D} {v : V} (h : Kn.flat x = true) (r : VR K cl A H x v) : VR K cl A' H' x v := by
  cases x <;> first | (cases h; done) | (unfold VR at r ⊢; exact r)
theorem Rel.grow {K : PySem.W.Frag} {ρ : Env} {ts : List SV} {σ : L2.St} {ws : List V} {f : List Addr} {H H' : Hp} (r : Rel K cl O ro ρ ts σ ws f H) (h : ∀ a o, H a = some o → H' a = some o) : Rel K cl O ro ρ ts σ ws f H' := by
  have hf := r.has
  obtain ⟨fe, ft, e, c, d, o, p, q, z⟩ := r
  have same : ∀ a ∈ f, H' a = H a := fun a ha => by
    cases e : H a with
    | none => exact absurd e (hf a ha)
    | some u => exact h a u e
  have st : Stp (Av O f) H (Av O f) H' := fun a u q n => ⟨h a u q, n⟩
  refine ⟨fe, ft, e, c, d, fun a ha => ?_, OE.stp st _ _ _ (fun a ha => same a (by rw [e]; exact List.mem_append_left _ ha)) p, ORs.stp st _ _ _ (fun a ha => same a (by rw [e]; exact List.mem_append_right _ ha)) q, z⟩
  cases w : H a with
  | none => exact absurd w (o a ha)
  | some u =>
    rw [h a u w]
    exact fun z => nomatch z
theorem ev_bor {e : E} {ρ : Env} : ev t F (.bor e) ρ = (match ev t F e (frzE ρ) with
    | .ok (.d x) _ => if Kn.flat x then .ok (.d x) ρ else .no
    | .ok _ _ => .no
    | .exc x ρ' => .exc x ρ'
    | .no => .no) := by first | (simp only [ev]; done) | (simp only [ev]; rfl)
theorem OE.frz {K : PySem.W.Frag} {A A' : Addr → Prop} {H : Hp} (hA : ∀ a, ¬ A a → ¬ A' a) : ∀ {ρ : Env} {σ : L2.St} {f : List Addr}, (∀ a ∈ f, ¬ A' a) → OE K cl A H ρ σ f → OE K cl A' H (frzE ρ) σ []
  | [], σ, f, _, r => by
    unfold OE at r
    obtain ⟨rfl, rfl⟩ := r
    show OE K cl A' H [] [] []
    unfold OE
    exact ⟨rfl, rfl⟩
  | s :: ρ, σ, f, hf, r => by
    unfold OE at r
    obtain ⟨v, σ', f1, f2, rfl, rfl, q, m⟩ := r
    have ih := OE.frz hA (fun a h => hf a (List.mem_append_right _ h)) m
    show OE K cl A' H (Option.map (fun s => SV.d (Kn.frz s)) s :: frzE ρ) (v :: σ') []
    unfold OE
    refine ⟨v, σ', [], [], rfl, rfl, ?_, ih⟩
    cases s with
    | none => rfl
    | some s =>
      obtain ⟨w, rfl, q⟩ := q
      refine ⟨w, rfl, ?_⟩
      unfold OR
      exact ⟨OR.frz hA s w f1 (fun a h => hf a (List.mem_append_left _ h)) q, rfl⟩
/-- a look at all that is owned: for its while nobody may change it -/
theorem Rel.park {K : PySem.W.Frag} {ρ : Env} {ts : List SV} {σ : L2.St} {ws : List V} {f : List Addr} {H : Hp} (r : Rel K cl O ro ρ ts σ ws f H) : ∃ ft, Rel K cl (Av O ft) ro (frzE ρ) [] σ [] [] H ∧
    ∀ H' f1 ρ1, ExW [] H f1 H' → Rel K cl (Av O ft) ro ρ1 [] σ [] f1 H' → ∃ f2, Ext f H f2 H' ∧ Rel K cl O ro ρ1 ts σ ws f2 H' ∧ ∀ a, Av O f2 a → Av (Av O ft) f1 a := by
  have dm := r.dom
  have hs := r.has
  obtain ⟨fe, ft, e, c, d, o, p, q, z⟩ := r
  subst e
  have nft : ∀ a ∈ fe, a ∉ ft := fun a h m => by
    have := c a
    rw [mem_of_count] at h m
    simp only [List.count_append] at this
    omega
  refine ⟨ft, ⟨[], [], rfl, fun a => (by simp), fun a h => (by cases h), fun a h => ?_, ?_, ORs.nil, z⟩, fun H' f1 ρ1 ex r' => ?_⟩
  · rcases h with h | h
    · exact o a h
    · exact hs a (List.mem_append_right _ h)
  · refine OE.frz (fun a n m => n ?_) (fun a h m => ?_) p
    · rcases m with (m | m) | m
      · exact .inl m
      · exact .inr (List.mem_append_right _ m)
      · cases m
    · rcases m with (m | m) | m
      · exact d a (List.mem_append_left _ h) m
      · exact nft a h m
      · cases m
  · obtain ⟨fe1, ft1, e1, c1, d1, o1, p1, q1, z1⟩ := r'
    unfold ORs at q1
    obtain ⟨_, rfl⟩ := q1
    have e1 : f1 = fe1 := by simpa using e1
    subst e1
    have keep : ∀ a o, H a = some o → H' a = some o := fun a o h => ex.1 a o h fun m => by cases m
    have new : ∀ a ∈ f1, H a = none := fun a h => (ex.2 a h).elim (fun m => by cases m) id
    have av : Av (Av O ft) f1 = Av O (f1 ++ ft) := by
      funext a
      apply propext
      simp only [Av, List.mem_append]
      constructor
      · rintro ((h | h) | h)
        · exact .inl h
        · exact .inr (.inr h)
        · exact .inr (.inl h)
      · rintro (h | h | h)
        · exact .inl (.inl h)
        · exact .inr h
        · exact .inl (.inr h)
    rw [av] at p1
    have st : Stp (Av O (fe ++ ft)) H (Av O (f1 ++ ft)) H' := fun a u h n => by
      refine ⟨keep a u h, fun m => ?_⟩
      rcases m with m | m
      · exact n (.inl m)
      · rcases List.mem_append.mp m with m | m
        · rw [new a m] at h; cases h
        · exact n (.inr (List.mem_append_right _ m))
    refine ⟨f1 ++ ft, ⟨fun a u h _ => keep a u h, fun a h => ?_⟩, ⟨f1, ft, rfl, fun a => ?_, fun a h => ?_, fun a h => o1 a (.inl h), p1, ORs.stp st _ _ _ (fun a h => ?_) q, z1⟩, fun a h => by rw [av]; exact h⟩
    · rcases List.mem_append.mp h with h | h
      · exact .inr (new a h)
      · exact .inl (List.mem_append_right _ h)
    · have h1 := c1 a
      have h2 := c a
      simp only [List.count_append, List.append_nil] at h1 h2 ⊢
      by_cases hg : a ∈ f1
      · have h3 : ft.count a = 0 := List.count_eq_zero.mpr fun m => hs a (List.mem_append_right _ m) (new a hg)
        omega
      · have h4 : f1.count a = 0 := List.count_eq_zero.mpr hg
        omega
    · rcases List.mem_append.mp h with h | h
      · exact fun m => d1 a (by simpa using h) (.inl m)
      · exact d a (List.mem_append_right _ h)
    · cases w : H a with
      | none => exact absurd w (hs a (List.mem_append_right _ h))
      | some u => exact keep a u w
/-- a look at things that stay owned -/
theorem s_bor {e : E} (he : PEp t F cl e) : PEp t F cl (.bor e) := by
  intro X W O ro x S h
  unfold ck at h
  obtain ⟨_, h⟩ := bf_split h
  refine ⟨fun pins s σ H Q I q => ?_⟩
  obtain ⟨ρ, ts, ws, f, r, g⟩ := q
  rw [ev_bor] at g
  obtain ⟨ft, rp, back⟩ := r.park
  refine (he X W (Av O ft) ro x S h).run pins s σ H Q I ⟨frzE ρ, [], [], [], rp, ?_⟩
  cases ee : ev t F e (frzE ρ) with
  | exc x ρ' =>
    rw [ee] at g
    intro c d H' f' ex r' xr
    obtain ⟨f2, e2, r2, k⟩ := back H' f' ρ' ex r'
    exact g c d H' f2 e2 r2 (xr.stp fun a o h n => ⟨h, fun m => n (k a m)⟩)
  | no => rw [ee] at g; exact g
  | ok s ρ' =>
    rw [ee] at g
    cases s with
    | d y =>
      by_cases hf : Kn.flat y = true
      · have g : GE X.K cl O ro W ts σ ws f H (if Kn.flat y = true then .ok (.d y) ρ else .no) Q := g
        rw [if_pos hf] at g
        exact fun v H' f' ex r' => g v H' f ⟨fun a o h _ => ex.1 a o h fun m => (by cases m), fun a h => .inl h⟩ ((r.grow fun a o h => ex.1 a o h fun m => by cases m).push (VR.flat hf r'.top))
      · have g : GE X.K cl O ro W ts σ ws f H (if Kn.flat y = true then .ok (.d y) ρ else .no) Q := g
        rw [if_neg hf] at g
        exact g.elim
    | lst _ => exact False.elim g
    | ins _ _ _ => exact False.elim g
    | dk _ _ => exact False.elim g
theorem tT_bor {K : PySem.W.Frag} {e : E} {σ : L2.St} {H : Hp} {Q : Bool → Hp → Prop} (q : tT cl K O ro W (ev t F (.bor e)) σ H Q) : ∃ ft, tT cl K (Av O ft) ro W (ev t F e) σ H Q := by
  obtain ⟨ρ, ts, ws, f, r, g⟩ := q
  rw [ev_bor] at g
  obtain ⟨ft, rp, back⟩ := r.park
  refine ⟨ft, frzE ρ, [], [], [], rp, ?_⟩
  cases ee : ev t F e (frzE ρ) with
  | exc x ρ' =>
    rw [ee] at g
    intro c d H' f' ex r' xr
    obtain ⟨f2, e2, r2, k⟩ := back H' f' ρ' ex r'
    exact g c d H' f2 e2 r2 (xr.stp fun a o h n => ⟨h, fun m => n (k a m)⟩)
  | no => rw [ee] at g; exact g
  | ok s ρ' =>
    rw [ee] at g
    cases s with
    | d y =>
      have g : GT cl K O ro W ts σ ws f H (if Kn.flat y = true then .ok (.d y) ρ else .no) Q := g
      cases y with
      | bl b => exact fun H' f' ex r' => g H' f ⟨fun a o h _ => ex.1 a o h fun m => (by cases m), fun a h => .inl h⟩ (r.grow fun a o h => ex.1 a o h fun m => by cases m)
      | _ => first | exact False.elim g | (split at g <;> exact False.elim g)
    | lst _ => exact False.elim g
    | ins _ _ _ => exact False.elim g
    | dk _ _ => exact False.elim g
theorem t_bor {e : E} (he : PTp t F cl e) : PTp t F cl (.bor e) := by
  intro X W O ro x S h
  unfold ckt at h
  refine ⟨fun pins s σ H Q I q => ?_⟩
  obtain ⟨ft, q'⟩ := tT_bor q
  exact (he X W (Av O ft) ro x S h).run pins s σ H Q I q'
theorem w_bor {e : E} (he : PWp t F cl e) : PWp t F cl (.bor e) := by
  intro X W O ro o xs p S h
  unfold ckt at h
  refine ⟨fun wh pins s σ H Q I q => ?_⟩
  obtain ⟨ft, q'⟩ := tT_bor q
  exact (he X W (Av O ft) ro o xs p S h).run wh pins s σ H Q I q'
/-- a slot's thing taken out -/
theorem Rel.take {K : PySem.W.Frag} {ρ : Env} {ts : List SV} {σ : L2.St} {ws : List V} {f : List Addr} {H : Hp} {i : Nat} {s : SV} (r : Rel K cl O ro ρ ts σ ws f H) (e : ρ[i]? = some (some s)) : ∃ v f', σ[i]? = some (some v) ∧ Ext f H f' H ∧ Rel K cl O ro (ρ.set i none) (s :: ts) σ (v :: ws) f' H := by
  obtain ⟨fe, ft, ef, c, d, o, p, q, z⟩ := r
  subst ef
  obtain ⟨v0, g1, g2, g3, e1, e2, o1, up⟩ := OE.at p e
  subst e2
  obtain ⟨w, ew, h⟩ := o1
  subst ew
  have hc : ∀ a, ((g1 ++ ([] ++ g3)) ++ (g2 ++ ft)).count a ≤ ((g1 ++ (g2 ++ g3)) ++ ft).count a := fun a => by simp only [List.count_append, List.count_nil]; omega
  have st : Stp (Av O ((g1 ++ (g2 ++ g3)) ++ ft)) H (Av O ((g1 ++ ([] ++ g3)) ++ (g2 ++ ft))) H := Stp.less fun a h => by
    rw [mem_of_count] at h ⊢
    exact Nat.lt_of_lt_of_le h (hc a)
  have hσ : σ.set i (some w) = σ := by
    apply List.ext_getElem?
    intro j
    by_cases hj : i = j
    · subst hj
      have hl : i < σ.length := (List.getElem?_eq_some_iff.mp e1).1
      rw [List.getElem?_set_self hl, e1]
    · rw [List.getElem?_set_ne hj]
  have oe := up (s' := none) (v' := some w) (g := []) st (fun _ _ => rfl) (fun _ _ => rfl) rfl
  rw [hσ] at oe
  obtain ⟨x, y⟩ := Rel.less (ro := ro) c d o hc oe (ORs.cons (OR.stp st _ _ _ (fun _ _ => rfl) h) (ORs.stp st _ _ _ (fun _ _ => rfl) q)) z
  exact ⟨w, _, e1, x, y⟩
theorem s_take (i : Nat) : PEp t F cl (.take i) := by
  intro X W O ro x S h
  unfold ck at h
  split at h
  · obtain ⟨h1, h2⟩ := bf_split h
    obtain ⟨h2, h3⟩ := bf_split h2
    obtain ⟨h4, h5, _⟩ := nmB_ok h3
    refine PE.imp (pe_var (of_decide_eq_true h1) (visB_ok h2) h4 h5) fun σ H Q q => ?_
    obtain ⟨ρ, ts, ws, f, r, q⟩ := q
    unfold ev at q
    cases e : ρ[i]? with
    | none => rw [e] at q; exact q.elim
    | some o =>
      cases o with
      | none => rw [e] at q; exact q.elim
      | some s =>
        rw [e] at q
        obtain ⟨v, f', e1, ex, r'⟩ := r.take e
        exact ⟨v, e1, q v H f' ex r'⟩
  · cases h
theorem s_meth {a as : E} (m : String) (ha : PEp t F cl a) (hs : PAp t F cl as) : PEp t F cl (.meth m a as) := by
  intro X W O ro x S h
  unfold ck at h
  split at h
  · rename_i y z ap es p
    obtain ⟨h1, h2⟩ := bf_split h
    obtain ⟨h3, h4⟩ := bf_split h2
    obtain ⟨h5, h6⟩ := bf_split h4
    obtain ⟨h7, h8⟩ := bf_split h6
    obtain ⟨h9, h10⟩ := bf_split h8
    have h1 := of_decide_eq_true h1
    subst h1
    refine ⟨fun pins s σ H Q I q => ?_⟩
    have e : ev t F (.meth m a as) = fun ρ => (ev t F a ρ).bind fun x ρ => (match frz x with
      | .ins c ns xs => (match t.meth c m with
        | some q => if ns.contains m then .no else (evs t F as ρ).bind fun vs ρ => ofCr (F q (.d (.ins c ns xs) :: (frzs vs).map .d)) ρ
        | none => .no)
      | _ => .no) := by (funext ρ; first | (simp only [ev]; done) | (simp only [ev]; rfl))
    rw [e] at q
    have st := cks_st h7
    refine methcall_of (ha X W O ro _ S h3) I (tE.mono q.bind fun v H1 q1 => ?_) (meth_eval h5 st (of_decide_eq_true h9) h10)
    obtain ⟨s0, ρ, ts, ws, fp, z1, r, g⟩ := q1.frz
    split at g
    · rename_i c ns xs es0
      rw [es0] at z1
      obtain ⟨b, C, dx, zs, rfl, hc, eb, nb, hl, mm⟩ := z1.insE
      cases hq : t.meth c m with
      | none => simp only [hq] at g; exact g.elim
      | some q0 =>
        simp only [hq] at g
        obtain ⟨k1, g0, k2, fd, ps, k, G, hr, hb⟩ := S.meth c m q0 C hq hc
        by_cases hn : ns.contains m = true
        · rw [if_pos hn] at g
          exact g.elim
        · rw [if_neg hn] at g
          refine ⟨b, C, dx, _, g0, rfl, eb, k1, k2, look_none (by simpa using hn), fun s1 I1 => ?_⟩
          have q3 : tK1 X.K cl O ro W (fun x ρ => (evs t F as ρ).bind fun vs ρ => ofCr (F q0 (.d (frz x) :: (frzs vs).map .d)) ρ) (.ref b) σ H1 Q := ⟨.d (.ins c ns xs), ρ, ts, ws, fp, r.push z1, g⟩
          refine callArgs (first := [.ref b]) k2.kp (hs X W O ro _ S h7) st I1 q3.binds (fun e0 => ?_) fun us s2 vs H2 I2 rv q4 => ?_
          · subst e0
            have q5 := q3.binds
            rw [nil_args h7] at q5
            exact tEs.nil q5
          · obtain ⟨s1, ss, ρ, ts, ws, fp, l, z1, m, r, g⟩ := q4.frz
            exact run_fnSD (E := fun σ c d H => W c d σ H) (vs := .ref b :: vs) G (hr.mono (by omega)) hb .nil (S.fly.pass σ) I2 (.cons rfl rv) (by rw [List.append_nil]; exact call_ok (xs := frz s1 :: frzs ss) rfl r (VRs.cons z1 m) g)
    · exact g.elim
  · cases h
end
end Kn

set_option Elab.async false
set_option linter.all false
set_option maxRecDepth 100000
set_option maxHeartbeats 4000000
/-! SndR: owned things handed in by their slots. -/
namespace Kn
open PySem L2
section
variable {K : PySem.W.Frag} {cl : String → Option Addr} {O : Addr → Prop} {ro : List (Nat × V)} {W : WX} {ρ ρ' : Env} {ts : List SV} {σ : L2.St} {ws : List V} {f f' : List Addr} {H H' : Hp} {s s' : SV} {v u : V} {x : D} {A A' : Addr → Prop} {Q : VK}
/-- arguments: data, or what a slot holds -/
def VRr (K : PySem.W.Frag) (cl : String → Option Addr) (A : Addr → Prop) (H : Hp) (σ : L2.St) : List (Option Nat) → List D → List V → Prop
  | [], [], [] => True
  | none :: rs, d :: ds, v :: vs => VR K cl A H d v ∧ VRr K cl A H σ rs ds vs
  | some i :: rs, _ :: ds, v :: vs => σ[i]? = some (some v) ∧ VRr K cl A H σ rs ds vs
  | _, _, _ => False
def RefsAt (σ : L2.St) : List (Option Nat) → L2.St → Prop
  | [], _ => True
  | none :: rs, _ :: us => RefsAt σ rs us
  | some i :: rs, u :: us => σ[i]? = some u ∧ RefsAt σ rs us
  | _ :: _, [] => False
theorem VRr.stp (h : Stp A H A' H') : ∀ {rs : List (Option Nat)} {ds : List D} {vs : List V}, VRr K cl A H σ rs ds vs → VRr K cl A' H' σ rs ds vs
  | [], [], [], _ => trivial
  | none :: rs, d :: ds, v :: vs, m => ⟨VR.stp h d v m.1, VRr.stp h m.2⟩
  | some i :: rs, _ :: ds, v :: vs, m => ⟨m.1, VRr.stp h m.2⟩
  | [], _ :: _, _, m => m.elim
  | [], [], _ :: _, m => m.elim
  | none :: _, [], _, m => m.elim
  | some _ :: _, [], _, m => m.elim
  | none :: _, _ :: _, [], m => m.elim
  | some _ :: _, _ :: _, [], m => m.elim
theorem VRr.refs : ∀ {rs : List (Option Nat)} {ds : List D} {vs : List V}, VRr K cl A H σ rs ds vs → RefsAt σ rs (vs.map some)
  | [], [], [], _ => trivial
  | none :: rs, d :: ds, v :: vs, m => VRr.refs (rs := rs) m.2
  | some i :: rs, _ :: ds, v :: vs, m => ⟨m.1, VRr.refs (rs := rs) m.2⟩
  | [], _ :: _, _, m => m.elim
  | [], [], _ :: _, m => m.elim
  | none :: _, [], _, m => m.elim
  | some _ :: _, [], _, m => m.elim
  | none :: _, _ :: _, [], m => m.elim
  | some _ :: _, _ :: _, [], m => m.elim
/-- what is handed in stands upon the temporaries -/
theorem Rel.takes : ∀ {rs : List (Option Nat)} {ds : List D} {vs : List V} {ρ : Env} {ts : List SV} {ws : List V} {f : List Addr} {p : List SV × Env}, Rel K cl O ro ρ ts σ ws f H → VRr K cl (Av O f) H σ rs ds vs → takesR rs ds ρ = some p →
    ∃ f', Ext f H f' H ∧ Rel K cl O ro p.2 (p.1 ++ ts) σ (vs ++ ws) f' H ∧ p.1.length = vs.length
  | [], [], [], ρ, ts, ws, f, p, r, _, h => by
    unfold takesR at h
    cases h
    exact ⟨f, Ext.refl f H, r, rfl⟩
  | none :: rs, d :: ds, v :: vs, ρ, ts, ws, f, p, r, m, h => by
    unfold takesR at h
    obtain ⟨p', h1, rfl⟩ := Option.map_eq_some_iff.mp h
    obtain ⟨f1, e1, r1, l⟩ := Rel.takes (rs := rs) (r.push m.1) m.2 h1
    obtain ⟨f2, e2, r2⟩ := Rel.rot l r1
    exact ⟨f2, e1.trans e2, r2, by simp [l]⟩
  | some i :: rs, _ :: ds, v :: vs, ρ, ts, ws, f, p, r, m, h => by
    unfold takesR at h
    split at h
    · rename_i s es
      obtain ⟨p', h1, rfl⟩ := Option.map_eq_some_iff.mp h
      obtain ⟨v0, f0, ev, e0, r0⟩ := r.take es
      have hv : v = v0 := by
        have := m.1
        rw [ev] at this
        cases this
        rfl
      subst hv
      obtain ⟨f1, e1, r1, l⟩ := Rel.takes (rs := rs) r0 (m.2.stp (Stp.ext e0 (fun _ h => h) fun a h => .inl h)) h1
      obtain ⟨f2, e2, r2⟩ := Rel.rot l r1
      exact ⟨f2, (e0.trans e1).trans e2, r2, by simp [l]⟩
    · cases h
  | [], _ :: _, _, _, _, _, _, _, _, m, _ => m.elim
  | [], [], _ :: _, _, _, _, _, _, _, m, _ => m.elim
  | none :: _, [], _, _, _, _, _, _, _, m, _ => m.elim
  | some _ :: _, [], _, _, _, _, _, _, _, m, _ => m.elim
  | none :: _, _ :: _, [], _, _, _, _, _, _, m, _ => m.elim
  | some _ :: _, _ :: _, [], _, _, _, _, _, _, m, _ => m.elim
theorem OE.ofS : ∀ {ss : List SV} {vs : List V} {f : List Addr}, ORs K cl A H ss vs f → OE K cl A H (ss.map some) (vs.map some) f
  | [], vs, f, r => by
    unfold ORs at r
    obtain ⟨rfl, rfl⟩ := r
    unfold List.map OE
    exact ⟨rfl, rfl⟩
  | s :: ss, vs, f, r => by
    unfold ORs at r
    obtain ⟨w, ws', f1, f2, rfl, rfl, q, m⟩ := r
    rw [List.map_cons, List.map_cons]
    unfold OE
    exact ⟨some w, ws'.map some, f1, f2, rfl, rfl, ⟨w, rfl, q⟩, OE.ofS m⟩
theorem set_sameO {i : Nat} {w : Option V} (e : σ[i]? = some w) : σ.set i w = σ := by
  apply List.ext_getElem?
  intro j
  by_cases hj : i = j
  · subst hj
    have hl : i < σ.length := (List.getElem?_eq_some_iff.mp e).1
    rw [List.getElem?_set_self hl, e]
  · rw [List.getElem?_set_ne hj]
/-- what was handed in goes back into its slots -/
theorem backs : ∀ {rs : List (Option Nat)} {outs : List (Option SV)} {us : L2.St} {ρ : Env} {fe g : List Addr} {ft : List Addr}, (∀ a, (fe ++ (g ++ ft)).count a ≤ 1) → (∀ a ∈ fe ++ (g ++ ft), ¬ O a) → (∀ a, O a → H a ≠ none) →
    OE K cl (Av O (fe ++ (g ++ ft))) H ρ σ fe → OE K cl (Av O (fe ++ (g ++ ft))) H outs us g → ORs K cl (Av O (fe ++ (g ++ ft))) H ts ws ft → (∀ p ∈ ro, σ[p.1]? = some (some p.2)) → RefsAt σ rs us → backIo rs outs ρ = some ρ' →
    ∃ f2, (∀ a ∈ f2, a ∈ fe ++ (g ++ ft)) ∧ Rel K cl O ro ρ' ts σ ws f2 H
  | [], outs, us, ρ, fe, g, ft, c, d, o, p, p2, q, z, _, hb => by
    unfold backIo at hb
    cases hb
    have hc : ∀ a, (fe ++ ft).count a ≤ (fe ++ (g ++ ft)).count a := fun a => by simp only [List.count_append]; omega
    have sub : ∀ a ∈ fe ++ ft, a ∈ fe ++ (g ++ ft) := fun a h => by
      rw [mem_of_count] at h ⊢
      exact Nat.lt_of_lt_of_le h (hc a)
    have st : Stp (Av O (fe ++ (g ++ ft))) H (Av O (fe ++ ft)) H := Stp.less sub
    exact ⟨fe ++ ft, sub, (Rel.less c d o hc (OE.stp st _ _ _ (fun _ _ => rfl) p) (ORs.stp st _ _ _ (fun _ _ => rfl) q) z).2⟩
  | none :: rs, [], us, ρ, fe, g, ft, c, d, o, p, p2, q, z, hr, hb => by
    unfold backIo at hb
    cases hb
  | none :: rs, s :: outs, us, ρ, fe, g, ft, c, d, o, p, p2, q, z, hr, hb => by
    unfold backIo at hb
    unfold OE at p2
    obtain ⟨u, us', f1, f2, rfl, rfl, _, m⟩ := p2
    have hc : ∀ a, (fe ++ (f2 ++ ft)).count a ≤ (fe ++ ((f1 ++ f2) ++ ft)).count a := fun a => by simp only [List.count_append]; omega
    have sub : ∀ a ∈ fe ++ (f2 ++ ft), a ∈ fe ++ ((f1 ++ f2) ++ ft) := fun a h => by
      rw [mem_of_count] at h ⊢
      exact Nat.lt_of_lt_of_le h (hc a)
    have st : Stp (Av O (fe ++ ((f1 ++ f2) ++ ft))) H (Av O (fe ++ (f2 ++ ft))) H := Stp.less sub
    obtain ⟨f3, k1, k2⟩ := backs (rs := rs) (fun a => Nat.le_trans (hc a) (c a)) (fun a h => d a (sub a h)) o (OE.stp st _ _ _ (fun _ _ => rfl) p) (OE.stp st _ _ _ (fun _ _ => rfl) m) (ORs.stp st _ _ _ (fun _ _ => rfl) q) z hr hb
    exact ⟨f3, fun a h => sub a (k1 a h), k2⟩
  | some i :: rs, [], us, ρ, fe, g, ft, c, d, o, p, p2, q, z, hr, hb => by
    unfold backIo at hb
    cases hb
  | some i :: rs, none :: outs, us, ρ, fe, g, ft, c, d, o, p, p2, q, z, hr, hb => by
    unfold backIo at hb
    cases hb
  | some i :: rs, some s :: outs, us, ρ, fe, g, ft, c, d, o, p, p2, q, z, hr, hb => by
    unfold backIo at hb
    split at hb
    · rename_i hi
      unfold OE at p2
      obtain ⟨u, us', f1, f2, rfl, rfl, o2, m⟩ := p2
      obtain ⟨v0, h1, h2, h3, e1, e2, o1, up⟩ := OE.at p (List.getElem?_eq_getElem hi)
      subst e2
      have hc : ∀ a, ((h1 ++ (f1 ++ h3)) ++ (f2 ++ ft)).count a ≤ ((h1 ++ (h2 ++ h3)) ++ ((f1 ++ f2) ++ ft)).count a := fun a => by simp only [List.count_append]; omega
      have sub : ∀ a ∈ (h1 ++ (f1 ++ h3)) ++ (f2 ++ ft), a ∈ (h1 ++ (h2 ++ h3)) ++ ((f1 ++ f2) ++ ft) := fun a h => by
        rw [mem_of_count] at h ⊢
        exact Nat.lt_of_lt_of_le h (hc a)
      have st : Stp (Av O ((h1 ++ (h2 ++ h3)) ++ ((f1 ++ f2) ++ ft))) H (Av O ((h1 ++ (f1 ++ h3)) ++ (f2 ++ ft))) H := Stp.less sub
      have oe := up (s' := some s) (v' := u) (g := f1) st (fun _ _ => rfl) (fun _ _ => rfl) (O1.stp st (fun _ _ => rfl) o2)
      rw [set_sameO hr.1] at oe
      obtain ⟨f3, k1, k2⟩ := backs (rs := rs) (fun a => Nat.le_trans (hc a) (c a)) (fun a h => d a (sub a h)) o oe (OE.stp st _ _ _ (fun _ _ => rfl) m) (ORs.stp st _ _ _ (fun _ _ => rfl) q) z hr.2 hb
      exact ⟨f3, fun a h => sub a (k1 a h), k2⟩
    · cases hb
/-- behind a call by slots -/
theorem rejoin {rs : List (Option Nat)} {outs : List (Option SV)} {us : L2.St} {ss' : List SV} {vs' : List V} {fe fs ft : List Addr} (c : ∀ a, (fe ++ (fs ++ ft)).count a ≤ 1) (d : ∀ a ∈ fe ++ (fs ++ ft), ¬ O a) (dm : ∀ a, Av O (fe ++ (fs ++ ft)) a → H a ≠ none)
    (p : OE K cl (Av O (fe ++ (fs ++ ft))) H ρ σ fe) (q2 : ORs K cl (Av O (fe ++ (fs ++ ft))) H ts ws ft) (z : ∀ p ∈ ro, σ[p.1]? = some (some p.2)) (ex : ExW fs H f' H') (r' : Rel K cl (Av O (fe ++ ft)) [] outs ss' us vs' f' H') (hb : backIo rs outs ρ = some ρ') (hr : RefsAt σ rs us) :
    ∃ f2, Ext (fe ++ (fs ++ ft)) H f2 H' ∧ Rel K cl O ro ρ' (ss' ++ ts) σ (vs' ++ ws) f2 H' ∧ ∀ a, Av O f2 a → Av (Av O (fe ++ ft)) f' a := by
  obtain ⟨g1, g2, e0, c', d', o', p', q', _⟩ := r'
  subst e0
  have inn : ∀ a ∈ fe ++ (g1 ++ (g2 ++ ft)), a ∈ fe ++ ft ∨ a ∈ g1 ++ g2 := fun a h => by
    simp only [List.mem_append] at h ⊢
    rcases h with h | h | h | h
    · exact .inl (.inl h)
    · exact .inr (.inl h)
    · exact .inr (.inr h)
    · exact .inl (.inr h)
  have hx : Ext (fe ++ (fs ++ ft)) H (fe ++ (g1 ++ (g2 ++ ft))) H' := by
    refine ⟨fun a o h n => ex.1 a o h fun m => n (by simp only [List.mem_append]; exact .inr (.inl m)), fun a h => ?_⟩
    rcases inn a h with h | h
    · left
      simp only [List.mem_append] at h ⊢
      rcases h with h | h
      · exact .inl h
      · exact .inr (.inr h)
    · rcases ex.2 a h with h | h
      · left
        simp only [List.mem_append]
        exact .inr (.inl h)
      · exact .inr h
  have nfs : ∀ a ∈ fe ++ ft, a ∉ fs := fun a h m => by
    have := c a
    rw [mem_of_count] at h m
    simp only [List.count_append] at this h
    omega
  have same : ∀ a ∈ fe ++ ft, H' a = H a := fun a h => by
    have hn := dm a (.inr (by simp only [List.mem_append] at h ⊢; rcases h with h | h; exact .inl h; exact .inr (.inr h)))
    cases q : H a with
    | none => exact absurd q hn
    | some u => exact ex.1 a u q (nfs a h)
  have st : Stp (Av O (fe ++ (fs ++ ft))) H (Av O (fe ++ (g1 ++ (g2 ++ ft)))) H' := Stp.ext hx (fun _ h => h) fun a h => .inl h
  have av : Av (Av O (fe ++ ft)) (g1 ++ g2) = Av O (fe ++ (g1 ++ (g2 ++ ft))) := by
    funext a
    apply propext
    simp only [Av, List.mem_append]
    constructor
    · rintro ((h | h | h) | h | h)
      · exact .inl h
      · exact .inr (.inl h)
      · exact .inr (.inr (.inr (.inr h)))
      · exact .inr (.inr (.inl h))
      · exact .inr (.inr (.inr (.inl h)))
    · rintro (h | h | h | h | h)
      · exact .inl (.inl h)
      · exact .inl (.inr (.inl h))
      · exact .inr (.inl h)
      · exact .inr (.inr h)
      · exact .inl (.inr (.inr h))
  rw [av] at p' q'
  have c2 : ∀ a, (fe ++ (g1 ++ (g2 ++ ft))).count a ≤ 1 := fun a => by
    have h1 := c a
    have h2 := c' a
    simp only [List.count_append] at h1 h2 ⊢
    by_cases hg : a ∈ g1 ++ g2
    · have h3 : a ∉ fe ++ ft := fun m => d' a hg (.inr m)
      have h4 : (fe ++ ft).count a = 0 := List.count_eq_zero.mpr h3
      simp only [List.count_append] at h4
      omega
    · have h4 : (g1 ++ g2).count a = 0 := List.count_eq_zero.mpr hg
      simp only [List.count_append] at h4
      omega
  have d2 : ∀ a ∈ fe ++ (g1 ++ (g2 ++ ft)), ¬ O a := fun a h n => by
    rcases inn a h with h | h
    · refine d a ?_ n
      simp only [List.mem_append] at h ⊢
      rcases h with h | h
      · exact .inl h
      · exact .inr (.inr h)
    · exact d' a h (.inl n)
  obtain ⟨f2, k1, k2⟩ := backs c2 d2 (fun a h => o' a (.inl h)) (OE.stp st _ _ _ (fun a h => same a (List.mem_append_left _ h)) p) p' (ORs.join q' (ORs.stp st _ _ _ (fun a h => same a (List.mem_append_right _ h)) q2)) z hr hb
  refine ⟨f2, hx.trans (Ext.sub H' k1), k2, fun a h => ?_⟩
  rw [av]
  exact h.imp id (k1 a)
/-- an own def called by slots -/
theorem call_io {F : String → List SV → Cr} {q : String} {rs : List (Option Nat)} {ss : List SV} {vs : List V} {E : XK} (hE : E = fun c d H => W c d σ H) (hl : ss.length = vs.length) (rr : Rel K cl O ro ρ (ss ++ ts) σ (vs ++ ws) f H) (hr : RefsAt σ rs (vs.map some))
    (g : GE K cl O ro W ts σ ws f H (ofIo rs (F q ss) ρ) Q) : spF K cl F q vs H Q E := by
  subst hE
  have dm := rr.dom
  obtain ⟨fe, fs, ft, e, c, d, o, p, q1, q2, z⟩ := Rel.unsplit hl rr
  subst e
  have av : Av (Av O (fe ++ ft)) fs = Av O (fe ++ (fs ++ ft)) := by
    funext a
    apply propext
    simp only [Av, List.mem_append]
    constructor
    · rintro ((h | h | h) | h)
      · exact .inl h
      · exact .inr (.inl h)
      · exact .inr (.inr (.inr h))
      · exact .inr (.inr (.inl h))
    · rintro (h | h | h | h)
      · exact .inl (.inl h)
      · exact .inl (.inr (.inl h))
      · exact .inr h
      · exact .inl (.inr (.inr h))
  have nfs : ∀ a ∈ fe ++ ft, a ∉ fs := fun a h m => by
    have := c a
    rw [mem_of_count] at h m
    simp only [List.count_append] at this h
    omega
  have ent : Rel K cl (Av O (fe ++ ft)) [] (ss.map some) [] (vs.map some) [] fs H := by
    refine ⟨fs, [], (by simp), fun a => ?_, fun a h => ?_, fun a h => dm a ?_, ?_, ORs.nil, fun p h => (by cases h)⟩
    · have := c a
      simp only [List.count_append] at this
      omega
    · rintro (h2 | h2)
      · exact d a (by simp only [List.mem_append]; exact .inr (.inl h)) h2
      · exact nfs a h2 h
    · rw [← av]
      exact .inl h
    · rw [av]
      exact OE.ofS q1
  refine ⟨Av O (fe ++ ft), ss, fs, ent, ?_⟩
  cases e : F q ss with
  | ok s outs =>
    rw [e] at g
    intro v H' f' ex r'
    have g : GE K cl O ro W ts σ ws (fe ++ (fs ++ ft)) H (match backIo rs outs ρ with
      | some ρ' => .ok s ρ'
      | none => .no) Q := g
    cases hb : backIo rs outs ρ with
    | none => rw [hb] at g; exact g.elim
    | some ρ' =>
      rw [hb] at g
      obtain ⟨f2, e2, r2, _⟩ := rejoin c d dm p q2 z ex r' hb hr
      exact g v H' f2 e2 r2
  | exc x =>
    rw [e] at g
    intro c0 d0 H' ex xr
    have r' : Rel K cl (Av O (fe ++ ft)) [] [] [] [] [] [] H' := by
      refine ⟨[], [], rfl, fun a => (by simp), fun a h => (by cases h), fun a h => ?_, (by unfold OE; exact ⟨rfl, rfl⟩), ORs.nil, fun p h => (by cases h)⟩
      have hn := dm a (by rw [← av]; exact .inl h)
      cases w : H a with
      | none => exact absurd w hn
      | some u =>
        rw [ex.1 a u w fun m => ?_]
        · exact fun z => nomatch z
        · rcases h with h | h
          · exact d a (by simp only [List.mem_append]; exact .inr (.inl m)) h
          · exact nfs a h m
    obtain ⟨f2, e2, r2, k⟩ := rejoin (rs := []) (outs := []) (ss' := []) (vs' := []) c d dm p q2 z ex r' rfl trivial
    exact g c0 d0 H' f2 e2 r2 (xr.stp fun a o h n => ⟨h, fun m => (k a m).elim n fun y => by cases y⟩)
  | excO x outs =>
    rw [e] at g
    intro c0 d0 H' f' ex r' xr
    have g : GE K cl O ro W ts σ ws (fe ++ (fs ++ ft)) H (match backIo rs outs ρ with
      | some ρ' => .exc x ρ'
      | none => .no) Q := g
    cases hb : backIo rs outs ρ with
    | none => rw [hb] at g; exact g.elim
    | some ρ' =>
      rw [hb] at g
      obtain ⟨f2, e2, r2, k⟩ := rejoin c d dm p q2 z ex r' hb hr
      exact g c0 d0 H' f2 e2 r2 (xr.stp fun a o h n => ⟨h, fun m => n (k a m)⟩)
  | no =>
    rw [e] at g
    exact g
end
section
variable {t : T} {F : String → List SV → Cr} {cl : String → Option Addr} {X : Cx} {W : WX} {O : Addr → Prop} {ro : List (Nat × V)} {x : Expr}
def GEr (K : PySem.W.Frag) (cl : String → Option Addr) (O : Addr → Prop) (ro : List (Nat × V)) (W : WX) (rs : List (Option Nat)) (ts : List SV) (σ : L2.St) (ws : List V) (f : List Addr) (H : Hp) (r : R (List D)) (Q : List V → Hp → Prop) : Prop := match r with
  | .ok ds ρ' => ∀ vs H' f', VRr K cl (Av O f') H' σ rs ds vs → Ext f H f' H' → Rel K cl O ro ρ' ts σ ws f' H' → Q vs H'
  | .exc x ρ' => ∀ c d H' f', Ext f H f' H' → Rel K cl O ro ρ' ts σ ws f' H' → XR K cl (Av O f') H' x c d → W c d σ H'
  | .no => False
def tEr (K : PySem.W.Frag) (cl : String → Option Addr) (O : Addr → Prop) (ro : List (Nat × V)) (W : WX) (rs : List (Option Nat)) (g : Env → R (List D)) : TA := fun σ H Q => ∃ ρ ts ws f, Rel K cl O ro ρ ts σ ws f H ∧ GEr K cl O ro W rs ts σ ws f H (g ρ) Q
def PRp (t : T) (F : String → List SV → Cr) (cl : String → Option Addr) (e : E) : Prop := ∀ (X : Cx) (W : WX) (O : Addr → Prop) (ro : List (Nat × V)) (xs : List Expr), Sd X t F cl W → cks X.N e X.env.scope xs = true → PA X xs (tEr X.K cl O ro W (refsE e) (evr t F e))
theorem r_nil : PRp t F cl .nil := by
  intro X W O ro xs S h
  unfold cks at h
  split at h
  · refine PA.imp pa_nil fun σ H Q q => ?_
    obtain ⟨ρ, ts, ws, f, r, q⟩ := q
    have e : evr t F .nil ρ = .ok [] ρ := by simp only [evr]
    rw [e] at q
    exact q [] H f trivial (Ext.refl f H) r
  · cases h
theorem ref_take {e : E} {i : Nat} (h : refE e = some i) : e = .take i := by
  cases e <;> first | (cases h; done) | (cases h; rfl)
theorem r_cons {e es : E} (he : PEp t F cl e) (hs : PRp t F cl es) : PRp t F cl (.cons e es) := by
  intro X W O ro xs S h
  unfold cks at h
  split at h
  · obtain ⟨h1, h2⟩ := bf_split h
    obtain ⟨h2, h3⟩ := bf_split h2
    have hrs : refsE (.cons e es) = refE e :: refsE es := rfl
    rw [hrs]
    have e0 : evr t F (.cons e es) = fun ρ => (match refE e with
      | some i => (match ρ[i]? with
        | some (some _) => (evr t F es ρ).bind fun ds ρ => .ok (.non :: ds) ρ
        | _ => .no)
      | none => (ev t F e ρ).bind fun v ρ => (evr t F es ρ).bind fun ds ρ => .ok (frz v :: ds) ρ) := by (funext ρ; first | (simp only [evr]; done) | (simp only [evr]; rfl))
    rw [e0]
    cases hr : refE e with
    | some i =>
      have := ref_take hr
      subst this
      unfold ck at h1
      split at h1
      · obtain ⟨k1, k2⟩ := bf_split h1
        obtain ⟨k2, k3⟩ := bf_split k2
        obtain ⟨k4, k5, _⟩ := nmB_ok k3
        refine PA.imp (pa_cons (pe_var (of_decide_eq_true k1) (visB_ok k2) k4 k5) (hs X W O ro _ S h3) (star_cons h2)) fun σ H Q q => ?_
        obtain ⟨ρ, ts, ws, f, r, q⟩ := q
        dsimp only at q
        split at q
        · rename_i s es0
          obtain ⟨v, g, ev, _⟩ := own_at r es0
          refine ⟨v, ev, ρ, ts, ws, f, r, ?_⟩
          cases er : evr t F es ρ with
          | ok ds ρ1 =>
            rw [er] at q
            exact fun vs H' f' m ex r' => q (v :: vs) H' f' ⟨ev, m⟩ ex r'
          | exc y ρ1 =>
            rw [er] at q
            exact q
          | no =>
            rw [er] at q
            exact q
        · exact q.elim
      · cases h1
    | none =>
      refine PA.imp (pa_cons (he X W O ro _ S h1) (hs X W O ro _ S h3) (star_cons h2)) fun σ H Q q => ?_
      obtain ⟨ρ, ts, ws, f, r, q⟩ := q
      dsimp only at q
      refine ⟨ρ, ts, ws, f, r, ?_⟩
      cases e1 : ev t F e ρ with
      | ok s ρ1 =>
        rw [e1] at q
        intro v H1 f1 x1 r1
        obtain ⟨f2, x2, r2⟩ := r1.freeze
        refine ⟨ρ1, .d (frz s) :: ts, v :: ws, f2, r2, ?_⟩
        have q : GEr X.K cl O ro W (none :: refsE es) ts σ ws f H ((evr t F es ρ1).bind fun ds ρ => .ok (frz s :: ds) ρ) Q := q
        cases er : evr t F es ρ1 with
        | ok ds ρ2 =>
          rw [er] at q
          intro vs H' f' m ex r'
          obtain ⟨f3, x3, r3⟩ := r'.pop
          have st : Stp (Av O f') H' (Av O f3) H' := Stp.ext x3 (fun _ h => h) fun a h => .inl h
          exact q (v :: vs) H' f3 ⟨VR.stp st _ _ r'.top, m.stp st⟩ (((x1.trans x2).trans ex).trans x3) r3
        | exc y ρ2 =>
          rw [er] at q
          intro c d H' f' ex r' xr
          exact exc_pop (Φ := True) q ((x1.trans x2).trans ex) r' xr
        | no =>
          rw [er] at q
          exact q
      | exc y ρ1 =>
        rw [e1] at q
        exact q
      | no =>
        rw [e1] at q
        exact q
  · cases h
theorem nil_args' {N : List Str} {sc : Scope} {as : E} (h : cks N as sc [] = true) : as = .nil := by
  cases as with
  | nil => rfl
  | cons e es => unfold cks at h; cases h
  | _ => unfold cks at h; cases h
theorem r_end {K : PySem.W.Frag} {σ : L2.St} {H : Hp} {R : List V → Hp → Prop} (h : tEr K cl O ro W (refsE .nil) (evr t F .nil) σ H R) : R [] H := by
  obtain ⟨ρ, ts, ws, f, r, q⟩ := h
  have e : evr t F .nil ρ = .ok [] ρ := by simp only [evr]
  rw [e] at q
  exact q [] H f trivial (Ext.refl f H) r
theorem s_io {as : E} (f : String) (hs : PRp t F cl as) : PEp t F cl (.io f as) := by
  intro X W O ro x S h
  unfold ck at h
  split at h
  · rename_i y p es pos
    obtain ⟨h1, h2⟩ := bf_split h
    unfold gnB at h1
    obtain ⟨h3, h4⟩ := bf_split h1
    obtain ⟨h5, h6⟩ := bf_split h4
    have h3 := of_decide_eq_true h3
    subst h3
    by_cases hf : t.isFn f = true
    · obtain ⟨a, hm, hk, fd, ps, k, G, hr, hb⟩ := S.fn f hf
      refine PE.imp (pe_callD (E := fun σ c d H => W c d σ H) G (hr.mono (by omega)) hb (glB_ok h5) hm hk S.fly.pass (hs X W O ro _ S h2) (cks_st h2) (nmB_ok h6).1 fun e0 σ H R q => ?_) fun σ H Q q => ?_
      · subst e0
        have := nil_args' h2
        subst this
        exact r_end q
      · obtain ⟨ρ, ts, ws, f0, r, g⟩ := q
        have e : ev t F (.io f as) ρ = (evr t F as ρ).bind fun ds ρ => (match takesR (refsE as) ds ρ with
          | some p => ofIo (refsE as) (F f p.1) p.2
          | none => .no) := by first | (simp only [ev, hf, if_true]; done) | (simp only [ev, hf, if_true]; rfl)
        rw [e] at g
        refine ⟨ρ, ts, ws, f0, r, ?_⟩
        cases er : evr t F as ρ with
        | ok ds ρ1 =>
          rw [er] at g
          intro vs H' f' m ex r'
          have g : GE X.K cl O ro W ts σ ws f0 H (match takesR (refsE as) ds ρ1 with
            | some p => ofIo (refsE as) (F f p.1) p.2
            | none => .no) Q := g
          cases ht : takesR (refsE as) ds ρ1 with
          | none => rw [ht] at g; exact g.elim
          | some p =>
            rw [ht] at g
            obtain ⟨f2, e2, r2, l⟩ := Rel.takes r' m ht
            exact call_io rfl l r2 m.refs (GE.ext (ex.trans e2) g)
        | exc y ρ1 =>
          rw [er] at g
          exact g
        | no =>
          rw [er] at g
          exact g
    · refine ⟨fun pins s σ H Q I q => ?_⟩
      obtain ⟨ρ, ts, ws, f', r, g⟩ := q
      simp only [ev, if_neg hf] at g
      exact g.elim
  · cases h
theorem s_iom {as : E} (m : String) (i : Nat) (hs : PRp t F cl as) : PEp t F cl (.iom m i as) := by
  intro X W O ro x S h
  unfold ck at h
  split at h
  · rename_i y py z ap es p
    obtain ⟨h1, h2⟩ := bf_split h
    obtain ⟨h3, h4⟩ := bf_split h2
    obtain ⟨h5, h6⟩ := bf_split h4
    obtain ⟨h7, h8⟩ := bf_split h6
    obtain ⟨h9, h10⟩ := bf_split h8
    have h1 := of_decide_eq_true h1
    subst h1
    obtain ⟨h5, h5'⟩ := bf_split h5
    obtain ⟨n1, n2, _⟩ := nmB_ok h5'
    refine ⟨fun pins s σ H Q I q => ?_⟩
    have st := cks_st h7
    obtain ⟨ρ, ts, ws, f0, r, g⟩ := q
    cases es0 : ρ[i]? with
    | none => simp only [ev, es0] at g; exact g.elim
    | some o0 =>
      cases o0 with
      | none => simp only [ev, es0] at g; exact g.elim
      | some s0 =>
        cases s0 with
        | d _ => simp only [ev, es0] at g; exact g.elim
        | lst _ => simp only [ev, es0] at g; exact g.elim
        | dk _ _ => simp only [ev, es0] at g; exact g.elim
        | ins c ns xs =>
          cases hq : t.meth c m with
          | none => simp only [ev, es0, hq] at g; exact g.elim
          | some q0 =>
            by_cases hn : ns.contains m = true
            · simp only [ev, es0, hq, if_pos hn] at g
              exact g.elim
            · have e : ev t F (.iom m i as) ρ = (evr t F as ρ).bind fun ds ρ => (match takesR (some i :: refsE as) (.non :: ds) ρ with
                | some p => ofIo (some i :: refsE as) (F q0 p.1) p.2
                | none => .no) := by first | (simp only [ev, es0, hq, if_neg hn]; done) | (simp only [ev, es0, hq, if_neg hn]; rfl)
              rw [e] at g
              obtain ⟨v, g1, ev1, q1⟩ := own_at r es0
              unfold OR at q1
              obtain ⟨b, C, dx, zs, fa, rfl, hc, hH, hl, _, mm⟩ := q1
              obtain ⟨k1, g0, k2, fd, ps, k, G, hr, hb⟩ := S.meth c m q0 C hq hc
              refine methcall_of (pe_var (of_decide_eq_true h3) (visB_ok h5) n1 n2) I (show ∃ v, σ[i]? = some (some v) ∧ _ from ⟨.ref b, ev1, ?_⟩) (meth_eval rfl st (of_decide_eq_true h9) h10)
              refine ⟨b, C, dx, _, g0, rfl, hH, k1, k2, look_none (by simpa using hn), fun s1 I1 => ?_⟩
              have q3 : tEr X.K cl O ro W (refsE as) (evr t F as) σ H (fun vs H2 => spF X.K cl F q0 (.ref b :: vs) H2 Q fun c d H => W c d σ H) := by
                refine ⟨ρ, ts, ws, f0, r, ?_⟩
                cases er : evr t F as ρ with
                | ok ds ρ1 =>
                  rw [er] at g
                  intro vs H' f' m1 ex r'
                  have g : GE X.K cl O ro W ts σ ws f0 H (match takesR (some i :: refsE as) (.non :: ds) ρ1 with
                    | some p => ofIo (some i :: refsE as) (F q0 p.1) p.2
                    | none => .no) Q := g
                  have m2 : VRr X.K cl (Av O f') H' σ (some i :: refsE as) (.non :: ds) (.ref b :: vs) := ⟨ev1, m1⟩
                  cases ht : takesR (some i :: refsE as) (.non :: ds) ρ1 with
                  | none => rw [ht] at g; exact g.elim
                  | some p =>
                    rw [ht] at g
                    obtain ⟨f2, e2, r2, l⟩ := Rel.takes r' m2 ht
                    exact call_io rfl l r2 m2.refs (GE.ext (ex.trans e2) g)
                | exc y ρ1 =>
                  rw [er] at g
                  exact g
                | no =>
                  rw [er] at g
                  exact g
              refine callArgs (first := [.ref b]) k2.kp (hs X W O ro _ S h7) st I1 q3 (fun e0 => ?_) fun us s2 vs H2 I2 rv q4 => ?_
              · subst e0
                have := nil_args' h7
                subst this
                exact r_end q3
              · exact run_fnSD (E := fun σ c d H => W c d σ H) (vs := .ref b :: vs) G (hr.mono (by omega)) hb .nil (S.fly.pass σ) I2 (.cons rfl rv) (by rw [List.append_nil]; exact q4)
  · cases h
/-- a or b: the thing itself, or b where it is None -/
theorem s_orv {a b : E} (ha : PEp t F cl a) (hb : PEp t F cl b) : PEp t F cl (.orv a b) := by
  intro X W O ro x S h
  unfold ck at h
  split at h
  · obtain ⟨h1, h2⟩ := bf_split h
    refine PE.imp (L2.pe_orT (ha X W O ro _ S h1) (pe_one (hb X W O ro _ S h2))) fun σ H Q q => ?_
    have e : ev t F (.orv a b) = fun ρ => (ev t F a ρ).bind fun x ρ => (match x with
      | .d .non => ev t F b ρ
      | .d (.tup (y :: ys)) => .ok (.d (.tup (y :: ys))) ρ
      | _ => .no) := by (funext ρ; first | (simp only [ev]; done) | (simp only [ev]; rfl))
    rw [e] at q
    refine tE.mono q.bind fun v H1 q1 => ?_
    obtain ⟨s, ρ, ts, ws, f, r, g⟩ := q1
    dsimp only at g
    split at g
    · obtain ⟨f2, e2, r2⟩ := r.pop
      refine ⟨false, by rw [r.top.nonE]; rfl, ?_⟩
      rw [if_neg Bool.false_ne_true]
      exact ⟨ρ, ts, ws, f2, r2, g.ext e2⟩
    · rename_i y ys
      obtain ⟨a0, zs, rfl, e1, n1, r1⟩ := r.top.tupE
      refine ⟨true, .inr (.inl ⟨zs, SqT.of e1, ?_⟩), ?_⟩
      · cases zs with
        | nil =>
          have := r1.len
          simp at this
        | cons _ _ => rfl
      · rw [if_pos rfl]
        exact g _ _ _ (Ext.refl f H1) r
    · exact g.elim
  · cases h
theorem ORs.pick {K : PySem.W.Frag} {A : Addr → Prop} {H : Hp} {g0 : String} {s : SV} : ∀ {ns : List String} {xs : List SV} {ws : List V} {f : List Addr}, ORs K cl A H xs ws f → fieldS ns xs g0 = some s →
    ∃ w f1, (zipS ns ws).lookup (stOf g0) = some w ∧ OR K cl A H s w f1 ∧ ∀ a, f1.count a ≤ f.count a
  | [], xs, ws, f, _, h => by unfold fieldS at h; cases h
  | n :: ns, [], ws, f, _, h => by unfold fieldS at h; cases h
  | n :: ns, y :: xs, ws, f, r, h => by
    unfold ORs at r
    obtain ⟨w, ws', f1, f2, rfl, rfl, q, m⟩ := r
    unfold fieldS at h
    unfold zipS
    rw [List.map_cons, List.zip_cons_cons, List.lookup_cons]
    by_cases e : n = g0
    · subst e
      rw [if_pos rfl] at h
      cases h
      have : (stOf n == Str.ofString n) = true := beq_self_eq_true _
      rw [this]
      exact ⟨w, f1, rfl, q, fun a => by rw [List.count_append]; omega⟩
    · rw [if_neg e] at h
      have h2 : (stOf g0 == Str.ofString n) = false := beq_eq_false_iff_ne.mpr fun z => e (stOf_inj z).symm
      rw [h2]
      obtain ⟨w2, f3, k1, k2, k3⟩ := ORs.pick m h
      exact ⟨w2, f3, k1, k2, fun a => by rw [List.count_append]; have := k3 a; omega⟩
theorem s_takef (i : Nat) (g0 : String) : PEp t F cl (.takef i g0) := by
  intro X W O ro x S h
  unfold ck at h
  split at h
  · obtain ⟨h1, h2⟩ := bf_split h
    obtain ⟨h2, h3⟩ := bf_split h2
    obtain ⟨h3, h4⟩ := bf_split h3
    have h1 := of_decide_eq_true h1
    subst h1
    obtain ⟨n1, n2, _⟩ := nmB_ok h4
    refine PE.imp (pe_fldX (pe_var (of_decide_eq_true h2) (visB_ok h3) n1 n2) (attr_base rfl)) fun σ H Q q => ?_
    obtain ⟨ρ, ts, ws, f, r, g⟩ := q
    unfold ev at g
    split at g
    · rename_i c ns xs es
      split at g
      · rename_i hf
        split at g
        · rename_i s hs
          obtain ⟨v, f1, e1, ex, r1⟩ := r.take es
          obtain ⟨fe, ft, ef, c1, d1, o1, p1, q1, z1⟩ := r1
          subst ef
          unfold ORs at q1
          obtain ⟨w, ws', f2, f3, e0, ef, q2, q3⟩ := q1
          cases e0
          subst ef
          unfold OR at q2
          obtain ⟨a, C, dx, zs, fa, rfl, hc, hH, hl, rfl, m⟩ := q2
          obtain ⟨k1, k2⟩ := S.fld _ _ _ hf hc
          obtain ⟨w, f4, hw, hv, hcnt⟩ := ORs.pick m hs
          refine ⟨_, e1, .inl ⟨a, C, dx, _, w, rfl, hH, k1, k2, hw, ?_⟩⟩
          have hc : ∀ b, (fe ++ (f4 ++ f3)).count b ≤ (fe ++ ((a :: fa) ++ f3)).count b := fun b => by
            have := hcnt b
            simp only [List.count_append, List.count_cons]
            omega
          have st : Stp (Av O (fe ++ ((a :: fa) ++ f3))) H (Av O (fe ++ (f4 ++ f3))) H := Stp.less fun b h => by
            rw [mem_of_count] at h ⊢
            exact Nat.lt_of_lt_of_le h (hc b)
          obtain ⟨x2, r2⟩ := Rel.less (ro := ro) c1 d1 o1 hc (OE.stp st _ _ _ (fun _ _ => rfl) p1) (ORs.cons (OR.stp st _ _ _ (fun _ _ => rfl) hv) (ORs.stp st _ _ _ (fun _ _ => rfl) q3)) z1
          exact g w H _ (ex.trans x2) r2
        · exact g.elim
      · exact g.elim
    · exact g.elim
  · cases h
/-- "c" + e.replace("y", "z") -/
theorem pe_crep {o : Expr} {to : TE} {c y z : Str} {j0 j k : Nat} {p0 cy cz ap pos bp : Pos} (ho : PE X o to) (hyz : (y == z) = false) (hbase : attributeBase o "replace" X.env (eval o X.env) = eval o X.env) (hline : (ap.endLine == pos.line) = true) :
    PE X (.BinOp (.Constant (.str c) j0 p0) .Add (.Call (.Attribute o "replace" ap) [.Constant (.str y) j cy, .Constant (.str z) k cz] [] pos) bp)
      (fun σ H Q => CwR.tReplC to y z σ H (fun u H1 => ∃ a, u = .str a ∧ c.length + a.length ≤ sizeLine ∧ Q (.str (c ++ a)) H1)) := by
  refine ⟨fun pins s σ H Q I h => wpAny_BinOp (Calls.Constant_str ?_)⟩
  refine thn (CwR.pet_replC ho hyz rfl hbase hline pins _ σ H (fun u H1 => ∃ a, u = .str a ∧ c.length + a.length ≤ sizeLine ∧ Q (.str (c ++ a)) H1) (by show 1 ≤ s.toks + 1; omega) (I.tok _) h) fun u s2 ⟨y', H2, I2, r2, a, e2, hl, q2⟩ => ?_
  subst e2
  exact op_add_str pins s2 σ H2 (.str c) (.str a) _ u Q I2 ⟨_, rfl⟩ r2 ⟨_, _, rfl, rfl, hl, q2⟩
theorem repl_mk {s y z : List Nat} (hy : y ≠ []) : Txt.replace (mkS s) (mkS y) (mkS z) = mkS (PySem.StrLaws.replL y z s) := by
  have h1 : 1 ≤ (mkS y).length := by
    rw [mkS_len]
    cases y with
    | nil => exact absurd rfl hy
    | cons _ _ => simp
  have h := PySem.StrLaws.replace_list (x := mkS s) (y := mkS y) (z := mkS z) h1
  have e : ∀ l : List Nat, (mkS l).cps.toList = l := fun l => by simp [mkS]
  rw [e, e, e] at h
  rw [← h, mkS_list]
theorem s_crep {e : E} (c y z : List Nat) (he : PEp t F cl e) : PEp t F cl (.crep c e y z) := by
  intro X W O ro x S h
  unfold ck at h
  split at h
  · rename_i c' _ _ o a ap y' _ _ z' _ _ pos _
    obtain ⟨h1, h2⟩ := bf_split h
    obtain ⟨h1, h3⟩ := bf_split h1
    obtain ⟨h1, hyz⟩ := bf_split h1
    have hyz := of_decide_eq_true hyz
    obtain ⟨h4, h5⟩ := bf_split h2
    obtain ⟨h4, h6⟩ := bf_split h4
    obtain ⟨h5, h7⟩ := bf_split h5
    obtain ⟨h7, h8⟩ := bf_split h7
    have h1 := of_decide_eq_true h1
    have h3 := of_decide_eq_true h3
    have h4 := of_decide_eq_true h4
    have h6 := of_decide_eq_true h6
    subst h1 h3 h4 h6
    have e0 : ev t F (.crep c e y z) = fun ρ => (ev t F e ρ).bind fun x ρ => (match frz x with
      | .str s => if s.length ≤ 10000 ∧ z.length ≤ 1000 ∧ c.length ≤ 1000 ∧ y ≠ [] ∧ y ≠ z then .ok (.d (.str (c ++ PySem.StrLaws.replL y z s))) ρ else .no
      | _ => .no) := by (funext ρ; first | (simp only [ev]; done) | (simp only [ev]; rfl))
    have hb : (mkS y == mkS z) = false := beq_eq_false_iff_ne.mpr fun w => hyz (by have := congrArg (fun s => s.cps.toList) w; simpa [mkS] using this)
    refine PE.imp (pe_crep (he X W O ro o S h5) hb (attr_base h7) h8) fun σ H Q q => ?_
    rw [e0] at q
    refine tE.mono q.bind fun v H1 q1 => ?_
    obtain ⟨s, ρ, ts, ws, f, z1, r, g⟩ := q1.frz
    split at g
    · rename_i s0 es
      split at g
      · rename_i hh
        rw [es] at z1
        rw [z1.strE]
        have b1 := hh.1
        have b2 := hh.2.1
        have hm : (s0.length + 1) * z.length ≤ 10001 * 1000 := Nat.mul_le_mul (by omega) b2
        have hlen : (PySem.StrLaws.replL y z s0).length ≤ s0.length + (s0.length + 1) * z.length := by
          have h2 := TK.replace_len (mkS s0) (mkS y) (mkS z)
          rw [repl_mk hh.2.2.2.1, mkS_len, mkS_len, mkS_len] at h2
          exact h2
        refine ⟨_, rfl, by rw [mkS_len, mkS_len]; omega, _, rfl, ?_, ?_⟩
        · rw [repl_mk hh.2.2.2.1, mkS_len, mkS_len, sizeLine_eq]
          have := hh.2.2.1
          omega
        · rw [repl_mk hh.2.2.2.1, mkS_app]
          exact fin_d r VR.str g
      · exact g.elim
    · exact g.elim
  · cases h
end
end Kn

set_option Elab.async false
set_option linter.all false
set_option maxRecDepth 100000
set_option maxHeartbeats 4000000
/-! Snd3: what is walked; comprehensions. -/
namespace Kn
open PySem L2
section
variable {K : PySem.W.Frag} {cl : String → Option Addr} {O : Addr → Prop} {ro : List (Nat × V)} {W : WX} {ρ : Env} {ts : List SV} {σ : L2.St} {ws : List V} {f f' : List Addr} {H H' : Hp} {s : SV} {v y : V} {x : D} {A A' : Addr → Prop}
theorem Rel.noRo (r : Rel K cl O ro ρ ts σ ws f H) : Rel K cl O [] ρ ts σ ws f H := by
  obtain ⟨fe, ft, e, c, d, o, p, q, z⟩ := r
  exact ⟨fe, ft, e, c, d, o, p, q, fun p h => by cases h⟩
theorem Rel.withRo (r : Rel K cl O [] ρ ts σ ws f H) (h : ∀ p ∈ ro, σ[p.1]? = some (some p.2)) : Rel K cl O ro ρ ts σ ws f H := by
  obtain ⟨fe, ft, e, c, d, o, p, q, z⟩ := r
  exact ⟨fe, ft, e, c, d, o, p, q, h⟩
theorem Rel.roAt (r : Rel K cl O ro ρ ts σ ws f H) : ∀ p ∈ ro, σ[p.1]? = some (some p.2) := by
  obtain ⟨fe, ft, e, c, d, o, p, q, z⟩ := r
  exact z
theorem Rel.ovr {s : Option SV} {v : Option V} {i : Nat} (r : Rel K cl O ro ρ ts σ ws f H) (h : ∀ f', (∀ a ∈ f', a ∈ f) → O1 K cl (Av O f') H s v []) (hr : ∀ p ∈ ro, p.1 ≠ i) : ∃ f', Ext f H f' H ∧ (∀ a ∈ f', a ∈ f) ∧ Rel K cl O ro (ρ.set i s) ts (σ.set i v) ws f' H := by
  by_cases hi : i < ρ.length
  · obtain ⟨fe, ft, e, c, d, o, p, q, z⟩ := r
    subst e
    obtain ⟨v0, g1, g2, g3, e1, e2, o1, up⟩ := OE.at p (List.getElem?_eq_getElem hi)
    subst e2
    have hc : ∀ a, ((g1 ++ ([] ++ g3)) ++ ft).count a ≤ ((g1 ++ (g2 ++ g3)) ++ ft).count a := fun a => by simp only [List.count_append, List.count_nil]; omega
    have sub : ∀ a ∈ (g1 ++ ([] ++ g3)) ++ ft, a ∈ (g1 ++ (g2 ++ g3)) ++ ft := fun a h => by
      rw [mem_of_count] at h ⊢
      exact Nat.lt_of_lt_of_le h (hc a)
    have st : Stp (Av O ((g1 ++ (g2 ++ g3)) ++ ft)) H (Av O ((g1 ++ ([] ++ g3)) ++ ft)) H := Stp.less sub
    obtain ⟨x, y⟩ := Rel.less (ro := ro) c d o hc (up st (fun _ _ => rfl) (fun _ _ => rfl) (h _ sub)) (ORs.stp st _ _ _ (fun _ _ => rfl) q) (fun p hp => by rw [List.getElem?_set_ne (Ne.symm (hr p hp))]; exact z p hp)
    exact ⟨_, x, sub, y⟩
  · have l := r.len
    rw [List.set_eq_of_length_le (by omega), List.set_eq_of_length_le (by omega)]
    exact ⟨f, Ext.refl f H, fun _ h => h, r⟩
theorem Rel.wipe (r : Rel K cl O [] ρ ts σ ws f H) : ∀ vs : List Nat, ∃ f', Ext f H f' H ∧ (∀ a ∈ f', a ∈ f) ∧ Rel K cl O [] (wipeE ρ vs) ts (L2.wipe σ vs) ws f' H
  | [] => ⟨f, Ext.refl f H, fun _ h => h, r⟩
  | v :: vs => by
    obtain ⟨f1, e1, s1, r1⟩ := Rel.wipe r vs
    obtain ⟨f2, e2, s2, r2⟩ := r1.ovr (i := v) (s := none) (v := none) (fun _ _ => rfl) (fun p h => by cases h)
    exact ⟨f2, e1.trans e2, fun a h => s1 a (s2 a h), r2⟩
/-- the slots of σ₀ again -/
def backS (σ₀ σ : L2.St) : List Nat → L2.St
  | [] => σ
  | v :: vs => (backS σ₀ σ vs).set v ((σ₀[v]?).getD none)
theorem backS_len (σ₀ σ : L2.St) : ∀ vs, (backS σ₀ σ vs).length = σ.length
  | [] => rfl
  | v :: vs => by unfold backS; rw [List.length_set, backS_len σ₀ σ vs]
theorem wipe_get (σ : L2.St) : ∀ (vs : List Nat) (j : Nat), (L2.wipe σ vs)[j]? = if j ∈ vs ∧ j < σ.length then some none else σ[j]?
  | [], j => by simp [L2.wipe]
  | v :: vs, j => by
    unfold L2.wipe
    by_cases h : v = j
    · subst h
      by_cases hl : v < σ.length
      · rw [List.getElem?_set_self (by rw [wipe_length]; exact hl), if_pos ⟨List.mem_cons_self, hl⟩]
      · rw [List.getElem?_eq_none (by rw [List.length_set, wipe_length]; omega), if_neg (fun z => hl z.2), List.getElem?_eq_none (by omega)]
    · rw [List.getElem?_set_ne h, wipe_get σ vs j]
      by_cases hj : j ∈ vs ∧ j < σ.length
      · rw [if_pos hj, if_pos ⟨List.mem_cons_of_mem _ hj.1, hj.2⟩]
      · rw [if_neg hj, if_neg]
        rintro ⟨a, b⟩
        rcases List.mem_cons.mp a with a | a
        · exact h a.symm
        · exact hj ⟨a, b⟩
theorem backS_get (σ₀ σ : L2.St) (hl : σ.length = σ₀.length) : ∀ (vs : List Nat) (j : Nat), (backS σ₀ σ vs)[j]? = if j ∈ vs then σ₀[j]? else σ[j]?
  | [], j => by simp [backS]
  | v :: vs, j => by
    unfold backS
    by_cases h : v = j
    · subst h
      rw [if_pos List.mem_cons_self]
      by_cases hv : v < σ₀.length
      · rw [List.getElem?_set_self (by rw [backS_len]; omega), List.getElem?_eq_getElem hv]
        rfl
      · rw [List.getElem?_eq_none (by rw [List.length_set, backS_len]; omega), List.getElem?_eq_none (by omega)]
    · rw [List.getElem?_set_ne h, backS_get σ₀ σ hl vs j]
      by_cases hj : j ∈ vs
      · rw [if_pos hj, if_pos (List.mem_cons_of_mem _ hj)]
      · rw [if_neg hj, if_neg]
        intro a
        rcases List.mem_cons.mp a with a | a
        · exact h a.symm
        · exact hj a
theorem backS_wipe (σ : L2.St) (vs : List Nat) : backS σ (L2.wipe σ vs) vs = σ := by
  apply List.ext_getElem?
  intro j
  rw [backS_get σ _ (wipe_length σ vs)]
  by_cases h : j ∈ vs
  · rw [if_pos h]
  · rw [if_neg h, wipe_get, if_neg (fun z => h z.1)]
theorem wipe_set (σ : L2.St) {vs : List Nat} {i : Nat} {v : Option V} (h : i ∈ vs) : L2.wipe (σ.set i v) vs = L2.wipe σ vs := by
  apply List.ext_getElem?
  intro j
  rw [wipe_get, wipe_get, List.length_set]
  by_cases hj : j ∈ vs ∧ j < σ.length
  · rw [if_pos hj, if_pos hj]
  · rw [if_neg hj, if_neg hj]
    by_cases e : i = j
    · subst e
      have hl : ¬ i < σ.length := fun z => hj ⟨h, z⟩
      rw [List.getElem?_eq_none (by rw [List.length_set]; omega), List.getElem?_eq_none (by omega)]
    · rw [List.getElem?_set_ne e]
theorem O1.less {s : Option SV} {v : Option V} (h : O1 K cl (Av O f) H s v []) (st : ∀ a ∈ f', a ∈ f) : O1 K cl (Av O f') H s v [] := O1.stp (Stp.less st) (fun _ _ => rfl) h
theorem Rel.restore {ρ₁ : Env} {σ₁ : L2.St} (r : Rel K cl O [] ρ ts σ ws f H) : ∀ vs : List Nat, (∀ i ∈ vs, O1 K cl (Av O f) H ((ρ₁[i]?).getD none) ((σ₁[i]?).getD none) []) →
    ∃ f', Ext f H f' H ∧ (∀ a ∈ f', a ∈ f) ∧ Rel K cl O [] (backE ρ₁ ρ vs) ts (backS σ₁ σ vs) ws f' H
  | [], _ => ⟨f, Ext.refl f H, fun _ h => h, r⟩
  | v :: vs, h => by
    obtain ⟨f1, e1, s1, r1⟩ := Rel.restore r vs fun i hi => h i (List.mem_cons_of_mem _ hi)
    obtain ⟨f2, e2, s2, r2⟩ := r1.ovr (i := v) (s := (ρ₁[v]?).getD none) (v := (σ₁[v]?).getD none) (fun g hg => O1.less (h v List.mem_cons_self) fun a m => s1 a (hg a m)) (fun p h => by cases h)
    exact ⟨f2, e1.trans e2, fun a h => s1 a (s2 a h), r2⟩
theorem free_at : ∀ {is : List Nat}, freeAt ρ is = true → Rel K cl O ro ρ ts σ ws f H → ∀ i ∈ is, O1 K cl (Av O f) H ((ρ[i]?).getD none) ((σ[i]?).getD none) []
  | [], _, _ => fun i h => by cases h
  | j :: is, h, r => by
    unfold freeAt at h
    obtain ⟨h1, h2⟩ := bf_split h
    intro i hi
    rcases List.mem_cons.mp hi with rfl | hi
    · split at h1
      · rename_i e
        rw [e]
        exact rfl
      · rename_i x e
        obtain ⟨v, e1, hv⟩ := r.getD e
        rw [e, e1]
        refine ⟨v, rfl, ?_⟩
        unfold OR
        exact ⟨hv, rfl⟩
      · cases h1
    · exact free_at h2 r i hi
/-- data in a slot, whatever stood there -/
theorem Rel.setD {i : Nat} (r : Rel K cl O ro ρ ts σ ws f H) (h : VR K cl (Av O f) H x v) (hr : ∀ p ∈ ro, p.1 ≠ i) : ∃ f', Ext f H f' H ∧ (∀ a ∈ f', a ∈ f) ∧ Rel K cl O ro (ρ.set i (some (.d x))) ts (σ.set i (some v)) ws f' H :=
  r.ovr (fun g hg => ⟨v, rfl, by unfold OR; exact ⟨VR.stp (Stp.less hg) _ _ h, rfl⟩⟩) hr
/-- the list on top gets one more -/
theorem Rel.appT {acc : List SV} {D : Addr} (r : Rel K cl O ro ρ (s :: .lst acc :: ts) σ (y :: .ref D :: ws) f H) :
    ∃ wa f', H D = some (.lst wa) ∧ acc.length = wa.length ∧ ExW f H f' (upd H D (.lst (wa ++ [y]))) ∧ Rel K cl O ro ρ (.lst (acc ++ [s]) :: ts) σ (.ref D :: ws) f' (upd H D (.lst (wa ++ [y]))) := by
  obtain ⟨fe, ft, e, c, d, o, p, q, z⟩ := r
  subst e
  unfold ORs at q
  obtain ⟨w, ws', f1, f2, e, ef, q1, q2⟩ := q
  cases e
  subst ef
  unfold ORs at q2
  obtain ⟨w, ws', f3, f4, e, ef, q3, q4⟩ := q2
  cases e
  subst ef
  unfold OR at q3
  obtain ⟨a, wa, fa, e, hD, ef, q5⟩ := q3
  cases e
  subst ef
  have cD := c D
  simp only [List.count_append, List.count_cons_self] at cD
  have nD : D ∉ fe ∧ D ∉ f1 ∧ D ∉ fa ∧ D ∉ f4 := by
    refine ⟨?_, ?_, ?_, ?_⟩ <;> (intro h; rw [mem_of_count] at h; omega)
  have hm : ∀ a, a ∈ fe ++ ((D :: (fa ++ f1)) ++ f4) ↔ a ∈ fe ++ (f1 ++ ((D :: fa) ++ f4)) := fun a => by
    simp only [List.mem_append, List.mem_cons]
    constructor
    · rintro (h | (h | h | h) | h)
      · exact .inl h
      · exact .inr (.inr (.inl (.inl h)))
      · exact .inr (.inr (.inl (.inr h)))
      · exact .inr (.inl h)
      · exact .inr (.inr (.inr h))
    · rintro (h | h | (h | h) | h)
      · exact .inl h
      · exact .inr (.inl (.inr (.inr h)))
      · exact .inr (.inl (.inl h))
      · exact .inr (.inl (.inr (.inl h)))
      · exact .inr (.inr h)
  have inD : D ∈ fe ++ (f1 ++ ((D :: fa) ++ f4)) := by simp
  have st : Stp (Av O (fe ++ (f1 ++ ((D :: fa) ++ f4)))) H (Av O (fe ++ ((D :: (fa ++ f1)) ++ f4))) (upd H D (.lst (wa ++ [y]))) := fun a u h n => by
    refine ⟨?_, fun m => n (m.imp id (hm a).mp)⟩
    rw [upd_ne fun z => n (.inr (by rw [z]; exact inD))]
    exact h
  have same : ∀ {g : List Addr}, D ∉ g → ∀ a ∈ g, upd H D (.lst (wa ++ [y])) a = H a := fun hg a h => upd_ne fun z => hg (by rw [← z]; exact h)
  refine ⟨wa, fe ++ ((D :: (fa ++ f1)) ++ f4), hD, q5.len, ⟨fun a u h n => ?_, fun a h => .inl ((hm a).mp h)⟩, fe, (D :: (fa ++ f1)) ++ f4, rfl, fun a => ?_, fun a h => d a ((hm a).mp h), fun a h => ?_, OE.stp st _ _ _ (same nD.1) p, ?_, z⟩
  · rw [upd_ne fun z => n (by rw [z]; exact inD)]
    exact h
  · have h1 := c a
    simp only [List.count_append, List.count_cons] at h1 ⊢
    omega
  · by_cases e : a = D
    · rw [e, upd_same]; exact fun z => nomatch z
    · rw [upd_ne e]; exact o a h
  · have j := ORs.join (ORs.stp st _ _ _ (same nD.2.2.1) q5) (ORs.one (OR.stp st _ _ _ (same nD.2.1) q1))
    exact ORs.cons (by unfold OR; exact ⟨D, wa ++ [y], fa ++ f1, rfl, upd_same, rfl, j⟩) (ORs.stp st _ _ _ (same nD.2.2.2) q4)
end
/-! ### what is walked -/
section
variable (K : PySem.W.Frag) (cl : String → Option Addr)
def JD (A : Addr → Prop) (H : Hp) (J : It) (ds : List D) : Prop :=
  (∃ a, J = Itl K a ∧ VR K cl A H (.lst ds) (.ref a)) ∨ (∃ a, J = Itt K a ∧ VR K cl A H (.tup ds) (.ref a)) ∨ (∃ s : List Nat, J = Its (mkS s) ∧ ds = s.map fun c => .str [c]) ∨ (∃ lo hi, J = Itr lo (hi - lo).toNat ∧ ds = rngD lo hi) ∨ (∃ a xs, J = Ite K a ∧ VR K cl A H (.lst xs) (.ref a) ∧ ds = enuL xs 0) ∨ ∃ a b xs ys, J = Itz K a b ∧ VR K cl A H (.lst xs) (.ref a) ∧ VR K cl A H (.lst ys) (.ref b) ∧ ds = zipL xs ys
end
section
variable {K : PySem.W.Frag} {cl : String → Option Addr} {O : Addr → Prop} {ro : List (Nat × V)} {W : WX} {ρ : Env} {ts : List SV} {σ : L2.St} {ws : List V} {f f' : List Addr} {H H' : Hp} {s : SV} {v y : V} {x : D} {A A' : Addr → Prop} {J : It} {ds : List D}
theorem JD.stp (st : Stp A H A' H') (h : JD K cl A H J ds) : JD K cl A' H' J ds := by
  rcases h with ⟨a, e, h⟩ | ⟨a, e, h⟩ | h | h | ⟨a, xs, e, h, e2⟩ | ⟨a, b, xs, ys, e, h, h2, e2⟩
  · exact .inl ⟨a, e, VR.stp st _ _ h⟩
  · exact .inr (.inl ⟨a, e, VR.stp st _ _ h⟩)
  · exact .inr (.inr (.inl h))
  · exact .inr (.inr (.inr (.inl h)))
  · exact .inr (.inr (.inr (.inr (.inl ⟨a, xs, e, VR.stp st _ _ h, e2⟩))))
  · exact .inr (.inr (.inr (.inr (.inr ⟨a, b, xs, ys, e, VR.stp st _ _ h, VR.stp st _ _ h2, e2⟩))))
theorem enuL_len : ∀ (xs : List D) (k : Nat), (enuL xs k).length = xs.length
  | [], _ => rfl
  | x :: xs, k => by show (enuL xs (k + 1)).length + 1 = xs.length + 1; rw [enuL_len xs]
theorem enuL_get : ∀ (xs : List D) (k i : Nat), (enuL xs k)[i]? = (xs[i]?).map fun x => .tup [.int ((k + i : Nat) : Int), x]
  | [], _, _ => rfl
  | x :: xs, k, 0 => rfl
  | x :: xs, k, i + 1 => by
    show (enuL xs (k + 1))[i]? = _
    rw [enuL_get xs (k + 1) i, List.getElem?_cons_succ]
    congr 1
    funext y
    rw [show k + 1 + i = k + (i + 1) by omega]
theorem zipL_get : ∀ (xs ys : List D) (i : Nat), i < (zipL xs ys).length → ∃ x y, xs[i]? = some x ∧ ys[i]? = some y ∧ (zipL xs ys)[i]? = some (.tup [x, y])
  | [], _, _, h => by cases h
  | _ :: _, [], _, h => by cases h
  | x :: xs, y :: ys, 0, _ => ⟨x, y, rfl, rfl, rfl⟩
  | x :: xs, y :: ys, i + 1, h => by
    obtain ⟨u, v, h1, h2, h3⟩ := zipL_get xs ys i (by simpa [zipL] using h)
    exact ⟨u, v, by simpa using h1, by simpa using h2, by simpa [zipL] using h3⟩
theorem zipL_len : ∀ (xs ys : List D), (zipL xs ys).length = min xs.length ys.length
  | [], _ => by simp [zipL]
  | _ :: _, [] => by simp [zipL]
  | x :: xs, y :: ys => by
    have := zipL_len xs ys
    simp only [zipL, List.length_cons, this]
    omega
theorem rngD_len (lo hi : Int) : (rngD lo hi).length = (hi - lo).toNat := by unfold rngD; simp
theorem JD.turn0 (h : JD K cl A H J ds) {i : Nat} (hi : i < ds.length) : J.go i H ∧ ∀ x H', J.yld i H x H' → (H' = H ∧ VR K cl A H (ds[i]) x) ∨ ∃ p u1 u2 w1 w2, H p = none ∧ x = .ref p ∧ H' = upd H p (.tup [w1, w2]) ∧ ds[i] = .tup [u1, u2] ∧ VR K cl A H u1 w1 ∧ VR K cl A H u2 w2 := by
  have e0 : ds[i]? = some ds[i] := List.getElem?_eq_getElem hi
  rcases h with ⟨a, e, h⟩ | ⟨a, e, h⟩ | ⟨s, e, h⟩ | ⟨lo, hi', e, h⟩ | ⟨a, xs, e, h, e2⟩ | ⟨a, b, xs, ys, e, h, h2, e2⟩
  · subst e
    obtain ⟨a', ws, e, hq, _, m⟩ := h.lstE
    cases e
    obtain ⟨w, hw, hv⟩ := m.get e0
    refine ⟨⟨ws, w, SqL.of hq, hw⟩, fun x H' hy => .inl ?_⟩
    obtain ⟨rfl, hy⟩ := hy
    have := hy ws (SqL.of hq)
    rw [hw] at this
    cases this
    exact ⟨rfl, hv⟩
  · subst e
    obtain ⟨a', ws, e, hq, _, m⟩ := h.tupE
    cases e
    obtain ⟨w, hw, hv⟩ := m.get e0
    refine ⟨⟨ws, w, SqT.of hq, hw⟩, fun x H' hy => .inl ?_⟩
    obtain ⟨rfl, hy⟩ := hy
    have := hy ws (SqT.of hq)
    rw [hw] at this
    cases this
    exact ⟨rfl, hv⟩
  · subst e
    subst h
    have hs : i < s.length := by simpa using hi
    refine ⟨show i < (mkS s).cps.size by simpa [mkS] using hs, fun x H' hy => .inl ?_⟩
    obtain ⟨rfl, c, hc, rfl⟩ := hy
    refine ⟨rfl, ?_⟩
    have hc' : s[i]? = some c := by simpa [mkS] using hc
    have : (s.map fun c => D.str [c])[i]? = some (D.str [c]) := by rw [List.getElem?_map, hc']; rfl
    rw [e0] at this
    rw [Option.some.inj this]
    exact VR.str
  · subst e
    subst h
    have hs : i < (hi' - lo).toNat := by rw [← rngD_len]; exact hi
    refine ⟨hs, fun x H' hy => .inl ?_⟩
    obtain ⟨rfl, rfl⟩ := hy
    refine ⟨rfl, ?_⟩
    have : (rngD lo hi')[i] = .int (lo + (i : Nat)) := by simp [rngD]
    rw [this]
    exact VR.int
  · subst e
    subst e2
    obtain ⟨a', ws, e, hq, _, m⟩ := h.lstE
    cases e
    have hi2 : i < xs.length := by rw [enuL_len] at hi; exact hi
    have e1 : xs[i]? = some xs[i] := List.getElem?_eq_getElem hi2
    obtain ⟨w, hw, hv⟩ := m.get e1
    refine ⟨⟨ws, w, SqL.of hq, hw⟩, fun x H' hy => .inr ?_⟩
    obtain ⟨p, w', rfl, np, rfl, hy⟩ := hy
    have := hy ws (SqL.of hq)
    rw [hw] at this
    cases this
    refine ⟨p, .int (i : Nat), xs[i], .int (i : Nat), w, np, rfl, rfl, ?_, VR.int, hv⟩
    have e3 := enuL_get xs 0 i
    rw [e1, e0] at e3
    have e3 := Option.some.inj e3
    rw [e3, Nat.zero_add]
  · subst e
    subst e2
    obtain ⟨a', ws, e, hq, _, m⟩ := h.lstE
    cases e
    obtain ⟨b', ws2, e, hq2, _, m2⟩ := h2.lstE
    cases e
    obtain ⟨u, v, g1, g2, g3⟩ := zipL_get xs ys i hi
    obtain ⟨w, hw, hv⟩ := m.get g1
    obtain ⟨w2, hw2, hv2⟩ := m2.get g2
    refine ⟨⟨ws, ws2, w, w2, SqL.of hq, SqL.of hq2, hw, hw2⟩, fun x H' hy => .inr ?_⟩
    obtain ⟨p, x1, y1, rfl, np, rfl, hy1, hy2⟩ := hy
    have z1 := hy1 ws (SqL.of hq)
    rw [hw] at z1
    cases z1
    have z2 := hy2 ws2 (SqL.of hq2)
    rw [hw2] at z2
    cases z2
    rw [g3] at e0
    exact ⟨p, u, v, w, w2, np, rfl, rfl, (Option.some.inj e0).symm, hv, hv2⟩
theorem JD.turn (r : Rel K cl O ro ρ ts σ ws f H) (h : JD K cl (Av O f) H J ds) {i : Nat} (hi : i < ds.length) : J.go i H ∧ ∀ x H', J.yld i H x H' → Ext f H f H' ∧ Rel K cl O ro ρ ts σ ws f H' ∧ JD K cl (Av O f) H' J ds ∧ VR K cl (Av O f) H' (ds[i]) x := by
  obtain ⟨h1, h2⟩ := JD.turn0 h hi
  refine ⟨h1, fun x H' hy => ?_⟩
  rcases h2 x H' hy with ⟨rfl, hv⟩ | ⟨p, u1, u2, w1, w2, np, rfl, rfl, e, hv1, hv2⟩
  · exact ⟨Ext.refl f H', r, h, hv⟩
  · obtain ⟨e1, r1, n1, st⟩ := r.alloc (o := .tup [w1, w2]) np
    refine ⟨e1, r1, h.stp st, ?_⟩
    rw [e]
    unfold VR
    exact ⟨p, _, rfl, upd_same, n1, VRs.cons (VR.stp st _ _ hv1) (VRs.cons (VR.stp st _ _ hv2) VRs.nil)⟩
theorem JD.stop (h : JD K cl A H J ds) {i : Nat} (hi : ds.length ≤ i) : J.stop i H := by
  rcases h with ⟨a, e, h⟩ | ⟨a, e, h⟩ | ⟨s, e, h⟩ | ⟨lo, hi', e, h⟩ | ⟨a, xs, e, h, e2⟩ | ⟨a, b, xs, ys, e, h, h2, e2⟩
  · subst e
    obtain ⟨a', ws, e, hq, _, m⟩ := h.lstE
    cases e
    exact ⟨ws, SqL.of hq, by rw [← m.len]; exact hi⟩
  · subst e
    obtain ⟨a', ws, e, hq, _, m⟩ := h.tupE
    cases e
    exact ⟨ws, SqT.of hq, by rw [← m.len]; exact hi⟩
  · subst e
    subst h
    show (mkS s).cps.size ≤ i
    simpa [mkS] using hi
  · subst e
    subst h
    show (hi' - lo).toNat ≤ i
    rw [← rngD_len]
    exact hi
  · subst e
    subst e2
    obtain ⟨a', ws, e, hq, _, m⟩ := h.lstE
    cases e
    exact ⟨ws, SqL.of hq, by rw [← m.len, ← enuL_len xs 0]; exact hi⟩
  · subst e
    subst e2
    obtain ⟨a', ws, e, hq, _, m⟩ := h.lstE
    cases e
    obtain ⟨b', ws2, e, hq2, _, m2⟩ := h2.lstE
    cases e
    refine ⟨ws, ws2, SqL.of hq, SqL.of hq2, ?_⟩
    rw [zipL_len] at hi
    rw [← m.len, ← m2.len]
    omega
end
section
variable (t : T) (F : String → List SV → Cr) (cl : String → Option Addr)
def GI (K : PySem.W.Frag) (O : Addr → Prop) (ro : List (Nat × V)) (W : WX) (ts : List SV) (σ : L2.St) (ws : List V) (f : List Addr) (H : Hp) (r : R (List D)) (Q : It → Hp → Prop) : Prop := match r with
  | .ok ds ρ' => ∀ J H' f', Ext f H f' H' → Rel K cl O ro ρ' ts σ ws f' H' → JD K cl (Av O f') H' J ds → Q J H'
  | .exc x ρ' => ∀ c d H' f', Ext f H f' H' → Rel K cl O ro ρ' ts σ ws f' H' → XR K cl (Av O f') H' x c d → W c d σ H'
  | .no => False
def tI (K : PySem.W.Frag) (O : Addr → Prop) (ro : List (Nat × V)) (W : WX) (g : Env → R (List D)) : TI := fun σ H R => ∃ ρ ts ws f, Rel K cl O ro ρ ts σ ws f H ∧ GI cl K O ro W ts σ ws f H (g ρ) R
def PIp (e : E) : Prop := ∀ (X : Cx) (W : WX) (O : Addr → Prop) (ro : List (Nat × V)) (x tg : Expr), Sd X t F cl W → ck X.N e true X.env.scope x = true → enuOk e tg = true → PI X tg x (tI cl X.K O ro W (evi t F e))
end
section
variable {t : T} {F : String → List SV → Cr} {cl : String → Option Addr} {X : Cx} {W : WX} {O : Addr → Prop} {ro : List (Nat × V)} {x tg : Expr}
def iAny (K : PySem.W.Frag) (te : TE) : TI := fun σ H R => te σ H fun x H1 => (∃ a, x = .ref a ∧ (∃ xs, SqL K H1 a xs) ∧ R (Itl K a) H1) ∨ (∃ a, x = .ref a ∧ (∃ xs, SqT K H1 a xs) ∧ R (Itt K a) H1) ∨ ∃ y, x = .str y ∧ R (Its y) H1
theorem PI.imp {u u' : TI} (h : PI X tg x u) (k : ∀ σ H R, u' σ H R → u σ H R) : PI X tg x u' := ⟨fun pins s σ H R I q => h.run pins s σ H R I (k σ H R q)⟩
theorem pi_any {te : TE} (he : PE X x te) : PI X tg x (iAny X.K te) := by
  refine ⟨fun pins s σ H R I h => ?_⟩
  refine thn (he.run pins s σ H _ I h) fun v s1 ⟨y, H1, I1, r1, h⟩ => ?_
  rcases h with ⟨a, e, ⟨xs, hq⟩, q⟩ | ⟨a, e, ⟨xs, hq⟩, q⟩ | ⟨z, e, q⟩
  · subst e
    cases r1
    obtain ⟨its, rv, p, hz⟩ := I1.list hq
    exact wpAny_pyIter_list p.isList (pi_one (tk := s1.toks) I1 _ (turn_list a _) ⟨_, Heap.get?_push_size _ rfl, rfl, rfl⟩ q)
  · subst e
    cases r1
    obtain ⟨its, rv, p, hz⟩ := I1.tuple hq
    exact wpAny_pyIter_tuple (show s1.heap.IsTuple a its.toArray from p) (pi_one (tk := s1.toks) I1 _ (turn_tuple a _) ⟨_, Heap.get?_push_size _ rfl, rfl, rfl⟩ q)
  · subst e
    obtain ⟨t, rfl⟩ := r1
    cases ha : z.cps.all (· < 128)
    · exact wpAny_pyIter_wide ha (pi_one (tk := s1.toks) I1 _ (turn_str _ z t "str_iterator" (.inr rfl)) ⟨_, Heap.get?_push_size _ rfl, rfl, rfl⟩ q)
    · exact wpAny_pyIter_ascii ha (pi_one (tk := s1.toks) I1 _ (turn_str _ z t "str_ascii_iterator" (.inl rfl)) ⟨_, Heap.get?_push_size _ rfl, rfl, rfl⟩ q)
theorem i_of {e : E} (he : PEp t F cl e) (hb : ∀ N sc x, ck N e true sc x = true → ck N e false sc x = true) : PIp t F cl e := by
  intro X W O ro x tg S h hen
  refine PI.imp (pi_any (he X W O ro x S (hb _ _ _ h))) fun σ H R q => ?_
  obtain ⟨ρ, ts, ws, f, r, q⟩ := q
  refine ⟨ρ, ts, ws, f, r, ?_⟩
  unfold evi at q
  cases e0 : ev t F e ρ with
  | ok s ρ' =>
    rw [e0] at q
    intro v H' f' ex r'
    obtain ⟨f2, ex2, r2⟩ := r'.freeze
    have hv := r2.top
    obtain ⟨f3, ex3, r3⟩ := r2.pop
    have hv3 : VR X.K cl (Av O f3) H' (Kn.frz s) v := VR.stp (Stp.ext ex3 (fun _ h => h) fun a h => .inl h) _ _ hv
    have q : GI cl X.K O ro W ts σ ws f H (Kn.R.of (itemsD (Kn.frz s)) ρ') R := q
    have ex' := (ex.trans ex2).trans ex3
    cases hs : itemsD (Kn.frz s) with
    | none => rw [hs] at q; exact q.elim
    | some ds =>
      rw [hs] at q
      unfold itemsD at hs
      split at hs
      · rename_i xs es
        cases hs
        rw [es] at hv3
        have hv4 := hv3
        obtain ⟨a, ws', rfl, hq, _, m⟩ := hv3.lstE
        exact .inl ⟨a, rfl, ⟨ws', SqL.of hq⟩, q _ H' f3 ex' r3 (.inl ⟨a, rfl, hv4⟩)⟩
      · rename_i xs es
        cases hs
        rw [es] at hv3
        have hv4 := hv3
        obtain ⟨a, ws', rfl, hq, _, m⟩ := hv3.tupE
        exact .inr (.inl ⟨a, rfl, ⟨ws', SqT.of hq⟩, q _ H' f3 ex' r3 (.inr (.inl ⟨a, rfl, hv4⟩))⟩)
      · rename_i xs es
        cases hs
        rw [es] at hv3
        exact .inr (.inr ⟨_, hv3.strE, q _ H' f3 ex' r3 (.inr (.inr (.inl ⟨xs, rfl, rfl⟩)))⟩)
      · cases hs
  | exc y ρ' => rw [e0] at q; exact q
  | no => rw [e0] at q; exact q
theorem VRs.one {K : PySem.W.Frag} {A : Addr → Prop} {H : Hp} {x : D} {vs : List V} (m : VRs K cl A H [x] vs) : ∃ v, vs = [v] ∧ VR K cl A H x v := by
  unfold VRs at m
  obtain ⟨w, ws', rfl, q, m⟩ := m
  unfold VRs at m
  subst m
  exact ⟨w, rfl, q⟩
theorem i_rng {a : E} (ha : PEp t F cl a) : PIp t F cl (.rng a) := by
  intro X W O ro x tg S h hen
  unfold ck at h
  split at h
  · obtain ⟨h1, h2⟩ := bf_split h
    obtain ⟨h2, h3⟩ := bf_split h2
    unfold gnB at h1
    obtain ⟨h4, h5⟩ := bf_split h1
    obtain ⟨h5, h6⟩ := bf_split h5
    have h4 := of_decide_eq_true h4
    subst h4
    refine PI.imp (pi_range1 (glB_ok h5) S.rng (pa_cons (ha X W O ro _ S h2) pa_nil (star_cons h3)) (by rw [star_cons h3]; rfl)) fun σ H R q => ?_
    obtain ⟨ρ, ts, ws, f, r, q⟩ := q
    refine ⟨ρ, ts, ws, f, r, ?_⟩
    have e0 : evi t F (.rng a) ρ = (ev t F a ρ).bind fun x ρ => (match Kn.frz x with
      | .int j => if -1000000000000 < j ∧ j < 1000000000000 then .ok (rngD 0 j) ρ else .no
      | _ => .no) := by
      unfold evi
      simp only [ev]
      cases ev t F a ρ with
      | ok s ρ' =>
        simp only [Kn.R.bind]
        cases Kn.frz s with
        | int j =>
          by_cases hj : -1000000000000 < j ∧ j < 1000000000000
          · simp only [if_pos hj]
            rfl
          · simp only [if_neg hj]
        | _ => rfl
      | exc y ρ' => rfl
      | no => rfl
    rw [e0] at q
    cases e1 : ev t F a ρ with
    | ok s ρ' =>
      rw [e1] at q
      intro v H' f' ex r'
      obtain ⟨f2, ex2, r2⟩ := r'.freeze
      have hv := r2.top
      obtain ⟨f3, ex3, r3⟩ := r2.pop
      have ex' := (ex.trans ex2).trans ex3
      have q : GI cl X.K O ro W ts σ ws f H (match Kn.frz s with
        | .int j => if -1000000000000 < j ∧ j < 1000000000000 then .ok (rngD 0 j) ρ' else .no
        | _ => .no) R := q
      split at q
      · rename_i j ej
        split at q
        · rename_i hj
          rw [ej] at hv
          refine ⟨j, by rw [hv.intE], by omega, by omega, ?_⟩
          have := q (Itr 0 (j - 0).toNat) H' f3 ex' r3 (.inr (.inr (.inr (.inl ⟨0, j, rfl, rfl⟩))))
          simpa using this
        · exact q.elim
      · exact q.elim
    | exc y ρ' => rw [e1] at q; exact q
    | no => rw [e1] at q; exact q
  · cases h
theorem i_enu {a : E} (ha : PEp t F cl a) : PIp t F cl (.enu a) := by
  intro X W O ro x tg S h hen
  unfold ck at h
  split at h
  · obtain ⟨h1, h2⟩ := bf_split h
    obtain ⟨h2, h3⟩ := bf_split h2
    unfold gnB at h1
    obtain ⟨h4, h5⟩ := bf_split h1
    obtain ⟨h5, h6⟩ := bf_split h5
    have h4 := of_decide_eq_true h4
    subst h4
    unfold enuOk at hen
    dsimp only at hen
    split at hen
    · refine PI.imp (pi_enum (glB_ok h5) S.enm (pa_cons (ha X W O ro _ S h2) pa_nil (star_cons h3)) (by rw [star_cons h3]; rfl)) fun σ H R q => ?_
      obtain ⟨ρ, ts, ws, f, r, q⟩ := q
      refine ⟨ρ, ts, ws, f, r, ?_⟩
      have e0 : evi t F (.enu a) ρ = (ev t F a ρ).bind fun x ρ => (match Kn.frz x with
        | .lst xs => .ok (enuL xs 0) ρ
        | _ => .no) := by
        unfold evi
        simp only [ev]
        cases ev t F a ρ with
        | ok s ρ' =>
          simp only [Kn.R.bind]
          cases Kn.frz s with
          | lst xs => rfl
          | _ => rfl
        | exc y ρ' => rfl
        | no => rfl
      rw [e0] at q
      cases e1 : ev t F a ρ with
      | ok s ρ' =>
        rw [e1] at q
        intro v H' f' ex r'
        obtain ⟨f2, ex2, r2⟩ := r'.freeze
        have hv := r2.top
        obtain ⟨f3, ex3, r3⟩ := r2.pop
        have ex' := (ex.trans ex2).trans ex3
        have hv3 : VR X.K cl (Av O f3) H' (Kn.frz s) v := VR.stp (Stp.ext ex3 (fun _ h => h) fun a h => .inl h) _ _ hv
        have q : GI cl X.K O ro W ts σ ws f H (match Kn.frz s with
          | .lst xs => .ok (enuL xs 0) ρ'
          | _ => .no) R := q
        split at q
        · rename_i xs ej
          rw [ej] at hv3
          have hv4 := hv3
          obtain ⟨a0, ws', rfl, hq, _, m⟩ := hv3.lstE
          exact ⟨a0, ws', rfl, SqL.of hq, q _ H' f3 ex' r3 (.inr (.inr (.inr (.inr (.inl ⟨a0, xs, rfl, hv4, rfl⟩)))))⟩
        · exact q.elim
      | exc y ρ' => rw [e1] at q; exact q
      | no => rw [e1] at q; exact q
    · cases hen
  · cases h
theorem i_zip {as : E} (hs : PAp t F cl as) : PIp t F cl (.zip as) := by
  intro X W O ro x tg S h hen
  unfold ck at h
  split at h
  · obtain ⟨h1, h2⟩ := bf_split h
    unfold gnB at h1
    obtain ⟨h4, h5⟩ := bf_split h1
    obtain ⟨h5, h6⟩ := bf_split h5
    have h4 := of_decide_eq_true h4
    subst h4
    have st := cks_st h2
    rw [List.all_cons, Bool.and_eq_true] at st
    unfold enuOk at hen
    dsimp only at hen
    split at hen
    · refine PI.imp (pi_zip (glB_ok h5) S.zp (hs X W O ro _ S h2) (star_cons st.1) (star_any st.2)) fun σ H R q => ?_
      obtain ⟨ρ, ts, ws, f, r, q⟩ := q
      refine ⟨ρ, ts, ws, f, r, ?_⟩
      have e0 : evi t F (.zip as) ρ = (evs t F as ρ).bind fun vs ρ => (match zip2 (frzs vs) with
        | some ds => .ok ds ρ
        | none => .no) := by
        unfold evi
        simp only [ev]
        cases evs t F as ρ with
        | ok ss ρ' =>
          simp only [Kn.R.bind]
          cases zip2 (frzs ss) <;> rfl
        | exc y ρ' => rfl
        | no => rfl
      rw [e0] at q
      cases e1 : evs t F as ρ with
      | ok ss ρ' =>
        rw [e1] at q
        intro vs H' f' hl ex r'
        obtain ⟨f3, ex3, r3, m⟩ := Rel.freezes hl r'
        have q : GI cl X.K O ro W ts σ ws f H (match zip2 (frzs ss) with
          | some ds => .ok ds ρ'
          | none => .no) R := q
        cases hz : zip2 (frzs ss) with
        | none => rw [hz] at q; exact q.elim
        | some ds =>
          rw [hz] at q
          unfold zip2 at hz
          split at hz
          · rename_i xs ys es
            cases hz
            rw [es] at m
            unfold VRs at m
            obtain ⟨w, ws', rfl, q1, m⟩ := m
            unfold VRs at m
            obtain ⟨w2, ws2, rfl, q2, m⟩ := m
            unfold VRs at m
            subst m
            have g1 := q1
            have g2 := q2
            obtain ⟨a, wa, rfl, hA, _, _⟩ := q1.lstE
            obtain ⟨b, wb, rfl, hB, _, _⟩ := q2.lstE
            exact ⟨a, b, wa, wb, rfl, SqL.of hA, SqL.of hB, q _ H' f3 (ex.trans ex3) r3 (.inr (.inr (.inr (.inr (.inr ⟨a, b, xs, ys, rfl, g1, g2, rfl⟩)))))⟩
          · cases hz
      | exc y ρ' => rw [e1] at q; exact q
      | no => rw [e1] at q; exact q
    · cases hen
  · cases h
end
end Kn

set_option Elab.async false
set_option linter.all false
set_option maxRecDepth 100000
set_option maxHeartbeats 4000000
/-! Snd4: targets, comprehensions, all expressions. -/
namespace Kn
open PySem L2
def gsOf : List Nat → TGs
  | [] => gNil
  | i :: is => gCons (gName i) (gsOf is)
def gOf (K : PySem.W.Frag) : Tg → TG
  | .nm i => gName i
  | .tp is => gTup K is.length (gsOf is)
theorem assign_names {N : List Str} {sc : Scope} {env : PySem.Env} : ∀ {is : List Nat} {xs : List Expr}, ckN N sc is xs = true → (assignEach xs env).length = is.length ∧ (assignEach xs env).findIdx? (·.1) = none
  | [], [], _ => ⟨rfl, rfl⟩
  | i :: is, .Name x p :: xs, h => by
    unfold ckN at h
    obtain ⟨_, h⟩ := bf_split h
    obtain ⟨_, h⟩ := bf_split h
    obtain ⟨h1, h2⟩ := assign_names (env := env) h
    refine ⟨?_, ?_⟩
    · show (assignEach xs env).length + 1 = is.length + 1
      rw [h1]
    · show ((false, assign (.Name x p) env) :: assignEach xs env).findIdx? (·.1) = none
      rw [List.findIdx?_cons]
      simp [h2]
  | [], _ :: _, h => by unfold ckN at h; cases h
  | _ :: _, [], h => by unfold ckN at h; cases h
section
variable {t : T} {F : String → List SV → Cr} {cl : String → Option Addr} {X : Cx} {W : WX} {O : Addr → Prop} {ro : List (Nat × V)} {x tg : Expr}
def LocF (X : Cx) (x : Str) : Prop := L2.Loc X.env.scope x ∧ (X.fn x = true ∨ X.env.scope.names.lookup x = some .local)
theorem pgs_of {sc : Scope} (hN : X.N.Nodup) (hl : ∀ x, locB sc x = true → LocF X x) : ∀ {is : List Nat} {xs : List Expr}, ckN X.N sc is xs = true → PGs X xs (gsOf is)
  | [], [], _ => pgs_nil
  | i :: is, .Name x p :: xs, h => by
    unfold ckN at h
    obtain ⟨h1, h⟩ := bf_split h
    obtain ⟨h2, h⟩ := bf_split h
    exact pgs_cons (pg_name hN (of_decide_eq_true h1) (hl x h2).1 (hl x h2).2) (pgs_of hN hl h)
  | [], _ :: _, h => by unfold ckN at h; cases h
  | _ :: _, [], h => by unfold ckN at h; cases h
theorem pg_of {sc : Scope} {g : Tg} (hc : X.calm = true) (hN : X.N.Nodup) (hl : ∀ x, locB sc x = true → LocF X x) (h : ckG X.N sc g tg = true) : PG X tg (gOf X.K g) := by
  unfold ckG at h
  split at h
  · obtain ⟨h1, h2⟩ := bf_split h
    exact pg_name hN (of_decide_eq_true h1) (hl _ h2).1 (hl _ h2).2
  · obtain ⟨h1, h2⟩ := bf_split h
    obtain ⟨a1, a2⟩ := assign_names (env := X.env) h1
    exact pg_tup hc (pgs_of hN hl h1) a1 a2
  · cases h
theorem gs_ok {K : PySem.W.Frag} : ∀ {is : List Nat} {xs : List D} {vs : List V} {ρ : Env} {ts : List SV} {σ : L2.St} {ws : List V} {f : List Addr} {H : Hp} {Q : L2.St → Hp → Prop}, is.length = xs.length → Rel K cl O ro ρ ts σ ws f H → VRs K cl (Av O f) H xs vs → (∀ p ∈ ro, p.1 ∉ is) →
    (∀ σ2 f', Ext f H f' H → Rel K cl O ro ((is.zip xs).foldl (fun ρ p => ρ.set p.1 (some (.d p.2))) ρ) ts σ2 ws f' H → (∀ vs, (∀ i ∈ is, i ∈ vs) → wipe σ2 vs = wipe σ vs) → Q σ2 H) → gsOf is vs σ H Q
  | [], [], vs, ρ, ts, σ, ws, f, H, Q, _, r, m, _, k => by
    unfold VRs at m
    subst m
    exact ⟨rfl, k σ f (Ext.refl f H) r fun _ _ => rfl⟩
  | i :: is, x :: xs, vs, ρ, ts, σ, ws, f, H, Q, hl, r, m, hr, k => by
    unfold VRs at m
    obtain ⟨w, ws', rfl, q, m⟩ := m
    obtain ⟨f1, e1, s1, r1⟩ := r.setD (i := i) q fun p hp z => hr p hp (by rw [z]; exact List.mem_cons_self)
    refine ⟨w, ws', rfl, ?_⟩
    refine gs_ok (by simpa using hl) r1 (VRs.stp (Stp.less s1) _ _ m) (fun p hp z => hr p hp (List.mem_cons_of_mem _ z)) fun σ2 f2 e2 r2 hw => ?_
    refine k σ2 f2 (e1.trans e2) r2 fun vs hvs => ?_
    rw [hw vs fun j hj => hvs j (List.mem_cons_of_mem _ hj), wipe_set σ (hvs i List.mem_cons_self)]
  | [], _ :: _, _, _, _, _, _, _, _, _, hl, _, _, _, _ => by cases hl
  | _ :: _, [], _, _, _, _, _, _, _, _, hl, _, _, _, _ => by cases hl
theorem g_ok {K : PySem.W.Frag} {g : Tg} {d : D} {v : V} {ρ ρ2 : Env} {ts : List SV} {σ : L2.St} {ws : List V} {f : List Addr} {H : Hp} {Q : L2.St → Hp → Prop} (r : Rel K cl O ro ρ ts σ ws f H) (hv : VR K cl (Av O f) H d v) (hr : ∀ p ∈ ro, p.1 ∉ slotsT g) (hb : bindT g d ρ = some ρ2)
    (k : ∀ σ2 f', Ext f H f' H → Rel K cl O ro ρ2 ts σ2 ws f' H → wipe σ2 (slotsT g) = wipe σ (slotsT g) → Q σ2 H) : gOf K g v σ H Q := by
  unfold bindT at hb
  split at hb
  · rename_i i
    cases hb
    obtain ⟨f1, e1, s1, r1⟩ := r.setD (i := i) hv fun p hp z => hr p hp (by rw [z]; exact List.mem_cons_self)
    exact k _ f1 e1 r1 (wipe_set σ List.mem_cons_self)
  · rename_i is xs
    split at hb
    · rename_i hl
      cases hb
      obtain ⟨a, ws', rfl, hq, _, m⟩ := hv.tupE
      exact ⟨a, ws', rfl, SqT.of hq, by rw [← m.len, hl], gs_ok hl r m hr fun σ2 f' e r' hw => k σ2 f' e r' (hw _ fun i hi => hi)⟩
    · cases hb
  · cases hb
/-! ### comprehensions -/
theorem wipe_wipe (σ : L2.St) (vs : List Nat) : wipe (wipe σ vs) vs = wipe σ vs := by
  apply List.ext_getElem?
  intro j
  rw [wipe_get, wipe_length, wipe_get]
  by_cases hj : j ∈ vs ∧ j < σ.length
  · rw [if_pos hj, if_pos hj]
  · rw [if_neg hj]
/-- a turn's outcome -/
def tO (K : PySem.W.Frag) (cl : String → Option Addr) (O : Addr → Prop) (W : WX) (g : Env → R (Option SV)) (σ : L2.St) (H : Hp) (Y : VK) (N : Hp → Prop) : Prop := ∃ ρ ts ws f, Rel K cl O [] ρ ts σ ws f H ∧ (match g ρ with
  | .ok (some s) ρ' => ∀ y H' f', Ext f H f' H' → Rel K cl O [] ρ' (s :: ts) σ (y :: ws) f' H' → Y y H'
  | .ok none ρ' => ∀ H' f', Ext f H f' H' → Rel K cl O [] ρ' ts σ ws f' H' → N H'
  | .exc x ρ' => ∀ c d H' f', Ext f H f' H' → Rel K cl O [] ρ' ts σ ws f' H' → XR K cl (Av O f') H' x c d → W c d σ H'
  | .no => False)
theorem own_map {N : List Str} {g : Tg} : (ownT N g).map (·.2) = slotsT g := by
  unfold ownT
  rw [List.map_map]
  exact List.map_id' _
theorem lc_ok {K : PySem.W.Frag} {g : Tg} {stepF : Env → R (Option SV)} {gi : Env → R (List D)} {tt : TT} {te : TE} {σ : L2.St} {H : Hp} {Q : VK}
    (hstep : ∀ σ2 H2 Y N, tO K cl O (WB W σ) stepF σ2 H2 Y N → tt σ2 H2 fun b H3 => if b = true then te σ2 H3 Y else N H3)
    (h : tE K cl O ro W (fun ρ => (gi ρ).bind fun ds ρ => if freeAt ρ (slotsT g) then
      outL ρ (slotsT g) (compL (fun d ρ' => match bindT g d (wipeE ρ' (slotsT g)) with
        | some ρ₂ => stepF ρ₂
        | none => .no) ds ρ [])
      else .no) σ H Q) : tLc (tI cl K O ro W gi) (gOf K g) tt te (slotsT g) σ H Q := by
  obtain ⟨ρ, ts, ws, f, r, q⟩ := h
  dsimp only at q
  refine ⟨ρ, ts, ws, f, r, ?_⟩
  cases e : gi ρ with
  | exc x ρ' => rw [e] at q; exact q
  | no => rw [e] at q; exact q
  | ok ds ρ1 =>
    rw [e] at q
    have q : GE K cl O ro W ts σ ws f H (if freeAt ρ1 (slotsT g) then
      outL ρ1 (slotsT g) (compL (fun d ρ' => match bindT g d (wipeE ρ' (slotsT g)) with
        | some ρ₂ => stepF ρ₂
        | none => .no) ds ρ1 [])
      else .no) Q := q
    generalize hst : (fun d ρ' => match bindT g d (wipeE ρ' (slotsT g)) with
        | some ρ₂ => stepF ρ₂
        | none => .no) = step at q
    by_cases hf : freeAt ρ1 (slotsT g) = true
    · rw [if_pos hf] at q
      generalize hrr : compL step ds ρ1 [] = rr at q
      intro J H1 f1 ex1 r1 j1
      intro D nD
      obtain ⟨fw, ew, sw, rw1⟩ := r1.noRo.wipe (slotsT g)
      obtain ⟨fl, el, rl⟩ := Rel.newLst (ss := []) (vs := []) (ts := ts) (ws := ws) rfl rw1 nD
      have st1 : Stp (Av O f1) H1 (Av O fl) (upd H1 D (.lst [])) := fun a u h n => by
        obtain ⟨h2, h3⟩ := (Stp.less (O := O) (H := H1) sw) a u h n
        refine ⟨el.1 a u h2 (fun m => h3 (.inr m)), fun m => ?_⟩
        rcases m with m | m
        · exact h3 (.inl m)
        · rcases el.2 a m with z | z
          · exact h3 (.inr z)
          · rw [h2] at z; cases z
      refine ⟨fun i m H' => m = ds.length - i ∧ i ≤ ds.length ∧ ∃ ρi acc fi, Ext f1 H1 fi H' ∧ Rel K cl O [] (wipeE ρi (slotsT g)) (.lst acc :: ts) (wipe σ (slotsT g)) (.ref D :: ws) fi H' ∧ compL step (ds.drop i) ρi acc = rr ∧ JD K cl (Av O fi) H' J ds,
        ⟨ds.length, by simp, Nat.zero_le _, ρ1, [], fl, ew.trans el, rl, hrr, j1.stp st1⟩, ?_⟩
      rintro i m H2 ⟨rfl, hi, ρi, acc, fi, exi, ri, hc, ji⟩
      by_cases hlt : i < ds.length
      · refine .inr ⟨(ji.turn ri hlt).1, fun H' => ∃ ρi acc fi, Ext f1 H1 fi H' ∧ Rel K cl O [] (wipeE ρi (slotsT g)) (.lst acc :: ts) (wipe σ (slotsT g)) (.ref D :: ws) fi H' ∧ compL step (ds.drop (i + 1)) ρi acc = rr ∧ JD K cl (Av O fi) H' J ds,
          fun H' p => ⟨ds.length - (i + 1), by omega, rfl, hlt, p⟩, fun x H' hy => ?_⟩
        obtain ⟨ext, rit, jit, hv⟩ := (ji.turn ri hlt).2 x H' hy
        have exi := exi.trans ext
        have ri := rit
        have ji := jit
        rw [List.drop_eq_getElem_cons hlt] at hc
        unfold compL at hc
        have hs0 : step ds[i] ρi = match bindT g ds[i] (wipeE ρi (slotsT g)) with
          | some ρ₂ => stepF ρ₂
          | none => .no := by rw [← hst]
        cases hb : bindT g ds[i] (wipeE ρi (slotsT g)) with
        | none =>
          rw [hb] at hs0
          rw [hs0] at hc
          rw [← hc] at q
          exact q.elim
        | some ρ2 =>
          rw [hb] at hs0
          have hs0 : step ds[i] ρi = stepF ρ2 := hs0
          refine g_ok ri hv (fun p hp => by cases hp) hb fun σ2 f2 ex2 r2 hw => ⟨by rw [hw, wipe_wipe], ?_⟩
          have hw2 : wipe σ2 (slotsT g) = wipe σ (slotsT g) := by rw [hw, wipe_wipe]
          refine hstep σ2 _ _ _ ⟨ρ2, _, _, f2, r2, ?_⟩
          cases hs : stepF ρ2 with
          | no => rw [hs0, hs] at hc; rw [← hc] at q; exact q.elim
          | exc y ρ3 =>
            rw [hs0, hs] at hc
            have hc : Kn.R.exc y ρ3 = rr := hc
            rw [← hc] at q
            have q : GE K cl O ro W ts σ ws f H (.exc y (backE ρ1 (wipeE ρ3 (slotsT g)) (slotsT g))) Q := q
            intro c d H3 f3 ex3 r3 xr
            obtain ⟨f4, e4, r4⟩ := r3.pop
            obtain ⟨f5, e5, s5, r5⟩ := r4.wipe (slotsT g)
            rw [hw2] at r5
            have exx := ((ex2.trans ex3).trans e4).trans e5
            have fr := free_at hf r1
            have st2 : Stp (Av O f1) H1 (Av O f5) H3 := Stp.ext (exi.trans exx) (fun _ h => h) fun a h => .inl h
            obtain ⟨f6, e6, s6, r6⟩ := r5.restore (ρ₁ := ρ1) (σ₁ := σ) (slotsT g) fun k hk => O1.stp st2 (fun _ h => by cases h) (fr k hk)
            rw [backS_wipe] at r6
            exact q c d H3 f6 ((ex1.trans (exi.trans exx)).trans e6) (r6.withRo r1.roAt) (xr.stp (Stp.ext ((e4.trans e5).trans e6) (fun _ h => h) fun a h => .inl h))
          | ok o ρ3 =>
            rw [hs0, hs] at hc
            cases o with
            | none =>
              intro H3 f3 ex3 r3
              obtain ⟨f4, e4, s4, r4⟩ := r3.wipe (slotsT g)
              rw [hw2] at r4
              have exx := (ex2.trans ex3).trans e4
              exact ⟨ρ3, acc, f4, exi.trans exx, r4, hc, ji.stp (Stp.ext exx (fun _ h => h) fun a h => .inl h)⟩
            | some s =>
              have hc : (if acc.length < lim then compL step (ds.drop (i + 1)) ρ3 (acc ++ [s]) else .no) = rr := hc
              by_cases hl : acc.length < lim
              · rw [if_pos hl] at hc
                intro y H3 f3 ex3 r3
                obtain ⟨wa, f4, h4, hl4, ex4, r4⟩ := r3.appT
                obtain ⟨f5, e5, s5, r5⟩ := r4.wipe (slotsT g)
                rw [hw2] at r5
                have exx := ((ex2.trans ex3).w.trans ex4).trans e5.w
                exact ⟨wa, h4, by rw [← hl4]; exact Nat.lt_of_lt_of_le hl (by decide), ρ3, acc ++ [s], f5, (Ext.upd (exi.trans (ex2.trans ex3)) nD ex4).trans e5, r5, hc, ji.stp (Stp.extW exx (fun _ h => h) fun a h => .inl h)⟩
              · rw [if_neg hl] at hc
                rw [← hc] at q
                exact q.elim
      · have ei : i = ds.length := by omega
        subst ei
        rw [List.drop_length] at hc
        have hc : Kn.R.ok acc ρi = rr := hc
        rw [← hc] at q
        have q : GE K cl O ro W ts σ ws f H (.ok (.lst acc) (backE ρ1 (wipeE ρi (slotsT g)) (slotsT g))) Q := q
        refine .inl ⟨ji.stop (Nat.le_refl _), ?_⟩
        have fr := free_at hf r1
        have st2 : Stp (Av O f1) H1 (Av O fi) H2 := Stp.ext exi (fun _ h => h) fun a h => .inl h
        obtain ⟨f6, e6, s6, r6⟩ := ri.restore (ρ₁ := ρ1) (σ₁ := σ) (slotsT g) fun k hk => O1.stp st2 (fun _ h => by cases h) (fr k hk)
        rw [backS_wipe] at r6
        exact q _ H2 f6 ((ex1.trans exi).trans e6) (r6.withRo r1.roAt)
    · rw [if_neg hf] at q
      exact q.elim
theorem Sd.blk (S : Sd X t F cl W) {σ : L2.St} {s : Shared} {H : Hp} {scope : Scope} {cenv : PySem.Env} {fp : List Addr} {xe : Value → Shared → Prop} (hf : Fly (blkE X s H scope cenv fp xe) (WB W σ)) : Sd (blkE X s H scope cenv fp xe) t F cl (WB W σ) where
  calm := S.calm
  nd := S.nd
  hu := S.hu
  glob := S.glob
  blt := S.blt
  tyn := S.tyn
  rng := S.rng
  enm := S.enm
  isa := S.isa
  fn := S.fn
  meth := S.meth
  init := S.init
  ini0 := S.ini0
  zp := S.zp
  fld := S.fld
  isx := S.isx
  xcl := S.xcl
  xmk := S.xmk
  xroom := S.xroom
  fly := hf
theorem blk_loc {scope : Scope} {sc : Scope} {x : Str} (h : locB scope x = true) : L2.Loc (relS scope sc) x ∧ ((scope.names.lookup x == some .cell) = true ∨ (relS scope sc).names.lookup x = some .local) := by
  unfold locB at h
  split at h
  · rename_i e
    have z := lookup_relS_keep (sc := sc) (k := .local) (by decide) e
    exact ⟨.inl z, .inr z⟩
  · rename_i e
    have z := lookup_relS_keep (sc := sc) (k := .cell) (by decide) e
    exact ⟨.inr z, .inl (by rw [e]; decide)⟩
  · cases h
theorem ev_comp {g : Tg} {it el : E} : ev t F (.comp g it el) = fun ρ => (evi t F it ρ).bind fun ds ρ => if freeAt ρ (slotsT g) then
      outL ρ (slotsT g) (compL (fun d ρ' => match bindT g d (wipeE ρ' (slotsT g)) with
        | some ρ₂ => (fun ρ₂ => (ev t F el ρ₂).bind fun v ρ => .ok (some v) ρ) ρ₂
        | none => .no) ds ρ [])
    else .no := by (funext ρ; unfold evi; first | (simp only [ev]; done) | (simp only [ev]; rfl))
def stepI (t : T) (F : String → List SV → Cr) (c el : E) : Env → R (Option SV) := fun ρ₂ => (ev t F c ρ₂).bind fun b ρ => (match b with
          | .d (.bl true) => (ev t F el ρ).bind fun v ρ => .ok (some v) ρ
          | .d (.bl false) => .ok none ρ
          | _ => .no)
theorem ev_cmpi {g : Tg} {it c el : E} : ev t F (.cmpi g it c el) = fun ρ => (evi t F it ρ).bind fun ds ρ => if freeAt ρ (slotsT g) then
      outL ρ (slotsT g) (compL (fun d ρ' => match bindT g d (wipeE ρ' (slotsT g)) with
        | some ρ₂ => stepI t F c el ρ₂
        | none => .no) ds ρ [])
    else .no := by (funext ρ; unfold evi; first | (simp only [ev]; done) | (simp only [ev]; rfl))
/-- what a comprehension and its store ask -/
structure LcOk (X : Cx) (cl : String → Option Addr) (O : Addr → Prop) (ro : List (Nat × V)) (W : WX) (g : Tg) (gi : Env → R (List D)) (st : Env → R (Option SV)) (e tg i : Expr) (ifs : List Expr) (scope : Scope) : Prop where
  ex : ∃ (tt : L2.St → TT) (te : L2.St → TE), PI X tg i (tI cl X.K O ro W gi) ∧ BlkOk X.N X.env.scope scope (ownT X.N g) ∧
    (∀ (s : Shared) (H : Hp) (C : Addr) (c : List (Str × Addr)) (fp : List Addr) (xe : Value → Shared → Prop), PG (blkE X s H scope (compEnvC scope c C X.env) fp xe) tg (gOf X.K g)) ∧
    (∀ (σ : L2.St) (s : Shared) (H : Hp) (C : Addr) (c : List (Str × Addr)) (fp : List Addr) (xe : Value → Shared → Prop), Fly (blkE X s H scope (compEnvC scope c C X.env) fp xe) (WB W σ) → PTs (blkE X s H scope (compEnvC scope c C X.env) fp xe) ifs (tt σ)) ∧
    (∀ (σ : L2.St) (s : Shared) (H : Hp) (C : Addr) (c : List (Str × Addr)) (fp : List Addr) (xe : Value → Shared → Prop), Fly (blkE X s H scope (compEnvC scope c C X.env) fp xe) (WB W σ) → PE (blkE X s H scope (compEnvC scope c C X.env) fp xe) e (te σ)) ∧
    (∀ x, foldedSetIterable i X.env x = pure x) ∧
    ∀ σ σ2 H2 Y N, tO X.K cl O (WB W σ) st σ2 H2 Y N → tt σ σ2 H2 fun b H3 => if b = true then te σ σ2 H3 Y else N H3
theorem LcOk.pe {g : Tg} {gi : Env → R (List D)} {st : Env → R (Option SV)} {e i : Expr} {ifs : List Expr} {scope : Scope} {pos : Pos} (S : Sd X t F cl W) (h : LcOk X cl O ro W g gi st e tg i ifs scope) :
    PE X (.ListComp e [⟨tg, i, ifs, 0⟩] scope pos) (tE X.K cl O ro W (fun ρ => (gi ρ).bind fun ds ρ => if freeAt ρ (slotsT g) then
      outL ρ (slotsT g) (compL (fun d ρ' => match bindT g d (wipeE ρ' (slotsT g)) with
        | some ρ₂ => st ρ₂
        | none => .no) ds ρ [])
      else .no)) := by
  obtain ⟨tt, te, h1, h2, h3, h4, h5, h6, h7⟩ := h.ex
  refine PE.imp (pe_lcX S.calm S.nd h1 h2 S.fly h3 h4 h5 h6) fun σ H Q q => ?_
  rw [own_map]
  exact lc_ok (h7 σ) q
theorem lc_comp {g : Tg} {it el : E} {e i : Expr} {scope : Scope} (hi : PIp t F cl it) (he : PEp t F cl el) (S : Sd X t F cl W) (h1 : ck X.N it true X.env.scope i = true) (h2 : (noSet i && enuOk it tg) = true) (h3 : blkC X.N X.env.scope scope (ownT X.N g) = true) (h4 : ckG X.N scope g tg = true) (h5 : ck X.N el false (relS scope X.env.scope) e = true) :
    LcOk X cl O ro W g (evi t F it) (fun ρ₂ => (ev t F el ρ₂).bind fun v ρ => .ok (some v) ρ) e tg i [] scope := by
  refine ⟨fun _ => tYes, fun σ => tE X.K cl O [] (WB W σ) (ev t F el), hi X W O ro i tg S h1 (bf_split h2).2, blkOk_by h3, fun s H C c fp xe => pg_of S.calm S.nd (fun x hx => blk_loc hx) h4, fun σ s H C c fp xe hf => pts_nil,
    fun σ s H C c fp xe hf => he (blkE X s H scope (compEnvC scope c C X.env) fp xe) (WB W σ) O [] e (S.blk hf) h5, fold_no (bf_split h2).1, fun σ σ2 H2 Y N h => ?_⟩
  show (if true = true then tE X.K cl O [] (WB W σ) (ev t F el) σ2 H2 Y else N H2)
  rw [if_pos rfl]
  obtain ⟨ρ, ts, ws, f, r, q⟩ := h
  dsimp only at q
  refine ⟨ρ, ts, ws, f, r, ?_⟩
  cases ee : ev t F el ρ with
  | ok s ρ' => rw [ee] at q; exact q
  | exc x ρ' => rw [ee] at q; exact q
  | no => rw [ee] at q; exact q
theorem lc_cmpi {g : Tg} {it c el : E} {e i y : Expr} {scope : Scope} (hi : PIp t F cl it) (hc : PTp t F cl c) (he : PEp t F cl el) (S : Sd X t F cl W) (h1 : ck X.N it true X.env.scope i = true) (h2 : (noSet i && enuOk it tg) = true) (h3 : blkC X.N X.env.scope scope (ownT X.N g) = true) (h4 : ckG X.N scope g tg = true) (h6 : (ck X.N c false (relS scope X.env.scope) y && (plT y || isCmp c)) = true) (h5 : ck X.N el false (relS scope X.env.scope) e = true) :
    LcOk X cl O ro W g (evi t F it) (stepI t F c el) e tg i [y] scope := by
  refine ⟨fun σ => tT cl X.K O [] (WB W σ) (ev t F c), fun σ => tE X.K cl O [] (WB W σ) (ev t F el), hi X W O ro i tg S h1 (bf_split h2).2, blkOk_by h3, fun s H C c fp xe => pg_of S.calm S.nd (fun x hx => blk_loc hx) h4,
    fun σ s H C cl' fp xe hf => pts_one (hc (blkE X s H scope (compEnvC scope cl' C X.env) fp xe) (WB W σ) O [] y (S.blk hf) (ckt_of (bf_split h6).1 (bf_split h6).2)),
    fun σ s H C c fp xe hf => he (blkE X s H scope (compEnvC scope c C X.env) fp xe) (WB W σ) O [] e (S.blk hf) h5, fold_no (bf_split h2).1, fun σ σ2 H2 Y N h => ?_⟩
  obtain ⟨ρ, ts, ws, f, r, q⟩ := h
  refine ⟨ρ, ts, ws, f, r, ?_⟩
  unfold stepI at q
  cases ee : ev t F c ρ with
  | no => rw [ee] at q; exact q
  | exc x ρ' => rw [ee] at q; exact q
  | ok s ρ' =>
    rw [ee] at q
    cases s with
    | d x =>
      cases x with
      | bl b =>
        cases b with
        | false =>
          intro H' f' ex r'
          rw [if_neg Bool.false_ne_true]
          exact q H' f' ex r'
        | true =>
          intro H' f' ex r'
          rw [if_pos rfl]
          refine ⟨_, _, _, _, r', ?_⟩
          have q : (match (ev t F el ρ').bind fun v ρ => .ok (some v) ρ with
            | .ok (some s) ρ' => ∀ y H' f', Ext f H2 f' H' → Rel X.K cl O [] ρ' (s :: ts) σ2 (y :: ws) f' H' → Y y H'
            | .ok none ρ' => ∀ H' f', Ext f H2 f' H' → Rel X.K cl O [] ρ' ts σ2 ws f' H' → N H'
            | .exc x ρ' => ∀ c d H' f', Ext f H2 f' H' → Rel X.K cl O [] ρ' ts σ2 ws f' H' → XR X.K cl (Av O f') H' x c d → WB W σ c d σ2 H'
            | .no => False) := q
          cases e2 : ev t F el ρ' with
          | ok s2 ρ2 => rw [e2] at q; exact fun y H3 f3 e3 r3 => q y H3 f3 (ex.trans e3) r3
          | exc x ρ2 => rw [e2] at q; exact fun c d H3 f3 e3 r3 xr => q c d H3 f3 (ex.trans e3) r3 xr
          | no => rw [e2] at q; exact q
      | _ => exact False.elim q
    | lst _ => exact False.elim q
    | ins _ _ _ => exact False.elim q
    | dk _ _ => exact False.elim q
theorem s_comp {g : Tg} {it el : E} (hi : PIp t F cl it) (he : PEp t F cl el) : PEp t F cl (.comp g it el) := by
  intro X W O ro x S h
  unfold ck at h
  split at h
  · obtain ⟨h1, h⟩ := bf_split h
    obtain ⟨h2, h⟩ := bf_split h
    obtain ⟨h3, h⟩ := bf_split h
    obtain ⟨h4, h5⟩ := bf_split h
    rw [ev_comp]
    exact (lc_comp hi he S h1 h2 h3 h4 h5).pe S
  · cases h
theorem s_cmpi {g : Tg} {it c el : E} (hi : PIp t F cl it) (hc : PTp t F cl c) (he : PEp t F cl el) : PEp t F cl (.cmpi g it c el) := by
  intro X W O ro x S h
  unfold ck at h
  split at h
  · obtain ⟨h1, h⟩ := bf_split h
    obtain ⟨h2, h⟩ := bf_split h
    obtain ⟨h3, h⟩ := bf_split h
    obtain ⟨h4, h⟩ := bf_split h
    obtain ⟨h6, h5⟩ := bf_split h
    rw [ev_cmpi]
    exact (lc_cmpi hi hc he S h1 h2 h3 h4 h6 h5).pe S
  · cases h
theorem i_rng2 {a b : E} (ha : PEp t F cl a) (hb : PEp t F cl b) : PIp t F cl (.rng2 a b) := by
  intro X W O ro x tg S h hen
  unfold ck at h
  split at h
  · obtain ⟨h1, h2⟩ := bf_split h
    obtain ⟨h2, h3⟩ := bf_split h2
    obtain ⟨h3, h7⟩ := bf_split h3
    obtain ⟨h7, h8⟩ := bf_split h7
    unfold gnB at h1
    obtain ⟨h4, h5⟩ := bf_split h1
    obtain ⟨h5, h6⟩ := bf_split h5
    have h4 := of_decide_eq_true h4
    subst h4
    refine PI.imp (pi_range2 (glB_ok h5) S.rng (pa_cons (ha X W O ro _ S h2) (pa_cons (hb X W O ro _ S h7) pa_nil (star_cons h8)) (star_cons h3)) (by rw [star_cons h3, star_cons h8]; rfl) (by rw [star_cons h8]; rfl)) fun σ H R q => ?_
    obtain ⟨ρ, ts, ws, f, r, q⟩ := q
    refine ⟨ρ, ts, ws, f, r, ?_⟩
    have e0 : evi t F (.rng2 a b) ρ = (ev t F a ρ).bind fun x ρ => (ev t F b ρ).bind fun y ρ => (match Kn.frz x, Kn.frz y with
      | .int i, .int j => if (-1000000000000 < i ∧ i < 1000000000000) ∧ (-1000000000000 < j ∧ j < 1000000000000) then .ok (rngD i j) ρ else .no
      | _, _ => .no) := by
      unfold evi
      simp only [ev]
      cases ev t F a ρ with
      | ok s ρ' =>
        simp only [Kn.R.bind]
        cases ev t F b ρ' with
        | ok s2 ρ2 =>
          simp only
          cases Kn.frz s with
          | int i =>
            cases Kn.frz s2 with
            | int j =>
              by_cases hj : (-1000000000000 < i ∧ i < 1000000000000) ∧ (-1000000000000 < j ∧ j < 1000000000000)
              · simp only [if_pos hj]
                rfl
              · simp only [if_neg hj]
            | _ => rfl
          | _ => rfl
        | exc y ρ' => rfl
        | no => rfl
      | exc y ρ' => rfl
      | no => rfl
    rw [e0] at q
    cases e1 : ev t F a ρ with
    | ok s ρ' =>
      rw [e1] at q
      intro v H' f' ex r'
      refine ⟨ρ', s :: ts, v :: ws, f', r', ?_⟩
      have q : GI cl X.K O ro W ts σ ws f H ((ev t F b ρ').bind fun y ρ => (match Kn.frz s, Kn.frz y with
        | .int i, .int j => if (-1000000000000 < i ∧ i < 1000000000000) ∧ (-1000000000000 < j ∧ j < 1000000000000) then .ok (rngD i j) ρ else .no
        | _, _ => .no)) R := q
      cases e2 : ev t F b ρ' with
      | ok s2 ρ2 =>
        rw [e2] at q
        intro v2 H2 f2 ex2 r2
        obtain ⟨f3, ex3, r3⟩ := r2.freeze
        have hv2 := r3.top
        obtain ⟨f4, ex4, r4⟩ := r3.pop
        obtain ⟨f5, ex5, r5⟩ := r4.freeze
        have hv := r5.top
        obtain ⟨f6, ex6, r6⟩ := r5.pop
        have ex' := ((((ex.trans ex2).trans ex3).trans ex4).trans ex5).trans ex6
        have q : GI cl X.K O ro W ts σ ws f H (match Kn.frz s, Kn.frz s2 with
          | .int i, .int j => if (-1000000000000 < i ∧ i < 1000000000000) ∧ (-1000000000000 < j ∧ j < 1000000000000) then .ok (rngD i j) ρ2 else .no
          | _, _ => .no) R := q
        split at q
        · rename_i i j ei ej
          split at q
          · rename_i hj
            rw [ei] at hv
            rw [ej] at hv2
            exact ⟨i, j, by rw [hv.intE, hv2.intE], ⟨by omega, by omega, by omega, by omega⟩, q (Itr i (j - i).toNat) H2 f6 ex' r6 (.inr (.inr (.inr (.inl ⟨i, j, rfl, rfl⟩))))⟩
          · exact q.elim
        · exact q.elim
      | exc y ρ2 =>
        rw [e2] at q
        intro c d H2 f2 ex2 r2 xr
        exact exc_pop (Φ := True) q (ex.trans ex2) r2 xr
      | no => rw [e2] at q; exact q
    | exc y ρ' => rw [e1] at q; exact q
    | no => rw [e1] at q; exact q
  · cases h
/-! ### all of them -/
theorem s_ife {c a b : E} (hc : PTp t F cl c) (ha : PEp t F cl a) (hb : PEp t F cl b) : PEp t F cl (.ife c a b) := by
  intro X W O ro x S h
  unfold ck at h
  split at h
  · obtain ⟨h1, h2⟩ := bf_split h
    obtain ⟨h2, h3⟩ := bf_split h2
    obtain ⟨h1, h0⟩ := bf_split h1
    refine PE.imp (pe_ifExp (hc X W O ro _ S (ckt_of h1 h0)) (ha X W O ro _ S h2) (hb X W O ro _ S h3)) fun σ H Q q => ?_
    obtain ⟨ρ, ts, ws, f, r, g⟩ := q
    simp only [ev] at g
    refine ⟨ρ, ts, ws, f, r, ?_⟩
    cases e1 : ev t F c ρ with
    | ok s ρ1 =>
      rw [e1] at g
      cases s with
      | d x =>
        cases x with
        | bl b0 =>
          intro H' f' ex r'
          cases b0 with
          | true =>
            rw [if_pos rfl]
            exact ⟨ρ1, ts, ws, f', r', GE.ext ex g⟩
          | false =>
            rw [if_neg Bool.false_ne_true]
            exact ⟨ρ1, ts, ws, f', r', GE.ext ex g⟩
        | _ => exact False.elim g
      | lst _ => exact False.elim g
      | ins _ _ _ => exact False.elim g
      | dk _ _ => exact False.elim g
    | exc x ρ1 =>
      rw [e1] at g
      exact g
    | no =>
      rw [e1] at g
      exact g
  · cases h
theorem p_bad {e : E} (h : ∀ ρ, ev t F e ρ = .no) : PEp t F cl e := by
  intro X W O ro x S _
  refine ⟨fun pins s σ H Q I q => ?_⟩
  obtain ⟨ρ, ts, ws, f', r, g⟩ := q
  rw [h] at g
  exact g.elim
theorem p_not {e : E} (h : ∀ N sc x, ck N e false sc x = false) : PEp t F cl e := by
  intro X W O ro x S z
  rw [h] at z
  cases z
theorem a_not {e : E} (h : ∀ N sc xs, cks N e sc xs = false) : PAp t F cl e := by
  intro X W O ro x S z
  rw [h] at z
  cases z
theorem w_not {e : E} (h : ∀ N sc o xs p, ckt N e sc (.BoolOp o xs p) = false) : PWp t F cl e := by
  intro X W O ro o xs p S z
  rw [h] at z
  cases z
theorem t_pl {e : E} (he : PEp t F cl e) (h : ∀ N sc x, ckt N e sc x = (ck N e false sc x && plT x)) : PTp t F cl e := by
  intro X W O ro x S z
  rw [h] at z
  obtain ⟨z1, z2⟩ := bf_split z
  exact t_plain he X W O ro x S z1 z2
structure All (t : T) (F : String → List SV → Cr) (cl : String → Option Addr) (e : E) : Prop where
  pe : PEp t F cl e
  pt : PTp t F cl e
  pw : PWp t F cl e
  pa : PAp t F cl e
  pi : PIp t F cl e
  pk : PKp t F cl e
  pr : PRp t F cl e
theorem r_not {e : E} (h : ∀ N sc xs, cks N e sc xs = false) : PRp t F cl e := by
  intro X W O ro x S z
  rw [h] at z
  cases z
theorem k_not {e : E} (h : ∀ N sc xs, cks N e sc xs = false) : PKp t F cl e := by
  intro X W O ro ks kes x pos S _ _ z
  rw [h] at z
  cases z
theorem All.of {e : E} (he : PEp t F cl e) (h1 : ∀ N sc x, ckt N e sc x = (ck N e false sc x && plT x)) (h2 : ∀ N sc o xs p, ckt N e sc (.BoolOp o xs p) = false) (h3 : ∀ N sc xs, cks N e sc xs = false) (h4 : ∀ N sc x, ck N e true sc x = true → ck N e false sc x = true) : All t F cl e :=
  ⟨he, t_pl he h1, w_not h2, a_not h3, i_of he h4, k_not h3, r_not h3⟩
theorem all_e : ∀ e : E, All t F cl e := by
  intro e
  induction e with
  | var i => exact All.of (s_var i) (fun N sc x => rfl) (fun N sc o xs p => by unfold ckt; simp [plT]) (fun N sc xs => rfl) (fun N sc x h => by unfold ck at h ⊢; exact h)
  | non => exact All.of s_non (fun N sc x => rfl) (fun N sc o xs p => by unfold ckt; simp [plT]) (fun N sc xs => rfl) (fun N sc x h => by unfold ck at h ⊢; exact h)
  | bl b => exact All.of (s_bl b) (fun N sc x => rfl) (fun N sc o xs p => by unfold ckt; simp [plT]) (fun N sc xs => rfl) (fun N sc x h => by unfold ck at h ⊢; exact h)
  | int i => exact All.of (s_int i) (fun N sc x => rfl) (fun N sc o xs p => by unfold ckt; simp [plT]) (fun N sc xs => rfl) (fun N sc x h => by unfold ck at h ⊢; exact h)
  | str s => exact All.of (s_str s) (fun N sc x => rfl) (fun N sc o xs p => by unfold ckt; simp [plT]) (fun N sc xs => rfl) (fun N sc x h => by unfold ck at h ⊢; exact h)
  | glb x => exact All.of (s_glb x) (fun N sc x => rfl) (fun N sc o xs p => by unfold ckt; simp [plT]) (fun N sc xs => rfl) (fun N sc x h => by unfold ck at h ⊢; exact h)
  | tyn n => exact All.of (s_tyn n) (fun N sc x => rfl) (fun N sc o xs p => by unfold ckt; simp [plT]) (fun N sc xs => rfl) (fun N sc x h => by unfold ck at h ⊢; exact h)
  | tup es ih => exact All.of (s_tup ih.pa) (fun N sc x => rfl) (fun N sc o xs p => by unfold ckt; simp [plT]) (fun N sc xs => rfl) (fun N sc x h => by unfold ck at h ⊢; exact h)
  | lst es ih => exact All.of (s_lst ih.pa) (fun N sc x => rfl) (fun N sc o xs p => by unfold ckt; simp [plT]) (fun N sc xs => rfl) (fun N sc x h => by unfold ck at h ⊢; exact h)
  | nil => exact ⟨p_not fun _ _ _ => rfl, t_pl (p_not fun _ _ _ => rfl) (fun _ _ _ => rfl), w_not (fun N sc o xs p => by unfold ckt; simp [plT]), a_nil, i_of (p_not fun _ _ _ => rfl) (fun N sc x h => by cases h), k_nil, r_nil⟩
  | cons e es h1 h2 => exact ⟨p_not fun _ _ _ => rfl, t_pl (p_not fun _ _ _ => rfl) (fun _ _ _ => rfl), w_not (fun N sc o xs p => by unfold ckt; simp [plT]), a_cons h1.pe h2.pa, i_of (p_not fun _ _ _ => rfl) (fun N sc x h => by cases h), k_cons h1.pe h2.pk, r_cons h1.pe h2.pr⟩
  | bin o a b ha hb => exact All.of (s_bin o ha.pe hb.pe) (fun N sc x => rfl) (fun N sc o xs p => by unfold ckt; simp [plT]) (fun N sc xs => rfl) (fun N sc x h => by unfold ck at h ⊢; exact h)
  | neg a ha => exact All.of (s_neg ha.pe) (fun N sc x => rfl) (fun N sc o xs p => by unfold ckt; simp [plT]) (fun N sc xs => rfl) (fun N sc x h => by unfold ck at h ⊢; exact h)
  | not a ha => exact ⟨s_not ha.pe, t_not ha.pt, w_not (fun N sc o xs p => rfl), a_not (fun N sc xs => rfl), i_of (s_not ha.pe) (fun N sc x h => by unfold ck at h ⊢; exact h), k_not (fun N sc xs => rfl), r_not (fun N sc xs => rfl)⟩
  | and a b ha hb => exact ⟨s_and ha.pe hb.pe, t_and (w_and ha.pt hb.pt hb.pw), w_and ha.pt hb.pt hb.pw, a_not (fun N sc xs => rfl), i_of (s_and ha.pe hb.pe) (fun N sc x h => by unfold ck at h ⊢; exact h), k_not (fun N sc xs => rfl), r_not (fun N sc xs => rfl)⟩
  | or a b ha hb => exact ⟨s_or ha.pe hb.pe, t_or (w_or ha.pt hb.pt hb.pw), w_or ha.pt hb.pt hb.pw, a_not (fun N sc xs => rfl), i_of (s_or ha.pe hb.pe) (fun N sc x h => by unfold ck at h ⊢; exact h), k_not (fun N sc xs => rfl), r_not (fun N sc xs => rfl)⟩
  | cmp o a b ha hb => exact ⟨s_cmp o ha.pe hb.pe, t_cmp o ha.pe hb.pe, w_not (fun N sc o xs p => rfl), a_not (fun N sc xs => rfl), i_of (s_cmp o ha.pe hb.pe) (fun N sc x h => by unfold ck at h ⊢; exact h), k_not (fun N sc xs => rfl), r_not (fun N sc xs => rfl)⟩
  | chn o p a b c ha hb hc => exact ⟨s_chn o p ha.pe hb.pe hc.pe, t_chn o p ha.pe hb.pe hc.pe, w_not (fun N sc o xs p => rfl), a_not (fun N sc xs => rfl), i_of (s_chn o p ha.pe hb.pe hc.pe) (fun N sc x h => by unfold ck at h ⊢; exact h), k_not (fun N sc xs => rfl), r_not (fun N sc xs => rfl)⟩
  | ife c a b hc ha hb => exact All.of (s_ife hc.pt ha.pe hb.pe) (fun N sc x => rfl) (fun N sc o xs p => by unfold ckt; simp [plT]) (fun N sc xs => rfl) (fun N sc x h => by unfold ck at h ⊢; exact h)
  | idx a i ha hi => exact All.of (s_idx ha.pe hi.pe) (fun N sc x => rfl) (fun N sc o xs p => by unfold ckt; simp [plT]) (fun N sc xs => rfl) (fun N sc x h => by unfold ck at h ⊢; exact h)
  | slc a lo hi ha hl hh => exact All.of (s_slc ha.pe hl.pe hh.pe) (fun N sc x => rfl) (fun N sc o xs p => by unfold ckt; simp [plT]) (fun N sc xs => rfl) (fun N sc x h => by unfold ck at h ⊢; exact h)
  | stp a k ha hk => exact All.of (s_stp ha.pe hk.pe) (fun N sc x => rfl) (fun N sc o xs p => by unfold ckt; simp [plT]) (fun N sc xs => rfl) (fun N sc x h => by unfold ck at h ⊢; exact h)
  | emp => exact ⟨p_not fun _ _ _ => rfl, t_pl (p_not fun _ _ _ => rfl) (fun _ _ _ => rfl), w_not (fun N sc o xs p => by unfold ckt; simp [plT]), a_not (fun N sc xs => rfl), i_of (p_not fun _ _ _ => rfl) (fun N sc x h => by cases h), k_not (fun N sc xs => rfl), r_not (fun N sc xs => rfl)⟩
  | fld a f ha => exact All.of (s_fld f ha.pe) (fun N sc x => rfl) (fun N sc o xs p => by unfold ckt; simp [plT]) (fun N sc xs => rfl) (fun N sc x h => by unfold ck at h ⊢; exact h)
  | call f as hs => exact All.of (s_call f hs.pa) (fun N sc x => rfl) (fun N sc o xs p => by unfold ckt; simp [plT]) (fun N sc xs => rfl) (fun N sc x h => by unfold ck at h ⊢; exact h)
  | mk c as hs => exact All.of (s_mk c hs.pa) (fun N sc x => rfl) (fun N sc o xs p => by unfold ckt; simp [plT]) (fun N sc xs => rfl) (fun N sc x h => by unfold ck at h ⊢; exact h)
  | blt b as hs => exact All.of (s_blt b hs.pa) (fun N sc x => rfl) (fun N sc o xs p => by unfold ckt; simp [plT]) (fun N sc xs => rfl) (fun N sc x h => by unfold ck at h ⊢; exact h)
  | meth m a as ha hs => exact All.of (s_meth m ha.pe hs.pa) (fun N sc x => rfl) (fun N sc o xs p => by unfold ckt; simp [plT]) (fun N sc xs => rfl) (fun N sc x h => by unfold ck at h ⊢; exact h)
  | edk => exact All.of s_edk (fun N sc x => rfl) (fun N sc o xs p => by unfold ckt; simp [plT]) (fun N sc xs => rfl) (fun N sc x h => by unfold ck at h ⊢; exact h)
  | disp ks es hs => exact All.of (s_disp ks hs.pk) (fun N sc x => rfl) (fun N sc o xs p => by unfold ckt; simp [plT]) (fun N sc xs => rfl) (fun N sc x h => by unfold ck at h ⊢; exact h)
  | dget a k d ha hk hd => exact All.of (s_dget ha.pe hk.pe hd.pe) (fun N sc x => rfl) (fun N sc o xs p => by unfold ckt; simp [plT]) (fun N sc xs => rfl) (fun N sc x h => by unfold ck at h ⊢; exact h)
  | idv i e he => exact All.of (s_idv i he.pe) (fun N sc x => rfl) (fun N sc o xs p => by unfold ckt; simp [plT]) (fun N sc xs => rfl) (fun N sc x h => by unfold ck at h ⊢; exact h)
  | bor e he => exact ⟨s_bor he.pe, t_bor he.pt, w_bor he.pw, a_not (fun N sc xs => rfl), i_of (s_bor he.pe) (fun N sc x h => by unfold ck at h ⊢; exact h), k_not (fun N sc xs => rfl), r_not (fun N sc xs => rfl)⟩
  | io f as hs => exact All.of (s_io f hs.pr) (fun N sc x => rfl) (fun N sc o xs p => by unfold ckt; simp [plT]) (fun N sc xs => rfl) (fun N sc x h => by unfold ck at h ⊢; exact h)
  | iom m i as hs => exact All.of (s_iom m i hs.pr) (fun N sc x => rfl) (fun N sc o xs p => by unfold ckt; simp [plT]) (fun N sc xs => rfl) (fun N sc x h => by unfold ck at h ⊢; exact h)
  | orv a b ha hb => exact All.of (s_orv ha.pe hb.pe) (fun N sc x => rfl) (fun N sc o xs p => by unfold ckt; simp [plT]) (fun N sc xs => rfl) (fun N sc x h => by unfold ck at h ⊢; exact h)
  | takef i f => exact All.of (s_takef i f) (fun N sc x => rfl) (fun N sc o xs p => by unfold ckt; simp [plT]) (fun N sc xs => rfl) (fun N sc x h => by unfold ck at h ⊢; exact h)
  | crep c e y z he => exact All.of (s_crep c y z he.pe) (fun N sc x => rfl) (fun N sc o xs p => by unfold ckt; simp [plT]) (fun N sc xs => rfl) (fun N sc x h => by unfold ck at h ⊢; exact h)
  | take i => exact All.of (s_take i) (fun N sc x => rfl) (fun N sc o xs p => by unfold ckt; simp [plT]) (fun N sc xs => rfl) (fun N sc x h => by unfold ck at h ⊢; exact h)
  | mk0 c => exact All.of (s_mk0 c) (fun N sc x => rfl) (fun N sc o xs p => by unfold ckt; simp [plT]) (fun N sc xs => rfl) (fun N sc x h => by unfold ck at h ⊢; exact h)
  | zip as hs => exact ⟨p_not fun _ _ _ => rfl, t_pl (p_not fun _ _ _ => rfl) (fun _ _ _ => rfl), w_not (fun N sc o xs p => by unfold ckt; simp [plT]), a_not (fun N sc xs => rfl), i_zip hs.pa, k_not (fun N sc xs => rfl), r_not (fun N sc xs => rfl)⟩
  | enu a ha => exact ⟨p_not fun _ _ _ => rfl, t_pl (p_not fun _ _ _ => rfl) (fun _ _ _ => rfl), w_not (fun N sc o xs p => by unfold ckt; simp [plT]), a_not (fun N sc xs => rfl), i_enu ha.pe, k_not (fun N sc xs => rfl), r_not (fun N sc xs => rfl)⟩
  | bm m a as ha hs => exact All.of (s_bm m ha.pe hs.pa) (fun N sc x => rfl) (fun N sc o xs p => by unfold ckt; simp [plT]) (fun N sc xs => rfl) (fun N sc x h => by unfold ck at h ⊢; exact h)
  | comp g it el hi he => exact All.of (s_comp hi.pi he.pe) (fun N sc x => rfl) (fun N sc o xs p => by unfold ckt; simp [plT]) (fun N sc xs => rfl) (fun N sc x h => by unfold ck at h ⊢; exact h)
  | cmpi g it c el hi hc he => exact All.of (s_cmpi hi.pi hc.pt he.pe) (fun N sc x => rfl) (fun N sc o xs p => by unfold ckt; simp [plT]) (fun N sc xs => rfl) (fun N sc x h => by unfold ck at h ⊢; exact h)
  | rng a ha => exact ⟨p_not fun _ _ _ => rfl, t_pl (p_not fun _ _ _ => rfl) (fun _ _ _ => rfl), w_not (fun N sc o xs p => by unfold ckt; simp [plT]), a_not (fun N sc xs => rfl), i_rng ha.pe, k_not (fun N sc xs => rfl), r_not (fun N sc xs => rfl)⟩
  | rng2 a b ha hb => exact ⟨p_not fun _ _ _ => rfl, t_pl (p_not fun _ _ _ => rfl) (fun _ _ _ => rfl), w_not (fun N sc o xs p => by unfold ckt; simp [plT]), a_not (fun N sc xs => rfl), i_rng2 ha.pe hb.pe, k_not (fun N sc xs => rfl), r_not (fun N sc xs => rfl)⟩
  | bad => exact ⟨p_bad (fun ρ => by simp only [ev]), t_pl (p_bad (fun ρ => by simp only [ev])) (fun _ _ _ => rfl), w_not (fun N sc o xs p => by unfold ckt; simp [plT]), a_not (fun N sc xs => rfl), i_of (p_bad (fun ρ => by simp only [ev])) (fun N sc x h => rfl), k_not (fun N sc xs => rfl), r_not (fun N sc xs => rfl)⟩
end
end Kn

set_option Elab.async false
set_option linter.all false
set_option maxRecDepth 100000
set_option maxHeartbeats 4000000
/-! Snd5: statements. -/
namespace Kn
open PySem L2
instance extW {f f' : List Addr} {H H' : Hp} : Coe (Ext f H f' H') (ExW f H f' H') := ⟨Ext.w⟩
section
variable {K : PySem.W.Frag} {cl : String → Option Addr} {O : Addr → Prop} {ro : List (Nat × V)} {W : WX} {ρ : Env} {ts : List SV} {σ : L2.St} {ws : List V} {f f' : List Addr} {H H' : Hp} {s : SV} {v y : V} {x : D} {A A' : Addr → Prop}
theorem set_same {i : Nat} {w : V} (e : σ[i]? = some (some w)) : σ.set i (some w) = σ := by
  apply List.ext_getElem?
  intro j
  by_cases hj : i = j
  · subst hj
    have hl : i < σ.length := (List.getElem?_eq_some_iff.mp e).1
    rw [List.getElem?_set_self hl, e]
  · rw [List.getElem?_set_ne hj]
/-- a slot's own thing changed, with the last temporary within -/
theorem Rel.slot {i : Nat} {S0 : SV} (r : Rel K cl O ro ρ (s :: ts) σ (y :: ws) f H) (e : ρ[i]? = some (some S0)) : ∃ v g f1, σ[i]? = some (some v) ∧ OR K cl (Av O f) H S0 v g ∧ OR K cl (Av O f) H s y f1 ∧
    ∀ a g' g4 o S1, g = a :: g' → v = .ref a → (∀ b, g4.count b ≤ g'.count b + f1.count b) → (∀ A' H', Stp (Av O f) H A' H' → (∀ b ∈ g', H' b = H b) → (∀ b ∈ f1, H' b = H b) → H' a = some o → OR K cl A' H' S1 (.ref a) (a :: g4)) →
      ∃ f', ExW f H f' (upd H a o) ∧ Rel K cl O ro (ρ.set i (some S1)) ts σ ws f' (upd H a o) := by
  obtain ⟨fe, ft, ef, c, d, oo, p, q, z⟩ := r
  subst ef
  unfold ORs at q
  obtain ⟨w, ws', f1, f2, e0, ef, q1, q2⟩ := q
  cases e0
  subst ef
  obtain ⟨v0, g1, g2, g3, e1, e2, o1, up⟩ := OE.at p e
  subst e2
  obtain ⟨w, ew, h⟩ := o1
  subst ew
  refine ⟨w, g2, f1, e1, h, q1, fun a g' g4 o S1 eg ev hc4 k => ?_⟩
  subst eg
  subst ev
  have ca := c a
  simp only [List.count_append, List.count_cons_self] at ca
  have na : a ∉ g1 ∧ a ∉ g' ∧ a ∉ g3 ∧ a ∉ f1 ∧ a ∉ f2 := by
    refine ⟨?_, ?_, ?_, ?_, ?_⟩ <;> (intro h; rw [mem_of_count] at h; omega)
  have ina : a ∈ (g1 ++ ((a :: g') ++ g3)) ++ (f1 ++ f2) := by simp
  have hc : ∀ b, ((g1 ++ ((a :: g4) ++ g3)) ++ f2).count b ≤ ((g1 ++ ((a :: g') ++ g3)) ++ (f1 ++ f2)).count b := fun b => by
    have := hc4 b
    simp only [List.count_append, List.count_cons]
    omega
  have sub : ∀ b ∈ (g1 ++ ((a :: g4) ++ g3)) ++ f2, b ∈ (g1 ++ ((a :: g') ++ g3)) ++ (f1 ++ f2) := fun b h => by
    rw [mem_of_count] at h ⊢
    exact Nat.lt_of_lt_of_le h (hc b)
  have st : Stp (Av O ((g1 ++ ((a :: g') ++ g3)) ++ (f1 ++ f2))) H (Av O ((g1 ++ ((a :: g4) ++ g3)) ++ f2)) (upd H a o) := fun b u h n => by
    refine ⟨?_, fun m => n (m.imp id (sub b))⟩
    rw [upd_ne fun z => n (.inr (by rw [z]; exact ina))]
    exact h
  have same : ∀ {g : List Addr}, a ∉ g → ∀ b ∈ g, upd H a o b = H b := fun hg b h => upd_ne fun z => hg (by rw [← z]; exact h)
  have oe := up (s' := some S1) (v' := some (.ref a)) (g := a :: g4) st (same na.1) (same na.2.2.1) ⟨.ref a, rfl, k _ _ st (same na.2.1) (same na.2.2.2.1) upd_same⟩
  rw [set_same e1] at oe
  refine ⟨_, ⟨fun b u h n => ?_, fun b h => .inl (sub b h)⟩, _, _, rfl, fun b => Nat.le_trans (hc b) (c b), fun b h => d b (sub b h), fun b h => ?_, oe, ORs.stp st _ _ _ (same na.2.2.2.2) q2, z⟩
  · rw [upd_ne fun z => n (by rw [z]; exact ina)]
    exact h
  · by_cases e : b = a
    · rw [e, upd_same]; exact fun z => nomatch z
    · rw [upd_ne e]; exact oo b h
theorem Rel.own {i : Nat} {S0 : SV} (r : Rel K cl O ro ρ ts σ ws f H) (e : ρ[i]? = some (some S0)) : ∃ v g, σ[i]? = some (some v) ∧ OR K cl (Av O f) H S0 v g := by
  obtain ⟨fe, ft, ef, c, d, oo, p, q, z⟩ := r
  obtain ⟨v0, g1, g2, g3, e1, e2, o1, up⟩ := OE.at p e
  obtain ⟨w, ew, h⟩ := o1
  subst ew
  exact ⟨w, g2, e1, h⟩
/-- x.append(s) -/
theorem Rel.appS {i : Nat} {xs : List SV} (r : Rel K cl O ro ρ (s :: ts) σ (y :: ws) f H) (e : ρ[i]? = some (some (.lst xs))) :
    ∃ a wa f', σ[i]? = some (some (.ref a)) ∧ H a = some (.lst wa) ∧ xs.length = wa.length ∧ ExW f H f' (upd H a (.lst (wa ++ [y]))) ∧ Rel K cl O ro (ρ.set i (some (.lst (xs ++ [s])))) ts σ ws f' (upd H a (.lst (wa ++ [y]))) := by
  obtain ⟨v, g, f1, e1, q, q1, k⟩ := r.slot e
  unfold OR at q
  obtain ⟨a, wa, fa, rfl, hH, rfl, m⟩ := q
  obtain ⟨f', ex, r'⟩ := k a fa (fa ++ f1) (.lst (wa ++ [y])) (.lst (xs ++ [s])) rfl rfl (fun b => by rw [List.count_append]; exact Nat.le_refl _) fun A' H' st k1 k2 hH' => by
    unfold OR
    exact ⟨a, wa ++ [y], fa ++ f1, rfl, hH', rfl, ORs.join (ORs.stp st _ _ _ k1 m) (ORs.one (OR.stp st _ _ _ k2 q1))⟩
  exact ⟨a, wa, f', e1, hH, m.len, ex, r'⟩
/-- x += s -/
theorem Rel.extS {i : Nat} {xs ys : List SV} (r : Rel K cl O ro ρ (s :: ts) σ (y :: ws) f H) (e : ρ[i]? = some (some (.lst xs))) (hs : svl s = some ys) :
    ∃ a b wa zs f', σ[i]? = some (some (.ref a)) ∧ y = .ref b ∧ H a = some (.lst wa) ∧ H b = some (.lst zs) ∧ xs.length = wa.length ∧ ys.length = zs.length ∧ ExW f H f' (upd H a (.lst (wa ++ zs))) ∧
      Rel K cl O ro (ρ.set i (some (.lst (xs ++ ys)))) ts σ ws f' (upd H a (.lst (wa ++ zs))) := by
  obtain ⟨v, g, f1, e1, q, q1, k⟩ := r.slot e
  unfold OR at q
  obtain ⟨a, wa, fa, rfl, hH, rfl, m⟩ := q
  have key : ∃ b zs f2, y = .ref b ∧ H b = some (.lst zs) ∧ ORs K cl (Av O f) H ys zs f2 ∧ (∀ c, f2.count c ≤ f1.count c) := by
    unfold svl at hs
    split at hs
    · cases hs
      unfold OR at q1
      obtain ⟨b, zs, fb, rfl, hB, rfl, m2⟩ := q1
      exact ⟨b, zs, fb, rfl, hB, m2, fun c => by rw [List.count_cons]; omega⟩
    · cases hs
      unfold OR at q1
      obtain ⟨q1, rfl⟩ := q1
      obtain ⟨b, zs, rfl, hB, _, m2⟩ := q1.lstE
      exact ⟨b, zs, [], rfl, hB, ORs.ofD m2, fun c => Nat.le_refl _⟩
    · cases hs
  obtain ⟨b, zs, f2, rfl, hB, m2, hc⟩ := key
  obtain ⟨f', ex, r'⟩ := k a fa (fa ++ f2) (.lst (wa ++ zs)) (.lst (xs ++ ys)) rfl rfl (fun c => by rw [List.count_append]; have := hc c; omega) fun A' H' st k1 k2 hH' => by
    unfold OR
    exact ⟨a, wa ++ zs, fa ++ f2, rfl, hH', rfl, ORs.join (ORs.stp st _ _ _ k1 m) (ORs.stp st _ _ _ (fun c hm => k2 c (by rw [mem_of_count] at hm ⊢; exact Nat.lt_of_lt_of_le hm (hc c))) m2)⟩
  exact ⟨a, b, wa, zs, f', e1, rfl, hH, hB, m.len, m2.len, ex, r'⟩
theorem ORs.set {f1 : List Addr} (q1 : OR K cl A H s y f1) : ∀ {xs : List SV} {vs : List V} {g : List Addr} {j : Nat}, ORs K cl A H xs vs g → ∃ g', (∀ b, g'.count b ≤ g.count b + f1.count b) ∧ ORs K cl A H (xs.set j s) (vs.set j y) g'
  | [], vs, g, j, m => by
    unfold ORs at m
    obtain ⟨rfl, rfl⟩ := m
    exact ⟨[], fun b => by simp, ORs.nil⟩
  | x :: xs, vs, g, 0, m => by
    unfold ORs at m
    obtain ⟨w, ws', g1, g2, rfl, rfl, q, m⟩ := m
    exact ⟨f1 ++ g2, fun b => by simp only [List.count_append]; omega, ORs.cons q1 m⟩
  | x :: xs, vs, g, j + 1, m => by
    unfold ORs at m
    obtain ⟨w, ws', g1, g2, rfl, rfl, q, m⟩ := m
    obtain ⟨g', k1, k2⟩ := ORs.set (j := j) q1 m
    exact ⟨g1 ++ g', fun b => by have := k1 b; simp only [List.count_append]; omega, ORs.cons q k2⟩
/-- x[j] = s -/
theorem Rel.setI {i j : Nat} {xs : List SV} (r : Rel K cl O ro ρ (s :: ts) σ (y :: ws) f H) (e : ρ[i]? = some (some (.lst xs))) :
    ∃ a wa f', σ[i]? = some (some (.ref a)) ∧ H a = some (.lst wa) ∧ xs.length = wa.length ∧ ExW f H f' (upd H a (.lst (wa.set j y))) ∧ Rel K cl O ro (ρ.set i (some (.lst (xs.set j s)))) ts σ ws f' (upd H a (.lst (wa.set j y))) := by
  obtain ⟨v, g, f1, e1, q, q1, k⟩ := r.slot e
  unfold OR at q
  obtain ⟨a, wa, fa, rfl, hH, rfl, m⟩ := q
  obtain ⟨g', k1, k2⟩ := ORs.set (j := j) q1 m
  obtain ⟨f', ex, r'⟩ := k a fa g' (.lst (wa.set j y)) (.lst (xs.set j s)) rfl rfl k1 fun A' H' st h1 h2 hH' => by
    unfold OR
    refine ⟨a, wa.set j y, g', rfl, hH', rfl, ORs.stp st _ _ _ (fun b hb => ?_) k2⟩
    have hb' := k1 b
    rw [mem_of_count] at hb
    by_cases hf : b ∈ fa
    · exact h1 b hf
    · rw [mem_of_count] at hf
      exact h2 b (by rw [mem_of_count]; omega)
  exact ⟨a, wa, f', e1, hH, m.len, ex, r'⟩
/-- within a slot's own thing an object is changed -/
theorem Rel.slotG {i : Nat} {S0 : SV} (r : Rel K cl O ro ρ ts σ ws f H) (e : ρ[i]? = some (some S0)) : ∃ v g, σ[i]? = some (some v) ∧ OR K cl (Av O f) H S0 v g ∧ (∀ b, g.count b ≤ 1) ∧
    ∀ a o S1, a ∈ g → (∀ A' H', Stp (Av O f) H A' H' → (∀ b ∈ g, b ≠ a → H' b = H b) → H' a = some o → OR K cl A' H' S1 v g) →
      ∃ f', ExW f H f' (upd H a o) ∧ Rel K cl O ro (ρ.set i (some S1)) ts σ ws f' (upd H a o) := by
  obtain ⟨fe, ft, ef, c, d, oo, p, q, z⟩ := r
  subst ef
  obtain ⟨v0, g1, g2, g3, e1, e2, o1, up⟩ := OE.at p e
  subst e2
  obtain ⟨w, ew, h⟩ := o1
  subst ew
  refine ⟨w, g2, e1, h, fun b => by have := c b; simp only [List.count_append] at this; omega, fun a o S1 ha k => ?_⟩
  have ca := c a
  simp only [List.count_append] at ca
  have hg := mem_of_count.mp ha
  have na : a ∉ g1 ∧ a ∉ g3 ∧ a ∉ ft := by
    refine ⟨?_, ?_, ?_⟩ <;> (intro h; rw [mem_of_count] at h; omega)
  have ina : a ∈ (g1 ++ (g2 ++ g3)) ++ ft := by simp [ha]
  have st : Stp (Av O ((g1 ++ (g2 ++ g3)) ++ ft)) H (Av O ((g1 ++ (g2 ++ g3)) ++ ft)) (upd H a o) := fun b u h n => by
    refine ⟨?_, n⟩
    rw [upd_ne fun z => n (.inr (by rw [z]; exact ina))]
    exact h
  have same : ∀ {g : List Addr}, a ∉ g → ∀ b ∈ g, upd H a o b = H b := fun hg b h => upd_ne fun z => hg (by rw [← z]; exact h)
  have oe := up (s' := some S1) (v' := some w) (g := g2) st (same na.1) (same na.2.1) ⟨w, rfl, k _ _ st (fun b _ hb => upd_ne hb) upd_same⟩
  rw [set_same e1] at oe
  refine ⟨_, ⟨fun b u h n => ?_, fun b h => .inl h⟩, _, _, rfl, c, d, fun b h => ?_, oe, ORs.stp st _ _ _ (same na.2.2) q, z⟩
  · rw [upd_ne fun z => n (by rw [z]; exact ina)]
    exact h
  · by_cases e : b = a
    · rw [e, upd_same]; exact fun z => nomatch z
    · rw [upd_ne e]; exact oo b h
/-- a field's list grows by data -/
theorem app_field {g0 : String} {ys : List SV} : ∀ {ns : List String} {xs : List SV} {vs : List V} {g : List Addr}, ORs K cl A H xs vs g → fieldS ns xs g0 = some (.lst ys) → (∀ b, g.count b ≤ 1) →
    ∃ l wl, (zipS ns vs).lookup (stOf g0) = some (.ref l) ∧ H l = some (.lst wl) ∧ ys.length = wl.length ∧ l ∈ g ∧
      ∀ A' H' x u, Stp A H A' H' → (∀ b ∈ g, b ≠ l → H' b = H b) → H' l = some (.lst (wl ++ [u])) → VR K cl A' H' x u → ORs K cl A' H' (putN g0 (.lst (ys ++ [.d x])) ns xs).2 vs g ∧ (putN g0 (.lst (ys ++ [.d x])) ns xs).1 = ns
  | [], xs, vs, g, _, h, _ => by unfold fieldS at h; cases h
  | n :: ns, [], vs, g, _, h, _ => by unfold fieldS at h; cases h
  | n :: ns, x0 :: xs, vs, g, r, h, c => by
    unfold ORs at r
    obtain ⟨w, ws', f1, f2, rfl, rfl, q, m⟩ := r
    unfold fieldS at h
    have e0 : zipS (n :: ns) (w :: ws') = (Str.ofString n, w) :: zipS ns ws' := rfl
    rw [e0, List.lookup_cons]
    by_cases e : n = g0
    · subst e
      rw [if_pos rfl] at h
      cases h
      have : (stOf n == Str.ofString n) = true := beq_self_eq_true _
      rw [this]
      unfold OR at q
      obtain ⟨l, wl, fl, rfl, hH, rfl, mm⟩ := q
      have cl1 := c l
      simp only [List.count_append, List.count_cons_self] at cl1
      have n1 : l ∉ fl := fun h => by rw [mem_of_count] at h; omega
      have n2 : l ∉ f2 := fun h => by rw [mem_of_count] at h; omega
      refine ⟨l, wl, rfl, hH, mm.len, by simp, fun A' H' x u st same hl hx => ?_⟩
      unfold putN
      rw [if_pos rfl]
      refine ⟨ORs.cons ?_ (ORs.stp st _ _ _ (fun b hb => same b (by simp [hb]) fun z => n2 (by rw [← z]; exact hb)) m), rfl⟩
      unfold OR
      refine ⟨l, wl ++ [u], fl, rfl, hl, rfl, ?_⟩
      have := ORs.join (ORs.stp st _ _ _ (fun b hb => same b (by simp [hb]) fun z => n1 (by rw [← z]; exact hb)) mm) (ORs.one (K := K) (cl := cl) (A := A') (H := H') (s := .d x) (v := u) (f := []) (by unfold OR; exact ⟨hx, rfl⟩))
      rw [List.append_nil] at this
      exact this
    · rw [if_neg e] at h
      have h2 : (stOf g0 == Str.ofString n) = false := beq_eq_false_iff_ne.mpr fun z => e (stOf_inj z).symm
      rw [h2]
      obtain ⟨l, wl, k1, k2, k3, k4, k5⟩ := app_field m h fun b => by have := c b; simp only [List.count_append] at this; omega
      have cl1 := c l
      have hl2 := mem_of_count.mp k4
      simp only [List.count_append] at cl1
      have n1 : l ∉ f1 := fun h => by rw [mem_of_count] at h; omega
      refine ⟨l, wl, k1, k2, k3, List.mem_append_right _ k4, fun A' H' x u st same hl hx => ?_⟩
      unfold putN
      rw [if_neg e]
      obtain ⟨j1, j2⟩ := k5 A' H' x u st (fun b hb hn => same b (List.mem_append_right _ hb) hn) hl hx
      exact ⟨ORs.cons (OR.stp st _ _ _ (fun b hb => same b (List.mem_append_left _ hb) fun z => n1 (by rw [← z]; exact hb)) q) j1, by show n :: _ = n :: ns; rw [j2]⟩
theorem put_ok {f0 : String} {f1 : List Addr} (q1 : OR K cl A H s y f1) : ∀ {ns : List String} {xs : List SV} {vs : List V} {g : List Addr}, ns.length = xs.length → ORs K cl A H xs vs g →
    ∃ vs' g', putF (stOf f0) y (zipS ns vs) = zipS (putN f0 s ns xs).1 vs' ∧ (putN f0 s ns xs).1.length = vs'.length ∧ (∀ b, g'.count b ≤ g.count b + f1.count b) ∧ ORs K cl A H (putN f0 s ns xs).2 vs' g'
  | [], [], vs, g, _, m => by
    unfold ORs at m
    obtain ⟨rfl, rfl⟩ := m
    exact ⟨[y], f1, rfl, rfl, fun b => by simp, ORs.one q1⟩
  | n :: ns, x :: xs, vs, g, hl, m => by
    unfold ORs at m
    obtain ⟨w, ws', g1, g2, rfl, rfl, q, m⟩ := m
    unfold putN
    have e0 : zipS (n :: ns) (w :: ws') = (Str.ofString n, w) :: zipS ns ws' := rfl
    rw [e0]
    by_cases h : n = f0
    · subst h
      rw [if_pos rfl]
      refine ⟨y :: ws', f1 ++ g2, ?_, ?_, fun b => by simp only [List.count_append]; omega, ORs.cons q1 m⟩
      · show (if Str.ofString n = stOf n then (Str.ofString n, y) :: zipS ns ws' else _) = _
        rw [if_pos (show Str.ofString n = stOf n from rfl)]
        rfl
      · have := m.len
        simp at hl ⊢
        omega
    · rw [if_neg h]
      obtain ⟨vs', g', h1, h2, h3, h4⟩ := put_ok q1 (by simpa using hl) m
      refine ⟨w :: vs', g1 ++ g', ?_, ?_, fun b => by have := h3 b; simp only [List.count_append]; omega, ORs.cons q h4⟩
      · show (if Str.ofString n = stOf f0 then (Str.ofString n, y) :: zipS ns ws' else (Str.ofString n, w) :: putF (stOf f0) y (zipS ns ws')) = _
        rw [if_neg (show ¬ Str.ofString n = stOf f0 from fun z => h (stOf_inj z)), h1]
        rfl
      · show (n :: _).length = _
        rw [List.length_cons, List.length_cons, h2]
  | [], _ :: _, _, _, hl, _ => by cases hl
  | _ :: _, [], _, _, hl, _ => by cases hl
/-- x.f = s -/
theorem Rel.putF {i : Nat} {c f0 : String} {ns : List String} {xs : List SV} (r : Rel K cl O ro ρ (s :: ts) σ (y :: ws) f H) (e : ρ[i]? = some (some (.ins c ns xs))) (hl : ns.length = xs.length) :
    ∃ a C dx fs f', σ[i]? = some (some (.ref a)) ∧ cl c = some C ∧ H a = some (.ins C dx fs) ∧ fs.length = ns.length ∧ ExW f H f' (upd H a (.ins C dx (L2.putF (stOf f0) y fs))) ∧
      Rel K cl O ro (ρ.set i (some (.ins c (putN f0 s ns xs).1 (putN f0 s ns xs).2))) ts σ ws f' (upd H a (.ins C dx (L2.putF (stOf f0) y fs))) := by
  obtain ⟨v, g, f1, e1, q, q1, k⟩ := r.slot e
  unfold OR at q
  obtain ⟨a, C, dx, wa, fa, rfl, hc, hH, hl2, rfl, m⟩ := q
  obtain ⟨vs', g', h1, h2, h3, h4⟩ := put_ok (f0 := f0) q1 hl m
  obtain ⟨f', ex, r'⟩ := k a fa g' (.ins C dx (L2.putF (stOf f0) y (zipS ns wa))) (.ins c (putN f0 s ns xs).1 (putN f0 s ns xs).2) rfl rfl h3 fun A' H' st k1 k2 hH' => by
    unfold OR
    refine ⟨a, C, dx, vs', g', rfl, hc, by rw [← h1]; exact hH', h2, rfl, ORs.stp st _ _ _ (fun b hb => ?_) h4⟩
    have hb' := h3 b
    rw [mem_of_count] at hb
    by_cases hf : b ∈ fa
    · exact k1 b hf
    · rw [mem_of_count] at hf
      exact k2 b (by rw [mem_of_count]; omega)
  exact ⟨a, C, dx, _, f', e1, hc, hH, by unfold zipS; rw [List.length_zip, List.length_map]; omega, ex, r'⟩
end
/-! ### what a statement does -/
def GF (cl : String → Option Addr) (K : PySem.W.Frag) (O : Addr → Prop) (ro : List (Nat × V)) (W : WX) (En : Ends) (f : List Addr) (H : Hp) (r : Fl) : Prop := match r with
  | .nx ρ' => ∀ σ' H' f', ExW f H f' H' → Rel K cl O ro ρ' [] σ' [] f' H' → En.nx σ' H'
  | .bk ρ' => ∀ σ' H' f', ExW f H f' H' → Rel K cl O ro ρ' [] σ' [] f' H' → En.bk σ' H'
  | .ct ρ' => ∀ σ' H' f', ExW f H f' H' → Rel K cl O ro ρ' [] σ' [] f' H' → En.ct σ' H'
  | .rt s ρ' => ∀ v σ' H' f', ExW f H f' H' → Rel K cl O ro ρ' [s] σ' [v] f' H' → En.rt v H'
  | .exc x ρ' => ∀ c d σ' H' f', ExW f H f' H' → Rel K cl O ro ρ' [] σ' [] f' H' → XR K cl (Av O f') H' x c d → W c d σ' H'
  | .no => False
def tX (cl : String → Option Addr) (K : PySem.W.Frag) (O : Addr → Prop) (ro : List (Nat × V)) (W : WX) (g : Env → Fl) : TS := fun En σ H => ∃ ρ f, Rel K cl O ro ρ [] σ [] f H ∧ GF cl K O ro W En f H (g ρ)
def tX1 (cl : String → Option Addr) (K : PySem.W.Frag) (O : Addr → Prop) (ro : List (Nat × V)) (W : WX) (h : SV → Env → Fl) (v : V) (En : Ends) (σ : L2.St) (H : Hp) : Prop := ∃ s ρ f, Rel K cl O ro ρ [s] σ [v] f H ∧ GF cl K O ro W En f H (h s ρ)
section
variable {K : PySem.W.Frag} {cl : String → Option Addr} {O : Addr → Prop} {ro : List (Nat × V)} {W : WX} {σ : L2.St} {H H' : Hp} {En : Ends} {f f' : List Addr}
theorem GF.ext {r : Fl} (e : ExW f H f' H') (h : GF cl K O ro W En f H r) : GF cl K O ro W En f' H' r := by
  cases r with
  | nx ρ' => exact fun σ' H2 f2 e2 r2 => h σ' H2 f2 (e.trans e2) r2
  | bk ρ' => exact fun σ' H2 f2 e2 r2 => h σ' H2 f2 (e.trans e2) r2
  | ct ρ' => exact fun σ' H2 f2 e2 r2 => h σ' H2 f2 (e.trans e2) r2
  | rt s ρ' => exact fun v σ' H2 f2 e2 r2 => h v σ' H2 f2 (e.trans e2) r2
  | exc x ρ' => exact fun c d σ' H2 f2 e2 r2 => h c d σ' H2 f2 (e.trans e2) r2
  | no => exact h
theorem tX.bind {g : Env → R SV} {h : SV → Env → Fl} (q : tX cl K O ro W (fun ρ => thenF (g ρ) h) En σ H) : tE K cl O ro W g σ H fun v H1 => tX1 cl K O ro W h v En σ H1 := by
  obtain ⟨ρ, f, r, q⟩ := q
  refine ⟨ρ, [], [], f, r, ?_⟩
  dsimp only at q
  cases e : g ρ with
  | ok s ρ1 =>
    rw [e] at q
    exact fun v H1 f1 e1 r1 => ⟨s, ρ1, f1, r1, GF.ext e1 q⟩
  | exc x ρ1 =>
    rw [e] at q
    exact fun c d H1 f1 e1 r1 xr => q c d σ H1 f1 e1 r1 xr
  | no =>
    rw [e] at q
    exact q
end
/-! ### the look at statements -/
def swB (sc : Scope) (y : Str) (py : Pos) (v : Expr) : Bool := match v with
  | .ListComp _ [⟨_, _, _, 0⟩] scope pos => decide (sc.names.lookup y = some .local) && ((py.line == pos.line) && !(scope.names.any fun (n, k) => n == y && (k == .local || k == .cell)))
  | _ => false
/-- a cell's list isn't swapped -/
theorem swaps_cell {v : Expr} {y : Str} {py : Pos} {l : Nat} {env : PySem.Env} (h : env.scope.names.lookup y = some .cell) : swapsWith v (some (.Name y py)) l env = pure false := by
  have hk : (env.kindOf y == some NameKind.local) = false := by
    unfold Env.kindOf
    rw [h]
    rfl
  cases v with
  | ListComp e gs sc p =>
    show (pure (env.blockKind == ScopeKind.function && env.kindOf y == some NameKind.local && py.line == (Expr.ListComp e gs sc p).pos.line && !(sc.names.any fun (n, k) => n == y && (k == .local || k == .cell))) : Sem Bool) = pure false
    rw [hk]
    simp
  | SetComp e gs sc p =>
    show (pure (env.blockKind == ScopeKind.function && env.kindOf y == some NameKind.local && py.line == (Expr.SetComp e gs sc p).pos.line && !(sc.names.any fun (n, k) => n == y && (k == .local || k == .cell))) : Sem Bool) = pure false
    rw [hk]
    simp
  | DictComp a e gs sc p =>
    show (pure (env.blockKind == ScopeKind.function && env.kindOf y == some NameKind.local && py.line == (Expr.DictComp a e gs sc p).pos.line && !(sc.names.any fun (n, k) => n == y && (k == .local || k == .cell))) : Sem Bool) = pure false
    rw [hk]
    simp
  | _ => rfl
/-- stores of such a thing aren't swapped -/
def noTup : Expr → Bool
  | .Tuple vs _ _ => decide (4 ≤ vs.length)
  | _ => true
theorem swapped_no {xs : List Expr} {k : Nat} {p : Pos} {e : Expr} {env : PySem.Env} (h : noTup e = true) : swappedStores [.Tuple xs k p] e env = pure none := by
  cases e with
  | Tuple vs k2 p2 =>
    have h : 4 ≤ vs.length := of_decide_eq_true h
    unfold swappedStores
    dsimp only
    have hc : (!(xs.length == 2 || xs.length == 3) || vs.length != xs.length || env.blockKind != ScopeKind.function) = true := by
      by_cases hx : xs.length = 2 ∨ xs.length = 3
      · have : (vs.length != xs.length) = true := by
          rw [bne_iff_ne]
          omega
        rw [this]
        simp
      · have : (xs.length == 2 || xs.length == 3) = false := by
          rw [Bool.or_eq_false_iff, beq_eq_false_iff_ne, beq_eq_false_iff_ne]
          omega
        rw [this]
        simp
    rw [if_pos hc]
  | _ => rfl
mutual
def ckS (N : List Str) : S → Scope → Stmt → Bool
  | .set i e, sc, x => (match x with
    | .Assign [.Name y py] v _ => decide (N[i]? = some y) && (locB sc y && (ck N e false sc v && ((noLc v || decide (sc.names.lookup y = some .cell)) || swB sc y py v)))
    | _ => false)
  | .setf i g e, sc, x => (match x with
    | .Assign [.Attribute (.Name y _) z _] v _ => decide (z = stOf g) && (decide (N[i]? = some y) && (visB sc y && (nmB y && (ck N e false sc v && noLc v))))
    | _ => false)
  | .app i e, sc, x => (match x with
    | .Expr (.Call (.Attribute (.Name y _) z ap) [v] [] p) _ => decide (z = stOf "append") && (decide (N[i]? = some y) && (visB sc y && (nmB y && (ck N e false sc v && (noSt v && (ap.endLine == p.line))))))
    | _ => false)
  | .expr e, sc, x => (match x with
    | .Expr v _ => ck N e false sc v && noLc v
    | _ => false)
  | .ret e, sc, x => (match x with
    | .Return (some v) _ => ck N e false sc v
    | _ => false)
  | .retn, _, x => (match x with
    | .Return none _ => true
    | _ => false)
  | .ite c a b, sc, x => (match x with
    | .If y p q _ => ckt N c sc y && (ckL N a sc p && ckL N b sc q)
    | _ => false)
  | .for_ g it b, sc, x => (match x with
    | .For tg y p [] _ => ck N it true sc y && ((noSet y && enuOk it tg) && (ckG N sc g tg && ckL N b sc p))
    | _ => false)
  | .whl c b, sc, x => (match x with
    | .While y p [] _ => ckt N c sc y && ckL N b sc p
    | _ => false)
  | .pass, _, x => (match x with
    | .Pass _ => true
    | _ => false)
  | .doc, _, x => (match x with
    | .Expr (.Constant (.str _) _ _) _ => true
    | _ => false)
  | .brk, _, x => (match x with
    | .Break _ => true
    | _ => false)
  | .cnt, _, x => (match x with
    | .Continue _ => true
    | _ => false)
  | .raise c as, sc, x => (match x with
    | .Raise (some (.Call (.Name y _) (e :: es) [] _)) none _ => gnB sc y (stOf c) && cks N as sc (e :: es)
    | _ => false)
  | .tryk b c i j, sc, x => (match x with
    | .Try body [.ExceptHandler (some (.Name y _)) (some n) [.Assign [.Name m _] (.Name n2 _) _] _] [] [] _ => gnB sc y (stOf c) && (ckL N b sc body && (decide (n2 = n) && (decide (N[i]? = some n) && (decide (N[j]? = some m) && (decide (i ≠ j) &&
        (decide (sc.names.lookup n = some .local) && (decide (sc.names.lookup m = some .local) && nmB n)))))))
    | _ => false)
  | .unp is e, sc, x => (match x with
    | .Assign [.Tuple xs _ _] v _ => ckN N sc is xs && (ck N e false sc v && (noLc v && noTup v))
    | _ => false)
  | .ext i e, sc, x => (match x with
    | .AugAssign (.Name y _) .Add v _ => decide (N[i]? = some y) && (locB sc y && ck N e false sc v)
    | _ => false)
  | .exm i e, sc, x => (match x with
    | .Expr (.Call (.Attribute (.Name y _) z ap) [v] [] p) _ => decide (z = stOf "extend") && (decide (N[i]? = some y) && (visB sc y && (nmB y && (ck N e false sc v && (noSt v && (ap.endLine == p.line))))))
    | _ => false)
  | .seti i j e, sc, x => (match x with
    | .Assign [.Subscript (.Name y _) (.Constant (.int c) _ _) _] v _ => decide (c = (j : Int)) && (decide (N[i]? = some y) && (visB sc y && (nmB y && (ck N e false sc v && noLc v))))
    | _ => false)
  | .appf i g j, sc, x => (match x with
    | .Expr (.Call (.Attribute (.Attribute (.Name y _) z _) m ap) [.Name w _] [] p) _ => (decide (z = stOf g) && decide (m = stOf "append")) && ((decide (N[i]? = some y) && (visB sc y && nmB y)) && ((decide (N[j]? = some w) && (visB sc w && nmB w)) && (ap.endLine == p.line)))
    | _ => false)
  | .bad, _, _ => true
  | .nil, _, _ => false
  | .cons _ _, _, _ => false
def ckL (N : List Str) : S → Scope → List Stmt → Bool
  | .nil, _, xs => (match xs with
    | [] => true
    | _ => false)
  | .cons s r, sc, xs => (match xs with
    | x :: xs => ckS N s sc x && ckL N r sc xs
    | _ => false)
  | _, _, _ => false
end
/-- what a def's body may lean on besides -/
structure SdS (X : Cx) (W : WX) : Prop where
  takes : Takes X W
  own : PassesOwn (model X.prog X.w) X.A X.env X.xe
  loc : ∀ x, locB X.env.scope x = true → LocF X x
  kind : X.env.scope.kind = .function
  stk : X.stack = X.env :: X.outer
  frm : X.env.frame = some X.env.locals
  ex0 : X.ex = []
section
variable (t : T) (F : String → List SV → Cr) (cl : String → Option Addr)
def PSp (c : S) : Prop := ∀ (X : Cx) (W : WX) (O : Addr → Prop) (ro : List (Nat × V)) (RO : List Nat) (x : Stmt), Sd X t F cl W → SdS X W → (∀ p ∈ ro, p.1 ∈ RO) → ckS X.N c X.env.scope x = true → PS X x (tX cl X.K O ro W (Kn.exec t F RO c))
def PLp (c : S) : Prop := ∀ (X : Cx) (W : WX) (O : Addr → Prop) (ro : List (Nat × V)) (RO : List Nat) (xs : List Stmt), Sd X t F cl W → SdS X W → (∀ p ∈ ro, p.1 ∈ RO) → ckL X.N c X.env.scope xs = true → PSs X xs (tX cl X.K O ro W (Kn.exec t F RO c))
end
section
variable {t : T} {F : String → List SV → Cr} {cl : String → Option Addr} {X : Cx} {W : WX} {O : Addr → Prop} {ro : List (Nat × V)} {RO : List Nat}
theorem PS.imp {x : Stmt} {u u' : TS} (h : PS X x u) (k : ∀ En σ H, u' En σ H → u En σ H) : PS X x u' := ⟨fun pins s σ H En I q => h.run pins s σ H En I (k En σ H q)⟩
theorem PSs.imp {x : List Stmt} {u u' : TS} (h : PSs X x u) (k : ∀ En σ H, u' En σ H → u En σ H) : PSs X x u' := ⟨fun pins s σ H En I q => h.run pins s σ H En I (k En σ H q)⟩
theorem l_nil : PLp t F cl .nil := by
  intro X W O ro RO xs S Z hr h
  unfold ckL at h
  split at h
  · refine PSs.imp pss_nil fun En σ H q => ?_
    obtain ⟨ρ, f, r, q⟩ := q
    simp only [Kn.exec] at q
    exact q σ H f (Ext.refl f H) r
  · cases h
theorem l_cons {s r : S} (hs : PSp t F cl s) (hl : PLp t F cl r) : PLp t F cl (.cons s r) := by
  intro X W O ro RO xs S Z hr h
  unfold ckL at h
  split at h
  · obtain ⟨h1, h2⟩ := bf_split h
    refine PSs.imp (pss_cons (hs X W O ro RO _ S Z hr h1) (hl X W O ro RO _ S Z hr h2)) fun En σ H q => ?_
    obtain ⟨ρ, f, rr, q⟩ := q
    refine ⟨ρ, f, rr, ?_⟩
    have e : Kn.exec t F RO (.cons s r) ρ = (match Kn.exec t F RO s ρ with
      | .nx ρ' => Kn.exec t F RO r ρ'
      | x => x) := by first | (simp only [Kn.exec]; done) | (simp only [Kn.exec]; rfl)
    rw [e] at q
    cases e1 : Kn.exec t F RO s ρ with
    | nx ρ' =>
      rw [e1] at q
      exact fun σ' H' f' ex r' => ⟨ρ', f', r', GF.ext ex q⟩
    | bk ρ' => rw [e1] at q; exact q
    | ct ρ' => rw [e1] at q; exact q
    | rt s' ρ' => rw [e1] at q; exact q
    | exc x ρ' => rw [e1] at q; exact q
    | no => rw [e1] at q; exact q
  · cases h
/-- a slot gets the value -/
theorem set_end {i : Nat} {v : V} {En : Ends} {σ : L2.St} {H : Hp} (hr : ∀ p ∈ ro, p.1 ∈ RO) (q : tX1 cl X.K O ro W (fun v ρ => if RO.contains i then .no else .nx (ρ.set i (some v))) v En σ H) : gName i v σ H En.nx := by
  obtain ⟨s, ρ, f, r, q⟩ := q
  dsimp only at q
  by_cases hc : RO.contains i = true
  · rw [if_pos hc] at q
    exact q.elim
  · rw [if_neg hc] at q
    by_cases hi : i < ρ.length
    · obtain ⟨f', ex, r'⟩ := r.set hi fun p hp z => hc (by rw [← z]; simpa using hr p hp)
      exact q _ H f' ex r'
    · obtain ⟨f', ex, r'⟩ := r.pop
      refine q _ H f' ex ?_
      have l := r.len
      rw [List.set_eq_of_length_le (by omega), List.set_eq_of_length_le (by omega)]
      exact r'
theorem x_set {e : E} (i : Nat) (he : All t F cl e) (hlc : ∀ (X : Cx) (W : WX) (O : Addr → Prop) (ro : List (Nat × V)) (y : Expr) (gs : List Comprehension) (scope : Scope) (p : Pos), Sd X t F cl W → ck X.N e false X.env.scope (.ListComp y gs scope p) = true →
    (∀ ρ, ev t F e ρ = .no) ∨ ∃ g gi st tg it ifs, gs = [⟨tg, it, ifs, 0⟩] ∧ LcOk X cl O ro W g gi st y tg it ifs scope ∧ ev t F e = (fun ρ => (gi ρ).bind fun ds ρ => if freeAt ρ (slotsT g) then
      outL ρ (slotsT g) (compL (fun d ρ' => match bindT g d (wipeE ρ' (slotsT g)) with
        | some ρ₂ => st ρ₂
        | none => .no) ds ρ [])
      else .no)) : PSp t F cl (.set i e) := by
  intro X W O ro RO x S Z hr h
  have e0 : Kn.exec t F RO (.set i e) = fun ρ => thenF (ev t F e ρ) fun v ρ => if RO.contains i then .no else .nx (ρ.set i (some v)) := by (funext ρ; simp only [Kn.exec])
  unfold ckS at h
  split at h
  · rename_i y py v pos
    obtain ⟨h1, h⟩ := bf_split h
    obtain ⟨h2, h⟩ := bf_split h
    obtain ⟨h3, h4⟩ := bf_split h
    have hi := of_decide_eq_true h1
    obtain ⟨l1, l2⟩ := Z.loc y h2
    rw [e0]
    rw [Bool.or_eq_true] at h4
    rcases h4 with h4 | h4
    · have hsw : swapsWith v (some (.Name y py)) pos.line X.env = pure false := by
        rw [Bool.or_eq_true] at h4
        rcases h4 with h4 | h4
        · exact swaps_no h4
        · exact swaps_cell (of_decide_eq_true h4)
      exact PS.imp (ps_set S.nd hi l1 (he.pe X W O ro v S h3) hsw l2) fun En σ H q => tE.mono q.bind fun v H1 q1 => set_end hr q1
    · unfold swB at h4
      split at h4
      · rename_i z g it ifs scope lp
        obtain ⟨a1, a2⟩ := bf_split h4
        obtain ⟨a2, a3⟩ := bf_split a2
        have a1 := of_decide_eq_true a1
        rcases hlc X W O ro _ _ _ _ S h3 with hn | ⟨g, gi, st, tg, it, ifs, eg, ok, ee⟩
        · refine ⟨fun pins s σ H En I q => ?_⟩
          obtain ⟨ρ, f, r, q⟩ := q
          dsimp only at q
          rw [hn] at q
          exact q.elim
        · cases eg
          obtain ⟨tt, te, b1, b2, b3, b4, b5, b6, b7⟩ := ok.ex
          refine PS.imp (ps_setLcX S.calm S.nd hi a1 (sw_true Z.kind a1 a2 (by simpa using a3)) b1 b2 S.fly b3 b4 b5 b6) fun En σ H q => ?_
          rw [own_map]
          have q2 := q.bind
          rw [ee] at q2
          exact lc_ok (b7 σ) (tE.mono q2 fun v H1 q1 => set_end hr q1)
      · cases h4
  · cases h
theorem x_setf {e : E} (i : Nat) (g : String) (he : All t F cl e) : PSp t F cl (.setf i g e) := by
  intro X W O ro RO x S Z hr h
  have e0 : Kn.exec t F RO (.setf i g e) = fun ρ => thenF (ev t F e ρ) fun v ρ => (match ρ[i]? with
    | some (some (.ins c ns xs)) => if ns.length < 900 ∧ ns.length = xs.length ∧ t.fld c g = true then let r := putN g v ns xs; .nx (ρ.set i (some (.ins c r.1 r.2))) else .no
    | _ => .no) := by (funext ρ; first | (simp only [Kn.exec]; done) | (simp only [Kn.exec]; rfl))
  unfold ckS at h
  split at h
  · rename_i y py z p2 v pos
    obtain ⟨h1, h⟩ := bf_split h
    obtain ⟨h2, h⟩ := bf_split h
    obtain ⟨h3, h⟩ := bf_split h
    obtain ⟨h4, h⟩ := bf_split h
    obtain ⟨h5, h6⟩ := bf_split h
    have h1 := of_decide_eq_true h1
    subst h1
    obtain ⟨n1, n2, _⟩ := nmB_ok h4
    rw [e0]
    refine PS.imp (ps_fld (pe_var (of_decide_eq_true h2) (visB_ok h3) n1 n2) (he.pe X W O ro v S h5) (swaps_no h6)) fun En σ H q => tE.mono q.bind fun v H1 q1 => ?_
    obtain ⟨s, ρ, f, r, q⟩ := q1
    dsimp only at q
    split at q
    · rename_i c ns xs es
      split at q
      · rename_i hh
        obtain ⟨hn, hl, hf⟩ := hh
        obtain ⟨a, C, dx, fs, f', e1, hc, hH, hlen, ex, r'⟩ := r.putF (f0 := g) es hl
        obtain ⟨k1, k2⟩ := S.fld _ _ _ hf hc
        exact ⟨_, e1, a, C, dx, fs, rfl, hH, k1, k2, by omega, q _ _ f' ex r'⟩
      · exact q.elim
    · exact q.elim
  · cases h
theorem x_app {e : E} (i : Nat) (he : All t F cl e) : PSp t F cl (.app i e) := by
  intro X W O ro RO x S Z hr h
  have e0 : Kn.exec t F RO (.app i e) = fun ρ => (match ρ[i]? with
    | some (some (.lst _)) => thenF (ev t F e ρ) fun v ρ => (match ρ[i]? with
      | some (some (.lst xs)) => if xs.length < lim then .nx (ρ.set i (some (.lst (xs ++ [v])))) else .no
      | _ => .no)
    | _ => .no) := by (funext ρ; first | (simp only [Kn.exec]; done) | (simp only [Kn.exec]; rfl))
  unfold ckS at h
  split at h
  · rename_i y py z ap v p pos
    obtain ⟨h1, h⟩ := bf_split h
    obtain ⟨h2, h⟩ := bf_split h
    obtain ⟨h3, h⟩ := bf_split h
    obtain ⟨h4, h⟩ := bf_split h
    obtain ⟨h5, h⟩ := bf_split h
    obtain ⟨h6, h7⟩ := bf_split h
    have h1 := of_decide_eq_true h1
    subst h1
    obtain ⟨n1, n2, _⟩ := nmB_ok h4
    rw [e0]
    refine PS.imp (ps_expr (pe_bm PySem.F.plainAttrs_list PySem.F.slot_list_append PySem.F.type_list_append mt_append (pe_var (of_decide_eq_true h2) (visB_ok h3) n1 n2) (pa_cons (he.pe X W O ro v S h5) pa_nil (star_cons h6)) rfl
      (by rw [star_cons h6]; rfl) h7 (star_cons h6) rfl) (swaps_no rfl)) fun En σ H q => ?_
    obtain ⟨ρ, f, r, q⟩ := q
    dsimp only at q
    split at q
    · rename_i xs0 es0
      obtain ⟨w, g, e1, q1⟩ := r.own es0
      unfold OR at q1
      obtain ⟨a, wa, fa, rfl, hH, _, _⟩ := q1
      refine ⟨.ref a, e1, .inl ⟨rfl, _, SqL.of hH⟩, ?_⟩
      have q2 : tX cl X.K O ro W (fun ρ => thenF (ev t F e ρ) fun v ρ => (match ρ[i]? with
        | some (some (.lst xs)) => if xs.length < lim then .nx (ρ.set i (some (.lst (xs ++ [v])))) else .no
        | _ => .no)) En σ H := ⟨ρ, f, r, q⟩
      refine tE.mono q2.bind fun v H1 q1 => ?_
      obtain ⟨s, ρ, f, r, q⟩ := q1
      dsimp only at q
      split at q
      · rename_i xs es
        split at q
        · rename_i hl
          obtain ⟨a', wa', f', e1', hH', hlen, ex, r'⟩ := r.appS es
          rw [e1] at e1'
          cases e1'
          exact ⟨a, wa', v, rfl, rfl, hH', by rw [← hlen]; exact Nat.lt_of_lt_of_le hl (by decide), q _ _ f' ex r'⟩
        · exact q.elim
      · exact q.elim
    · exact q.elim
  · cases h
theorem x_seti {e : E} (i j : Nat) (he : All t F cl e) : PSp t F cl (.seti i j e) := by
  intro X W O ro RO x S Z hr h
  have e0 : Kn.exec t F RO (.seti i j e) = fun ρ => thenF (ev t F e ρ) fun v ρ => (match ρ[i]? with
    | some (some (.lst xs)) => if j < xs.length then .nx (ρ.set i (some (.lst (xs.set j v)))) else .no
    | _ => .no) := by (funext ρ; first | (simp only [Kn.exec]; done) | (simp only [Kn.exec]; rfl))
  unfold ckS at h
  split at h
  · rename_i y py c jc cp p2 v pos
    obtain ⟨h1, h⟩ := bf_split h
    obtain ⟨h2, h⟩ := bf_split h
    obtain ⟨h3, h⟩ := bf_split h
    obtain ⟨h4, h⟩ := bf_split h
    obtain ⟨h5, h6⟩ := bf_split h
    have h1 := of_decide_eq_true h1
    subst h1
    obtain ⟨n1, n2, _⟩ := nmB_ok h4
    rw [e0]
    refine PS.imp (ps_asg (he.pe X W O ro v S h5) (pg_sub (pe_var (of_decide_eq_true h2) (visB_ok h3) n1 n2) pe_int set_list) (by first | (unfold swapsWithSole; exact swaps_no h6) | (simp only [swapsWithSole]; exact swaps_no h6))) fun En σ H q => tE.mono q.bind fun v H1 q1 => ?_
    obtain ⟨s, ρ, f, r, q⟩ := q1
    dsimp only at q
    split at q
    · rename_i xs es
      split at q
      · rename_i hj
        obtain ⟨a, wa, f', e1, hH, hlen, ex, r'⟩ := r.setI (j := j) es
        refine ⟨_, e1, a, wa, (j : Int), j, rfl, rfl, hH, ?_, q _ _ f' ex r'⟩
        unfold ixN
        rw [if_pos (by omega), if_pos (by omega)]
        rfl
      · exact q.elim
    · exact q.elim
  · cases h
theorem x_appf (i : Nat) (g : String) (j : Nat) : PSp t F cl (.appf i g j) := by
  intro X W O ro RO x S Z hr h
  have e0 : Kn.exec t F RO (.appf i g j) = fun ρ => (match ρ[j]?, ρ[i]? with
    | some (some (.d y)), some (some (.ins c ns xs)) => if ns.length = xs.length ∧ t.fld c g = true then (match fieldS ns xs g with
      | some (.lst ys) => if ys.length < lim then let r := putN g (.lst (ys ++ [.d y])) ns xs; .nx (ρ.set i (some (.ins c r.1 r.2))) else .no
      | _ => .no) else .no
    | _, _ => .no) := by (funext ρ; first | (simp only [Kn.exec]; done) | (simp only [Kn.exec]; rfl))
  unfold ckS at h
  split at h
  · rename_i y py z p1 m ap w pw p pos
    obtain ⟨h1, h⟩ := bf_split h
    obtain ⟨h1, h2⟩ := bf_split h1
    obtain ⟨h3, h⟩ := bf_split h
    obtain ⟨h3, h4⟩ := bf_split h3
    obtain ⟨h4, h5⟩ := bf_split h4
    obtain ⟨h6, h9⟩ := bf_split h
    obtain ⟨h6, h7⟩ := bf_split h6
    obtain ⟨h7, h8⟩ := bf_split h7
    have h1 := of_decide_eq_true h1
    have h2 := of_decide_eq_true h2
    subst h1 h2
    obtain ⟨n1, n2, _⟩ := nmB_ok h5
    obtain ⟨n3, n4, _⟩ := nmB_ok h8
    rw [e0]
    refine PS.imp (ps_expr (pe_bm PySem.F.plainAttrs_list PySem.F.slot_list_append PySem.F.type_list_append mt_append (pe_fldX (pe_var (of_decide_eq_true h3) (visB_ok h4) n1 n2) (attr_base rfl))
      (pa_cons (pe_var (of_decide_eq_true h6) (visB_ok h7) n3 n4) pa_nil rfl) (attr_base rfl) rfl h9 rfl rfl) (swaps_no rfl)) fun En σ H q => ?_
    obtain ⟨ρ, f, r, q⟩ := q
    dsimp only at q
    split at q
    · rename_i yd c ns xs ej ei
      split at q
      · rename_i hh
        obtain ⟨hl, hf⟩ := hh
        split at q
        · rename_i ys hfs
          split at q
          · rename_i hys
            obtain ⟨u, eu, hu⟩ := r.getD ej
            obtain ⟨v, g1, ev1, q1, c1, k⟩ := r.slotG ei
            unfold OR at q1
            obtain ⟨a, C, dx, wa, fa, rfl, hc, hH, hl2, rfl, m⟩ := q1
            obtain ⟨k1, k2⟩ := S.fld _ _ _ hf hc
            obtain ⟨l, wl, j1, j2, j3, j4, j5⟩ := app_field m hfs fun b => by have := c1 b; rw [List.count_cons] at this; omega
            have na : l ≠ a := fun z => by
              have := c1 a
              rw [List.count_cons_self] at this
              have h2 := mem_of_count.mp j4
              rw [z] at h2
              omega
            obtain ⟨f', ex, r'⟩ := k l (.lst (wl ++ [u])) (.ins c (putN g (.lst (ys ++ [.d yd])) ns xs).1 (putN g (.lst (ys ++ [.d yd])) ns xs).2) (List.mem_cons_of_mem _ j4) fun A' H' st same hl' => by
              obtain ⟨i1, i2⟩ := j5 A' H' yd u st (fun b hb hn => same b (List.mem_cons_of_mem _ hb) hn) hl' (VR.stp st _ _ hu)
              unfold OR
              exact ⟨a, C, dx, wa, fa, rfl, hc, by rw [i2, same a List.mem_cons_self (Ne.symm na)]; exact hH, by rw [i2]; exact hl2, rfl, i1⟩
            refine ⟨.ref a, ev1, .inl ⟨a, C, dx, _, .ref l, rfl, hH, k1, k2, j1, .inl ⟨rfl, _, SqL.of j2⟩, u, eu, l, wl, u, rfl, rfl, j2, ?_, q _ _ f' ex r'⟩⟩
            rw [← j3]
            exact Nat.lt_of_lt_of_le hys (by decide)
          · exact q.elim
        · exact q.elim
      · exact q.elim
    · exact q.elim
  · cases h
theorem x_unp {e : E} (is : List Nat) (he : All t F cl e) : PSp t F cl (.unp is e) := by
  intro X W O ro RO x S Z hr h
  have e0 : Kn.exec t F RO (.unp is e) = fun ρ => thenF (ev t F e ρ) fun v ρ => (match bindT (.tp is) (frz v) ρ with
    | some ρ' => if is.all (fun i => !RO.contains i) then .nx ρ' else .no
    | none => .no) := by (funext ρ; first | (simp only [Kn.exec]; done) | (simp only [Kn.exec]; rfl))
  unfold ckS at h
  split at h
  · rename_i xs k p v pos
    obtain ⟨h1, h⟩ := bf_split h
    obtain ⟨h2, h⟩ := bf_split h
    obtain ⟨h3, h4⟩ := bf_split h
    obtain ⟨a1, a2⟩ := assign_names (env := X.env) h1
    rw [e0]
    refine PS.imp (ps_asg (he.pe X W O ro v S h2) (pg_tup S.calm (pgs_of S.nd Z.loc h1) a1 a2) (show swapsWith v (some (.Tuple xs k p)) pos.line X.env = pure false from swaps_no h3) (swapped_no h4)) fun En σ H q => ?_
    refine tE.mono q.bind fun v H1 q1 => ?_
    obtain ⟨s, ρ, f, r, q⟩ := q1
    dsimp only at q
    obtain ⟨f1, ex1, r1⟩ := r.freeze
    have hv := r1.top
    obtain ⟨f2, ex2, r2⟩ := r1.pop
    have hv2 : VR X.K cl (Av O f2) H1 (Kn.frz s) v := VR.stp (Stp.ext ex2 (fun _ h => h) fun a h => .inl h) _ _ hv
    cases hb : bindT (.tp is) (frz s) ρ with
    | none => rw [hb] at q; exact q.elim
    | some ρ2 =>
      rw [hb] at q
      have q : GF cl X.K O ro W En f H1 (if is.all (fun i => !RO.contains i) then .nx ρ2 else .no) := q
      by_cases hro : is.all (fun i => !RO.contains i) = true
      · rw [if_pos hro] at q
        have hg : ∀ p ∈ ro, p.1 ∉ slotsT (.tp is) := fun p hp z => by
          have := (List.all_eq_true.mp hro) _ z
          simp at this
          exact this (hr p hp)
        exact g_ok (g := .tp is) r2 hv2 hg hb fun σ2 f' ex r' _ => q σ2 H1 f' ((ex1.trans ex2).trans ex) r'
      · rw [if_neg hro] at q
        exact q.elim
  · cases h
theorem x_ext {e : E} (i : Nat) (he : All t F cl e) : PSp t F cl (.ext i e) := by
  intro X W O ro RO x S Z hr h
  have e0 : Kn.exec t F RO (.ext i e) = fun ρ => (match ρ[i]? with
    | some (some (.lst _)) => thenF (ev t F e ρ) fun v ρ => (match ρ[i]? with
      | some (some (.lst xs)) => (match svl v with
        | some ys => if xs.length + ys.length ≤ lim then .nx (ρ.set i (some (.lst (xs ++ ys)))) else .no
        | none => .no)
      | _ => .no)
    | _ => .no) := by (funext ρ; first | (simp only [Kn.exec]; done) | (simp only [Kn.exec]; rfl))
  unfold ckS at h
  split at h
  · rename_i y py v pos
    obtain ⟨h1, h⟩ := bf_split h
    obtain ⟨h2, h3⟩ := bf_split h
    have hi := of_decide_eq_true h1
    obtain ⟨l1, l2⟩ := Z.loc y h2
    rw [e0]
    refine PS.imp (ps_aug S.nd hi l1 (he.pe X W O ro v S h3) iop_ext l2) fun En σ H q => ?_
    obtain ⟨ρ, f, r, q⟩ := q
    dsimp only at q
    split at q
    · rename_i xs0 es0
      obtain ⟨w, g, e1, q1⟩ := r.own es0
      refine ⟨w, e1, ?_⟩
      have q2 : tX cl X.K O ro W (fun ρ => thenF (ev t F e ρ) fun v ρ => (match ρ[i]? with
        | some (some (.lst xs)) => (match svl v with
          | some ys => if xs.length + ys.length ≤ lim then .nx (ρ.set i (some (.lst (xs ++ ys)))) else .no
          | none => .no)
        | _ => .no)) En σ H := ⟨ρ, f, r, q⟩
      refine tE.mono q2.bind fun v H1 q1 => ?_
      obtain ⟨s, ρ, f, r, q⟩ := q1
      dsimp only at q
      split at q
      · rename_i xs es
        split at q
        · rename_i ys hy
          split at q
          · rename_i hl
            obtain ⟨a, b, wa, zs, f', e1', rfl, hA, hB, l1, l2, ex, r'⟩ := r.extS es hy
            rw [e1] at e1'
            cases e1'
            refine ⟨a, b, wa, zs, rfl, rfl, hA, hB, by rw [← l1, ← l2]; exact lim_le hl, ?_⟩
            show En.nx (List.set σ i (some (V.ref a))) _
            rw [set_same e1]
            exact q _ _ f' ex r'
          · exact q.elim
        · exact q.elim
      · exact q.elim
    · exact q.elim
  · cases h
theorem x_exm {e : E} (i : Nat) (he : All t F cl e) : PSp t F cl (.exm i e) := by
  intro X W O ro RO x S Z hr h
  have e0 : Kn.exec t F RO (.exm i e) = fun ρ => (match ρ[i]? with
    | some (some (.lst _)) => thenF (ev t F e ρ) fun v ρ => (match ρ[i]? with
      | some (some (.lst xs)) => (match svl v with
        | some ys => if xs.length + ys.length ≤ lim then .nx (ρ.set i (some (.lst (xs ++ ys)))) else .no
        | none => .no)
      | _ => .no)
    | _ => .no) := by (funext ρ; first | (simp only [Kn.exec]; done) | (simp only [Kn.exec]; rfl))
  unfold ckS at h
  split at h
  · rename_i y py z ap v p pos
    obtain ⟨h1, h⟩ := bf_split h
    obtain ⟨h2, h⟩ := bf_split h
    obtain ⟨h3, h⟩ := bf_split h
    obtain ⟨h4, h⟩ := bf_split h
    obtain ⟨h5, h⟩ := bf_split h
    obtain ⟨h6, h7⟩ := bf_split h
    have h1 := of_decide_eq_true h1
    subst h1
    obtain ⟨n1, n2, _⟩ := nmB_ok h4
    rw [e0]
    refine PS.imp (ps_expr (pe_bm PySem.F.plainAttrs_list PySem.F.slot_list_extend PySem.F.type_list_extend mt_extend (pe_var (of_decide_eq_true h2) (visB_ok h3) n1 n2) (pa_cons (he.pe X W O ro v S h5) pa_nil (star_cons h6)) rfl
      (by rw [star_cons h6]; rfl) h7 (star_cons h6) rfl) (swaps_no rfl)) fun En σ H q => ?_
    obtain ⟨ρ, f, r, q⟩ := q
    dsimp only at q
    split at q
    · rename_i xs0 es0
      obtain ⟨w, g, e1, q1⟩ := r.own es0
      unfold OR at q1
      obtain ⟨a, wa, fa, rfl, hH, _, _⟩ := q1
      refine ⟨.ref a, e1, .inl ⟨rfl, _, SqL.of hH⟩, ?_⟩
      have q2 : tX cl X.K O ro W (fun ρ => thenF (ev t F e ρ) fun v ρ => (match ρ[i]? with
        | some (some (.lst xs)) => (match svl v with
          | some ys => if xs.length + ys.length ≤ lim then .nx (ρ.set i (some (.lst (xs ++ ys)))) else .no
          | none => .no)
        | _ => .no)) En σ H := ⟨ρ, f, r, q⟩
      refine tE.mono q2.bind fun v H1 q1 => ?_
      obtain ⟨s, ρ, f, r, q⟩ := q1
      dsimp only at q
      split at q
      · rename_i xs es
        split at q
        · rename_i ys hy
          split at q
          · rename_i hl
            obtain ⟨a2, b, wa2, zs, f', e1', rfl, hA, hB, l1, l2, ex, r'⟩ := r.extS es hy
            rw [e1] at e1'
            cases e1'
            exact ⟨a, b, wa2, zs, rfl, rfl, hA, hB, by rw [← l1, ← l2]; exact lim_le hl, q _ _ f' ex r'⟩
          · exact q.elim
        · exact q.elim
      · exact q.elim
    · exact q.elim
  · cases h
theorem x_expr {e : E} (he : All t F cl e) : PSp t F cl (.expr e) := by
  intro X W O ro RO x S Z hr h
  have e0 : Kn.exec t F RO (.expr e) = fun ρ => thenF (ev t F e ρ) fun _ ρ => .nx ρ := by (funext ρ; simp only [Kn.exec])
  unfold ckS at h
  split at h
  · obtain ⟨h1, h2⟩ := bf_split h
    rw [e0]
    refine PS.imp (ps_expr (he.pe X W O ro _ S h1) (swaps_no h2)) fun En σ H q => tE.mono q.bind fun v H1 q1 => ?_
    obtain ⟨s, ρ, f, r, q⟩ := q1
    obtain ⟨f', ex, r'⟩ := r.pop
    exact q _ _ f' ex r'
  · cases h
theorem x_ret {e : E} (he : All t F cl e) : PSp t F cl (.ret e) := by
  intro X W O ro RO x S Z hr h
  have e0 : Kn.exec t F RO (.ret e) = fun ρ => thenF (ev t F e ρ) fun v ρ => .rt v ρ := by (funext ρ; simp only [Kn.exec])
  unfold ckS at h
  split at h
  · rw [e0]
    refine PS.imp (ps_ret (he.pe X W O ro _ S h)) fun En σ H q => tE.mono q.bind fun v H1 q1 => ?_
    obtain ⟨s, ρ, f, r, q⟩ := q1
    exact q v _ _ f (Ext.refl f H1) r
  · cases h
theorem x_retn : PSp t F cl .retn := by
  intro X W O ro RO x S Z hr h
  unfold ckS at h
  split at h
  · refine PS.imp ps_retN fun En σ H q => ?_
    obtain ⟨ρ, f, r, q⟩ := q
    simp only [Kn.exec] at q
    exact q .non σ H f (Ext.refl f H) (r.push VR.non)
  · cases h
theorem x_pass : PSp t F cl .pass := by
  intro X W O ro RO x S Z hr h
  unfold ckS at h
  split at h
  · refine PS.imp ps_pass fun En σ H q => ?_
    obtain ⟨ρ, f, r, q⟩ := q
    simp only [Kn.exec] at q
    exact q σ H f (Ext.refl f H) r
  · cases h
theorem x_doc : PSp t F cl .doc := by
  intro X W O ro RO x S Z hr h
  unfold ckS at h
  split at h
  · refine PS.imp ps_doc fun En σ H q => ?_
    obtain ⟨ρ, f, r, q⟩ := q
    simp only [Kn.exec] at q
    exact q σ H f (Ext.refl f H) r
  · cases h
theorem x_brk : PSp t F cl .brk := by
  intro X W O ro RO x S Z hr h
  unfold ckS at h
  split at h
  · refine PS.imp ps_break fun En σ H q => ?_
    obtain ⟨ρ, f, r, q⟩ := q
    simp only [Kn.exec] at q
    exact q σ H f (Ext.refl f H) r
  · cases h
theorem x_cnt : PSp t F cl .cnt := by
  intro X W O ro RO x S Z hr h
  unfold ckS at h
  split at h
  · refine PS.imp ps_continue fun En σ H q => ?_
    obtain ⟨ρ, f, r, q⟩ := q
    simp only [Kn.exec] at q
    exact q σ H f (Ext.refl f H) r
  · cases h
theorem x_bad : PSp t F cl .bad := by
  intro X W O ro RO x S Z hr h
  refine PS.imp ps_never fun En σ H q => ?_
  obtain ⟨ρ, f, r, q⟩ := q
  simp only [Kn.exec] at q
  exact q.elim
theorem x_ite {c : E} {a b : S} (hc : All t F cl c) (ha : PLp t F cl a) (hb : PLp t F cl b) : PSp t F cl (.ite c a b) := by
  intro X W O ro RO x S Z hr h
  have e0 : Kn.exec t F RO (.ite c a b) = fun ρ => thenF (ev t F c ρ) fun v ρ => (match v with
    | .d (.bl true) => Kn.exec t F RO a ρ
    | .d (.bl false) => Kn.exec t F RO b ρ
    | _ => .no) := by (funext ρ; first | (simp only [Kn.exec]; done) | (simp only [Kn.exec]; rfl))
  unfold ckS at h
  split at h
  · obtain ⟨h1, h⟩ := bf_split h
    obtain ⟨h2, h3⟩ := bf_split h
    rw [e0]
    refine PS.imp (ps_if (hc.pt X W O ro _ S h1) (ha X W O ro RO _ S Z hr h2) (hb X W O ro RO _ S Z hr h3)) fun En σ H q => ?_
    obtain ⟨ρ, f, r, q⟩ := q
    dsimp only at q
    refine ⟨ρ, [], [], f, r, ?_⟩
    cases e1 : ev t F c ρ with
    | ok s ρ1 =>
      rw [e1] at q
      cases s with
      | d x =>
        cases x with
        | bl b0 =>
          intro H' f' ex r'
          cases b0 with
          | true =>
            rw [if_pos rfl]
            exact ⟨ρ1, f', r', GF.ext ex q⟩
          | false =>
            rw [if_neg Bool.false_ne_true]
            exact ⟨ρ1, f', r', GF.ext ex q⟩
        | _ => exact False.elim q
      | lst _ => exact False.elim q
      | ins _ _ _ => exact False.elim q
      | dk _ _ => exact False.elim q
    | exc x ρ1 =>
      rw [e1] at q
      exact fun c d H1 f1 e1 r1 xr => q c d σ H1 f1 e1 r1 xr
    | no =>
      rw [e1] at q
      exact q
  · cases h
theorem x_for {g : Tg} {it : E} {b : S} (hi : All t F cl it) (hb : PLp t F cl b) : PSp t F cl (.for_ g it b) := by
  intro X W O ro RO x S Z hr h
  have e0 : Kn.exec t F RO (.for_ g it b) = fun ρ => thenF (evi t F it ρ) fun ds ρ => if (slotsT g).all (fun i => !RO.contains i) then loopF (fun d ρ => match bindT g d ρ with
      | some ρ' => Kn.exec t F RO b ρ'
      | none => .no) ds ρ else .no := by (funext ρ; first | (simp only [Kn.exec]; done) | (simp only [Kn.exec]; rfl))
  unfold ckS at h
  split at h
  · obtain ⟨h1, h⟩ := bf_split h
    obtain ⟨h2, h⟩ := bf_split h
    obtain ⟨h3, h4⟩ := bf_split h
    rw [e0]
    refine PS.imp (ps_for Z.own S.calm (hi.pi X W O ro _ _ S h1 (bf_split h2).2) (pg_of S.calm S.nd Z.loc h3) (hb X W O ro RO _ S Z hr h4) (fold_no (bf_split h2).1)) fun En σ H q => ?_
    obtain ⟨ρ, f, r, q⟩ := q
    dsimp only at q
    refine ⟨ρ, [], [], f, r, ?_⟩
    cases e1 : evi t F it ρ with
    | no => rw [e1] at q; exact q
    | exc x ρ1 =>
      rw [e1] at q
      exact fun c d H1 f1 e1 r1 xr => q c d σ H1 f1 e1 r1 xr
    | ok ds ρ1 =>
      rw [e1] at q
      have q : GF cl X.K O ro W En f H (if (slotsT g).all (fun i => !RO.contains i) then loopF (fun d ρ => match bindT g d ρ with
        | some ρ' => Kn.exec t F RO b ρ'
        | none => .no) ds ρ1 else .no) := q
      by_cases hro : (slotsT g).all (fun i => !RO.contains i) = true
      · rw [if_pos hro] at q
        have hg : ∀ p ∈ ro, p.1 ∉ slotsT g := fun p hp z => by
          have := (List.all_eq_true.mp hro) _ z
          simp at this
          exact this (hr p hp)
        generalize hst : (fun d ρ => match bindT g d ρ with
          | some ρ' => Kn.exec t F RO b ρ'
          | none => Fl.no) = step at q
        intro J H1 f1 ex1 r1 j1
        refine ⟨fun i m σ H => m = ds.length - i ∧ i ≤ ds.length ∧ ∃ ρi fi, Rel X.K cl O ro ρi [] σ [] fi H ∧ JD X.K cl (Av O fi) H J ds ∧ GF cl X.K O ro W En fi H (loopF step (ds.drop i) ρi),
          ⟨ds.length, by simp, Nat.zero_le _, ρ1, f1, r1, j1, GF.ext ex1 q⟩, ?_⟩
        rintro i m σ2 H2 ⟨rfl, hi, ρi, fi, ri, ji, qi⟩
        by_cases hlt : i < ds.length
        · refine .inr ⟨(ji.turn ri hlt).1, fun σ H => ∃ ρi fi, Rel X.K cl O ro ρi [] σ [] fi H ∧ JD X.K cl (Av O fi) H J ds ∧ GF cl X.K O ro W En fi H (loopF step (ds.drop (i + 1)) ρi),
            fun σ' H' p => ⟨ds.length - (i + 1), by omega, rfl, hlt, p⟩, fun x H' hy => ?_⟩
          obtain ⟨ext, rit, jit, hv⟩ := (ji.turn ri hlt).2 x H' hy
          have ri := rit
          have ji := jit
          have qi := GF.ext ext.w qi
          rw [List.drop_eq_getElem_cons hlt] at qi
          unfold loopF at qi
          have hs0 : step ds[i] ρi = match bindT g ds[i] ρi with
            | some ρ' => Kn.exec t F RO b ρ'
            | none => .no := by rw [← hst]
          cases hbd : bindT g ds[i] ρi with
          | none =>
            rw [hbd] at hs0
            rw [hs0] at qi
            exact qi.elim
          | some ρ2 =>
            rw [hbd] at hs0
            have hs0 : step ds[i] ρi = Kn.exec t F RO b ρ2 := hs0
            rw [hs0] at qi
            refine g_ok ri hv hg hbd fun σ3 f2 ex2 r2 _ => ⟨ρ2, f2, r2, ?_⟩
            have qi2 := GF.ext ex2.w qi
            have ji2 := ji.stp (Stp.ext ex2 (fun _ h => h) fun a h => .inl h)
            cases hs : Kn.exec t F RO b ρ2 with
            | nx ρ3 =>
              rw [hs] at qi2
              exact fun σ' H' f' ex r' => ⟨ρ3, f', r', ji2.stp (Stp.extW ex (fun _ h => h) fun a h => .inl h), GF.ext ex qi2⟩
            | ct ρ3 =>
              rw [hs] at qi2
              exact fun σ' H' f' ex r' => ⟨ρ3, f', r', ji2.stp (Stp.extW ex (fun _ h => h) fun a h => .inl h), GF.ext ex qi2⟩
            | bk ρ3 => rw [hs] at qi2; exact qi2
            | rt s ρ3 => rw [hs] at qi2; exact qi2
            | exc y ρ3 => rw [hs] at qi2; exact qi2
            | no => rw [hs] at qi2; exact qi2
        · have ei : i = ds.length := by omega
          subst ei
          rw [List.drop_length] at qi
          exact .inl ⟨ji.stop (Nat.le_refl _), qi σ2 H2 fi (Ext.refl fi H2) ri⟩
      · rw [if_neg hro] at q
        exact q.elim
  · cases h
theorem x_whl {c : E} {b : S} (hc : All t F cl c) (hb : PLp t F cl b) : PSp t F cl (.whl c b) := by
  intro X W O ro RO x S Z hr h
  have e0 : Kn.exec t F RO (.whl c b) = fun ρ => loopW (ev t F c) (Kn.exec t F RO b) fuel ρ := by (funext ρ; simp only [Kn.exec])
  unfold ckS at h
  split at h
  · obtain ⟨h1, h2⟩ := bf_split h
    rw [e0]
    refine PS.imp (ps_while Z.own (hc.pt X W O ro _ S h1) (hb X W O ro RO _ S Z hr h2)) fun En σ H q => ?_
    obtain ⟨ρ, f, r, q⟩ := q
    dsimp only at q
    refine ⟨fun m σ H => ∃ ρ f, Rel X.K cl O ro ρ [] σ [] f H ∧ GF cl X.K O ro W En f H (loopW (ev t F c) (Kn.exec t F RO b) m ρ), ⟨fuel, ρ, f, r, q⟩, ?_⟩
    rintro m σ2 H2 ⟨ρi, fi, ri, qi⟩
    cases m with
    | zero => exact False.elim qi
    | succ m =>
      unfold loopW at qi
      refine ⟨ρi, [], [], fi, ri, ?_⟩
      cases e1 : ev t F c ρi with
      | ok s ρ1 =>
        rw [e1] at qi
        cases s with
        | d x =>
          cases x with
          | bl b0 =>
            intro H' f' ex r'
            cases b0 with
            | true =>
              rw [if_pos rfl]
              refine ⟨fun σ H => ∃ ρ f, Rel X.K cl O ro ρ [] σ [] f H ∧ GF cl X.K O ro W En f H (loopW (ev t F c) (Kn.exec t F RO b) m ρ), fun σ' H' p => ⟨m, Nat.lt_succ_self m, p⟩, ρ1, f', r', ?_⟩
              have qi : GF cl X.K O ro W En fi H2 (match Kn.exec t F RO b ρ1 with
                | .nx ρ' => loopW (ev t F c) (Kn.exec t F RO b) m ρ'
                | .ct ρ' => loopW (ev t F c) (Kn.exec t F RO b) m ρ'
                | .bk ρ' => .nx ρ'
                | r => r) := qi
              have qi2 := GF.ext ex.w qi
              cases hs : Kn.exec t F RO b ρ1 with
              | nx ρ3 => rw [hs] at qi2; exact fun σ' H' f' ex r' => ⟨ρ3, f', r', GF.ext ex qi2⟩
              | ct ρ3 => rw [hs] at qi2; exact fun σ' H' f' ex r' => ⟨ρ3, f', r', GF.ext ex qi2⟩
              | bk ρ3 => rw [hs] at qi2; exact qi2
              | rt s ρ3 => rw [hs] at qi2; exact qi2
              | exc y ρ3 => rw [hs] at qi2; exact qi2
              | no => rw [hs] at qi2; exact qi2
            | false =>
              rw [if_neg Bool.false_ne_true]
              exact qi σ2 H' f' ex r'
          | _ => exact False.elim qi
        | lst _ => exact False.elim qi
        | ins _ _ _ => exact False.elim qi
        | dk _ _ => exact False.elim qi
      | exc x ρ1 =>
        rw [e1] at qi
        exact fun c d H1 f1 e1 r1 xr => qi c d σ2 H1 f1 e1 r1 xr
      | no =>
        rw [e1] at qi
        exact qi
  · cases h
/-- behind several values -/
def tXs (cl : String → Option Addr) (K : PySem.W.Frag) (O : Addr → Prop) (ro : List (Nat × V)) (W : WX) (n : Nat) (h : List SV → Env → Fl) (vs : List V) (En : Ends) (σ : L2.St) (H : Hp) : Prop :=
  ∃ ss ρ f, ss.length = n ∧ ss.length = vs.length ∧ Rel K cl O ro ρ (ss ++ []) σ (vs ++ []) f H ∧ GF cl K O ro W En f H (h ss ρ)
theorem tX.binds {K : PySem.W.Frag} {En : Ends} {σ : L2.St} {H : Hp} {n : Nat} {g : Env → R (List SV)} {h : List SV → Env → Fl} (hn : ∀ ρ ss ρ1, g ρ = .ok ss ρ1 → ss.length = n) (q : tX cl K O ro W (fun ρ => thenF (g ρ) h) En σ H) :
    tEs K cl O ro W g σ H fun vs H1 => tXs cl K O ro W n h vs En σ H1 := by
  obtain ⟨ρ, f, r, q⟩ := q
  refine ⟨ρ, [], [], f, r, ?_⟩
  dsimp only at q
  cases e : g ρ with
  | ok s ρ1 =>
    rw [e] at q
    exact fun vs H1 f1 l e1 r1 => ⟨s, ρ1, f1, hn _ _ _ e, l, r1, GF.ext e1 q⟩
  | exc x ρ1 =>
    rw [e] at q
    exact fun c d H1 f1 e1 r1 xr => q c d σ H1 f1 e1 r1 xr
  | no =>
    rw [e] at q
    exact q
theorem upd_del {H : Hp} {a d : Addr} {e0 e1 e2 x : HO} (hd : d ≠ a) (ha : H a = none) : upd (del (upd (upd (upd H a e0) d e1) a e2) a) d x = upd H d x := by
  funext b
  by_cases h1 : b = d
  · rw [h1, upd_same, upd_same]
  · rw [upd_ne h1, upd_ne h1]
    by_cases h2 : b = a
    · rw [h2, del_same, ha]
    · rw [del_ne h2, upd_ne h2, upd_ne h1, upd_ne h2]
theorem x_raise {as : E} (c : String) (hs : PAp t F cl as) : PSp t F cl (.raise c as) := by
  intro X W O ro RO x S Z hr h
  unfold ckS at h
  split at h
  · rename_i y p e es pos pos2
    obtain ⟨h1, h2⟩ := bf_split h
    unfold gnB at h1
    obtain ⟨h3, h4⟩ := bf_split h1
    obtain ⟨h5, h6⟩ := bf_split h4
    have h3 := of_decide_eq_true h3
    subst h3
    have st := cks_st h2
    rw [List.all_cons, Bool.and_eq_true] at st
    by_cases hx : t.xn c (lenE as) = true
    · have e0 : Kn.exec t F RO (.raise c as) = fun ρ => thenF (evs t F as ρ) fun vs ρ => (match t.xc c (frzs vs) with
        | some x => .exc x ρ
        | none => .no) := by (funext ρ; first | (simp only [Kn.exec, hx, if_true]; done) | (simp only [Kn.exec, hx, if_true]; rfl))
      rw [e0]
      obtain ⟨C, fI, fd, ps, ds, dvs, eff, k1, k2, k3, k4, k5, k6, k7, k8, k9, k10⟩ := S.xmk c _ hx
      refine PS.imp (ps_raise S.calm Z.takes (pmk_oex k3 k4 k5 k6 S.xroom k7 k8 (fun pins σ H s e s' I z => by
        obtain ⟨_, _, _, _, _, _, _, _, _, _, _, _, z⟩ := z
        exact z.elim) (glB_ok h5) k2 (hs X W O ro _ S h2) (nmB_ok h6).1 (star_cons st.1) (star_any st.2))) fun En σ H q => ?_
      refine tEs.mono (tX.binds (evs_len as) q) fun vs H1 q1 => ?_
      obtain ⟨ss, ρ, f, hn, hl, r, g⟩ := q1
      obtain ⟨f1, ex1, r1, m⟩ := Rel.freezes hl r
      have g1 := GF.ext ex1.w g
      cases hc : t.xc c (frzs ss) with
      | none => simp only [hc] at g1; exact g1.elim
      | some x1 =>
        simp only [hc] at g1
        obtain ⟨rfl, k11⟩ := k10 (frzs ss) x1 (by rw [frzs_len, hn]) hc
        obtain ⟨fs, zs, j1, j2, j3, j4, j5⟩ := k11 _ _ vs m
        refine ⟨by rw [← hl, hn]; exact Nat.le_trans k9 (by decide), fun a na => ?_⟩
        refine ⟨a, C, vs ++ dvs, fs, rfl, k3, upd_same, j1, j2, fun d hd hda => ⟨rfl, d, fs, upd_same, by rw [upd_ne hda, upd_same], by rw [upd_ne hda] at hd; exact hd, ?_⟩⟩
        have hd1 : H1 d = none := by rw [upd_ne hda] at hd; exact hd
        show W (.ref C) (some d) σ (upd (del (upd (upd (upd H1 a (exo a C none)) d (exd d fs)) a (exo a C (some d))) a) d (.xd fs))
        rw [upd_del hda na]
        obtain ⟨ex2, r2, np, stp⟩ := r1.alloc (o := .xd fs) hd1
        refine g1 (.ref C) (some d) σ (upd H1 d (.xd fs)) f1 ex2 r2 ⟨C, d, fs, zs, k1, rfl, rfl, upd_same, np, j3, VRs.stp stp _ _ j4, j5⟩
    · have e0 : Kn.exec t F RO (.raise c as) = fun ρ => .no := by (funext ρ; simp only [Kn.exec, if_neg hx])
      rw [e0]
      exact ⟨fun pins s σ H En I q => by
        obtain ⟨ρ, f, r, q⟩ := q
        exact q.elim⟩
  · cases h
theorem x_tryk {b : S} (c : String) (i j : Nat) (hb : PLp t F cl b) : PSp t F cl (.tryk b c i j) := by
  intro X W O ro RO x S Z hr h
  have e0 : Kn.exec t F RO (.tryk b c i j) = fun ρ => if (RO.contains i || RO.contains j) || !t.exn c then .no else (match Kn.exec t F RO b ρ with
    | .exc x ρ' => (match t.isx x.c c with
      | some true => .nx ((ρ'.set i none).set j (some (.d (.exc x.c x.ns x.xs))))
      | some false => .exc x ρ'
      | none => .no)
    | r => r) := by (funext ρ; first | (simp only [Kn.exec]; done) | (simp only [Kn.exec]; rfl))
  unfold ckS at h
  split at h
  · rename_i body y np n m mp n2 np2 ap pos' pos
    obtain ⟨h1, h⟩ := bf_split h
    obtain ⟨h2, h⟩ := bf_split h
    obtain ⟨h3, h⟩ := bf_split h
    obtain ⟨h4, h⟩ := bf_split h
    obtain ⟨h5, h⟩ := bf_split h
    obtain ⟨h6, h⟩ := bf_split h
    obtain ⟨h7, h⟩ := bf_split h
    obtain ⟨h8, h9⟩ := bf_split h
    unfold gnB at h1
    obtain ⟨g1, g2⟩ := bf_split h1
    obtain ⟨g2, g3⟩ := bf_split g2
    have g1 := of_decide_eq_true g1
    have h3 := of_decide_eq_true h3
    subst g1
    subst h3
    rw [e0]
    have hi := of_decide_eq_true h4
    have hj := of_decide_eq_true h5
    have hij := of_decide_eq_true h6
    have ln := of_decide_eq_true h7
    have lm := of_decide_eq_true h8
    obtain ⟨b1, b2, _⟩ := nmB_ok h9
    by_cases hro : ((RO.contains i || RO.contains j) || !t.exn c) = true
    · exact ⟨fun pins s σ H En I q => by
        obtain ⟨ρ, f, r, q⟩ := q
        dsimp only at q
        rw [if_pos hro] at q
        exact q.elim⟩
    · have hri : ∀ p ∈ ro, p.1 ≠ i := fun p hp z => hro (by
        have := hr p hp
        rw [z] at this
        rw [List.contains_iff_mem.mpr this]
        rfl)
      have hrj : ∀ p ∈ ro, p.1 ≠ j := fun p hp z => hro (by
        have := hr p hp
        rw [z] at this
        rw [List.contains_iff_mem.mpr this, Bool.or_true]
        rfl)
      have hx : t.exn c = true := by
        cases hk : t.exn c with
        | false => exact absurd (by rw [hk]; simp) hro
        | true => rfl
      · obtain ⟨A, a1, a2⟩ := S.xcl c hx
        refine PS.imp (ps_try_keep (tb := fun W' => tX cl X.K O ro W' (Kn.exec t F RO b)) (c := .ref A) Z.ex0 Z.stk Z.frm S.nd hi ln hj lm hij b1 b2 ⟨glB_ok g2, (nmB_ok g3).1, .inl a2⟩ Z.takes
          (fun W' pn xe tk po => hb (X.tr pn xe) W' O ro RO body ⟨S.calm, S.nd, S.hu, S.glob, S.blt, S.tyn, S.isx, S.xcl, S.xmk, S.xroom, S.rng, S.enm, S.isa, S.fn, S.meth, S.ini0, S.zp, S.init, S.fld, fly_def tk Z.stk Z.frm⟩ ⟨tk, po, Z.loc, Z.kind, Z.stk, Z.frm, Z.ex0⟩ hr h2)) fun En σ H q => ?_
        obtain ⟨ρ, f, r, q⟩ := q
        dsimp only at q
        rw [if_neg hro] at q
        refine ⟨ρ, f, r, ?_⟩
        cases e1 : Kn.exec t F RO b ρ with
        | nx ρ' => rw [e1] at q; exact q
        | bk ρ' => rw [e1] at q; exact q
        | ct ρ' => rw [e1] at q; exact q
        | rt s ρ' => rw [e1] at q; exact q
        | no => rw [e1] at q; exact q
        | exc x ρ' =>
          rw [e1] at q
          have q : GF cl X.K O ro W En f H (match t.isx x.c c with
            | some true => .nx ((ρ'.set i none).set j (some (.d (.exc x.c x.ns x.xs))))
            | some false => .exc x ρ'
            | none => .no) := q
          intro cls dd σ' H' f' ex r' xr
          obtain ⟨C, d1, fs, zs, x1, rfl, rfl, x2, x3, x4, x5, x6⟩ := id xr
          cases hk : t.isx x.c c with
          | none => rw [hk] at q; exact q.elim
          | some bb =>
            obtain ⟨_, k2⟩ := S.isx.isx x.c c bb C A hk x1 a1
            rw [hk] at q
            refine ⟨bb, k2, fun e a na => ?_, fun e => ?_⟩
            · subst e
              have q : GF cl X.K O ro W En f H (.nx ((ρ'.set i none).set j (some (.d (.exc x.c x.ns x.xs))))) := q
              refine ⟨C, d1, rfl, rfl, ?_⟩
              obtain ⟨f2, ex2, sb2, r2⟩ := r'.ovr (s := none) (v := none) (i := i) (fun _ _ => rfl) hri
              have xr2 := xr.stp (Stp.ext ex2 (fun _ h => h) fun a h => .inl h)
              obtain ⟨ex3, r3, np, stp⟩ := r2.alloc (o := ExX C d1 a) na
              obtain ⟨C', d', fs', zs', y1, y2, y3, y4, y5, y6, y7, y8⟩ := xr2
              rw [x1] at y1
              cases y1
              cases y3
              have hv : VR X.K cl (Av O f2) (upd H' a (ExX C d1 a)) (.exc x.c x.ns x.xs) (.ref a) := by
                unfold VR
                exact ⟨a, C, d1, fs', zs', rfl, x1, upd_same, np, (stp _ _ y4 y5).1, y5, y6, VRs.stp stp _ _ y7, y8⟩
              have hlen := r3.len
              by_cases hlt : j < (ρ'.set i none).length
              · obtain ⟨f4, ex4, r4⟩ := (r3.push hv).set (i := j) hlt hrj
                exact q _ _ f4 (((ex.trans ex2.w).trans ex3.w).trans ex4.w) r4
              · have q2 := q (σ'.set i none) (upd H' a (ExX C d1 a)) f2 ((ex.trans ex2.w).trans ex3.w)
                rw [List.set_eq_of_length_le (by omega)] at q2
                have q3 := q2 r3
                rw [List.set_eq_of_length_le (by omega)]
                exact q3
            · subst e
              exact q _ _ σ' H' f' ex r' xr
  · cases h
theorem lc_all (e : E) (X : Cx) (W : WX) (O : Addr → Prop) (ro : List (Nat × V)) (y : Expr) (gs : List Comprehension) (scope : Scope) (p : Pos) (S : Sd X t F cl W) (h : ck X.N e false X.env.scope (.ListComp y gs scope p) = true) :
    (∀ ρ, ev t F e ρ = .no) ∨ ∃ g gi st tg it ifs, gs = [⟨tg, it, ifs, 0⟩] ∧ LcOk X cl O ro W g gi st y tg it ifs scope ∧ ev t F e = (fun ρ => (gi ρ).bind fun ds ρ => if freeAt ρ (slotsT g) then
      outL ρ (slotsT g) (compL (fun d ρ' => match bindT g d (wipeE ρ' (slotsT g)) with
        | some ρ₂ => st ρ₂
        | none => .no) ds ρ [])
      else .no) := by
  cases e with
  | bad => exact .inl fun ρ => by simp only [ev]
  | comp g it el =>
    right
    unfold ck at h
    split at h
    · rename_i heq
      cases heq
      obtain ⟨h1, h⟩ := bf_split h
      obtain ⟨h2, h⟩ := bf_split h
      obtain ⟨h3, h⟩ := bf_split h
      obtain ⟨h4, h5⟩ := bf_split h
      exact ⟨g, _, _, _, _, _, rfl, lc_comp (all_e it).pi (all_e el).pe S h1 h2 h3 h4 h5, ev_comp⟩
    · cases h
  | cmpi g it c el =>
    right
    unfold ck at h
    split at h
    · rename_i heq
      cases heq
      obtain ⟨h1, h⟩ := bf_split h
      obtain ⟨h2, h⟩ := bf_split h
      obtain ⟨h3, h⟩ := bf_split h
      obtain ⟨h4, h⟩ := bf_split h
      obtain ⟨h6, h5⟩ := bf_split h
      exact ⟨g, _, _, _, _, _, rfl, lc_cmpi (all_e it).pi (all_e c).pt (all_e el).pe S h1 h2 h3 h4 h6 h5, ev_cmpi⟩
    · cases h
  | bm m a as => cases h
  | bor e =>
    unfold ck at h
    cases h
  | _ => cases h
structure AllS (t : T) (F : String → List SV → Cr) (cl : String → Option Addr) (c : S) : Prop where
  ps : PSp t F cl c
  pl : PLp t F cl c
theorem s_not' {c : S} (h : ∀ N sc x, ckS N c sc x = false) : PSp t F cl c := by
  intro X W O ro RO x S Z hr z
  rw [h] at z
  cases z
theorem l_not {c : S} (h : ∀ N sc x, ckL N c sc x = false) : PLp t F cl c := by
  intro X W O ro RO x S Z hr z
  rw [h] at z
  cases z
theorem all_s : ∀ c : S, AllS t F cl c := by
  intro c
  induction c with
  | nil => exact ⟨s_not' fun _ _ _ => rfl, l_nil⟩
  | cons s r h1 h2 => exact ⟨s_not' fun _ _ _ => rfl, l_cons h1.ps h2.pl⟩
  | set i e => exact ⟨x_set i (all_e e) (lc_all e), l_not fun _ _ _ => rfl⟩
  | setf i f e => exact ⟨x_setf i f (all_e e), l_not fun _ _ _ => rfl⟩
  | app i e => exact ⟨x_app i (all_e e), l_not fun _ _ _ => rfl⟩
  | expr e => exact ⟨x_expr (all_e e), l_not fun _ _ _ => rfl⟩
  | ret e => exact ⟨x_ret (all_e e), l_not fun _ _ _ => rfl⟩
  | retn => exact ⟨x_retn, l_not fun _ _ _ => rfl⟩
  | ite c a b ha hb => exact ⟨x_ite (all_e c) ha.pl hb.pl, l_not fun _ _ _ => rfl⟩
  | for_ g it b hb => exact ⟨x_for (all_e it) hb.pl, l_not fun _ _ _ => rfl⟩
  | whl c b hb => exact ⟨x_whl (all_e c) hb.pl, l_not fun _ _ _ => rfl⟩
  | pass => exact ⟨x_pass, l_not fun _ _ _ => rfl⟩
  | doc => exact ⟨x_doc, l_not fun _ _ _ => rfl⟩
  | brk => exact ⟨x_brk, l_not fun _ _ _ => rfl⟩
  | cnt => exact ⟨x_cnt, l_not fun _ _ _ => rfl⟩
  | raise c as => exact ⟨x_raise c (all_e as).pa, l_not fun _ _ _ => rfl⟩
  | tryk b c i j hb => exact ⟨x_tryk c i j hb.pl, l_not fun _ _ _ => rfl⟩
  | unp is e => exact ⟨x_unp is (all_e e), l_not fun _ _ _ => rfl⟩
  | ext i e => exact ⟨x_ext i (all_e e), l_not fun _ _ _ => rfl⟩
  | exm i e => exact ⟨x_exm i (all_e e), l_not fun _ _ _ => rfl⟩
  | seti i j e => exact ⟨x_seti i j (all_e e), l_not fun _ _ _ => rfl⟩
  | appf i g j => exact ⟨x_appf i g j, l_not fun _ _ _ => rfl⟩
  | bad => exact ⟨x_bad, l_not fun _ _ _ => rfl⟩
end
end Kn

set_option Elab.async false
set_option linter.all false
set_option maxRecDepth 100000
set_option maxHeartbeats 4000000
/-! Snd6: defs; the whole program. -/
namespace Kn
open PySem L2
section
variable {K : PySem.W.Frag} {cl : String → Option Addr} {O : Addr → Prop} {ro : List (Nat × V)} {W : WX} {ρ : Env} {ts : List SV} {σ : L2.St} {ws : List V} {f f' : List Addr} {H H' : Hp} {s : SV} {v y : V} {x : D} {A A' : Addr → Prop}
theorem OE.nones : ∀ k : Nat, OE K cl A H (List.replicate k none) (List.replicate k none) []
  | 0 => by unfold List.replicate OE; exact ⟨rfl, rfl⟩
  | k + 1 => by
    rw [List.replicate_succ, List.replicate_succ]
    unfold OE
    exact ⟨none, List.replicate k none, [], [], rfl, rfl, rfl, OE.nones k⟩
theorem OE.grow (k : Nat) : ∀ {ρ : Env} {σ : L2.St} {f : List Addr}, OE K cl A H ρ σ f → OE K cl A H (ρ ++ List.replicate k none) (σ ++ List.replicate k none) f
  | [], σ, f, r => by
    unfold OE at r
    obtain ⟨rfl, rfl⟩ := r
    exact OE.nones k
  | s :: ρ, σ, f, r => by
    unfold OE at r
    obtain ⟨v, σ', f1, f2, rfl, rfl, q, m⟩ := r
    rw [List.cons_append, List.cons_append]
    unfold OE
    exact ⟨v, _, f1, f2, rfl, rfl, q, OE.grow k m⟩
def roV (io : List Bool) (vs : List V) : List (Nat × V) := (List.range vs.length).filterMap fun i => if io[i]? = some true then (vs[i]?).map fun v => (i, v) else none
theorem roV_mem {io : List Bool} {vs : List V} {p : Nat × V} (h : p ∈ roV io vs) : io[p.1]? = some true ∧ vs[p.1]? = some p.2 := by
  unfold roV at h
  obtain ⟨i, _, e⟩ := List.mem_filterMap.mp h
  split at e
  · rename_i hi
    cases hv : vs[i]? with
    | none => rw [hv] at e; cases e
    | some v =>
      rw [hv] at e
      cases e
      exact ⟨hi, hv⟩
  · cases e
theorem roV_in {io : List Bool} {vs : List V} {i : Nat} {v : V} (h1 : io[i]? = some true) (h2 : vs[i]? = some v) : (i, v) ∈ roV io vs := by
  unfold roV
  refine List.mem_filterMap.mpr ⟨i, List.mem_range.mpr (List.getElem?_eq_some_iff.mp h2).1, ?_⟩
  rw [if_pos h1, h2]
  rfl
theorem roOf_mem : ∀ {io : List Bool} {i k : Nat}, io[i]? = some true → k + i ∈ roOf io k
  | [], i, k, h => by simp at h
  | true :: ms, 0, k, h => by unfold roOf; simp
  | false :: ms, 0, k, h => by simp at h
  | true :: ms, i + 1, k, h => by
    unfold roOf
    have := roOf_mem (io := ms) (i := i) (k := k + 1) (by simpa using h)
    rw [show k + (i + 1) = k + 1 + i by omega]
    exact List.mem_cons_of_mem _ this
  | false :: ms, i + 1, k, h => by
    unfold roOf
    have := roOf_mem (io := ms) (i := i) (k := k + 1) (by simpa using h)
    rw [show k + (i + 1) = k + 1 + i by omega]
    exact this
theorem OE.outs : ∀ {io : List Bool} {vs : List V} {ρ : Env} {σ : L2.St} {f : List Addr}, io.length = vs.length → OE K cl A H ρ σ f → (∀ (i : Nat) (v : V), io[i]? = some true → vs[i]? = some v → σ[i]? = some (some v)) →
    ∃ f', (∀ a, List.count a f' ≤ List.count a f) ∧ OE K cl A H (outsOf io ρ) (vs.map some) f'
  | [], [], ρ, σ, f, _, _, _ => ⟨[], fun a => by simp, by unfold outsOf OE; exact ⟨rfl, rfl⟩⟩
  | [], _ :: _, _, _, _, h, _, _ => by cases h
  | _ :: _, [], _, _, _, h, _, _ => by cases h
  | b :: io, v :: vs, [], σ, f, hl, r, k => by
    have r0 := r
    unfold OE at r
    obtain ⟨rfl, rfl⟩ := r
    cases b with
    | true =>
      have e0 := k 0 v rfl rfl
      simp at e0
    | false =>
      obtain ⟨f', c, r'⟩ := OE.outs (io := io) (vs := vs) (by simpa using hl) r0 fun i v a b => by
        have := k (i + 1) v (by simpa using a) (by simpa using b)
        simp at this
      refine ⟨f', c, ?_⟩
      rw [List.map_cons]
      unfold outsOf OE
      exact ⟨some v, _, [], f', rfl, rfl, rfl, r'⟩
  | b :: io, v :: vs, s :: ρ, σ, f, hl, r, k => by
    unfold OE at r
    obtain ⟨v0, σ', f1, f2, rfl, rfl, q, m⟩ := r
    obtain ⟨f', c, r'⟩ := OE.outs (io := io) (vs := vs) (by simpa using hl) m fun i v a b => by
      have := k (i + 1) v (by simpa using a) (by simpa using b)
      simpa using this
    cases b with
    | true =>
      have e0 := k 0 v rfl rfl
      simp at e0
      subst e0
      refine ⟨f1 ++ f', fun a => by have := c a; simp only [List.count_append]; omega, ?_⟩
      rw [List.map_cons]
      unfold outsOf OE
      exact ⟨some v, _, f1, f', rfl, rfl, q, r'⟩
    | false =>
      refine ⟨f', fun a => by have := c a; simp only [List.count_append]; omega, ?_⟩
      rw [List.map_cons]
      unfold outsOf OE
      exact ⟨some v, _, [], f', rfl, rfl, rfl, r'⟩
theorem Rel.outs {io : List Bool} {vs : List V} (hl : io.length = vs.length) (r : Rel K cl O (roV io vs) ρ ts σ ws f H) : ∃ f', Ext f H f' H ∧ Rel K cl O [] (outsOf io ρ) ts (vs.map some) ws f' H := by
  obtain ⟨fe, ft, e, c, d, o, p, q, z⟩ := r
  subst e
  obtain ⟨fe', c', p'⟩ := OE.outs hl p fun i v a b => z _ (roV_in a b)
  have hc : ∀ a, (fe' ++ ft).count a ≤ (fe ++ ft).count a := fun a => by have := c' a; simp only [List.count_append]; omega
  have sub : ∀ a ∈ fe' ++ ft, a ∈ fe ++ ft := fun a h => by
    rw [mem_of_count] at h ⊢
    exact Nat.lt_of_lt_of_le h (hc a)
  have st : Stp (Av O (fe ++ ft)) H (Av O (fe' ++ ft)) H := Stp.less sub
  obtain ⟨x, y⟩ := Rel.less (ro := []) c d o hc (OE.stp st _ _ _ (fun _ _ => rfl) p') (ORs.stp st _ _ _ (fun _ _ => rfl) q) (fun p h => by cases h)
  exact ⟨_, x, y⟩
end
/-! ### the program -/
structure Ent where
  q : String
  a : Addr
  fdt : FuncData
  ps : List Str
  fd : FD
structure EntOk (K : PySem.W.Frag) (PT : String → Option FD) (e : Ent) : Prop where
  has : PT e.q = some e.fd
  bind : Binds K e.fdt e.ps []
  ex : ∃ x qual st N, Fun K x qual st e.a e.fdt ∧ FnScope N e.ps (defScope st) ∧ N.length = e.fd.n ∧ e.ps.length = e.fd.np ∧ e.fd.io.length = e.fd.np ∧ e.fd.np ≤ e.fd.n ∧ ckL N e.fd.body (defScope st) (defBody st) = true
structure Top (K : PySem.W.Frag) (mg : Str → Option Value) (cl : String → Option Addr) (t : T) (PT : String → Option FD) : Prop where
  glob : ∀ x d, t.glob x = some d → ∃ u v, mg (stOf x) = some u ∧ RelV v u ∧ ∀ A H, VR K cl A H d v
  blt : ∀ b : Bf, mg (stOf (bfN b)) = none
  tyn : ∀ n, tys.contains n = true → mg (stOf n) = none
  isx : IsxOk K cl t
  xcl : ∀ c, t.exn c = true → ∃ A, cl c = some A ∧ mg (stOf c) = some (.ref A)
  rng : mg "range" = none
  enm : mg "enumerate" = none
  isa : IsaOk K cl t
  fn : ∀ f, t.isFn f = true → ∃ e, EntOk K PT e ∧ e.q = f ∧ mg (stOf f) = some (.ref e.a) ∧ PySem.W.keepIn K (.ref e.a) = true
  meth : ∀ c m q C, t.meth c m = some q → cl c = some C → Cls K C ∧ ∃ e, EntOk K PT e ∧ e.q = q ∧ Meth K C (stOf m) e.a
  ini0 : ∀ c, t.ini0 c = true → ∃ C, cl c = some C ∧ mg (stOf c) = some (.ref C) ∧ Mk0 K C
  zp : mg "zip" = none
  init : ∀ c q, t.init c = some q → ∃ C e, cl c = some C ∧ mg (stOf c) = some (.ref C) ∧ EntOk K PT e ∧ e.q = q ∧ Mk K C e.a
  fld : ∀ c f C, t.fld c f = true → cl c = some C → Cls K C ∧ NoAttr K C (stOf f)
theorem map_len {ss : List SV} {vs : List V} {K : PySem.W.Frag} {cl : String → Option Addr} {O : Addr → Prop} {f : List Addr} {H : Hp} (r : Rel K cl O [] (ss.map some) [] (vs.map some) [] f H) : ss.length = vs.length := by
  have := r.len
  simpa using this
section
variable {P : Program} {w : World} {K : PySem.W.Frag} {mg : Str → Option Value} {base : Heap} {cl : String → Option Addr} {t : T} {PT : String → Option FD}
theorem top_fn (Z : Top K mg cl t PT) (ZX : ∀ c n, t.xn c n = true → XMk P w K mg base cl t.xc c n) : ∀ (n : Nat) (e : Ent), EntOk K PT e → FnOk P w K mg base (L2.CX P w) (2 * n + 10) e.a e.fdt e.ps (spF K cl (callN t PT n) e.q) := by
  intro n
  induction n with
  | zero =>
    intro e he
    refine ⟨fun vs H Q E h => ?_, fun A outer s H args us vs Q E hr e0 hb r h => ?_⟩
    · obtain ⟨O, ss, f, r, q⟩ := h
      exact False.elim q
    · obtain ⟨O, ss, f, r, q⟩ := h
      exact False.elim q
  | succ n ih =>
    intro e he
    obtain ⟨x, qual, st, N, F, S, hN, hps, hio, hnp, hck⟩ := he.ex
    have ecall : ∀ ss, callN t PT (n + 1) e.q ss = runF t (callN t PT n) e.fd ss := fun ss => by
      show (match PT e.q with
        | some fd => runF t (callN t PT n) fd ss
        | none => .no) = _
      rw [he.has]
    refine F.okX (k := 2 * n + 11) S (fun vs H Q E h => ?_) fun cdv A outer s H vs Q E hr h => ?_
    · obtain ⟨O, ss, f, r, q⟩ := h
      rw [ecall] at q
      unfold runF at q
      by_cases hh : ss.length = e.fd.np ∧ e.fd.np ≤ e.fd.n ∧ e.fd.io.length = e.fd.np ∧ modesOk e.fd.io ss = true
      · rw [← map_len r, hh.1, hps]
      · rw [if_neg hh] at q
        exact q.elim
    · obtain ⟨O, ss, f, r, q⟩ := h
      rw [ecall] at q
      unfold runF at q
      have hlen := map_len r
      have hh : ss.length = e.fd.np ∧ e.fd.np ≤ e.fd.n ∧ e.fd.io.length = e.fd.np ∧ modesOk e.fd.io ss = true := by
        refine Classical.byContradiction fun hh => ?_
        rw [if_neg hh] at q
        exact q.elim
      rw [if_pos hh] at q
      have G : Sd (cxOf (L2.CX P w) P w K mg base N qual (defScope st) e.a cdv A outer s H E) t (callN t PT n) cl (fun c d _ H => E c d H) := by
        refine ⟨rfl, S.nd, ?_, Z.glob, Z.blt, Z.tyn, Z.isx, Z.xcl, ZX, hr.mono (by omega), Z.rng, Z.enm, Z.isa, fun f hf => ?_, fun c m q C hm hC => ?_, Z.ini0, Z.zp, fun c q hi => ?_, Z.fld, fly_def (takes_of rfl rfl rfl rfl) rfl rfl⟩
        · have := hr.un
          show (A.deeper _).units + 70 < cLine
          omega
        · obtain ⟨e', h1, rfl, h2, h3⟩ := Z.fn f hf
          exact ⟨e'.a, h2, h3, e'.fdt, e'.ps, 2 * n + 10, ih e' h1, hr, h1.bind⟩
        · obtain ⟨h0, e', h1, rfl, h2⟩ := Z.meth c m q C hm hC
          exact ⟨h0, e'.a, h2, e'.fdt, e'.ps, 2 * n + 10, ih e' h1, hr, h1.bind⟩
        · obtain ⟨C, e', h0, h2, h1, rfl, h3⟩ := Z.init c q hi
          exact ⟨C, e'.a, h0, h2, h3, e'.fdt, e'.ps, 2 * n + 10, ih e' h1, hr, h1.bind⟩
      have GS : SdS (cxOf (L2.CX P w) P w K mg base N qual (defScope st) e.a cdv A outer s H E) (fun c d _ H => E c d H) := by
        refine ⟨takes_of rfl rfl rfl rfl, passes_of rfl, fun x hx => ⟨locB_ok hx, .inl rfl⟩, S.kind, rfl, rfl, rfl⟩
      refine ⟨_, (all_s (t := t) (F := callN t PT n) (cl := cl) e.fd.body).pl _ (fun c d _ H => E c d H) O (roV e.fd.io vs) (roOf e.fd.io 0) _ G GS (fun p hp => by have := roOf_mem (k := 0) (roV_mem hp).1; simpa using this) hck, ?_⟩
      have hst : L2.start N vs = vs.map some ++ List.replicate (e.fd.n - e.fd.np) none := by
        unfold L2.start
        rw [hN, ← hlen, hh.1]
      refine ⟨ss.map some ++ List.replicate (e.fd.n - e.fd.np) none, f, ?_, ?_⟩
      · rw [hst]
        obtain ⟨fe, ft, ef, c, d, o, p, q2, z⟩ := r
        refine ⟨fe, ft, ef, c, d, o, OE.grow _ p, q2, fun p hp => ?_⟩
        obtain ⟨_, h2⟩ := roV_mem hp
        have hl : p.1 < (vs.map some).length := by
          have := (List.getElem?_eq_some_iff.mp h2).1
          simpa using this
        rw [List.getElem?_append_left hl, List.getElem?_map, h2]
        rfl
      · have hiov : e.fd.io.length = vs.length := by rw [hh.2.2.1, ← hh.1, hlen]
        generalize hx : Kn.exec t (callN t PT n) (roOf e.fd.io 0) e.fd.body (ss.map some ++ List.replicate (e.fd.n - e.fd.np) none) = r0 at q ⊢
        cases r0 with
        | nx ρ' =>
          intro σ' H' f' ex r'
          obtain ⟨f2, ex2, r2⟩ := Rel.outs hiov (r'.push (x := .non) VR.non)
          exact q .non H' f2 (ex.trans ex2) r2
        | rt s0 ρ' =>
          intro v σ' H' f' ex r'
          obtain ⟨f2, ex2, r2⟩ := Rel.outs hiov r'
          exact q v H' f2 (ex.trans ex2) r2
        | exc y ρ' =>
          intro c d σ' H' f' ex r' xr
          by_cases hk : e.fd.kx = true
          · dsimp only at q
            rw [if_pos hk] at q
            obtain ⟨f2, ex2, r2⟩ := Rel.outs hiov r'
            exact q c d H' f2 (ex.trans ex2) r2 (xr.stp (Stp.ext ex2 (fun _ h => h) fun a h => .inl h))
          · dsimp only at q
            rw [if_neg hk] at q
            refine q c d H' ⟨ex.1, fun a h => by cases h⟩ (xr.stp fun a o h n => ⟨h, fun z => n (.inl z)⟩)
        | bk ρ' => exact q.elim
        | ct ρ' => exact q.elim
        | no => exact q.elim
end
end Kn

set_option Elab.async false
set_option linter.all false
set_option maxRecDepth 100000
set_option maxHeartbeats 4000000
/-! XIni: the __init__ of the exceptions' base class: words go to ValueError, number is kept. -/
namespace Kn
open PySem L2
/-- number's fields -/
def effL : List V → Option (List (Str × V))
  | [_, n] => some (if n = .non then [(("number" : Str), .int (-1))] else [(("number" : Str), n), (("number" : Str), .int (-1))])
  | _ => none
def isNm (e : Expr) (x : Str) (sc : Scope) : Bool := match e with
  | .Name y _ => decide (y = x) && (visB sc y && nmB y)
  | _ => false
theorem isNm_ok {X : Cx} {e : Expr} {x : Str} {i : Nat} (h : isNm e x X.env.scope = true) (hi : X.N[i]? = some x) : PE X e (tVar i) ∧ noSup e = true ∧ noLc e = true ∧ noSt e = true := by
  unfold isNm at h
  split at h
  · rename_i y p
    obtain ⟨h1, h⟩ := bf_split h
    obtain ⟨h2, h3⟩ := bf_split h
    have h1 := of_decide_eq_true h1
    subst h1
    obtain ⟨a, b, _⟩ := nmB_ok h3
    exact ⟨pe_var hi (visB_ok h2) a b, rfl, rfl, rfl⟩
  · cases h
def leB (v0 fl : Str) (sc : Scope) : List Stmt → Bool
  | [.Expr (.Call (.Attribute (.Name v _) i p2) [s1, w] [] p5) _, .Assign [.Attribute s2 a1 _] (.UnaryOp .USub (.Constant (.int 1) _ _) _) _, .If (.Compare n1 [.IsNot] [.Constant .none _ _] _) [.Assign [.Attribute s3 a2 _] n2 _] [] _] =>
    (decide (v = v0) && decide (i = ("__init__" : Str)) && (p2.endLine == p5.line) && glB sc v) && ((isNm s1 "self" sc && isNm w "words" sc) && (isNm s2 "self" sc && isNm s3 "self" sc) && (isNm n1 fl sc && isNm n2 fl sc) && (decide (a1 = fl) && decide (a2 = fl)))
  | _ => false
section
variable {P : Program} {w : World} {K : PySem.W.Frag} {mg : Str → Option Value} {base : Heap}
theorem upd_twice {H : Hp} {a d : Addr} {e1 e2 e3 : HO} (h : d ≠ a) : upd (upd (upd H d e1) a e3) d e2 = upd (upd H d e2) a e3 := by
  funext b
  by_cases h1 : b = d
  · rw [h1, upd_same, upd_ne h, upd_same]
  · rw [upd_ne h1]
    by_cases h2 : b = a
    · rw [h2, upd_same, upd_same]
    · rw [upd_ne h2, upd_ne h1, upd_ne h2, upd_ne h1]
theorem le_ok (k : Nat) {st : Stmt} {fI : Addr} {fd : FuncData} (F : FunD K "__init__" "LoopError.__init__" (defArgs st) (defBody st) (defScope st) [.non] [] fI fd) (S : FnScope ["self", "words", "number"] ["self", "words", "number"] (defScope st)) (hb : leB "ValueError" "number" (defScope st) (defBody st) = true)
    (hm : mg "ValueError" = none) (vV : PySem.W.findCls K (.type "ValueError") (.type "type") "__init__" = some (.val (.builtin "ValueError.__init__"))) :
    FnOk P w K mg base (L2.CX P w) (k + 1) fI fd ["self", "words", "number"] (spEff K effL) := by
  refine F.ok (k := k) S (fun vs H Q E h => ?_) (fun cdv A outer s H vs Q E hr h => ?_)
  · obtain ⟨a, C, args, fs, rfl, _, _, e, _⟩ := h
    unfold effL at e
    split at e
    · rfl
    · cases e
  · generalize hX : cxOf (L2.CX P w) P w K mg base ["self", "words", "number"] "LoopError.__init__" (defScope st) fI cdv A outer s H E = X
    have eK : X.K = K := by rw [← hX]; rfl
    have eN : X.N = [("self" : Str), ("words" : Str), ("number" : Str)] := by rw [← hX]; rfl
    have eS : X.env.scope = defScope st := by rw [← hX]; rfl
    have eM : X.mg = mg := by rw [← hX]; rfl
    have hu : X.A.units + 70 < cLine := by
      rw [← hX]
      have := hr.un
      show (A.deeper _).units + 70 < cLine
      omega
    rw [← eS] at hb
    generalize defBody st = body at hb ⊢
    unfold leB at hb
    split at hb
    · rename_i v p1 i p2 s1 w0 p5 p6 s2 a1 p7 k1 k2 p8 p9 n1 k3 k4 p10 s3 a2 p11 n2 p12 p13
      simp only [Bool.and_eq_true] at hb
      obtain ⟨⟨⟨⟨hv, hi⟩, hl⟩, hg⟩, ⟨⟨⟨b1, b2⟩, b3, b4⟩, b5, b6⟩, b7, b8⟩ := hb
      have hv := of_decide_eq_true hv
      have hi := of_decide_eq_true hi
      have b7 := of_decide_eq_true b7
      have b8 := of_decide_eq_true b8
      subst hv hi b7 b8
      have m0 : X.N[0]? = some ("self" : Str) := by rw [eN]; rfl
      have m1 : X.N[1]? = some ("words" : Str) := by rw [eN]; rfl
      have m2 : X.N[2]? = some ("number" : Str) := by rw [eN]; rfl
      obtain ⟨c1, _, _, c1s⟩ := isNm_ok b1 m0
      obtain ⟨c2, _, _, c2s⟩ := isNm_ok b2 m1
      obtain ⟨c3, _⟩ := isNm_ok b3 m0
      obtain ⟨c4, _⟩ := isNm_ok b4 m0
      obtain ⟨c5, _⟩ := isNm_ok b5 m2
      obtain ⟨c6, _, c6l, _⟩ := isNm_ok b6 m2
      have st2 : [s1, w0].all noSt = true := by simp [c1s, c2s]
      refine ⟨_, pss_cons (ps_expr (pe_veinit (pl := do return (← importBound (.Name "ValueError" p1) X.env).getD true) (glB_ok hg) (by rw [eM]; exact hm) (by rw [eK]; exact vV) (pa_cons c1 (pa_cons c2 pa_nil (star_cons c2s)) (star_cons c1s)) (meth_eval rfl st2 (Nat.le_of_ble_eq_true rfl) hl) (star_cons c1s) (star_any (by simp [c2s]))) (swaps_no rfl))
        (pss_cons (ps_ost c3 (pe_un un_neg pe_int) (swaps_no rfl)) (pss_one (ps_if (pt_cmpR (rCmp_ok hu .isnot) c5 pe_non (nomark _)) (pss_one (ps_ost c4 c6 (swaps_no c6l))) pss_nil))), ?_⟩
      obtain ⟨a, C, args, fs, rfl, T, ea, e, hno, q⟩ := h
      unfold effL at e
      split at e
      · rename_i wd n
        cases e
        rw [eK]
        have hn1 : PySem.W.findIn K (.ref C) "number" = some none := hno _ (by split <;> simp)
        refine ⟨_, rfl, _, rfl, a, C, [wd], rfl, Nat.le_of_ble_eq_true rfl, T, ea, ?_⟩
        refine ⟨1, rfl, .ref a, rfl, a, C, rfl, T, hn1, .inl ⟨ea, fun dx nd ne => ?_⟩⟩
        refine ⟨n, rfl, rfl, ?_⟩
        refine ⟨!decide (n = .non), rfl, ?_⟩
        have q1 := q dx nd ne
        by_cases hz : n = .non
        · subst hz
          exact q1
        · rw [if_neg hz] at q1
          rw [decide_eq_false hz]
          refine ⟨n, rfl, .ref a, rfl, a, C, rfl, T, hn1, .inr ⟨dx, _, upd_same, by rw [upd_ne ne, upd_same], Nat.le_of_ble_eq_true rfl, ?_⟩⟩
          rw [upd_twice ne]
          exact q1
      · cases e
    · cases hb
/-- what such a class makes of its arguments -/
def xcL (c : String) : List D → Option Xc
  | [_] => some ⟨c, ["number"], [.int (-1)]⟩
  | [_, n] => some ⟨c, ["number"], [if isN n then .int (-1) else n]⟩
  | _ => none
theorem xmk_L {cl : String → Option Addr} {xc : String → List D → Option Xc} {c : String} {C fI : Addr} {fd : FuncData} {st : Stmt} {n : Nat} (hn : n = 1 ∨ n = 2) (hxc : xc c = xcL c)
    (F : FunD K "__init__" "LoopError.__init__" (defArgs st) (defBody st) (defScope st) [.non] [] fI fd)
    (G : FnOk P w K mg base (L2.CX P w) 10 fI fd ["self", "words", "number"] (spEff K effL)) (b1 : ∃ ds, Vals ([V.non].drop 0) ds ∧ Binds K fd ["self", "words", "number"] ds) (b2 : ∃ ds, Vals ([V.non].drop 1) ds ∧ Binds K fd ["self", "words", "number"] ds)
    (hc : cl c = some C) (hm : mg (stOf c) = some (.ref C)) (T : OexC K C) (hi : PySem.W.findIn K (.ref C) "__init__" = some (some (.ref fI))) (ht : PySem.W.typeIn K (.ref fI) = some (.type "function")) (hf : PySem.W.findIn K (.ref C) "number" = some none) :
    XMk P w K mg base cl xc c n := by
  have hz : ∀ v : V, ∀ f ∈ (if v = .non then [(("number" : Str), V.int (-1))] else [(("number" : Str), v), (("number" : Str), V.int (-1))]).map (·.1), PySem.W.findIn K (.ref C) f = some none := fun v f h => by
    have : f = ("number" : Str) := by
      split at h
      · simpa using h
      · simpa using h
    rw [this]
    exact hf
  rcases hn with rfl | rfl
  · obtain ⟨ds, r, b⟩ := b1
    refine ⟨C, fI, fd, _, ds, [.non], effL, hc, hm, T, hi, ht, G, b, r, by decide, fun xs x hl he => ?_⟩
    rw [hxc] at he
    match xs, hl with
    | [w0], _ =>
      cases (show some _ = some x from he)
      refine ⟨rfl, fun A H vs m => ?_⟩
      unfold VRs at m
      obtain ⟨v, ws', rfl, q, m⟩ := m
      unfold VRs at m
      subst m
      exact ⟨_, [.int (-1)], rfl, hz .non, rfl, VRs.cons VR.int VRs.nil, fun n => rfl⟩
  · obtain ⟨ds, r, b⟩ := b2
    refine ⟨C, fI, fd, _, ds, [], effL, hc, hm, T, hi, ht, G, b, r, by decide, fun xs x hl he => ?_⟩
    rw [hxc] at he
    match xs, hl with
    | [w0, n0], _ =>
      cases (show some _ = some x from he)
      refine ⟨rfl, fun A H vs m => ?_⟩
      unfold VRs at m
      obtain ⟨v, ws', rfl, q, m⟩ := m
      unfold VRs at m
      obtain ⟨v2, ws', rfl, q2, m⟩ := m
      unfold VRs at m
      subst m
      have hN := isN_ok q2
      by_cases hv : v2 = .non
      · have h1 : isN n0 = true := by rw [← hN]; exact decide_eq_true hv
        subst hv
        refine ⟨_, [.int (-1)], rfl, hz .non, rfl, ?_, fun n => rfl⟩
        rw [h1]
        exact VRs.cons VR.int VRs.nil
      · have h1 : isN n0 = false := by rw [← hN]; exact decide_eq_false hv
        refine ⟨_, [v2], rfl, hz v2, rfl, ?_, fun n => ?_⟩
        · rw [h1]
          exact VRs.cons q2 VRs.nil
        · rw [if_neg hv]
          show List.lookup n [(("number" : Str), v2), (("number" : Str), .int (-1))] = List.lookup n [(("number" : Str), v2)]
          simp only [List.lookup]
          by_cases hh : (n == ("number" : Str)) = true
          · rw [hh]
          · simp [hh]
/-! ### classes whose __init__ calls that of the base class -/
theorem cx_false' {P : Program} {w : World} {H : Hp} {s : Shared} {e : Value} {s' : Shared} {o : List PySem.Env} (h : L2.CX P w o H s (fun _ _ _ => False) e s') : False := by
  obtain ⟨_, _, _, _, _, _, _, _, _, _, _, _, z⟩ := h
  exact z
/-- what the base class's __init__ is known by -/
structure BaseI (P : Program) (w : World) (K : PySem.W.Frag) (mg : Str → Option Value) (base : Heap) (y : Str) : Prop where
  ex : ∃ (C0 fI : Addr) (fd : FuncData) (ds : List Value), mg y = some (.ref C0) ∧ ClX.CRead K C0 (.type "type") ∧ PySem.W.findCls K (.ref C0) (.type "type") "__init__" = some (.val (.ref fI)) ∧ PySem.W.keepIn K (.ref fI) = true ∧
    FnOk P w K mg base (L2.CX P w) 4 fI fd ["self", "words", "number"] (spEff K effL) ∧ Vals [V.non] ds ∧ Binds K fd ["self", "words", "number"] ds
theorem pe_binit {X : Cx} {y : Str} {es : List Expr} {ta : TA} {p1 p2 pos : Pos} (B : BaseI X.prog X.w X.K X.mg X.base y) (hr : Room 4 X.A) (hg : Gl X y) (ha : PA X es ta) (hs : es.all noSt = true) (hn : es.length < 30) (h0 : es ≠ []) (hl : (p2.endLine == pos.line) = true) (hd : (y == ("__debug__" : Str)) = false) :
    PE X (.Call (.Attribute (.Name y p1) "__init__" p2) es [] pos) (fun σ H Q => ta σ H fun vs H1 => spEff X.K effL (vs ++ [.non]) H1 Q (fun _ _ _ => False)) := by
  obtain ⟨C0, fI, fd, ds, hm, rd, hf, hk, G, hv, hb⟩ := B.ex
  refine ⟨fun pins s σ H Q I h => ?_⟩
  refine PySem.W.methodCall_KW (pl := do return (← importBound (.Name y p1) X.env).getD true) (ld_glob I hg hm ?_ hd) (meth_eval rfl hs hn hl)
  refine PySem.W.method_cls I.kIn rd.ga (PySem.W.cls_value I.kIn rd.rd hf rfl ?_)
  exact callArgs (first := []) hk ha hs (I.tok _) h (fun e => absurd e h0) fun us s1 vs H1 I1 r q => run_fnSD (E := fun _ => fun _ _ _ => False) G hr hb hv (fun pins H s e s' I hq => (cx_false' hq).elim) I1 r q
/-- line's fields -/
def effT : List V → Option (List (Str × V))
  | [_, n] => some (if n = .non then [(("line" : Str), .int (-1)), (("number" : Str), .int (-1))] else [(("line" : Str), n), (("line" : Str), .int (-1)), (("number" : Str), .int (-1))])
  | _ => none
theorem nt_ok {st : Stmt} {fI : Addr} {fd : FuncData} {q : Str} (F : FunD K "__init__" q (defArgs st) (defBody st) (defScope st) [.non] [] fI fd) (S : FnScope ["self", "words", "line"] ["self", "words", "line"] (defScope st)) (hb : leB "LoopError" "line" (defScope st) (defBody st) = true)
    (B : BaseI P w K mg base "LoopError") : FnOk P w K mg base (L2.CX P w) 10 fI fd ["self", "words", "line"] (spEff K effT) := by
  refine F.ok (k := 9) S (fun vs H Q E h => ?_) (fun cdv A outer s H vs Q E hr h => ?_)
  · obtain ⟨a, C, args, fs, rfl, _, _, e, _⟩ := h
    unfold effT at e
    split at e
    · rfl
    · cases e
  · generalize hX : cxOf (L2.CX P w) P w K mg base ["self", "words", "line"] q (defScope st) fI cdv A outer s H E = X
    have eK : X.K = K := by rw [← hX]; rfl
    have eN : X.N = [("self" : Str), ("words" : Str), ("line" : Str)] := by rw [← hX]; rfl
    have eS : X.env.scope = defScope st := by rw [← hX]; rfl
    have eB : BaseI X.prog X.w X.K X.mg X.base "LoopError" := by rw [← hX]; exact B
    have hr4 : Room 4 X.A := by rw [← hX]; exact hr.mono (by omega)
    have hu : X.A.units + 70 < cLine := by
      rw [← hX]
      have := hr.un
      show (A.deeper _).units + 70 < cLine
      omega
    rw [← eS] at hb
    generalize defBody st = body at hb ⊢
    unfold leB at hb
    split at hb
    · rename_i v p1 i p2 s1 w0 p5 p6 s2 a1 p7 k1 k2 p8 p9 n1 k3 k4 p10 s3 a2 p11 n2 p12 p13
      simp only [Bool.and_eq_true] at hb
      obtain ⟨⟨⟨⟨hv, hi⟩, hl⟩, hg⟩, ⟨⟨⟨b1, b2⟩, b3, b4⟩, b5, b6⟩, b7, b8⟩ := hb
      have hv := of_decide_eq_true hv
      have hi := of_decide_eq_true hi
      have b7 := of_decide_eq_true b7
      have b8 := of_decide_eq_true b8
      subst hv hi b7 b8
      have m0 : X.N[0]? = some ("self" : Str) := by rw [eN]; rfl
      have m1 : X.N[1]? = some ("words" : Str) := by rw [eN]; rfl
      have m2 : X.N[2]? = some ("line" : Str) := by rw [eN]; rfl
      obtain ⟨c1, _, _, c1s⟩ := isNm_ok b1 m0
      obtain ⟨c2, _, _, c2s⟩ := isNm_ok b2 m1
      obtain ⟨c3, _⟩ := isNm_ok b3 m0
      obtain ⟨c4, _⟩ := isNm_ok b4 m0
      obtain ⟨c5, _⟩ := isNm_ok b5 m2
      obtain ⟨c6, _, c6l, _⟩ := isNm_ok b6 m2
      have st2 : [s1, w0].all noSt = true := by simp [c1s, c2s]
      refine ⟨_, pss_cons (ps_expr (pe_binit eB hr4 (glB_ok hg) (pa_cons c1 (pa_cons c2 pa_nil (star_cons c2s)) (star_cons c1s)) st2 (Nat.le_of_ble_eq_true rfl) (fun z => by cases z) hl (by decide)) (swaps_no rfl))
        (pss_cons (ps_ost c3 (pe_un un_neg pe_int) (swaps_no rfl)) (pss_one (ps_if (pt_cmpR (rCmp_ok hu .isnot) c5 pe_non (nomark _)) (pss_one (ps_ost c4 c6 (swaps_no c6l))) pss_nil))), ?_⟩
      obtain ⟨a, C, args, fs, rfl, T, ea, e, hno, q⟩ := h
      unfold effT at e
      split at e
      · rename_i wd n
        cases e
        rw [eK]
        have hn0 : PySem.W.findIn K (.ref C) "number" = some none := hno _ (by split <;> simp)
        have hn1 : PySem.W.findIn K (.ref C) "line" = some none := hno _ (by split <;> simp)
        refine ⟨_, rfl, _, rfl, a, C, [wd, .non], [(("number" : Str), .int (-1))], rfl, T, ea, rfl, fun f hf => ?_, fun dx nd ne => ?_⟩
        · have : f = ("number" : Str) := by simpa using hf
          rw [this]
          exact hn0
        · refine ⟨1, rfl, .ref a, rfl, a, C, rfl, T, hn1, .inr ⟨dx, _, upd_same, by rw [upd_ne ne, upd_same], Nat.le_of_ble_eq_true rfl, ?_⟩⟩
          rw [upd_twice ne]
          refine ⟨n, rfl, rfl, ?_⟩
          refine ⟨!decide (n = .non), rfl, ?_⟩
          have q1 := q dx nd ne
          by_cases hz : n = .non
          · subst hz
            exact q1
          · rw [if_neg hz] at q1
            rw [decide_eq_false hz]
            refine ⟨n, rfl, .ref a, rfl, a, C, rfl, T, hn1, .inr ⟨dx, _, upd_same, by rw [upd_ne ne, upd_same], Nat.le_of_ble_eq_true rfl, ?_⟩⟩
            rw [upd_twice ne]
            exact q1
      · cases e
    · cases hb
/-- course, stitch, why -/
def effP : List V → Option (List (Str × V))
  | [c, s, y] => some [(("why" : Str), y), (("stitch" : Str), s), (("course" : Str), c), (("number" : Str), .int (-1))]
  | _ => none
def npB (sc : Scope) : List Stmt → Bool
  | [.Expr (.Call (.Attribute (.Name v _) i p2) [s1, w] [] p5) _, .Assign [.Attribute s2 a1 _] c1 _, .Assign [.Attribute s3 a2 _] c2 _, .Assign [.Attribute s4 a3 _] c3 _] =>
    (decide (v = ("LoopError" : Str)) && decide (i = ("__init__" : Str)) && (p2.endLine == p5.line) && glB sc v) && ((isNm s1 "self" sc && isNm w "why" sc) && (isNm s2 "self" sc && isNm s3 "self" sc && isNm s4 "self" sc) && (isNm c1 "course" sc && isNm c2 "stitch" sc && isNm c3 "why" sc) && (decide (a1 = ("course" : Str)) && decide (a2 = ("stitch" : Str)) && decide (a3 = ("why" : Str))))
  | _ => false
theorem np_ok {st : Stmt} {fI : Addr} {fd : FuncData} {q : Str} (F : FunD K "__init__" q (defArgs st) (defBody st) (defScope st) [] [] fI fd) (S : FnScope ["self", "course", "stitch", "why"] ["self", "course", "stitch", "why"] (defScope st)) (hb : npB (defScope st) (defBody st) = true)
    (B : BaseI P w K mg base "LoopError") : FnOk P w K mg base (L2.CX P w) 10 fI fd ["self", "course", "stitch", "why"] (spEff K effP) := by
  refine F.ok (k := 9) S (fun vs H Q E h => ?_) (fun cdv A outer s H vs Q E hr h => ?_)
  · obtain ⟨a, C, args, fs, rfl, _, _, e, _⟩ := h
    unfold effP at e
    split at e
    · rfl
    · cases e
  · generalize hX : cxOf (L2.CX P w) P w K mg base ["self", "course", "stitch", "why"] q (defScope st) fI cdv A outer s H E = X
    have eK : X.K = K := by rw [← hX]; rfl
    have eN : X.N = [("self" : Str), ("course" : Str), ("stitch" : Str), ("why" : Str)] := by rw [← hX]; rfl
    have eS : X.env.scope = defScope st := by rw [← hX]; rfl
    have eB : BaseI X.prog X.w X.K X.mg X.base "LoopError" := by rw [← hX]; exact B
    have hr4 : Room 4 X.A := by rw [← hX]; exact hr.mono (by omega)
    rw [← eS] at hb
    generalize defBody st = body at hb ⊢
    unfold npB at hb
    split at hb
    · rename_i v p1 i p2 s1 w0 p5 p6 s2 a1 p7 c1 p8 s3 a2 p9 c2 p10 s4 a3 p11 c3 p12
      simp only [Bool.and_eq_true] at hb
      obtain ⟨⟨⟨⟨hv, hi⟩, hl⟩, hg⟩, ⟨⟨⟨b1, b2⟩, ⟨b3, b4⟩, b5⟩, ⟨b6, b7⟩, b8⟩, ⟨b9, b10⟩, b11⟩ := hb
      have hv := of_decide_eq_true hv
      have hi := of_decide_eq_true hi
      have b9 := of_decide_eq_true b9
      have b10 := of_decide_eq_true b10
      have b11 := of_decide_eq_true b11
      subst hv hi b9 b10 b11
      have m0 : X.N[0]? = some ("self" : Str) := by rw [eN]; rfl
      have m1 : X.N[1]? = some ("course" : Str) := by rw [eN]; rfl
      have m2 : X.N[2]? = some ("stitch" : Str) := by rw [eN]; rfl
      have m3 : X.N[3]? = some ("why" : Str) := by rw [eN]; rfl
      obtain ⟨d1, _, _, d1s⟩ := isNm_ok b1 m0
      obtain ⟨d2, _, _, d2s⟩ := isNm_ok b2 m3
      obtain ⟨d3, _⟩ := isNm_ok b3 m0
      obtain ⟨d4, _⟩ := isNm_ok b4 m0
      obtain ⟨d5, _⟩ := isNm_ok b5 m0
      obtain ⟨d6, _, l6, _⟩ := isNm_ok b6 m1
      obtain ⟨d7, _, l7, _⟩ := isNm_ok b7 m2
      obtain ⟨d8, _, l8, _⟩ := isNm_ok b8 m3
      have st2 : [s1, w0].all noSt = true := by simp [d1s, d2s]
      refine ⟨_, pss_cons (ps_expr (pe_binit eB hr4 (glB_ok hg) (pa_cons d1 (pa_cons d2 pa_nil (star_cons d2s)) (star_cons d1s)) st2 (Nat.le_of_ble_eq_true rfl) (fun z => by cases z) hl (by decide)) (swaps_no rfl))
        (pss_cons (ps_ost d3 d6 (swaps_no l6)) (pss_cons (ps_ost d4 d7 (swaps_no l7)) (pss_one (ps_ost d5 d8 (swaps_no l8))))), ?_⟩
      obtain ⟨a, C, args, fs, rfl, T, ea, e, hno, q⟩ := h
      unfold effP at e
      split at e
      · rename_i c s y
        cases e
        rw [eK]
        have hn0 : PySem.W.findIn K (.ref C) "number" = some none := hno _ (by simp)
        have hn1 : PySem.W.findIn K (.ref C) "course" = some none := hno _ (by simp)
        have hn2 : PySem.W.findIn K (.ref C) "stitch" = some none := hno _ (by simp)
        have hn3 : PySem.W.findIn K (.ref C) "why" = some none := hno _ (by simp)
        refine ⟨_, rfl, _, rfl, a, C, [y, .non], [(("number" : Str), .int (-1))], rfl, T, ea, rfl, fun f hf => ?_, fun dx nd ne => ?_⟩
        · have : f = ("number" : Str) := by simpa using hf
          rw [this]
          exact hn0
        · refine ⟨c, rfl, .ref a, rfl, a, C, rfl, T, hn1, .inr ⟨dx, _, upd_same, by rw [upd_ne ne, upd_same], Nat.le_of_ble_eq_true rfl, ?_⟩⟩
          rw [upd_twice ne]
          refine ⟨s, rfl, .ref a, rfl, a, C, rfl, T, hn2, .inr ⟨dx, _, upd_same, by rw [upd_ne ne, upd_same], Nat.le_of_ble_eq_true rfl, ?_⟩⟩
          rw [upd_twice ne]
          refine ⟨y, rfl, .ref a, rfl, a, C, rfl, T, hn3, .inr ⟨dx, _, upd_same, by rw [upd_ne ne, upd_same], Nat.le_of_ble_eq_true rfl, ?_⟩⟩
          rw [upd_twice ne]
          exact q dx nd ne
      · cases e
    · cases hb
/-- what NoText and NoPiece make of their arguments -/
def xcT (c : String) : List D → Option Xc
  | [_] => some ⟨c, ["line", "number"], [.int (-1), .int (-1)]⟩
  | [_, n] => some ⟨c, ["line", "number"], [if isN n then .int (-1) else n, .int (-1)]⟩
  | _ => none
def xcP (c : String) : List D → Option Xc
  | [a, b, y] => some ⟨c, ["why", "stitch", "course", "number"], [y, b, a, .int (-1)]⟩
  | _ => none
theorem xmk_T {cl : String → Option Addr} {xc : String → List D → Option Xc} {c : String} {C fI : Addr} {fd : FuncData} {n : Nat} (hn : n = 1 ∨ n = 2) (hxc : xc c = xcT c)
    (G : FnOk P w K mg base (L2.CX P w) 10 fI fd ["self", "words", "line"] (spEff K effT)) (b1 : ∃ ds, Vals ([V.non].drop 0) ds ∧ Binds K fd ["self", "words", "line"] ds) (b2 : ∃ ds, Vals ([V.non].drop 1) ds ∧ Binds K fd ["self", "words", "line"] ds)
    (hc : cl c = some C) (hm : mg (stOf c) = some (.ref C)) (T : OexC K C) (hi : PySem.W.findIn K (.ref C) "__init__" = some (some (.ref fI))) (ht : PySem.W.typeIn K (.ref fI) = some (.type "function")) (hf : PySem.W.findIn K (.ref C) "number" = some none) (hf2 : PySem.W.findIn K (.ref C) "line" = some none) :
    XMk P w K mg base cl xc c n := by
  have hz : ∀ v : V, ∀ f ∈ (if v = .non then [(("line" : Str), V.int (-1)), (("number" : Str), V.int (-1))] else [(("line" : Str), v), (("line" : Str), V.int (-1)), (("number" : Str), V.int (-1))]).map (·.1), PySem.W.findIn K (.ref C) f = some none := fun v f h => by
    have : f = ("line" : Str) ∨ f = ("number" : Str) := by
      split at h
      · simpa using h
      · simpa using h
    rcases this with rfl | rfl
    · exact hf2
    · exact hf
  rcases hn with rfl | rfl
  · obtain ⟨ds, r, b⟩ := b1
    refine ⟨C, fI, fd, _, ds, [.non], effT, hc, hm, T, hi, ht, G, b, r, by decide, fun xs x hl he => ?_⟩
    rw [hxc] at he
    match xs, hl with
    | [w0], _ =>
      cases (show some _ = some x from he)
      refine ⟨rfl, fun A H vs m => ?_⟩
      unfold VRs at m
      obtain ⟨v, ws', rfl, q, m⟩ := m
      unfold VRs at m
      subst m
      exact ⟨_, [.int (-1), .int (-1)], rfl, hz .non, rfl, VRs.cons VR.int (VRs.cons VR.int VRs.nil), fun n => rfl⟩
  · obtain ⟨ds, r, b⟩ := b2
    refine ⟨C, fI, fd, _, ds, [], effT, hc, hm, T, hi, ht, G, b, r, by decide, fun xs x hl he => ?_⟩
    rw [hxc] at he
    match xs, hl with
    | [w0, n0], _ =>
      cases (show some _ = some x from he)
      refine ⟨rfl, fun A H vs m => ?_⟩
      unfold VRs at m
      obtain ⟨v, ws', rfl, q, m⟩ := m
      unfold VRs at m
      obtain ⟨v2, ws', rfl, q2, m⟩ := m
      unfold VRs at m
      subst m
      have hN := isN_ok q2
      by_cases hv : v2 = .non
      · have h1 : isN n0 = true := by rw [← hN]; exact decide_eq_true hv
        subst hv
        refine ⟨_, [.int (-1), .int (-1)], rfl, hz .non, rfl, ?_, fun n => rfl⟩
        rw [h1]
        exact VRs.cons VR.int (VRs.cons VR.int VRs.nil)
      · have h1 : isN n0 = false := by rw [← hN]; exact decide_eq_false hv
        refine ⟨_, [v2, .int (-1)], rfl, hz v2, rfl, ?_, fun n => ?_⟩
        · rw [h1]
          exact VRs.cons q2 (VRs.cons VR.int VRs.nil)
        · rw [if_neg hv]
          show List.lookup n [(("line" : Str), v2), (("line" : Str), .int (-1)), (("number" : Str), .int (-1))] = List.lookup n [(("line" : Str), v2), (("number" : Str), .int (-1))]
          simp only [List.lookup]
          by_cases hh : (n == ("line" : Str)) = true
          · rw [hh]
          · simp [hh]
theorem xmk_P {cl : String → Option Addr} {xc : String → List D → Option Xc} {c : String} {C fI : Addr} {fd : FuncData} (hxc : xc c = xcP c)
    (G : FnOk P w K mg base (L2.CX P w) 10 fI fd ["self", "course", "stitch", "why"] (spEff K effP)) (b : Binds K fd ["self", "course", "stitch", "why"] [])
    (hc : cl c = some C) (hm : mg (stOf c) = some (.ref C)) (T : OexC K C) (hi : PySem.W.findIn K (.ref C) "__init__" = some (some (.ref fI))) (ht : PySem.W.typeIn K (.ref fI) = some (.type "function")) (hf : ∀ f ∈ [("why" : Str), "stitch", "course", "number"], PySem.W.findIn K (.ref C) f = some none) :
    XMk P w K mg base cl xc c 3 := by
  refine ⟨C, fI, fd, _, [], [], effP, hc, hm, T, hi, ht, G, b, .nil, by decide, fun xs x hl he => ?_⟩
  rw [hxc] at he
  match xs, hl with
  | [a0, b0, y0], _ =>
    cases (show some _ = some x from he)
    refine ⟨rfl, fun A H vs m => ?_⟩
    unfold VRs at m
    obtain ⟨v, ws', rfl, q, m⟩ := m
    unfold VRs at m
    obtain ⟨v2, ws', rfl, q2, m⟩ := m
    unfold VRs at m
    obtain ⟨v3, ws', rfl, q3, m⟩ := m
    unfold VRs at m
    subst m
    exact ⟨_, [v3, v2, v, .int (-1)], rfl, hf, rfl, VRs.cons q3 (VRs.cons q2 (VRs.cons q (VRs.cons VR.int VRs.nil))), fun n => rfl⟩
theorem exm_r {K : PySem.W.Frag} {C : Addr} {cls : Value} {b : Bool} (h1 : PySem.W.subIn K (.ref C) (.type "BaseException") = some true) (hd : PySem.W.hasDictIn K C = true) (ht : PySem.W.typeIn K (.ref C) = some (.type "type")) (h4 : PySem.W.subIn K cls (.ref C) = some b) :
    PySem.W.exmOne K cls (.ref C) = some b := by
  obtain ⟨cd, hc, _⟩ := PySem.W.any_some hd
  show (if (PySem.W.subIn K (.ref C) (.type "BaseException") == some true) = true then (if ((PySem.W.clsIn K C).isSome && PySem.W.typeIn K (.ref C) == some (.type "type")) = true then PySem.W.subIn K cls (.ref C) else none) else none) = some b
  rw [if_pos (by rw [h1]; rfl), if_pos (by rw [hc, ht]; rfl)]
  exact h4
theorem kit_ve {K : PySem.W.Frag} {c : Addr} (h : PySem.W.subIn K (.ref c) (.type "ValueError") = some true) : PySem.W.kitOne K (.ref c) (.type "ValueError") = some true := by
  unfold PySem.W.kitOne
  split
  · rfl
  · show (if PySem.W.kitMeta "ValueError" = true then PySem.W.subIn K (.ref c) (.type "ValueError") else none) = some true
    rw [if_pos (by decide +kernel)]
    exact h
end
end Kn

set_option Elab.async false
set_option linter.all false
set_option maxRecDepth 100000
set_option maxHeartbeats 4000000
/-! Tl: tools for the evaluator, no law in sight. -/
namespace Kn
open PySem L2
theorem compL_ok {step : D → Env → R (Option SV)} {f : D → D} {B : Env} {sl : List Nat} : ∀ (ds : List D) (ρ : Env) (acc : List SV), wipeE ρ sl = B → acc.length + ds.length ≤ lim → (∀ d ∈ ds, ∀ ρ, wipeE ρ sl = B → ∃ ρ3, step d ρ = .ok (some (.d (f d))) ρ3 ∧ wipeE ρ3 sl = B) →
    ∃ ρ', compL step ds ρ acc = .ok (acc ++ ds.map fun d => .d (f d)) ρ' ∧ wipeE ρ' sl = B
  | [], ρ, acc, h, _, _ => ⟨ρ, by simp [compL], h⟩
  | d :: ds, ρ, acc, h, hl, k => by
    obtain ⟨ρ3, e, h3⟩ := k d List.mem_cons_self ρ h
    have hl' : acc.length < lim := by simp at hl; omega
    obtain ⟨ρ', e', h'⟩ := compL_ok ds ρ3 (acc ++ [.d (f d)]) h3 (by simp at hl ⊢; omega) fun d hd => k d (List.mem_cons_of_mem _ hd)
    refine ⟨ρ', ?_, h'⟩
    unfold compL
    rw [e]
    simp only [hl', if_true, e', List.append_assoc, List.map_cons, List.singleton_append]
theorem bind_ok {α β : Type} {a : α} {ρ : Env} {f : α → Env → R β} : (R.ok a ρ).bind f = f a ρ := rfl
theorem outL_ok {ρ ρ' : Env} {sl : List Nat} {vs : List SV} : outL ρ sl (.ok vs ρ') = .ok (.lst vs) (backE ρ (wipeE ρ' sl) sl) := rfl
theorem comp_ok {t : T} {F : String → List SV → Cr} {g : Tg} {it el : E} {ρ ρ1 : Env} {ds : List D} (f : D → D) {B : Env} (hi : evi t F it ρ = .ok ds ρ1) (hf : freeAt ρ1 (slotsT g) = true) (hl : ds.length ≤ lim) (hB : wipeE ρ1 (slotsT g) = B)
    (h : ∀ d ∈ ds, ∃ ρ2 ρ3, bindT g d B = some ρ2 ∧ ev t F el ρ2 = .ok (.d (f d)) ρ3 ∧ wipeE ρ3 (slotsT g) = B) :
    ev t F (.comp g it el) ρ = .ok (.lst (ds.map fun d => .d (f d))) (backE ρ1 B (slotsT g)) := by
  have e0 : ev t F (.comp g it el) ρ = (evi t F it ρ).bind fun ds ρ => if freeAt ρ (slotsT g) then
      outL ρ (slotsT g) (compL (fun d ρ' => match bindT g d (wipeE ρ' (slotsT g)) with
        | some ρ₂ => (ev t F el ρ₂).bind fun v ρ => .ok (some v) ρ
        | none => .no) ds ρ [])
    else .no := by (unfold evi; first | (simp only [ev]; done) | (simp only [ev]; rfl))
  obtain ⟨ρ', e', h'⟩ := compL_ok (step := fun d ρ' => match bindT g d (wipeE ρ' (slotsT g)) with
        | some ρ₂ => (ev t F el ρ₂).bind fun v ρ => .ok (some v) ρ
        | none => .no) (f := f) (sl := slotsT g) ds ρ1 [] hB (by simpa using hl) fun d hd ρ hρ => by
    obtain ⟨ρ2, ρ3, h1, h2, h3⟩ := h d hd
    exact ⟨ρ3, by simp only [hρ, h1, h2, R.bind], h3⟩
  rw [e0, hi, bind_ok, if_pos hf, e', outL_ok, h', List.nil_append]
def sm : List Nat := [97, 98, 99, 100, 101, 102, 103, 104, 105, 106, 107, 108, 109, 110, 111, 112, 113, 114, 115, 116, 117, 118, 119, 120, 121, 122]
def yarnB (s : List Nat) : Bool := decide (1 ≤ s.length) && decide (s.length ≤ 4) && s.all fun c => decide (c ∈ sm)
theorem frzs_map {α : Type} (l : List α) (f : α → D) : frzs (l.map fun a => SV.d (f a)) = l.map f := by
  induction l with
  | nil => rfl
  | cons a l ih => simp [frzs, frz, ih]
theorem bls_map {α : Type} (s : List α) (f : α → Bool) : bls? (s.map fun c => D.bl (f c)) = some (s.map f) := by
  induction s with
  | nil => rfl
  | cons c s ih =>
    rw [List.map_cons, List.map_cons]
    show (bls? _).map _ = _
    rw [ih]
    rfl
theorem j_all {p : Nat → Bool} {sep : List Nat} (h : sep.all p = true) : ∀ {ss : List (List Nat)}, (ss.all fun s => s.all p) = true → (TL.joinL sep ss).all p = true
  | [], _ => rfl
  | [s], h2 => by simpa [TL.joinL] using h2
  | s :: r :: ss, h2 => by
    rw [List.all_cons, Bool.and_eq_true] at h2
    have := j_all h (ss := r :: ss) h2.2
    simp only [TL.joinL, List.all_append, h2.1, h, this, Bool.and_self]
theorem istr_len (k : Int) (h1 : -3 ≤ k) (h2 : k ≤ 24) : (istr k).length ≤ 3 ∧ (istr k).all (fun c => decide (c < 1114112)) = true ∧ k.natAbs < 1000000000000000000 := by
  have key : ∀ j : Fin 28, (istr ((j : Nat) - 3 : Int)).length ≤ 3 ∧ (istr ((j : Nat) - 3 : Int)).all (fun c => decide (c < 1114112)) = true := by decide +kernel
  have := key ⟨(k + 3).toNat, by omega⟩
  have e : (((k + 3).toNat : Nat) : Int) - 3 = k := by omega
  simp only [e] at this
  exact ⟨this.1, this.2, by omega⟩
def GN (I : Env → Prop) (x : Fl) : Prop := ∃ ρ3, x = .nx ρ3 ∧ I ρ3
theorem bA (i j : Int) : binD .add (.int i) (.int j) = some (.d (.int (i + j))) := rfl
theorem bS (i j : Int) : binD .sub (.int i) (.int j) = some (.d (.int (i - j))) := rfl
theorem bM (i j : Int) (h : 0 < j) : binD .mod (.int i) (.int j) = some (.d (.int (i % j))) := if_pos h
theorem bF (i j : Int) (h : 0 < j) (h2 : j < 1073741824) : binD .fdiv (.int i) (.int j) = some (.d (.int (i / j))) := if_pos ⟨h, h2⟩
theorem bX (i j : Int) (h : -18446744073709551616 < j) (h2 : j < 18446744073709551616) : binD .mul (.int i) (.int j) = some (.d (.int (i * j))) := if_pos (.inr ⟨h, h2⟩)
section
variable {t : T} {F : String → List SV → Cr} {ro : List Nat} {s r b : S} {ρ ρ1 : Env} {G : Fl → Prop} {g : Tg} {it : E} {ds : List D}
theorem st_nx (h : Kn.exec t F ro s ρ = .nx ρ1) (k : G (Kn.exec t F ro r ρ1)) : G (Kn.exec t F ro (.cons s r) ρ) := by
  have e : Kn.exec t F ro (.cons s r) ρ = Kn.exec t F ro r ρ1 := by
    have e0 : Kn.exec t F ro (.cons s r) ρ = (match Kn.exec t F ro s ρ with
      | .nx ρ' => Kn.exec t F ro r ρ'
      | x => x) := by first | (simp only [Kn.exec]; done) | (simp only [Kn.exec]; rfl)
    rw [e0, h]
  rw [e]
  exact k
theorem st_nil {I : Env → Prop} (h : I ρ) : GN I (Kn.exec t F ro .nil ρ) := ⟨ρ, by simp only [Kn.exec], h⟩
theorem st_rt {v : SV} (h : Kn.exec t F ro s ρ = .rt v ρ1) (k : G (.rt v ρ1)) : G (Kn.exec t F ro (.cons s r) ρ) := by
  have e : Kn.exec t F ro (.cons s r) ρ = .rt v ρ1 := by
    have e0 : Kn.exec t F ro (.cons s r) ρ = (match Kn.exec t F ro s ρ with
      | .nx ρ' => Kn.exec t F ro r ρ'
      | x => x) := by first | (simp only [Kn.exec]; done) | (simp only [Kn.exec]; rfl)
    rw [e0, h]
  rw [e]
  exact k
theorem loop_ok {step : D → Env → Fl} (n : Nat) (I : Nat → Env → Prop) : ∀ (ds : List D), (∀ d ∈ ds, ∀ i ρ, i < n → I i ρ → ∃ ρ', step d ρ = .nx ρ' ∧ I (i + 1) ρ') → ∀ i ρ, i + ds.length ≤ n → I i ρ → ∃ ρ', loopF step ds ρ = .nx ρ' ∧ I (i + ds.length) ρ'
  | [], _, i, ρ, _, h => ⟨ρ, rfl, h⟩
  | d :: ds, k, i, ρ, hn, h => by
    rw [List.length_cons] at hn
    obtain ⟨ρ1, e, h1⟩ := k d List.mem_cons_self i ρ (by omega) h
    obtain ⟨ρ', e', h'⟩ := loop_ok n I ds (fun d hd => k d (List.mem_cons_of_mem _ hd)) (i + 1) ρ1 (by omega) h1
    refine ⟨ρ', ?_, by rw [List.length_cons, show i + (ds.length + 1) = i + 1 + ds.length by omega]; exact h'⟩
    unfold loopF
    rw [e]
    exact e'
theorem st_for (I : Nat → Env → Prop) (hi : evi t F it ρ = .ok ds ρ1) (hro : (slotsT g).all (fun i => !ro.contains i) = true) (h0 : I 0 ρ1)
    (h : ∀ d ∈ ds, ∀ i ρ, i < ds.length → I i ρ → ∃ ρ2, bindT g d ρ = some ρ2 ∧ GN (I (i + 1)) (Kn.exec t F ro b ρ2)) (k : ∀ ρ', I ds.length ρ' → G (Kn.exec t F ro r ρ')) : G (Kn.exec t F ro (.cons (.for_ g it b) r) ρ) := by
  obtain ⟨ρ', e, h'⟩ := loop_ok (step := fun d ρ => match bindT g d ρ with
      | some ρ' => Kn.exec t F ro b ρ'
      | none => .no) ds.length I ds (fun d hd i ρ hi hI => by
    obtain ⟨ρ2, e2, ρ3, e3, h3⟩ := h d hd i ρ hi hI
    exact ⟨ρ3, by simp only [e2, e3], h3⟩) 0 ρ1 (by omega) h0
  refine st_nx (ρ1 := ρ') ?_ (k ρ' (by rw [Nat.zero_add] at h'; exact h'))
  have e0 : Kn.exec t F ro (.for_ g it b) ρ = thenF (evi t F it ρ) fun ds ρ => if (slotsT g).all (fun i => !ro.contains i) then loopF (fun d ρ => match bindT g d ρ with
      | some ρ' => Kn.exec t F ro b ρ'
      | none => .no) ds ρ else .no := by first | (simp only [Kn.exec]; done) | (simp only [Kn.exec]; rfl)
  rw [e0, hi]
  show (if (slotsT g).all (fun i => !ro.contains i) = true then _ else _) = _
  rw [if_pos hro]
  exact e
end
theorem rngD_len' (lo hi : Int) : (rngD lo hi).length = (hi - lo).toNat := by unfold rngD; simp
theorem atI_mod (ns : List Int) (k : Int) (h : 0 < ns.length) : ∃ z, atI ns (k % (ns.length : Int)) = some z := by
  have h1 : 0 ≤ k % (ns.length : Int) := Int.emod_nonneg _ (by omega)
  have h2 : k % (ns.length : Int) < ns.length := Int.emod_lt_of_pos _ (by omega)
  obtain ⟨j, hj⟩ : ∃ j : Nat, k % (ns.length : Int) = j := ⟨(k % (ns.length : Int)).toNat, by omega⟩
  rw [hj]
  exact ⟨ns[j]'(by omega), atI_nat (List.getElem?_eq_getElem (by omega))⟩
theorem sm_small : ∀ c ∈ sm, c < 1114112 := by decide
theorem bR (c : Nat) (n : Int) (h : 0 ≤ n) (h2 : n ≤ 1000) : binD .mul (.str [c]) (.int n) = some (.d (.str (reps n.toNat [c]))) := if_pos ⟨by simp, h2, by omega⟩
theorem bP (s t : List Nat) (h : s.length ≤ 1000) (h2 : t.length ≤ 1000) : binD .add (.str s) (.str t) = some (.d (.str (s ++ t))) := if_pos (by simp only [lim]; omega)
theorem mul_mem {n : Nat} {c d : Nat} (h : d ∈ reps n [c]) : d = c := by
  unfold reps at h
  obtain ⟨l, h1, h2⟩ := List.mem_flatten.mp h
  rw [List.eq_of_mem_replicate h1] at h2
  simpa using h2
theorem reps_len (n c : Nat) : (reps n [c]).length = n := by
  unfold reps
  induction n with
  | zero => rfl
  | succ n ih => simp [List.replicate_succ]
theorem ite_t {t : T} {F : String → List SV → Cr} {ro : List Nat} {c : E} {a b : S} {ρ ρ1 : Env} {x : Fl} (h : ev t F c ρ = .ok (.d (.bl true)) ρ1) (k : Kn.exec t F ro a ρ1 = x) : Kn.exec t F ro (.ite c a b) ρ = x := by
  have e0 : Kn.exec t F ro (.ite c a b) ρ = thenF (ev t F c ρ) fun v ρ => (match v with
    | .d (.bl true) => Kn.exec t F ro a ρ
    | .d (.bl false) => Kn.exec t F ro b ρ
    | _ => .no) := by first | (simp only [Kn.exec]; done) | (simp only [Kn.exec]; rfl)
  rw [e0, h]
  exact k
theorem ite_f {t : T} {F : String → List SV → Cr} {ro : List Nat} {c : E} {a b : S} {ρ ρ1 : Env} {x : Fl} (h : ev t F c ρ = .ok (.d (.bl false)) ρ1) (k : Kn.exec t F ro b ρ1 = x) : Kn.exec t F ro (.ite c a b) ρ = x := by
  have e0 : Kn.exec t F ro (.ite c a b) ρ = thenF (ev t F c ρ) fun v ρ => (match v with
    | .d (.bl true) => Kn.exec t F ro a ρ
    | .d (.bl false) => Kn.exec t F ro b ρ
    | _ => .no) := by first | (simp only [Kn.exec]; done) | (simp only [Kn.exec]; rfl)
  rw [e0, h]
  exact k
theorem set_ok {t : T} {F : String → List SV → Cr} {ro : List Nat} {i : Nat} {e : E} {v : SV} {ρ ρ1 : Env} (h : ev t F e ρ = .ok v ρ1) (hr : ro.contains i = false) : Kn.exec t F ro (.set i e) ρ = .nx (ρ1.set i (some v)) := by
  have e0 : Kn.exec t F ro (.set i e) ρ = thenF (ev t F e ρ) fun v ρ => if ro.contains i then .no else .nx (ρ.set i (some v)) := by first | (simp only [Kn.exec]; done) | (simp only [Kn.exec]; rfl)
  rw [e0, h]
  show (if ro.contains i = true then _ else _) = _
  rw [if_neg (by rw [hr]; exact Bool.false_ne_true)]
theorem app_ok {t : T} {F : String → List SV → Cr} {ro : List Nat} {i : Nat} {e : E} {v : SV} {xs0 xs : List SV} {ρ ρ1 : Env} (h0 : ρ[i]? = some (some (.lst xs0))) (h : ev t F e ρ = .ok v ρ1) (h1 : ρ1[i]? = some (some (.lst xs))) (hl : xs.length < lim) : Kn.exec t F ro (.app i e) ρ = .nx (ρ1.set i (some (.lst (xs ++ [v])))) := by
  have e0 : Kn.exec t F ro (.app i e) ρ = (match ρ[i]? with
    | some (some (.lst _)) => thenF (ev t F e ρ) fun v ρ => (match ρ[i]? with
      | some (some (.lst xs)) => if xs.length < lim then .nx (ρ.set i (some (.lst (xs ++ [v])))) else .no
      | _ => .no)
    | _ => .no) := by first | (simp only [Kn.exec]; done) | (simp only [Kn.exec]; rfl)
  rw [e0, h0]
  show thenF (ev t F e ρ) _ = _
  rw [h]
  show (match ρ1[i]? with
      | some (some (.lst xs)) => if xs.length < lim then Fl.nx (ρ1.set i (some (.lst (xs ++ [v])))) else .no
      | _ => .no) = _
  rw [h1]
  show (if xs.length < lim then _ else _) = _
  rw [if_pos hl]
theorem one_nx {t : T} {F : String → List SV → Cr} {ro : List Nat} {s : S} {ρ ρ1 : Env} (h : Kn.exec t F ro s ρ = .nx ρ1) : Kn.exec t F ro (.cons s .nil) ρ = .nx ρ1 :=
  st_nx (G := fun x => x = .nx ρ1) h (by simp only [Kn.exec])
theorem var_ev {t : T} {F : String → List SV → Cr} {ρ : Env} {i : Nat} {x : D} (h : ρ[i]? = some (some (.d x))) : ev t F (.var i) ρ = .ok (.d x) ρ := by
  unfold ev
  rw [h]
theorem int_ev {t : T} {F : String → List SV → Cr} {ρ : Env} {i : Int} : ev t F (.int i) ρ = .ok (.d (.int i)) ρ := by simp only [ev]
theorem bin_ev {t : T} {F : String → List SV → Cr} {ρ ρ1 ρ2 : Env} {o : BOp} {a b : E} {x y v : SV} (h1 : ev t F a ρ = .ok x ρ1) (h2 : ev t F b ρ1 = .ok y ρ2) (h3 : binD o (frz x) (frz y) = some v) : ev t F (.bin o a b) ρ = .ok v ρ2 := by
  have e0 : ev t F (.bin o a b) ρ = (ev t F a ρ).bind fun x ρ => (ev t F b ρ).bind fun y ρ => R.of (binD o (frz x) (frz y)) ρ := by simp only [ev]
  rw [e0, h1, bind_ok, h2, bind_ok, h3]
  rfl
theorem idx_ev {t : T} {F : String → List SV → Cr} {ρ ρ1 ρ2 : Env} {a b : E} {x y : SV} {d : D} (h1 : ev t F a ρ = .ok x ρ1) (h2 : ev t F b ρ1 = .ok y ρ2) (h3 : idxD (frz x) (frz y) = some d) : ev t F (.idx a b) ρ = .ok (.d d) ρ2 := by
  have e0 : ev t F (.idx a b) ρ = (ev t F a ρ).bind fun x ρ => (ev t F b ρ).bind fun y ρ => (match idxD (frz x) (frz y) with
    | some d => .ok (.d d) ρ
    | none => .no) := by first | (simp only [ev]; done) | (simp only [ev]; rfl)
  rw [e0, h1, bind_ok, h2, bind_ok, h3]
theorem cmp_ev {t : T} {F : String → List SV → Cr} {ρ ρ1 ρ2 : Env} {o : COp} {a b : E} {x y : SV} {r : Bool} (h1 : ev t F a ρ = .ok x ρ1) (h2 : ev t F b ρ1 = .ok y ρ2) (h3 : cmpD o (frz x) (frz y) = some r) : ev t F (.cmp o a b) ρ = .ok (.d (.bl r)) ρ2 := by
  have e0 : ev t F (.cmp o a b) ρ = (ev t F a ρ).bind fun x ρ => (ev t F b ρ).bind fun y ρ => (match cmpD o (frz x) (frz y) with
    | some r => .ok (.d (.bl r)) ρ
    | none => .no) := by first | (simp only [ev]; done) | (simp only [ev]; rfl)
  rw [e0, h1, bind_ok, h2, bind_ok, h3]
theorem blt1_ev {t : T} {F : String → List SV → Cr} {ρ ρ1 : Env} {b : Bf} {a : E} {x v : SV} (h1 : ev t F a ρ = .ok x ρ1) (h : bltD t b [frz x] = some v) : ev t F (.blt b (.cons a .nil)) ρ = .ok v ρ1 := by
  have e0 : ev t F (.blt b (.cons a .nil)) ρ = (ev t F a ρ).bind fun v ρ => R.of (bltD t b (frzs [v])) ρ := by
    simp only [ev, evs]
    cases ev t F a ρ <;> rfl
  rw [e0, h1, bind_ok]
  show R.of (bltD t b [frz x]) ρ1 = _
  rw [h]
  rfl
/-- a lazy and -/
theorem and_ev {t : T} {F : String → List SV → Cr} {ρ ρ1 : Env} {a b : E} {p q : Bool} (h1 : ev t F a ρ = .ok (.d (.bl p)) ρ1) (h2 : p = true → ev t F b ρ1 = .ok (.d (.bl q)) ρ1) : ev t F (.and a b) ρ = .ok (.d (.bl (p && q))) ρ1 := by
  have e0 : ev t F (.and a b) ρ = (ev t F a ρ).bind fun x ρ => (match x with
    | .d (.bl true) => ev t F b ρ
    | .d (.bl false) => .ok (.d (.bl false)) ρ
    | _ => .no) := by first | (simp only [ev]; done) | (simp only [ev]; rfl)
  rw [e0, h1, bind_ok]
  cases p with
  | true => exact h2 rfl
  | false => rfl
theorem or_ev {t : T} {F : String → List SV → Cr} {ρ ρ1 : Env} {a b : E} {p q : Bool} (h1 : ev t F a ρ = .ok (.d (.bl p)) ρ1) (h2 : p = false → ev t F b ρ1 = .ok (.d (.bl q)) ρ1) : ev t F (.or a b) ρ = .ok (.d (.bl (p || q))) ρ1 := by
  have e0 : ev t F (.or a b) ρ = (ev t F a ρ).bind fun x ρ => (match x with
    | .d (.bl true) => .ok (.d (.bl true)) ρ
    | .d (.bl false) => ev t F b ρ
    | _ => .no) := by first | (simp only [ev]; done) | (simp only [ev]; rfl)
  rw [e0, h1, bind_ok]
  cases p with
  | true => rfl
  | false => exact h2 rfl
theorem not_ev {t : T} {F : String → List SV → Cr} {ρ ρ1 : Env} {a : E} {p : Bool} (h1 : ev t F a ρ = .ok (.d (.bl p)) ρ1) : ev t F (.not a) ρ = .ok (.d (.bl (!p))) ρ1 := by
  have e0 : ev t F (.not a) ρ = (ev t F a ρ).bind fun x ρ => (match x with
    | .d (.bl b) => .ok (.d (.bl (!b))) ρ
    | _ => .no) := by first | (simp only [ev]; done) | (simp only [ev]; rfl)
  rw [e0, h1, bind_ok]
theorem cgI (i j : Int) : cmpD .gt (.int i) (.int j) = some (decide (j < i)) := rfl
theorem evi_of {t : T} {F : String → List SV → Cr} {ρ ρ1 : Env} {it : E} {x : SV} {ds : List D} (h : ev t F it ρ = .ok x ρ1) (h2 : itemsD (frz x) = some ds) : evi t F it ρ = .ok ds ρ1 := by
  unfold evi
  rw [h, bind_ok, h2]
  rfl
theorem rng_evi {t : T} {F : String → List SV → Cr} {ρ ρ1 : Env} {a : E} {x : SV} {j : Int} (h : ev t F a ρ = .ok x ρ1) (hx : frz x = .int j) (h1 : -1000000000000 < j ∧ j < 1000000000000) : evi t F (.rng a) ρ = .ok (rngD 0 j) ρ1 := by
  have e0 : ev t F (.rng a) ρ = (ev t F a ρ).bind fun x ρ => (match frz x with
    | .int j => if -1000000000000 < j ∧ j < 1000000000000 then .ok (.d (.lst (rngD 0 j))) ρ else .no
    | _ => .no) := by first | (simp only [ev]; done) | (simp only [ev]; rfl)
  have e1 : ev t F (.rng a) ρ = .ok (.d (.lst (rngD 0 j))) ρ1 := by
    rw [e0, h, bind_ok, hx]
    show (if -1000000000000 < j ∧ j < 1000000000000 then _ else _) = _
    rw [if_pos h1]
  exact evi_of e1 rfl
theorem set_to {t : T} {F : String → List SV → Cr} {ro : List Nat} {i : Nat} {e : E} {v : SV} {ρ ρ1 ρ2 : Env} (h : ev t F e ρ = .ok v ρ1) (hr : ro.contains i = false) (hs : ρ1.set i (some v) = ρ2) : Kn.exec t F ro (.set i e) ρ = .nx ρ2 := by
  rw [set_ok h hr, hs]
mutual
/-- an expression of constants -/
def constE : E → Option SV
  | .non => some (.d .non)
  | .bl b => some (.d (.bl b))
  | .int i => some (.d (.int i))
  | .str s => some (.d (.str s))
  | .neg a => (constE a).bind fun v => (match frz v with
    | .int i => some (.d (.int (-i)))
    | _ => none)
  | .tup es => (constEs es).bind fun vs => if vs.length ≤ lim then some (.d (.tup (frzs vs))) else none
  | .lst es => (constEs es).bind fun vs => if vs.length ≤ lim then some (.lst vs) else none
  | .edk => some (.dk [] [])
  | _ => none
def constEs : E → Option (List SV)
  | .nil => some []
  | .cons e es => (constE e).bind fun v => (constEs es).map (v :: ·)
  | _ => none
end
theorem const_both {t : T} {F : String → List SV → Cr} : ∀ e : E, (∀ v ρ, constE e = some v → ev t F e ρ = .ok v ρ) ∧ (∀ vs ρ, constEs e = some vs → evs t F e ρ = .ok vs ρ) := by
  intro e
  induction e with
  | non => exact ⟨fun v ρ h => (by simp only [constE] at h; cases h; simp only [ev]), fun vs ρ h => by simp only [constEs] at h; cases h⟩
  | bl b => exact ⟨fun v ρ h => (by simp only [constE] at h; cases h; simp only [ev]), fun vs ρ h => by simp only [constEs] at h; cases h⟩
  | int i => exact ⟨fun v ρ h => (by simp only [constE] at h; cases h; simp only [ev]), fun vs ρ h => by simp only [constEs] at h; cases h⟩
  | str s => exact ⟨fun v ρ h => (by simp only [constE] at h; cases h; simp only [ev]), fun vs ρ h => by simp only [constEs] at h; cases h⟩
  | edk => exact ⟨fun v ρ h => (by simp only [constE] at h; cases h; simp only [ev]), fun vs ρ h => by simp only [constEs] at h; cases h⟩
  | neg a ih =>
    refine ⟨fun v ρ h => ?_, fun vs ρ h => by simp only [constEs] at h; cases h⟩
    simp only [constE] at h
    cases hc : constE a with
    | none => rw [hc] at h; cases h
    | some w =>
      rw [hc, Option.bind_some] at h
      have e0 : ev t F (.neg a) ρ = (ev t F a ρ).bind fun x ρ => (match frz x with
        | .int i => .ok (.d (.int (-i))) ρ
        | _ => .no) := by first | (simp only [ev]; done) | (simp only [ev]; rfl)
      rw [e0, ih.1 w ρ hc, bind_ok]
      split at h
      · rename_i i hi
        cases h
        first | rfl | simp only [hi]
      · cases h
  | tup es ih =>
    refine ⟨fun v ρ h => ?_, fun vs ρ h => by simp only [constEs] at h; cases h⟩
    simp only [constE] at h
    cases hc : constEs es with
    | none => rw [hc] at h; cases h
    | some w =>
      rw [hc, Option.bind_some] at h
      have e0 : ev t F (.tup es) ρ = (evs t F es ρ).bind fun vs ρ => if vs.length ≤ lim then .ok (.d (.tup (frzs vs))) ρ else .no := by simp only [ev]
      rw [e0, ih.2 w ρ hc, bind_ok]
      split at h
      · rename_i hl
        cases h
        rw [if_pos hl]
      · cases h
  | lst es ih =>
    refine ⟨fun v ρ h => ?_, fun vs ρ h => by simp only [constEs] at h; cases h⟩
    simp only [constE] at h
    cases hc : constEs es with
    | none => rw [hc] at h; cases h
    | some w =>
      rw [hc, Option.bind_some] at h
      have e0 : ev t F (.lst es) ρ = (evs t F es ρ).bind fun vs ρ => if vs.length ≤ lim then .ok (.lst vs) ρ else .no := by simp only [ev]
      rw [e0, ih.2 w ρ hc, bind_ok]
      split at h
      · rename_i hl
        cases h
        rw [if_pos hl]
      · cases h
  | nil => exact ⟨fun v ρ h => (by simp only [constE] at h; cases h), fun vs ρ h => by simp only [constEs] at h; cases h; simp only [evs]⟩
  | cons e es h1 h2 =>
    refine ⟨fun v ρ h => (by simp only [constE] at h; cases h), fun vs ρ h => ?_⟩
    simp only [constEs] at h
    cases hc : constE e with
    | none => rw [hc] at h; cases h
    | some w =>
      rw [hc, Option.bind_some] at h
      cases hc2 : constEs es with
      | none => rw [hc2] at h; cases h
      | some ws =>
        rw [hc2] at h
        cases h
        have e0 : evs t F (.cons e es) ρ = (ev t F e ρ).bind fun v ρ => (evs t F es ρ).bind fun vs ρ => .ok (v :: vs) ρ := by simp only [evs]
        rw [e0, h1.1 w ρ hc, bind_ok, h2.2 ws ρ hc2, bind_ok]
  | _ => exact ⟨fun v ρ h => (by simp only [constE] at h; cases h), fun vs ρ h => by simp only [constEs] at h; cases h⟩
theorem const_ev {t : T} {F : String → List SV → Cr} {e : E} {v : SV} {ρ : Env} (h : constE e = some v) : ev t F e ρ = .ok v ρ := (const_both e).1 v ρ h
theorem str_ev {t : T} {F : String → List SV → Cr} {s : List Nat} {ρ : Env} : ev t F (.str s) ρ = .ok (.d (.str s)) ρ := by simp only [ev]
theorem evs_nil {t : T} {F : String → List SV → Cr} {ρ : Env} : evs t F .nil ρ = .ok [] ρ := by simp only [evs]
theorem evs_cons {t : T} {F : String → List SV → Cr} {ρ ρ1 ρ2 : Env} {e es : E} {v : SV} {vs : List SV} (h : ev t F e ρ = .ok v ρ1) (hs : evs t F es ρ1 = .ok vs ρ2) : evs t F (.cons e es) ρ = .ok (v :: vs) ρ2 := by
  have e0 : evs t F (.cons e es) ρ = (ev t F e ρ).bind fun v ρ => (evs t F es ρ).bind fun vs ρ => .ok (v :: vs) ρ := by simp only [evs]
  rw [e0, h, bind_ok, hs, bind_ok]
theorem tup_ev {t : T} {F : String → List SV → Cr} {ρ ρ1 : Env} {es : E} {vs : List SV} (h : evs t F es ρ = .ok vs ρ1) (hl : vs.length ≤ lim) : ev t F (.tup es) ρ = .ok (.d (.tup (frzs vs))) ρ1 := by
  have e0 : ev t F (.tup es) ρ = (evs t F es ρ).bind fun vs ρ => if vs.length ≤ lim then .ok (.d (.tup (frzs vs))) ρ else .no := by simp only [ev]
  rw [e0, h, bind_ok, if_pos hl]
theorem lst_ev {t : T} {F : String → List SV → Cr} {ρ ρ1 : Env} {es : E} {vs : List SV} (h : evs t F es ρ = .ok vs ρ1) (hl : vs.length ≤ lim) : ev t F (.lst es) ρ = .ok (.lst vs) ρ1 := by
  have e0 : ev t F (.lst es) ρ = (evs t F es ρ).bind fun vs ρ => if vs.length ≤ lim then .ok (.lst vs) ρ else .no := by simp only [ev]
  rw [e0, h, bind_ok, if_pos hl]
theorem blt_ev {t : T} {F : String → List SV → Cr} {ρ ρ1 : Env} {b : Bf} {es : E} {vs : List SV} {v : SV} (h : evs t F es ρ = .ok vs ρ1) (h2 : bltD t b (frzs vs) = some v) : ev t F (.blt b es) ρ = .ok v ρ1 := by
  have e0 : ev t F (.blt b es) ρ = (evs t F es ρ).bind fun vs ρ => R.of (bltD t b (frzs vs)) ρ := by simp only [ev]
  rw [e0, h, bind_ok, h2]
  rfl
theorem bm_ev {t : T} {F : String → List SV → Cr} {ρ ρ1 ρ2 : Env} {m : Bm} {a es : E} {x : SV} {vs : List SV} {v : SV} (h : ev t F a ρ = .ok x ρ1) (hr : okRec m (frz x) = true) (hs : evs t F es ρ1 = .ok vs ρ2) (h2 : bmD m (frz x) (frzs vs) = some v) : ev t F (.bm m a es) ρ = .ok v ρ2 := by
  have e0 : ev t F (.bm m a es) ρ = (ev t F a ρ).bind fun x ρ => if okRec m (frz x) then (evs t F es ρ).bind fun vs ρ => R.of (bmD m (frz x) (frzs vs)) ρ else .no := by simp only [ev]
  rw [e0, h, bind_ok, if_pos hr, hs, bind_ok, h2]
  rfl
theorem call_ev {t : T} {F : String → List SV → Cr} {ρ ρ1 : Env} {f : String} {es : E} {vs : List SV} {v : SV} {o : List (Option SV)} (hf : t.isFn f = true) (h : evs t F es ρ = .ok vs ρ1) (h2 : F f ((frzs vs).map .d) = .ok v o) : ev t F (.call f es) ρ = .ok v ρ1 := by
  have e0 : ev t F (.call f es) ρ = (evs t F es ρ).bind fun vs ρ => ofCr (F f ((frzs vs).map .d)) ρ := by simp only [ev, hf, if_true]
  rw [e0, h, bind_ok, h2]
  rfl
theorem call_exc {t : T} {F : String → List SV → Cr} {ρ ρ1 : Env} {f : String} {es : E} {vs : List SV} {x : Xc} (hf : t.isFn f = true) (h : evs t F es ρ = .ok vs ρ1) (h2 : F f ((frzs vs).map .d) = .exc x) : ev t F (.call f es) ρ = .exc x ρ1 := by
  have e0 : ev t F (.call f es) ρ = (evs t F es ρ).bind fun vs ρ => ofCr (F f ((frzs vs).map .d)) ρ := by simp only [ev, hf, if_true]
  rw [e0, h, bind_ok, h2]
  rfl
theorem meth_ev {t : T} {F : String → List SV → Cr} {ρ ρ1 ρ2 : Env} {m q : String} {a es : E} {c : String} {ns : List String} {xs : List D} {x : SV} {vs : List SV} {v : SV} {o : List (Option SV)} (h : ev t F a ρ = .ok x ρ1) (hx : frz x = .ins c ns xs) (hq : t.meth c m = some q) (hn : m ∉ ns)
    (hs : evs t F es ρ1 = .ok vs ρ2) (h2 : F q (.d (.ins c ns xs) :: (frzs vs).map .d) = .ok v o) : ev t F (.meth m a es) ρ = .ok v ρ2 := by
  have e0 : ev t F (.meth m a es) ρ = (ev t F a ρ).bind fun x ρ => (match frz x with
    | .ins c ns xs => (match t.meth c m with
      | some q => if ns.contains m then .no else (evs t F es ρ).bind fun vs ρ => ofCr (F q (.d (.ins c ns xs) :: (frzs vs).map .d)) ρ
      | none => .no)
    | _ => .no) := by first | (simp only [ev]; done) | (simp only [ev]; rfl)
  have hn2 : ns.contains m = false := by simpa using hn
  rw [e0, h, bind_ok, hx]
  show (match t.meth c m with
      | some q => if ns.contains m then R.no else (evs t F es ρ1).bind fun vs ρ => ofCr (F q (.d (.ins c ns xs) :: (frzs vs).map .d)) ρ
      | none => .no) = _
  rw [hq]
  show (if ns.contains m = true then R.no else (evs t F es ρ1).bind fun vs ρ => ofCr (F q (.d (.ins c ns xs) :: (frzs vs).map .d)) ρ) = _
  rw [if_neg (by rw [hn2]; exact Bool.false_ne_true), hs, bind_ok, h2]
  rfl
theorem fld_ev {t : T} {F : String → List SV → Cr} {ρ ρ1 : Env} {a : E} {f : String} {x : SV} {d : D} (h : ev t F a ρ = .ok x ρ1) (h2 : fldD t (frz x) f = some d) : ev t F (.fld a f) ρ = .ok (.d d) ρ1 := by
  have e0 : ev t F (.fld a f) ρ = (ev t F a ρ).bind fun x ρ => (match fldD t (frz x) f with
    | some d => .ok (.d d) ρ
    | none => .no) := by first | (simp only [ev]; done) | (simp only [ev]; rfl)
  rw [e0, h, bind_ok, h2]
theorem glb_ev {t : T} {F : String → List SV → Cr} {ρ : Env} {x : String} {d : D} (h : t.glob x = some d) : ev t F (.glb x) ρ = .ok (.d d) ρ := by
  simp only [ev, h]
theorem slc_lo {t : T} {F : String → List SV → Cr} {ρ ρ1 ρ2 : Env} {a lo : E} {x l : SV} {i : Int} {v : SV} (hne : isEmp lo = false) (h : ev t F a ρ = .ok x ρ1) (hl : ev t F lo ρ1 = .ok l ρ2) (hi : frz l = .int i) (h2 : slcD (frz x) (some i) none = some v) : ev t F (.slc a lo .emp) ρ = .ok v ρ2 := by
  have e0 : ev t F (.slc a lo .emp) ρ = (ev t F a ρ).bind fun x ρ => (ev t F lo ρ).bind fun l ρ => (match frz l with
    | .int i => R.of (slcD (frz x) (some i) none) ρ
    | _ => .no) := by cases lo <;> first | (cases hne; done) | (simp only [ev]; done) | (simp only [ev]; rfl)
  rw [e0, h, bind_ok, hl, bind_ok, hi]
  show R.of (slcD (frz x) (some i) none) ρ2 = _
  rw [h2]
  rfl
theorem slc_hi {t : T} {F : String → List SV → Cr} {ρ ρ1 ρ2 : Env} {a hi : E} {x l : SV} {i : Int} {v : SV} (hne : isEmp hi = false) (h : ev t F a ρ = .ok x ρ1) (hl : ev t F hi ρ1 = .ok l ρ2) (hi2 : frz l = .int i) (h2 : slcD (frz x) none (some i) = some v) : ev t F (.slc a .emp hi) ρ = .ok v ρ2 := by
  have e0 : ev t F (.slc a .emp hi) ρ = (ev t F a ρ).bind fun x ρ => (ev t F hi ρ).bind fun l ρ => (match frz l with
    | .int i => R.of (slcD (frz x) none (some i)) ρ
    | _ => .no) := by cases hi <;> first | (cases hne; done) | (simp only [ev]; done) | (simp only [ev]; rfl)
  rw [e0, h, bind_ok, hl, bind_ok, hi2]
  show R.of (slcD (frz x) none (some i)) ρ2 = _
  rw [h2]
  rfl
theorem neg_ev {t : T} {F : String → List SV → Cr} {ρ : Env} {i : Int} : ev t F (.neg (.int i)) ρ = .ok (.d (.int (-i))) ρ := const_ev rfl
theorem ret_blk {t : T} {F : String → List SV → Cr} {ro : List Nat} {e : E} {v : SV} {r : S} {ρ ρ1 : Env} (h : ev t F e ρ = .ok v ρ1) : Kn.exec t F ro (.cons (.ret e) r) ρ = .rt v ρ1 := by
  have e0 : Kn.exec t F ro (.ret e) ρ = thenF (ev t F e ρ) fun v ρ => .rt v ρ := by simp only [Kn.exec]
  exact st_rt (G := fun x => x = .rt v ρ1) (by rw [e0, h]; rfl) rfl
theorem nil_blk {t : T} {F : String → List SV → Cr} {ro : List Nat} {ρ : Env} : Kn.exec t F ro .nil ρ = .nx ρ := by simp only [Kn.exec]
theorem bT (a b : List D) (h : a.length + b.length ≤ lim) : binD .add (.tup a) (.tup b) = some (.d (.tup (a ++ b))) := if_pos h
theorem pickv (xs : List D) (m i : Int) (hm : m = xs.length) (h : 0 < m) : ∃ d ∈ xs, idxD (.lst xs) (.int (i % m)) = some d := by
  have h1 : 0 ≤ i % m := Int.emod_nonneg _ (by omega)
  have h2 : i % m < m := Int.emod_lt_of_pos _ h
  obtain ⟨j, hj⟩ : ∃ j : Nat, i % m = j := ⟨(i % m).toNat, by omega⟩
  rw [hj]
  have hl : j < xs.length := by omega
  exact ⟨xs[j], List.getElem_mem hl, atI_nat (List.getElem?_eq_getElem hl)⟩
theorem try_exc {t : T} {F : String → List SV → Cr} {ro : List Nat} {b : S} {c : String} {i j : Nat} {x : Xc} {ρ ρ1 : Env} (hb : Kn.exec t F ro b ρ = .exc x ρ1) (hr : (ro.contains i || ro.contains j) = false) (hc : t.exn c = true) (hx : t.isx x.c c = some true) :
    Kn.exec t F ro (.tryk b c i j) ρ = .nx ((ρ1.set i none).set j (some (.d (.exc x.c x.ns x.xs)))) := by
  have e0 : Kn.exec t F ro (.tryk b c i j) ρ = if (ro.contains i || ro.contains j) || !t.exn c then .no else (match Kn.exec t F ro b ρ with
    | .exc x ρ' => (match t.isx x.c c with
      | some true => .nx ((ρ'.set i none).set j (some (.d (.exc x.c x.ns x.xs))))
      | some false => .exc x ρ'
      | none => .no)
    | r => r) := by first | (simp only [Kn.exec]; done) | (simp only [Kn.exec]; rfl)
  rw [e0, hr, hc]
  show (match Kn.exec t F ro b ρ with
    | .exc x ρ' => (match t.isx x.c c with
      | some true => Fl.nx ((ρ'.set i none).set j (some (.d (.exc x.c x.ns x.xs))))
      | some false => .exc x ρ'
      | none => .no)
    | r => r) = _
  rw [hb]
  show (match t.isx x.c c with
      | some true => Fl.nx ((ρ1.set i none).set j (some (.d (.exc x.c x.ns x.xs))))
      | some false => .exc x ρ1
      | none => .no) = _
  rw [hx]
theorem try_nx {t : T} {F : String → List SV → Cr} {ro : List Nat} {b : S} {c : String} {i j : Nat} {ρ ρ1 : Env} (hb : Kn.exec t F ro b ρ = .nx ρ1) (hr : (ro.contains i || ro.contains j) = false) (hc : t.exn c = true) : Kn.exec t F ro (.tryk b c i j) ρ = .nx ρ1 := by
  have e0 : Kn.exec t F ro (.tryk b c i j) ρ = if (ro.contains i || ro.contains j) || !t.exn c then .no else (match Kn.exec t F ro b ρ with
    | .exc x ρ' => (match t.isx x.c c with
      | some true => .nx ((ρ'.set i none).set j (some (.d (.exc x.c x.ns x.xs))))
      | some false => .exc x ρ'
      | none => .no)
    | r => r) := by first | (simp only [Kn.exec]; done) | (simp only [Kn.exec]; rfl)
  rw [e0, hr, hc]
  show (match Kn.exec t F ro b ρ with
    | .exc x ρ' => (match t.isx x.c c with
      | some true => Fl.nx ((ρ'.set i none).set j (some (.d (.exc x.c x.ns x.xs))))
      | some false => .exc x ρ'
      | none => .no)
    | r => r) = _
  rw [hb]
theorem expr_exc {t : T} {F : String → List SV → Cr} {ro : List Nat} {e : E} {r : S} {x : Xc} {ρ ρ1 : Env} (h : ev t F e ρ = .exc x ρ1) : Kn.exec t F ro (.cons (.expr e) r) ρ = .exc x ρ1 := by
  have e0 : Kn.exec t F ro (.cons (.expr e) r) ρ = (match thenF (ev t F e ρ) (fun _ ρ => Fl.nx ρ) with
    | .nx ρ' => Kn.exec t F ro r ρ'
    | x => x) := by first | (simp only [Kn.exec]; done) | (simp only [Kn.exec]; rfl)
  rw [e0, h]
  rfl
theorem is_ev {t : T} {F : String → List SV → Cr} {ρ ρ1 : Env} {a : E} {x : SV} {r : Bool} (h : ev t F a ρ = .ok x ρ1) (hr : isN (frz x) = r) : ev t F (.cmp .is_ a .non) ρ = .ok (.d (.bl r)) ρ1 := cmp_ev (y := .d .non) h (const_ev rfl) (by rw [← hr]; rfl)
theorem isnot_ev {t : T} {F : String → List SV → Cr} {ρ ρ1 : Env} {a : E} {x : SV} {r : Bool} (h : ev t F a ρ = .ok x ρ1) (hr : isN (frz x) = r) : ev t F (.cmp .isnot a .non) ρ = .ok (.d (.bl (!r))) ρ1 := cmp_ev (y := .d .non) h (const_ev rfl) (by rw [← hr]; rfl)
theorem eq_ev {t : T} {F : String → List SV → Cr} {ρ ρ1 ρ2 : Env} {a b : E} {x y : SV} {r : Bool} (h1 : ev t F a ρ = .ok x ρ1) (h2 : ev t F b ρ1 = .ok y ρ2) (h3 : eqD (frz x) (frz y) = some r) : ev t F (.cmp .eq a b) ρ = .ok (.d (.bl r)) ρ2 := cmp_ev h1 h2 (by
  have : ∀ x y : D, cmpD .eq x y = eqD x y := fun x y => by cases x <;> cases y <;> rfl
  rw [this, h3])
theorem ne_ev {t : T} {F : String → List SV → Cr} {ρ ρ1 ρ2 : Env} {a b : E} {x y : SV} {r : Bool} (h1 : ev t F a ρ = .ok x ρ1) (h2 : ev t F b ρ1 = .ok y ρ2) (h3 : eqD (frz x) (frz y) = some r) : ev t F (.cmp .ne a b) ρ = .ok (.d (.bl (!r))) ρ2 := cmp_ev h1 h2 (by
  have : ∀ x y : D, cmpD .ne x y = neD x y := fun x y => by cases x <;> cases y <;> rfl
  rw [this]
  unfold neD
  rw [h3])
theorem pick (xs : List D) (m i : Int) (hm : m = xs.length) (h : 0 < m) : ∃ d ∈ xs, atI xs (i % m) = some d := by
  have h1 : 0 ≤ i % m := Int.emod_nonneg _ (by omega)
  have h2 : i % m < m := Int.emod_lt_of_pos _ h
  obtain ⟨j, hj⟩ : ∃ j : Nat, i % m = j := ⟨(i % m).toNat, by omega⟩
  rw [hj]
  have hl : j < xs.length := by omega
  exact ⟨xs[j], List.getElem_mem hl, atI_nat (List.getElem?_eq_getElem hl)⟩
theorem eqS (s : List Nat) : eqD (.str s) (.str s) = some true := by simp [eqD, flat, eqvD]
theorem frzs_dd (xs : List D) : frzs (xs.map .d) = xs := by
  induction xs with
  | nil => rfl
  | cons x xs ih =>
    rw [List.map_cons]
    unfold frzs frz
    rw [ih]
theorem cqI (i j : Int) : cmpD .eq (.int i) (.int j) = some (decide (i = j)) := by simp [cmpD, eqD, flat, eqvD]; rfl
theorem cnE (x y : D) : cmpD .ne x y = neD x y := by cases x <;> cases y <;> rfl
theorem cut_mem {α : Type} {xs : List α} {lo hi : Option Int} {x : α} (h : x ∈ cutL xs lo hi) : x ∈ xs := List.mem_of_mem_drop (List.mem_of_mem_take h)
def nthS : S → Nat → S
  | .cons s _, 0 => s
  | .cons _ r, k + 1 => nthS r k
  | s, _ => s
def bodyS : S → S
  | .for_ _ _ b => b
  | s => s
def GB (x : Fl) : Prop := ∃ ρ', x = .rt (.d (.bl true)) ρ'
end Kn

set_option Elab.async false
set_option linter.all false
set_option maxRecDepth 100000
set_option maxHeartbeats 4000000
/-! Tl2: more tools for the evaluator. -/
namespace Kn
open PySem L2
theorem eqT (a b : List Nat) : eqD (.str a) (.str b) = some (decide (a = b)) := by
  have e : eqD (.str a) (.str b) = some (a == b) := rfl
  rw [e]
  congr 1
  by_cases h : a = b <;> simp [h]
section
variable {t : T} {F : String → List SV → Cr} {ρ ρ1 ρ2 ρ3 : Env}
theorem chn_ev {a b c : E} {x y z : SV} {i j k : Int} (h1 : ev t F a ρ = .ok x ρ) (h2 : ev t F b ρ = .ok y ρ) (h3 : ev t F c ρ = .ok z ρ) (e1 : frz x = .int i) (e2 : frz y = .int j) (e3 : frz z = .int k) :
    ev t F (.chn .le .le a b c) ρ = .ok (.d (.bl (decide (i ≤ j) && decide (j ≤ k)))) ρ := by
  have e0 : ev t F (.chn .le .le a b c) ρ = (ev t F a ρ).bind fun x ρ => (ev t F b ρ).bind fun y ρ => (match cmpD .le (frz x) (frz y) with
    | some true => (ev t F c ρ).bind fun z ρ => (match cmpD .le (frz y) (frz z) with
      | some r => .ok (.d (.bl r)) ρ
      | none => .no)
    | some false => .ok (.d (.bl false)) ρ
    | none => .no) := by first | (simp only [ev]; done) | (simp only [ev]; rfl)
  rw [e0, h1, bind_ok, h2, bind_ok, e1, e2]
  show (match some (decide (i ≤ j)) with
    | some true => (ev t F c ρ).bind fun z ρ => (match cmpD .le (.int j) (frz z) with
      | some r => R.ok (SV.d (.bl r)) ρ
      | none => .no)
    | some false => R.ok (SV.d (.bl false)) ρ
    | none => .no) = _
  cases decide (i ≤ j) with
  | true =>
    show ((ev t F c ρ).bind fun z ρ => (match cmpD .le (.int j) (frz z) with
      | some r => R.ok (SV.d (.bl r)) ρ
      | none => .no)) = _
    rw [h3, bind_ok, e3]
    rfl
  | false => rfl
theorem wipe_set1 {i : Nat} {v : Option SV} : wipeE ((wipeE ρ [i]).set i v) [i] = wipeE ρ [i] := by
  show ((ρ.set i none).set i v).set i none = ρ.set i none
  rw [List.set_set, List.set_set]
theorem back1 {i : Nat} (h : i < ρ.length) : backE ρ (wipeE ρ [i]) [i] = ρ := by
  show (ρ.set i none).set i ((ρ[i]?).getD none) = ρ
  rw [List.set_set, List.getElem?_eq_getElem h, Option.getD_some, List.set_getElem_self]
theorem set_at {i : Nat} {v : Option SV} (h : i < ρ.length) : ((wipeE ρ [i]).set i v)[i]? = some v := by
  rw [List.getElem?_set_self]
  show i < (ρ.set i none).length
  rw [List.length_set]
  exact h
theorem all_in {i j : Nat} {L s : List Nat} (hj : ρ[j]? = some (some (.d (.str s)))) (hi : i < ρ.length) (hf : freeAt ρ [i] = true) (hl : s.length ≤ lim) :
    ev t F (.blt .all (.cons (.comp (.nm i) (.var j) (.cmp .in_ (.var i) (.str L))) .nil)) ρ = .ok (.d (.bl (s.all fun c => decide (c ∈ L)))) ρ := by
  have hc := comp_ok (t := t) (F := F) (g := .nm i) (it := .var j) (el := .cmp .in_ (.var i) (.str L)) (ρ := ρ) (ρ1 := ρ) (ds := s.map fun c => D.str [c]) (fun d => .bl (match d with | .str [c] => decide (c ∈ L) | _ => false)) (B := wipeE ρ [i])
    (evi_of (var_ev hj) rfl) hf (by rw [List.length_map]; exact hl) rfl (fun d hd => by
      obtain ⟨c, _, rfl⟩ := List.mem_map.mp hd
      exact ⟨_, _, rfl, cmp_ev (var_ev (set_at hi)) str_ev rfl, wipe_set1⟩)
  rw [List.map_map] at hc
  refine blt1_ev (hc.trans (by rw [show slotsT (.nm i) = [i] from rfl, back1 hi])) ?_
  show (bls? (frzs (s.map fun c => SV.d (.bl (decide (c ∈ L)))))).map _ = _
  rw [frzs_map, bls_map]
  show some (SV.d (.bl ((s.map fun c => decide (c ∈ L)).all id))) = _
  rw [List.all_map]
  rfl
/-- a comprehension that leaves some out -/
theorem compL_flt {step : D → Env → R (Option SV)} {p : D → Bool} {B : Env} {sl : List Nat} : ∀ (ds : List D) (ρ : Env) (acc : List SV), wipeE ρ sl = B → acc.length + ds.length ≤ lim → (∀ d ∈ ds, ∀ ρ, wipeE ρ sl = B → ∃ ρ3, step d ρ = .ok (if p d then some (.d d) else none) ρ3 ∧ wipeE ρ3 sl = B) →
    ∃ ρ', compL step ds ρ acc = .ok (acc ++ (ds.filter p).map .d) ρ' ∧ wipeE ρ' sl = B
  | [], ρ, acc, h, _, _ => ⟨ρ, by simp [compL], h⟩
  | d :: ds, ρ, acc, h, hl, k => by
    obtain ⟨ρ3, e, h3⟩ := k d List.mem_cons_self ρ h
    rw [List.length_cons] at hl
    unfold compL
    rw [e]
    cases hp : p d with
    | true =>
      have hl' : acc.length < lim := by omega
      obtain ⟨ρ', e', h'⟩ := compL_flt ds ρ3 (acc ++ [.d d]) h3 (by rw [List.length_append, List.length_singleton]; omega) fun d hd => k d (List.mem_cons_of_mem _ hd)
      refine ⟨ρ', ?_, h'⟩
      show (if acc.length < lim then compL step ds ρ3 (acc ++ [.d d]) else .no) = _
      rw [if_pos hl', e', List.append_assoc, List.filter_cons_of_pos hp]
      rfl
    | false =>
      obtain ⟨ρ', e', h'⟩ := compL_flt ds ρ3 acc h3 (by omega) fun d hd => k d (List.mem_cons_of_mem _ hd)
      refine ⟨ρ', ?_, h'⟩
      show compL step ds ρ3 acc = _
      rw [e', List.filter_cons_of_neg (by rw [hp]; exact Bool.false_ne_true)]
theorem words_ev {i : Nat} {it : E} {ls : List (List Nat)} (hi : i < ρ.length) (hit : evi t F it ρ = .ok (ls.map .str) ρ) (hf : freeAt ρ [i] = true) (hl : ls.length ≤ lim) :
    ev t F (.cmpi (.nm i) it (.cmp .ne (.var i) (.str [])) (.var i)) ρ = .ok (.lst ((ls.filter fun w => decide (w ≠ [])).map fun w => .d (.str w))) ρ := by
  have e0 : ev t F (.cmpi (.nm i) it (.cmp .ne (.var i) (.str [])) (.var i)) ρ = (evi t F it ρ).bind fun ds ρ => if freeAt ρ (slotsT (.nm i)) then
      outL ρ (slotsT (.nm i)) (compL (fun d ρ' => match bindT (.nm i) d (wipeE ρ' (slotsT (.nm i))) with
        | some ρ₂ => (ev t F (.cmp .ne (.var i) (.str [])) ρ₂).bind fun b ρ => (match b with
          | .d (.bl true) => (ev t F (.var i) ρ).bind fun v ρ => .ok (some v) ρ
          | .d (.bl false) => .ok none ρ
          | _ => .no)
        | none => .no) ds ρ [])
    else .no := by (unfold evi; first | (simp only [ev]; done) | (simp only [ev]; rfl))
  obtain ⟨ρ', e', h'⟩ := compL_flt (p := fun d => match d with | .str w => decide (w ≠ []) | _ => false) (step := fun d ρ' => match bindT (.nm i) d (wipeE ρ' (slotsT (.nm i))) with
        | some ρ₂ => (ev t F (.cmp .ne (.var i) (.str [])) ρ₂).bind fun b ρ => (match b with
          | .d (.bl true) => (ev t F (.var i) ρ).bind fun v ρ => .ok (some v) ρ
          | .d (.bl false) => .ok none ρ
          | _ => .no)
        | none => .no) (sl := slotsT (.nm i)) (B := wipeE ρ [i]) (ls.map .str) ρ [] rfl (by rw [List.length_map]; simpa using hl) fun d hd ρ4 hρ => by
    obtain ⟨w, _, rfl⟩ := List.mem_map.mp hd
    have hv := set_at (v := some (.d (.str w))) hi
    have hc : ev t F (.cmp .ne (.var i) (.str [])) ((wipeE ρ [i]).set i (some (.d (.str w)))) = .ok (.d (.bl (!decide (w = [])))) ((wipeE ρ [i]).set i (some (.d (.str w)))) := ne_ev (var_ev hv) str_ev (eqT w [])
    refine ⟨(wipeE ρ [i]).set i (some (.d (.str w))), ?_, wipe_set1⟩
    rw [hρ]
    show (ev t F (.cmp .ne (.var i) (.str [])) ((wipeE ρ [i]).set i (some (.d (.str w))))).bind _ = _
    rw [hc, bind_ok]
    by_cases h : w = []
    · subst h
      rfl
    · have : (!decide (w = [])) = true := by simp [h]
      rw [this]
      show (ev t F (.var i) _).bind _ = _
      rw [var_ev hv, bind_ok]
      simp [h]
  rw [e0, hit, bind_ok]
  show (if freeAt ρ [i] = true then _ else _) = _
  rw [if_pos hf, e', outL_ok, h', show slotsT (.nm i) = [i] from rfl, back1 hi, List.nil_append, List.filter_map, List.map_map]
  rfl
theorem split_ev {a : E} {s : List Nat} {c : Nat} (h : ev t F a ρ = .ok (.d (.str s)) ρ) (hl : s.length ≤ lim) (hc : c < 256) : ev t F (.bm .split a (.cons (.str [c]) .nil)) ρ = .ok (.lst ((TL.spl [c] 0 [] s).map fun z => .d (.str z))) ρ :=
  bm_ev h rfl (evs_cons str_ev evs_nil) (if_pos ⟨hl, hc⟩)
theorem starts_ev {a : E} {s p : List Nat} (h : ev t F a ρ = .ok (.d (.str s)) ρ) : ev t F (.bm .startswith a (.cons (.str p) .nil)) ρ = .ok (.d (.bl (decide (s.take p.length = p)))) ρ :=
  bm_ev h rfl (evs_cons str_ev evs_nil) rfl
theorem take1_ev {a : E} {s : List Nat} (h : ev t F a ρ = .ok (.d (.str s)) ρ) (hl : s.length ≤ lim) : ev t F (.slc a .emp (.int 1)) ρ = .ok (.d (.str (s.take 1))) ρ :=
  slc_hi rfl h int_ev rfl (by
    show (if s.length ≤ lim then some (SV.d (.str (cutL s none (some 1)))) else none) = _
    rw [if_pos hl]
    congr 3
    unfold cutL HT.sIx
    cases s <;> simp <;> omega)
theorem drop1_ev {a : E} {s : List Nat} (h : ev t F a ρ = .ok (.d (.str s)) ρ) (hl : s.length ≤ lim) : ev t F (.slc a (.int 1) .emp) ρ = .ok (.d (.str (s.drop 1))) ρ :=
  slc_lo rfl h int_ev rfl (by
    show (if s.length ≤ lim then some (SV.d (.str (cutL s (some 1) none))) else none) = _
    rw [if_pos hl]
    congr 3
    unfold cutL HT.sIx
    cases s <;> simp)
theorem len_ev {a : E} {s : List Nat} (h : ev t F a ρ = .ok (.d (.str s)) ρ) (hl : s.length ≤ lim) : ev t F (.blt .len (.cons a .nil)) ρ = .ok (.d (.int s.length)) ρ :=
  blt1_ev h (if_pos hl)
/-- an item of a growing list -/
theorem idv_ev {i : Nat} {e : E} {y s0 s : SV} {d : D} (h0 : ρ[i]? = some (some s0)) (h : ev t F e ρ = .ok y ρ1) (h1 : ρ1[i]? = some (some s)) (hd : svIdx s (frz y) = some d) : ev t F (.idv i e) ρ = .ok (.d d) ρ1 := by
  have e0 : ev t F (.idv i e) ρ = (match ρ[i]? with
    | some (some _) => (ev t F e ρ).bind fun y ρ => (match ρ[i]? with
      | some (some s) => (match svIdx s (frz y) with
        | some d => .ok (.d d) ρ
        | none => .no)
      | _ => .no)
    | _ => .no) := by first | (simp only [ev]; done) | (simp only [ev]; rfl)
  rw [e0, h0]
  show (ev t F e ρ).bind _ = _
  rw [h, bind_ok]
  show (match ρ1[i]? with
      | some (some s) => (match svIdx s (frz y) with
        | some d => R.ok (SV.d d) ρ1
        | none => .no)
      | _ => .no) = _
  rw [h1]
  show (match svIdx s (frz y) with
        | some d => R.ok (SV.d d) ρ1
        | none => .no) = _
  rw [hd]
end
end Kn

set_option Elab.async false
set_option linter.all false
set_option maxRecDepth 100000
set_option maxHeartbeats 4000000
/-! Tl3: more tools for the evaluator: looks that keep ownership, things taken out, raise, continue, enumerate. -/
namespace Kn
open PySem L2
section
variable {t : T} {F : String → List SV → Cr} {ρ ρ1 ρ2 ρ3 : Env}
theorem bor_ev {e : E} {x : D} (h : ev t F e (frzE ρ) = .ok (.d x) ρ1) (hf : flat x = true) : ev t F (.bor e) ρ = .ok (.d x) ρ := by
  have e0 : ev t F (.bor e) ρ = (match ev t F e (frzE ρ) with
    | .ok (.d x) _ => if Kn.flat x then .ok (.d x) ρ else .no
    | .ok _ _ => .no
    | .exc x ρ' => .exc x ρ'
    | .no => .no) := by first | (simp only [ev]; done) | (simp only [ev]; rfl)
  rw [e0, h]
  show (if Kn.flat x = true then _ else _) = _
  rw [if_pos hf]
theorem take_ev {i : Nat} {s : SV} (h : ρ[i]? = some (some s)) : ev t F (.take i) ρ = .ok s (ρ.set i none) := by
  have e0 : ev t F (.take i) ρ = (match ρ[i]? with
    | some (some s) => .ok s (ρ.set i none)
    | _ => .no) := by first | (simp only [ev]; done) | (simp only [ev]; rfl)
  rw [e0, h]
/-- a variable read, whatever stands there -/
theorem varS_ev {i : Nat} {s : SV} (h : ρ[i]? = some (some s)) : ev t F (.var i) ρ = .ok (.d (frz s)) (ρ.set i (some (.d (frz s)))) := by
  have e0 : ev t F (.var i) ρ = (match ρ[i]? with
    | some (some (.d x)) => .ok (.d x) ρ
    | some (some s) => .ok (.d (frz s)) (ρ.set i (some (.d (frz s))))
    | _ => .no) := by first | (simp only [ev]; done) | (simp only [ev]; rfl)
  rw [e0, h]
  cases s with
  | d x =>
    have hl : i < ρ.length := (List.getElem?_eq_some_iff.mp h).1
    have : ρ.set i (some (.d (frz (.d x)))) = ρ := by
      apply List.ext_getElem?
      intro j
      by_cases hj : i = j
      · subst hj
        rw [List.getElem?_set_self hl, h]
        rfl
      · rw [List.getElem?_set_ne hj]
    rw [this]
    rfl
  | _ => rfl
def isNx : Fl → Bool
  | .nx _ => true
  | _ => false
theorem st_to {ro : List Nat} {s r : S} {x : Fl} (h : Kn.exec t F ro s ρ = x) (hx : isNx x = false) : Kn.exec t F ro (.cons s r) ρ = x := by
  have e0 : Kn.exec t F ro (.cons s r) ρ = (match Kn.exec t F ro s ρ with
    | .nx ρ' => Kn.exec t F ro r ρ'
    | x => x) := by first | (simp only [Kn.exec]; done) | (simp only [Kn.exec]; rfl)
  rw [e0, h]
  cases x with
  | nx _ => cases hx
  | _ => rfl
theorem cnt_blk {ro : List Nat} {r : S} : Kn.exec t F ro (.cons .cnt r) ρ = .ct ρ := st_to (by simp only [Kn.exec]) rfl
theorem raise_to {ro : List Nat} {c : String} {as : E} {vs : List SV} {x : Xc} (hn : t.xn c (lenE as) = true) (h : evs t F as ρ = .ok vs ρ1) (hx : t.xc c (frzs vs) = some x) : Kn.exec t F ro (.raise c as) ρ = .exc x ρ1 := by
  have e0 : Kn.exec t F ro (.raise c as) ρ = if t.xn c (lenE as) then thenF (evs t F as ρ) fun vs ρ => (match t.xc c (frzs vs) with
    | some x => .exc x ρ
    | none => .no) else .no := by first | (simp only [Kn.exec]; done) | (simp only [Kn.exec]; rfl)
  rw [e0, if_pos hn, h]
  show (match t.xc c (frzs vs) with
    | some x => Fl.exc x ρ1
    | none => .no) = _
  rw [hx]
theorem enu_evi {a : E} {x : SV} {xs : List D} (h : ev t F a ρ = .ok x ρ1) (hx : frz x = .lst xs) : evi t F (.enu a) ρ = .ok (enuL xs 0) ρ1 := by
  have e0 : ev t F (.enu a) ρ = (ev t F a ρ).bind fun x ρ => (match frz x with
    | .lst xs => .ok (.d (.lst (enuL xs 0))) ρ
    | _ => .no) := by first | (simp only [ev]; done) | (simp only [ev]; rfl)
  have e1 : ev t F (.enu a) ρ = .ok (.d (.lst (enuL xs 0))) ρ1 := by
    rw [e0, h, bind_ok, hx]
  exact evi_of e1 rfl
theorem for_ev {ro : List Nat} {g : Tg} {it : E} {b : S} {ds : List D} (hi : evi t F it ρ = .ok ds ρ1) (hro : (slotsT g).all (fun i => !ro.contains i) = true) : Kn.exec t F ro (.for_ g it b) ρ = loopF (fun d ρ => match bindT g d ρ with
      | some ρ' => Kn.exec t F ro b ρ'
      | none => .no) ds ρ1 := by
  have e0 : Kn.exec t F ro (.for_ g it b) ρ = thenF (evi t F it ρ) fun ds ρ => if (slotsT g).all (fun i => !ro.contains i) then loopF (fun d ρ => match bindT g d ρ with
      | some ρ' => Kn.exec t F ro b ρ'
      | none => .no) ds ρ else .no := by first | (simp only [Kn.exec]; done) | (simp only [Kn.exec]; rfl)
  rw [e0, hi]
  show (if (slotsT g).all (fun i => !ro.contains i) = true then _ else _) = _
  rw [if_pos hro]
end
end Kn

set_option Elab.async false
set_option linter.all false
set_option maxRecDepth 100000
set_option maxHeartbeats 4000000
/-! Sp: a text's parts between a sign. -/
namespace Kn
open PySem L2
theorem spl_cons (c d : Nat) (r acc : List Nat) : TL.spl [c] 0 acc (d :: r) = if d = c then acc :: TL.spl [c] 0 [] r else TL.spl [c] 0 (acc ++ [d]) r := by
  have e : TL.spl [c] 0 acc (d :: r) = if TL.pre [c] (d :: r) = true then acc :: TL.spl [c] ([c].length - 1) [] r else TL.spl [c] 0 (acc ++ [d]) r := by
    rw [TL.spl]
  have e2 : TL.pre [c] (d :: r) = decide (d = c) := by
    unfold TL.pre
    show ([d] == [c]) = _
    by_cases h : d = c <;> simp [h]
  rw [e, e2]
  by_cases h : d = c
  · rw [if_pos (decide_eq_true h), if_pos h]
    rfl
  · rw [if_neg (by rw [decide_eq_false h]; exact Bool.false_ne_true), if_neg h]
theorem spl_nil (c : Nat) (acc : List Nat) : TL.spl [c] 0 acc [] = [acc] := by rw [TL.spl]
theorem spl_len (c : Nat) : ∀ (s acc : List Nat), (TL.spl [c] 0 acc s).length ≤ s.length + 1
  | [], acc => by rw [spl_nil]; exact Nat.le_refl _
  | d :: r, acc => by
    rw [spl_cons]
    split
    · rw [List.length_cons, List.length_cons]
      exact Nat.succ_le_succ (spl_len c r [])
    · rw [List.length_cons]
      exact Nat.le_succ_of_le (spl_len c r (acc ++ [d]))
theorem spl_mem (c : Nat) : ∀ (s acc x : List Nat), x ∈ TL.spl [c] 0 acc s → x.length ≤ acc.length + s.length ∧ ∀ d ∈ x, d ∈ acc ∨ d ∈ s
  | [], acc, x, h => by
    rw [spl_nil] at h
    rw [List.mem_singleton.mp h]
    exact ⟨Nat.le_refl _, fun d hd => .inl hd⟩
  | d :: r, acc, x, h => by
    rw [spl_cons] at h
    split at h
    · rcases List.mem_cons.mp h with rfl | h
      · exact ⟨Nat.le_add_right _ _, fun d hd => .inl hd⟩
      · obtain ⟨h1, h2⟩ := spl_mem c r [] x h
        refine ⟨by rw [List.length_nil] at h1; rw [List.length_cons]; omega, fun e he => .inr ?_⟩
        rcases h2 e he with h3 | h3
        · cases h3
        · exact List.mem_cons_of_mem _ h3
    · obtain ⟨h1, h2⟩ := spl_mem c r (acc ++ [d]) x h
      refine ⟨by rw [List.length_append, List.length_singleton] at h1; rw [List.length_cons]; omega, fun e he => ?_⟩
      rcases h2 e he with h3 | h3
      · rcases List.mem_append.mp h3 with h4 | h4
        · exact .inl h4
        · rw [List.mem_singleton.mp h4]
          exact .inr List.mem_cons_self
      · exact .inr (List.mem_cons_of_mem _ h3)
/-- a text that may be handed on -/
def okX (s : List Nat) : Prop := s.length ≤ 640 ∧ ∀ c ∈ s, c < 1114112
def rowsOf (s : List Nat) : List (List Nat) := TL.spl [10] 0 [] s
def wordsOf (s : List Nat) : List (List Nat) := (TL.spl [32] 0 [] s).filter fun w => decide (w ≠ [])
theorem spl_ok {c : Nat} {s x : List Nat} (h : okX s) (hx : x ∈ TL.spl [c] 0 [] s) : okX x := by
  obtain ⟨h1, h2⟩ := spl_mem c s [] x hx
  refine ⟨by rw [List.length_nil] at h1; have := h.1; omega, fun d hd => ?_⟩
  rcases h2 d hd with h3 | h3
  · cases h3
  · exact h.2 d h3
theorem rows_ok {s : List Nat} (h : okX s) : (rowsOf s).length ≤ 641 ∧ ∀ x ∈ rowsOf s, okX x :=
  ⟨Nat.le_trans (spl_len 10 s []) (by have := h.1; omega), fun x hx => spl_ok h hx⟩
theorem words_ok {s : List Nat} (h : okX s) : (wordsOf s).length ≤ 641 ∧ ∀ x ∈ wordsOf s, okX x :=
  ⟨Nat.le_trans (List.length_filter_le _ _) (Nat.le_trans (spl_len 32 s []) (by have := h.1; omega)), fun x hx => spl_ok h (List.mem_filter.mp hx |>.1)⟩
end Kn

set_option Elab.async false
set_option linter.all false
set_option maxRecDepth 100000
set_option maxHeartbeats 4000000
/-! Tl4: comprehensions whose items are known by a relation; texts joined and cut; == of a thing with itself. -/
namespace Kn
open PySem L2
inductive A2 {α β : Type} (P : α → β → Prop) : List α → List β → Prop
  | nil : A2 P [] []
  | cons {a : α} {b : β} {as : List α} {bs : List β} (h : P a b) (t : A2 P as bs) : A2 P (a :: as) (b :: bs)
theorem A2.len {α β : Type} {P : α → β → Prop} {as : List α} {bs : List β} (h : A2 P as bs) : as.length = bs.length := by
  induction h with
  | nil => rfl
  | cons _ _ ih => rw [List.length_cons, List.length_cons, ih]
theorem A2.right {α β : Type} {P : α → β → Prop} {as : List α} {bs : List β} (h : A2 P as bs) : ∀ b ∈ bs, ∃ a ∈ as, P a b := by
  induction h with
  | nil => exact fun b hb => (nomatch hb)
  | cons h _ ih =>
    intro b hb
    rcases List.mem_cons.mp hb with rfl | hb
    · exact ⟨_, List.mem_cons_self, h⟩
    · obtain ⟨a, ha, hp⟩ := ih b hb
      exact ⟨a, List.mem_cons_of_mem _ ha, hp⟩
theorem A2.map {α β : Type} {P : α → β → Prop} {g : α → β} {as : List α} {bs : List β} (h : A2 P as bs) (k : ∀ a b, P a b → b = g a) : bs = as.map g := by
  induction h with
  | nil => rfl
  | cons h _ ih => rw [List.map_cons, ih, k _ _ h]
theorem lift_sub {α : Type} {p : α → Prop} : ∀ (l : List α), (∀ x ∈ l, p x) → ∃ ts : List {x // p x}, l = ts.map fun t => t.1
  | [], _ => ⟨[], rfl⟩
  | x :: l, h => by
    obtain ⟨ts, e⟩ := lift_sub l fun y hy => h y (List.mem_cons_of_mem _ hy)
    exact ⟨⟨x, h x List.mem_cons_self⟩ :: ts, by rw [List.map_cons, ← e]⟩
theorem compL_ex {α : Type} {step : D → Env → R (Option SV)} {a : α → D} {I : Env → Prop} {P : α → D → Prop} {sl : List Nat} : ∀ (l : List α) (ρ : Env) (acc : List SV), I (wipeE ρ sl) → acc.length + l.length ≤ lim → (∀ x ∈ l, ∀ ρ, I (wipeE ρ sl) → ∃ v ρ3, P x v ∧ step (a x) ρ = .ok (some (.d v)) ρ3 ∧ I (wipeE ρ3 sl)) →
    ∃ vs ρ', A2 P l vs ∧ compL step (l.map a) ρ acc = .ok (acc ++ vs.map .d) ρ' ∧ I (wipeE ρ' sl)
  | [], ρ, acc, h, _, _ => ⟨[], ρ, .nil, by simp [compL], h⟩
  | x :: l, ρ, acc, h, hl, k => by
    obtain ⟨v, ρ3, hp, e, h3⟩ := k x List.mem_cons_self ρ h
    have hl' : acc.length < lim := by simp at hl; omega
    obtain ⟨vs, ρ', ha, e', h'⟩ := compL_ex l ρ3 (acc ++ [.d v]) h3 (by simp at hl ⊢; omega) fun d hd => k d (List.mem_cons_of_mem _ hd)
    refine ⟨v :: vs, ρ', .cons hp ha, ?_, h'⟩
    rw [List.map_cons]
    unfold compL
    rw [e]
    simp only [hl', if_true, e', List.append_assoc, List.map_cons, List.singleton_append]
theorem comp_ex {α : Type} {t : T} {F : String → List SV → Cr} {g : Tg} {it el : E} {ρ ρ1 : Env} {l : List α} {a : α → D} (I : Env → Prop) (P : α → D → Prop) (hi : evi t F it ρ = .ok (l.map a) ρ1) (hf : freeAt ρ1 (slotsT g) = true) (hl : l.length ≤ lim) (hI : I (wipeE ρ1 (slotsT g)))
    (h : ∀ x ∈ l, ∀ B, I B → ∃ v ρ2 ρ3, P x v ∧ bindT g (a x) B = some ρ2 ∧ ev t F el ρ2 = .ok (.d v) ρ3 ∧ I (wipeE ρ3 (slotsT g))) :
    ∃ vs B', A2 P l vs ∧ I B' ∧ ev t F (.comp g it el) ρ = .ok (.lst (vs.map .d)) (backE ρ1 B' (slotsT g)) := by
  have e0 : ev t F (.comp g it el) ρ = (evi t F it ρ).bind fun ds ρ => if freeAt ρ (slotsT g) then
      outL ρ (slotsT g) (compL (fun d ρ' => match bindT g d (wipeE ρ' (slotsT g)) with
        | some ρ₂ => (ev t F el ρ₂).bind fun v ρ => .ok (some v) ρ
        | none => .no) ds ρ [])
    else .no := by (unfold evi; first | (simp only [ev]; done) | (simp only [ev]; rfl))
  obtain ⟨vs, ρ', ha, e', h'⟩ := compL_ex (step := fun d ρ' => match bindT g d (wipeE ρ' (slotsT g)) with
        | some ρ₂ => (ev t F el ρ₂).bind fun v ρ => .ok (some v) ρ
        | none => .no) (a := a) (I := I) (P := P) (sl := slotsT g) l ρ1 [] hI (by simpa using hl) fun x hx ρ hρ => by
    obtain ⟨v, ρ2, ρ3, hp, h1, h2, h3⟩ := h x hx _ hρ
    exact ⟨v, ρ3, hp, by simp only [h1, h2, R.bind], h3⟩
  refine ⟨vs, _, ha, h', ?_⟩
  rw [e0, hi, bind_ok, if_pos hf, e', outL_ok, List.nil_append]
/-- the same, where the items' values are told and nothing else changes -/
theorem comp_al {α : Type} {t : T} {F : String → List SV → Cr} {i : Nat} {it el : E} {ρ ρ1 : Env} {l : List α} {a b : α → D} (hi : i < ρ1.length) (hit : evi t F it ρ = .ok (l.map a) ρ1) (hf : freeAt ρ1 [i] = true) (hl : l.length ≤ lim)
    (h : ∀ x ∈ l, ev t F el ((wipeE ρ1 [i]).set i (some (.d (a x)))) = .ok (.d (b x)) ((wipeE ρ1 [i]).set i (some (.d (a x))))) :
    ev t F (.comp (.nm i) it el) ρ = .ok (.lst (l.map fun x => .d (b x))) ρ1 := by
  obtain ⟨vs, B', ha, hB, e⟩ := comp_ex (t := t) (F := F) (g := .nm i) (it := it) (el := el) (ρ := ρ) (ρ1 := ρ1) (a := a) (fun B => B = wipeE ρ1 [i]) (fun x v => v = b x) hit hf hl rfl fun x hx B hB => by
    subst hB
    exact ⟨b x, _, _, rfl, rfl, h x hx, wipe_set1⟩
  have hv : vs = l.map b := ha.map fun _ _ h => h
  subst hv
  subst hB
  rw [e, show slotsT (.nm i) = [i] from rfl, back1 hi, List.map_map]
  rfl
theorem strs_of {α : Type} (l : List α) (f : α → List Nat) : strs? (l.map fun x => D.str (f x)) = some (l.map f) := by
  induction l with
  | nil => rfl
  | cons d l ih =>
    show (strs? (l.map fun x => D.str (f x))).map _ = _
    rw [ih]
    rfl
theorem j_len (sep : List Nat) : ∀ ss : List (List Nat), (TL.joinL sep ss).length ≤ ssum ss + sep.length * (ss.length - 1)
  | [] => by simp [TL.joinL]
  | [s] => by simp [TL.joinL, ssum]
  | s :: r :: ss => by
    have ih := j_len sep (r :: ss)
    simp only [TL.joinL, List.length_append, ssum, List.length_cons] at ih ⊢
    have : sep.length * (ss.length + 1 + 1 - 1) = sep.length * (ss.length + 1 - 1) + sep.length := by
      rw [show ss.length + 1 + 1 - 1 = (ss.length + 1 - 1) + 1 by omega, Nat.mul_add, Nat.mul_one]
    omega
theorem spl_sum (c : Nat) : ∀ (s acc : List Nat), ssum (TL.spl [c] 0 acc s) + s.count c = acc.length + s.length ∧ (TL.spl [c] 0 acc s).length = s.count c + 1
  | [], acc => by rw [spl_nil]; simp [ssum]
  | d :: r, acc => by
    rw [spl_cons]
    by_cases h : d = c
    · rw [if_pos h]
      have ih := spl_sum c r []
      subst h
      simp only [ssum, List.length_cons, List.count_cons_self, List.length_nil] at ih ⊢
      omega
    · rw [if_neg h]
      have ih := spl_sum c r (acc ++ [d])
      rw [List.count_cons_of_ne h]
      simp only [List.length_append, List.length_cons, List.length_nil] at ih ⊢
      omega
theorem cut_hi {α : Type} (s : List α) (i : Nat) : cutL s none (some (i : Int)) = s.take i := by
  unfold cutL HT.sIx
  simp
  rw [if_neg (by omega)]
  omega
theorem cut_lo {α : Type} (s : List α) (i : Nat) : cutL s (some (i : Int)) none = s.drop i := by
  unfold cutL HT.sIx
  simp
  rw [if_neg (by omega)]
  by_cases h : i ≤ s.length
  · rw [Nat.min_eq_left h, List.take_of_length_le (by rw [List.length_drop]; exact Nat.le_refl _)]
  · rw [Nat.min_eq_right (by omega), List.drop_of_length_le (Nat.le_refl _), List.drop_of_length_le (by omega), List.take_nil]
theorem eqv_refl : ∀ n : Nat, (∀ x, okD x n = true → eqvD x x = true) ∧ (∀ xs, okDs xs n = true → eqvDs xs xs = true) := by
  have step : ∀ n, (∀ x, okD x n = true → eqvD x x = true) → ∀ xs, okDs xs n = true → eqvDs xs xs = true := by
    intro n h xs
    induction xs with
    | nil => exact fun _ => rfl
    | cons x xs ih =>
      intro hx
      have hx : (okD x n && okDs xs n) = true := hx
      rw [Bool.and_eq_true] at hx
      show (eqvD x x && eqvDs xs xs) = true
      rw [h x hx.1, ih hx.2]
      rfl
  have base : ∀ n x, (∀ xs, x ≠ .tup xs) → (∀ xs, x ≠ .lst xs) → okD x n = true → eqvD x x = true := by
    intro n x h1 h2 h
    cases x with
    | non => rfl
    | bl b => simp [eqvD]
    | int i => simp [eqvD]
    | str s => simp [eqvD]
    | tup xs => exact absurd rfl (h1 xs)
    | lst xs => exact absurd rfl (h2 xs)
    | _ => cases n <;> cases h
  intro n
  induction n with
  | zero =>
    have k : ∀ x, okD x 0 = true → eqvD x x = true := fun x h => by
      cases x with
      | tup xs => cases h
      | lst xs => cases h
      | _ => exact base 0 _ (fun _ z => nomatch z) (fun _ z => nomatch z) h
    exact ⟨k, step 0 k⟩
  | succ n ih =>
    have k : ∀ x, okD x (n + 1) = true → eqvD x x = true := fun x h => by
      cases x with
      | tup xs => exact ih.2 xs h
      | lst xs => exact ih.2 xs h
      | _ => exact base (n + 1) _ (fun _ z => nomatch z) (fun _ z => nomatch z) h
    exact ⟨k, step (n + 1) k⟩
theorem eq_self {x : D} (h : okD x 50 = true) : eqD x x = some true := by
  unfold eqD
  rw [h, (eqv_refl 50).1 x h]
  simp
end Kn

set_option Elab.async false
set_option linter.all false
set_option maxRecDepth 100000
set_option maxHeartbeats 4000000
/-! Tl5: the tools that first stood in the texts of k03, with no program in sight. -/
namespace Kn
open PySem L2
def okS (w : List Nat) : Bool := w.all fun c => decide (c < 1114112)
theorem inL (w : List Nat) : ∀ (ls : List (List Nat)), okS w = true → ls.all okS = true → inD (.str w) (.lst (ls.map .str)) = some (ls.any fun y => decide (y = w)) := fun ls h h2 => by
  have e : inD (.str w) (.lst (ls.map .str)) = (if okD (.str w) 50 && okDs (ls.map .str) 50 then some ((ls.map D.str).any fun y => eqvD y (.str w)) else none) := rfl
  have e1 : okD (.str w) 50 = true := h
  have e2 : okDs (ls.map .str) 50 = true := by
    clear e
    induction ls with
    | nil => rfl
    | cons a ls ih =>
      rw [List.all_cons, Bool.and_eq_true] at h2
      show (okD (.str a) 50 && okDs (ls.map .str) 50) = true
      rw [ih h2.2]
      show (okS a && true) = true
      rw [h2.1]
      rfl
  rw [e, e1, e2]
  show some _ = _
  rw [List.any_map]
  congr 1
  congr 1
  funext y
  show (y == w) = decide (y = w)
  by_cases h : y = w <;> simp [h]
theorem cinE (x y : D) : cmpD .in_ x y = inD x y := by cases x <;> cases y <;> rfl
theorem cninE (x y : D) : cmpD .notin x y = (inD x y).map (!·) := by cases x <;> cases y <;> rfl
theorem const_evs {t : T} {F : String → List SV → Cr} {e : E} {vs : List SV} {ρ : Env} (h : constEs e = some vs) : evs t F e ρ = .ok vs ρ := (const_both e).2 vs ρ h
theorem eqI (i j : Int) : eqD (.int i) (.int j) = some (decide (i = j)) := by
  have e : eqD (.int i) (.int j) = some (i == j) := rfl
  rw [e]
  congr 1
theorem inT (w : List Nat) (ls : List (List Nat)) : inD (.str w) (.tup (ls.map .str)) = some (ls.any fun y => decide (y = w)) := by
  have e : inD (.str w) (.tup (ls.map .str)) = (if flat (.str w) && (ls.map D.str).all flat then some ((ls.map D.str).any fun y => eqvD y (.str w)) else none) := rfl
  have e2 : (ls.map D.str).all flat = true := by
    rw [List.all_map]
    exact List.all_eq_true.mpr fun _ _ => rfl
  rw [e, e2]
  show some _ = _
  rw [List.any_map]
  congr 1
  congr 1
  funext y
  show (y == w) = decide (y = w)
  by_cases h : y = w <;> simp [h]
section
variable {t : T} {F : String → List SV → Cr} {ρ ρ1 ρ2 ρ3 : Env}
theorem in_ev {a b : E} {w : List Nat} {ls : List (List Nat)} {y : SV} (h1 : ev t F a ρ = .ok (.d (.str w)) ρ) (h2 : ev t F b ρ = .ok y ρ) (hy : frz y = .lst (ls.map .str)) (hw : okS w = true) (hl : ls.all okS = true) : ev t F (.cmp .in_ a b) ρ = .ok (.d (.bl (ls.any fun y => decide (y = w)))) ρ :=
  cmp_ev h1 h2 (by rw [hy, cinE]; exact inL w ls hw hl)
theorem nin_ev {a b : E} {w : List Nat} {ls : List (List Nat)} {y : SV} (h1 : ev t F a ρ = .ok (.d (.str w)) ρ) (h2 : ev t F b ρ = .ok y ρ) (hy : frz y = .lst (ls.map .str)) (hw : okS w = true) (hl : ls.all okS = true) : ev t F (.cmp .notin a b) ρ = .ok (.d (.bl (!(ls.any fun y => decide (y = w))))) ρ :=
  cmp_ev h1 h2 (by rw [hy, cninE, frz, inL w ls hw hl]; rfl)
theorem disp_ev {ks : List Kx} {es : E} {vs : List SV} (h : ks.Nodup ∧ ks.length ≤ 15 ∧ ks ≠ [] ∧ lenE es = ks.length) (hs : evs t F es ρ = .ok vs ρ1) : ev t F (.disp ks es) ρ = .ok (.dk ks ((frzs vs).map .d)) ρ1 := by
  have e0 : ev t F (.disp ks es) ρ = if ks.Nodup ∧ ks.length ≤ 15 ∧ ks ≠ [] ∧ lenE es = ks.length then (evs t F es ρ).bind fun vs ρ => .ok (.dk ks ((frzs vs).map .d)) ρ else .no := by simp only [ev]
  rw [e0, if_pos h, hs, bind_ok]
theorem dget_ev {a k d : E} {x y z : SV} {ks : List Kx} {xs : List D} {j : Kx} (h1 : ev t F a ρ = .ok x ρ) (hx : frz x = .dk ks xs) (h2 : ev t F k ρ = .ok y ρ) (h3 : ev t F d ρ = .ok z ρ) (hj : kxD (frz y) = some j) : ev t F (.dget a k d) ρ = .ok (.d ((atK j ks xs).getD (frz z))) ρ := by
  have e0 : ev t F (.dget a k d) ρ = (ev t F a ρ).bind fun x ρ => (match frz x with
    | .dk ks xs => (ev t F k ρ).bind fun y ρ => (ev t F d ρ).bind fun z ρ => (match kxD (frz y) with
      | some j => .ok (.d ((atK j ks xs).getD (frz z))) ρ
      | none => .no)
    | _ => .no) := by first | (simp only [ev]; done) | (simp only [ev]; rfl)
  rw [e0, h1, bind_ok, hx]
  show ((ev t F k ρ).bind fun y ρ => (ev t F d ρ).bind fun z ρ => (match kxD (frz y) with
      | some j => R.ok (SV.d ((atK j ks xs).getD (frz z))) ρ
      | none => .no)) = _
  rw [h2, bind_ok, h3, bind_ok, hj]
theorem ife_t {c a b : E} {x : R SV} (h : ev t F c ρ = .ok (.d (.bl true)) ρ1) (k : ev t F a ρ1 = x) : ev t F (.ife c a b) ρ = x := by
  have e0 : ev t F (.ife c a b) ρ = (ev t F c ρ).bind fun x ρ => (match x with
    | .d (.bl true) => ev t F a ρ
    | .d (.bl false) => ev t F b ρ
    | _ => .no) := by first | (simp only [ev]; done) | (simp only [ev]; rfl)
  rw [e0, h, bind_ok]
  exact k
theorem ife_f {c a b : E} {x : R SV} (h : ev t F c ρ = .ok (.d (.bl false)) ρ1) (k : ev t F b ρ1 = x) : ev t F (.ife c a b) ρ = x := by
  have e0 : ev t F (.ife c a b) ρ = (ev t F c ρ).bind fun x ρ => (match x with
    | .d (.bl true) => ev t F a ρ
    | .d (.bl false) => ev t F b ρ
    | _ => .no) := by first | (simp only [ev]; done) | (simp only [ev]; rfl)
  rw [e0, h, bind_ok]
  exact k
theorem int_ev2 {a b : E} {w : List Nat} {ls : List (List Nat)} {y : SV} {r : Bool} (h1 : ev t F a ρ = .ok (.d (.str w)) ρ) (h2 : ev t F b ρ = .ok y ρ) (hy : frz y = .tup (ls.map .str)) (hr : (ls.any fun y => decide (y = w)) = r) : ev t F (.cmp .in_ a b) ρ = .ok (.d (.bl r)) ρ :=
  cmp_ev h1 h2 (by rw [hy, cinE, frz, inT w ls, hr])
theorem varF_ev {i : Nat} {xs : List SV} (h : ρ[i]? = some (some (.lst xs))) : ev t F (.var i) ρ = .ok (.d (.lst (frzs xs))) (ρ.set i (some (.d (.lst (frzs xs))))) := by
  have e0 : ev t F (.var i) ρ = (match ρ[i]? with
    | some (some (.d x)) => .ok (.d x) ρ
    | some (some s) => .ok (.d (frz s)) (ρ.set i (some (.d (frz s))))
    | _ => .no) := by first | (simp only [ev]; done) | (simp only [ev]; rfl)
  rw [e0, h]
  rfl
theorem ext_ok {ro : List Nat} {i : Nat} {e : E} {v : SV} {xs0 xs ys : List SV} (h0 : ρ[i]? = some (some (.lst xs0))) (h : ev t F e ρ = .ok v ρ1) (h1 : ρ1[i]? = some (some (.lst xs))) (hv : svl v = some ys) (hl : xs.length + ys.length ≤ lim) : Kn.exec t F ro (.ext i e) ρ = .nx (ρ1.set i (some (.lst (xs ++ ys)))) := by
  have e0 : Kn.exec t F ro (.ext i e) ρ = (match ρ[i]? with
    | some (some (.lst _)) => thenF (ev t F e ρ) fun v ρ => (match ρ[i]? with
      | some (some (.lst xs)) => (match svl v with
        | some ys => if xs.length + ys.length ≤ lim then .nx (ρ.set i (some (.lst (xs ++ ys)))) else .no
        | none => .no)
      | _ => .no)
    | _ => .no) := by first | (simp only [Kn.exec]; done) | (simp only [Kn.exec]; rfl)
  rw [e0, h0]
  show thenF (ev t F e ρ) _ = _
  rw [h]
  show (match ρ1[i]? with
      | some (some (.lst xs)) => (match svl v with
        | some ys => if xs.length + ys.length ≤ lim then Fl.nx (ρ1.set i (some (.lst (xs ++ ys)))) else .no
        | none => .no)
      | _ => .no) = _
  rw [h1]
  show (match svl v with
        | some ys => if xs.length + ys.length ≤ lim then Fl.nx (ρ1.set i (some (.lst (xs ++ ys)))) else .no
        | none => .no) = _
  rw [hv]
  exact if_pos hl
theorem ext_to {ro : List Nat} {i : Nat} {e : E} {v : SV} {xs0 xs ys : List SV} (h0 : ρ[i]? = some (some (.lst xs0))) (h : ev t F e ρ = .ok v ρ1) (h1 : ρ1[i]? = some (some (.lst xs))) (hv : svl v = some ys) (hl : xs.length + ys.length ≤ lim) (hs : ρ1.set i (some (.lst (xs ++ ys))) = ρ2) : Kn.exec t F ro (.ext i e) ρ = .nx ρ2 := by
  rw [ext_ok h0 h h1 hv hl, hs]
theorem rng2_evi {a b : E} {x y : SV} {i j : Int} (h1 : ev t F a ρ = .ok x ρ1) (h2 : ev t F b ρ1 = .ok y ρ2) (hx : frz x = .int i) (hy : frz y = .int j) (hb : (-1000000000000 < i ∧ i < 1000000000000) ∧ (-1000000000000 < j ∧ j < 1000000000000)) : evi t F (.rng2 a b) ρ = .ok (rngD i j) ρ2 := by
  have e0 : ev t F (.rng2 a b) ρ = (ev t F a ρ).bind fun x ρ => (ev t F b ρ).bind fun y ρ => (match frz x, frz y with
    | .int i, .int j => if (-1000000000000 < i ∧ i < 1000000000000) ∧ (-1000000000000 < j ∧ j < 1000000000000) then .ok (.d (.lst (rngD i j))) ρ else .no
    | _, _ => .no) := by first | (simp only [ev]; done) | (simp only [ev]; rfl)
  have e1 : ev t F (.rng2 a b) ρ = .ok (.d (.lst (rngD i j))) ρ2 := by
    rw [e0, h1, bind_ok, h2, bind_ok, hx, hy]
    exact if_pos hb
  exact evi_of e1 rfl
theorem set_exc {ro : List Nat} {i : Nat} {e : E} {r : S} {x : Xc} (h : ev t F e ρ = .exc x ρ1) : Kn.exec t F ro (.cons (.set i e) r) ρ = .exc x ρ1 := by
  have e0 : Kn.exec t F ro (.set i e) ρ = thenF (ev t F e ρ) fun v ρ => if ro.contains i then .no else .nx (ρ.set i (some v)) := by first | (simp only [Kn.exec]; done) | (simp only [Kn.exec]; rfl)
  exact st_to (by rw [e0, h]; rfl) rfl
theorem tyn_ev {n : String} : ev t F (.tyn n) ρ = .ok (.d (.ty n)) ρ := by simp only [ev]
end
theorem in_evr {t : T} {F : String → List SV → Cr} {ρ : Env} {a b : E} {w : List Nat} {ls : List (List Nat)} {y : SV} {r : Bool} (h1 : ev t F a ρ = .ok (.d (.str w)) ρ) (h2 : ev t F b ρ = .ok y ρ) (hy : frz y = .lst (ls.map .str)) (hw : okS w = true) (hl : ls.all okS = true) (hr : (ls.any fun y => decide (y = w)) = r) : ev t F (.cmp .in_ a b) ρ = .ok (.d (.bl r)) ρ := by
  rw [← hr]
  exact in_ev h1 h2 hy hw hl
theorem unp_ok {t : T} {F : String → List SV → Cr} {ro is : List Nat} {e : E} {v : SV} {ρ ρ1 ρ2 : Env} (h : ev t F e ρ = .ok v ρ1) (hr : is.all (fun i => !ro.contains i) = true) (hb : bindT (.tp is) (frz v) ρ1 = some ρ2) : Kn.exec t F ro (.unp is e) ρ = .nx ρ2 := by
  have e0 : Kn.exec t F ro (.unp is e) ρ = thenF (ev t F e ρ) fun v ρ => (match bindT (.tp is) (frz v) ρ with
    | some ρ' => if is.all (fun i => !ro.contains i) then .nx ρ' else .no
    | none => .no) := by first | (simp only [Kn.exec]; done) | (simp only [Kn.exec]; rfl)
  rw [e0, h]
  show (match bindT (.tp is) (frz v) ρ1 with
    | some ρ' => if is.all (fun i => !ro.contains i) then Fl.nx ρ' else .no
    | none => .no) = _
  rw [hb]
  exact if_pos hr
theorem slc_lh {t : T} {F : String → List SV → Cr} {ρ ρ1 ρ2 ρ3 : Env} {a lo hi : E} {x l h : SV} {i j : Int} {v : SV} (n1 : isEmp lo = false) (n2 : isEmp hi = false) (ha : ev t F a ρ = .ok x ρ1) (hl : ev t F lo ρ1 = .ok l ρ2) (hi1 : frz l = .int i) (hh : ev t F hi ρ2 = .ok h ρ3) (hj : frz h = .int j) (h2 : slcD (frz x) (some i) (some j) = some v) : ev t F (.slc a lo hi) ρ = .ok v ρ3 := by
  have e0 : ev t F (.slc a lo hi) ρ = (ev t F a ρ).bind fun x ρ => (ev t F lo ρ).bind fun l ρ => (match frz l with
      | .int i => (ev t F hi ρ).bind fun h ρ => (match frz h with
        | .int j => R.of (slcD (frz x) (some i) (some j)) ρ
        | _ => .no)
      | _ => .no) := by cases lo <;> first | (cases n1; done) | (cases hi <;> first | (cases n2; done) | (simp only [ev]; done) | (simp only [ev]; rfl))
  rw [e0, ha, bind_ok, hl, bind_ok, hi1]
  show ((ev t F hi ρ2).bind fun h ρ => (match frz h with
        | .int j => R.of (slcD (frz x) (some i) (some j)) ρ
        | _ => .no)) = _
  rw [hh, bind_ok, hj]
  show R.of (slcD (frz x) (some i) (some j)) ρ3 = _
  rw [h2]
  rfl
theorem cut_len {α : Type} (xs : List α) (j : Nat) : (cutL xs (some 2) (some (((2 + j : Nat)) : Int))).length ≤ j := by
  unfold cutL
  rw [List.length_take]
  have h1 : HT.sIx xs.length 0 (some 2) = min 2 xs.length := by unfold HT.sIx; simp
  have h2 : HT.sIx xs.length xs.length (some ((2 + j : Nat) : Int)) = min (2 + j) xs.length := by
    unfold HT.sIx
    simp
    rw [if_neg (by omega)]
    omega
  rw [h1, h2]
  omega
def GV (v : SV) (x : Fl) : Prop := ∃ ρ', x = .rt v ρ'
theorem lim900 : 900 ≤ lim := by decide
theorem bL (xs ys : List D) (h : xs.length + ys.length ≤ lim) : binD .add (.lst xs) (.lst ys) = some (.lst ((xs ++ ys).map .d)) := if_pos h
theorem joinOk {sep : List Nat} {xs : List D} {ss : List (List Nat)} (h : strs? xs = some ss) (hb : ssum ss + sep.length * ss.length ≤ lim) : bmD .join (.str sep) [.lst xs] = some (.d (.str (TL.joinL sep ss))) := by
  show (strs? xs).bind _ = _
  rw [h]
  exact if_pos hb
theorem al {s : List Nat} (h : ∀ c ∈ s, c < 1114112) : (s.all fun c => decide (c < 1114112)) = true := List.all_eq_true.mpr fun c hc => decide_eq_true (h c hc)
theorem all_c {s : List Nat} {ss : List (List Nat)} {p : Nat → Bool} (h : s.all p = true) (t : (ss.all fun s => s.all p) = true) : ((s :: ss).all fun s => s.all p) = true := by rw [List.all_cons, h, t]; rfl
theorem all_a {s r : List Nat} {p : Nat → Bool} (h : s.all p = true) (t : r.all p = true) : (s ++ r).all p = true := by rw [List.all_append, h, t]; rfl
theorem ssum_le {α : Type} (f : α → List Nat) (k : Nat) : ∀ (l : List α), (∀ x ∈ l, (f x).length ≤ k) → ssum (l.map f) ≤ k * l.length
  | [], _ => Nat.zero_le _
  | x :: l, h => by
    have ih := ssum_le f k l fun y hy => h y (List.mem_cons_of_mem _ hy)
    have h1 := h x List.mem_cons_self
    rw [List.map_cons, List.length_cons, Nat.mul_add, Nat.mul_one]
    show (f x).length + ssum (l.map f) ≤ _
    omega
theorem join_txt (sep : List Nat) {α : Type} (l : List α) (f : α → List Nat) (h : ssum (l.map f) + sep.length * l.length ≤ lim) : bmD .join (.str sep) [.lst (l.map fun x => D.str (f x))] = some (.d (.str (TL.joinL sep (l.map f)))) :=
  joinOk (strs_of l f) (by rw [List.length_map]; exact h)
section
variable {t : T} {F : String → List SV → Cr} {ρ ρ1 ρ2 : Env}
theorem mk0_ev {c : String} (h : t.ini0 c = true) : ev t F (.mk0 c) ρ = .ok (.ins c [] []) ρ := by simp only [ev, h, if_true]
theorem mk_ev {c q : String} {as : E} {vs : List SV} {v : SV} {o : List (Option SV)} (hi : t.init c = some q) (h : evs t F as ρ = .ok vs ρ1) (h2 : F q (.ins c [] [] :: (frzs vs).map .d) = .ok (.d .non) (some v :: o)) : ev t F (.mk c as) ρ = .ok v ρ1 := by
  have e0 : ev t F (.mk c as) ρ = (evs t F as ρ).bind fun vs ρ => ofMk (F q (.ins c [] [] :: (frzs vs).map .d)) ρ := by simp only [ev, hi]
  rw [e0, h, bind_ok, h2]
  rfl
end
end Kn

set_option Elab.async false
set_option linter.all false
set_option maxRecDepth 100000
set_option maxHeartbeats 4000000
/-! Tl6: owned things out of comprehensions, comprehensions that raise, loops over told lists, while, methods by their outcome. -/
namespace Kn
open PySem L2
/-- a made thing as it is owned -/
def ow : D → SV
  | .ins c ns xs => .ins c ns (xs.map .d)
  | x => .d x
theorem frz_ow (s : D) : frz (ow s) = s := by
  cases s <;> first | rfl | (show D.ins _ _ (frzs _) = _; rw [frzs_dd])
theorem frzs_ow {α : Type} (l : List α) (f : α → D) : frzs (l.map fun a => ow (f a)) = l.map f := by
  induction l with
  | nil => rfl
  | cons a l ih => rw [List.map_cons, frzs, frz_ow, ih, List.map_cons]
theorem compL_sv {α : Type} {step : D → Env → R (Option SV)} {a : α → D} {b : α → SV} {B : Env} {sl : List Nat} : ∀ (l : List α) (ρ : Env) (acc : List SV), wipeE ρ sl = B → acc.length + l.length ≤ lim → (∀ x ∈ l, ∀ ρ, wipeE ρ sl = B → ∃ ρ3, step (a x) ρ = .ok (some (b x)) ρ3 ∧ wipeE ρ3 sl = B) →
    ∃ ρ', compL step (l.map a) ρ acc = .ok (acc ++ l.map b) ρ' ∧ wipeE ρ' sl = B
  | [], ρ, acc, h, _, _ => ⟨ρ, by simp [compL], h⟩
  | x :: l, ρ, acc, h, hl, k => by
    obtain ⟨ρ3, e, h3⟩ := k x List.mem_cons_self ρ h
    have hl' : acc.length < lim := by simp at hl; omega
    obtain ⟨ρ', e', h'⟩ := compL_sv l ρ3 (acc ++ [b x]) h3 (by simp at hl ⊢; omega) fun d hd => k d (List.mem_cons_of_mem _ hd)
    refine ⟨ρ', ?_, h'⟩
    rw [List.map_cons]
    unfold compL
    rw [e]
    simp only [hl', if_true, e', List.append_assoc, List.map_cons, List.singleton_append]
theorem compL_app {step : D → Env → R (Option SV)} : ∀ (l r : List D) (ρ ρ' : Env) (acc vs : List SV), compL step l ρ acc = .ok vs ρ' → compL step (l ++ r) ρ acc = compL step r ρ' vs
  | [], r, ρ, ρ', acc, vs, h => by
    injection h with h1 h2
    rw [List.nil_append, h1, h2]
  | x :: l, r, ρ, ρ', acc, vs, h => by
    have cons : ∀ ys : List D, compL step (x :: ys) ρ acc = (match step x ρ with
      | .ok (some v) ρ' => if acc.length < lim then compL step ys ρ' (acc ++ [v]) else .no
      | .ok none ρ' => compL step ys ρ' acc
      | .exc x ρ' => .exc x ρ'
      | .no => .no) := fun ys => by first | (rw [compL]; done) | (rw [compL]; rfl)
    rw [List.cons_append, cons]
    rw [cons] at h
    cases hs : step x ρ with
    | ok o ρ3 =>
      rw [hs] at h
      cases o with
      | some v =>
        by_cases hl : acc.length < lim
        · simp only [hl, if_true] at h ⊢
          exact compL_app l r ρ3 ρ' _ vs h
        · simp only [hl, if_false] at h
          cases h
      | none => exact compL_app l r ρ3 ρ' _ vs h
    | exc x ρ3 =>
      rw [hs] at h
      cases h
    | no =>
      rw [hs] at h
      cases h
section
variable {t : T} {F : String → List SV → Cr} {ρ ρ1 ρ2 ρ3 : Env}
/-- a comprehension that makes owned things -/
theorem comp_sv {α : Type} {i : Nat} {it el : E} {l : List α} {a : α → D} {b : α → SV} (hi : i < ρ1.length) (hit : evi t F it ρ = .ok (l.map a) ρ1) (hf : freeAt ρ1 [i] = true) (hl : l.length ≤ lim)
    (h : ∀ x ∈ l, ev t F el ((wipeE ρ1 [i]).set i (some (.d (a x)))) = .ok (b x) ((wipeE ρ1 [i]).set i (some (.d (a x))))) :
    ev t F (.comp (.nm i) it el) ρ = .ok (.lst (l.map b)) ρ1 := by
  have e0 : ev t F (.comp (.nm i) it el) ρ = (evi t F it ρ).bind fun ds ρ => if freeAt ρ (slotsT (.nm i)) then
      outL ρ (slotsT (.nm i)) (compL (fun d ρ' => match bindT (.nm i) d (wipeE ρ' (slotsT (.nm i))) with
        | some ρ₂ => (ev t F el ρ₂).bind fun v ρ => .ok (some v) ρ
        | none => .no) ds ρ [])
    else .no := by (unfold evi; first | (simp only [ev]; done) | (simp only [ev]; rfl))
  obtain ⟨ρ', e', h'⟩ := compL_sv (step := fun d ρ' => match bindT (.nm i) d (wipeE ρ' (slotsT (.nm i))) with
        | some ρ₂ => (ev t F el ρ₂).bind fun v ρ => .ok (some v) ρ
        | none => .no) (a := a) (b := b) (sl := [i]) (B := wipeE ρ1 [i]) l ρ1 [] rfl (by simpa using hl) fun x hx ρ hρ => by
    refine ⟨(wipeE ρ1 [i]).set i (some (.d (a x))), ?_, wipe_set1⟩
    show (ev t F el ((wipeE ρ [i]).set i (some (.d (a x))))).bind _ = _
    rw [hρ, h x hx, bind_ok]
  rw [e0, hit, bind_ok]
  show (if freeAt ρ1 [i] = true then _ else _) = _
  rw [if_pos hf, e', outL_ok, show slotsT (.nm i) = [i] from rfl, h', back1 hi, List.nil_append]
/-- a comprehension of which an item raises -/
theorem comp_exc {α : Type} {i : Nat} {it el : E} {l : List α} {a : α → D} {b : α → SV} {y : D} {r : List D} {x : Xc} (hi : i < ρ1.length) (hit : evi t F it ρ = .ok (l.map a ++ y :: r) ρ1) (hf : freeAt ρ1 [i] = true) (hl : l.length ≤ lim)
    (h : ∀ x ∈ l, ev t F el ((wipeE ρ1 [i]).set i (some (.d (a x)))) = .ok (b x) ((wipeE ρ1 [i]).set i (some (.d (a x)))))
    (hy : ev t F el ((wipeE ρ1 [i]).set i (some (.d y))) = .exc x ((wipeE ρ1 [i]).set i (some (.d y)))) :
    ev t F (.comp (.nm i) it el) ρ = .exc x ρ1 := by
  have e0 : ev t F (.comp (.nm i) it el) ρ = (evi t F it ρ).bind fun ds ρ => if freeAt ρ (slotsT (.nm i)) then
      outL ρ (slotsT (.nm i)) (compL (fun d ρ' => match bindT (.nm i) d (wipeE ρ' (slotsT (.nm i))) with
        | some ρ₂ => (ev t F el ρ₂).bind fun v ρ => .ok (some v) ρ
        | none => .no) ds ρ [])
    else .no := by (unfold evi; first | (simp only [ev]; done) | (simp only [ev]; rfl))
  obtain ⟨ρ', e', h'⟩ := compL_sv (step := fun d ρ' => match bindT (.nm i) d (wipeE ρ' (slotsT (.nm i))) with
        | some ρ₂ => (ev t F el ρ₂).bind fun v ρ => .ok (some v) ρ
        | none => .no) (a := a) (b := b) (sl := [i]) (B := wipeE ρ1 [i]) l ρ1 [] rfl (by simpa using hl) fun x hx ρ hρ => by
    refine ⟨(wipeE ρ1 [i]).set i (some (.d (a x))), ?_, wipe_set1⟩
    show (ev t F el ((wipeE ρ [i]).set i (some (.d (a x))))).bind _ = _
    rw [hρ, h x hx, bind_ok]
  rw [e0, hit, bind_ok]
  show (if freeAt ρ1 [i] = true then outL ρ1 [i] (compL _ (l.map a ++ y :: r) ρ1 []) else _) = _
  rw [if_pos hf]
  have e2 := compL_app (l.map a) (y :: r) ρ1 ρ' [] _ e'
  refine (congrArg (outL ρ1 [i]) e2).trans ?_
  unfold compL
  have e3 : (match bindT (.nm i) y (wipeE ρ' (slotsT (.nm i))) with
        | some ρ₂ => (ev t F el ρ₂).bind fun v ρ => .ok (some v) ρ
        | none => R.no) = R.exc x ((wipeE ρ1 [i]).set i (some (.d y))) := by
    show (ev t F el ((wipeE ρ' [i]).set i (some (.d y)))).bind _ = _
    rw [h', hy]
    rfl
  simp only [e3]
  show R.exc x (backE ρ1 (wipeE ((wipeE ρ1 [i]).set i (some (.d y))) [i]) [i]) = _
  rw [wipe_set1, back1 hi]
/-- a comprehension that leaves some out by a test -/
theorem flt_ev {i : Nat} {it c : E} {ds : List D} {p : D → Bool} (hi : i < ρ1.length) (hit : evi t F it ρ = .ok ds ρ1) (hf : freeAt ρ1 [i] = true) (hl : ds.length ≤ lim)
    (hc : ∀ d ∈ ds, ev t F c ((wipeE ρ1 [i]).set i (some (.d d))) = .ok (.d (.bl (p d))) ((wipeE ρ1 [i]).set i (some (.d d)))) :
    ev t F (.cmpi (.nm i) it c (.var i)) ρ = .ok (.lst ((ds.filter p).map .d)) ρ1 := by
  have e0 : ev t F (.cmpi (.nm i) it c (.var i)) ρ = (evi t F it ρ).bind fun ds ρ => if freeAt ρ (slotsT (.nm i)) then
      outL ρ (slotsT (.nm i)) (compL (fun d ρ' => match bindT (.nm i) d (wipeE ρ' (slotsT (.nm i))) with
        | some ρ₂ => (ev t F c ρ₂).bind fun b ρ => (match b with
          | .d (.bl true) => (ev t F (.var i) ρ).bind fun v ρ => .ok (some v) ρ
          | .d (.bl false) => .ok none ρ
          | _ => .no)
        | none => .no) ds ρ [])
    else .no := by (unfold evi; first | (simp only [ev]; done) | (simp only [ev]; rfl))
  obtain ⟨ρ', e', h'⟩ := compL_flt (p := p) (step := fun d ρ' => match bindT (.nm i) d (wipeE ρ' (slotsT (.nm i))) with
        | some ρ₂ => (ev t F c ρ₂).bind fun b ρ => (match b with
          | .d (.bl true) => (ev t F (.var i) ρ).bind fun v ρ => .ok (some v) ρ
          | .d (.bl false) => .ok none ρ
          | _ => .no)
        | none => .no) (sl := [i]) (B := wipeE ρ1 [i]) ds ρ1 [] rfl (by simpa using hl) fun d hd ρ4 hρ => by
    have hv := set_at (v := some (.d d)) hi
    refine ⟨(wipeE ρ1 [i]).set i (some (.d d)), ?_, wipe_set1⟩
    show (match bindT (.nm i) d (wipeE ρ4 [i]) with
        | some ρ₂ => (ev t F c ρ₂).bind fun b ρ => (match b with
          | .d (.bl true) => (ev t F (.var i) ρ).bind fun v ρ => .ok (some v) ρ
          | .d (.bl false) => .ok none ρ
          | _ => .no)
        | none => .no) = _
    rw [hρ]
    show (ev t F c ((wipeE ρ1 [i]).set i (some (.d d)))).bind _ = _
    rw [hc d hd, bind_ok]
    cases hp : p d with
    | true =>
      show (ev t F (.var i) _).bind _ = _
      rw [var_ev hv, bind_ok]
      rfl
    | false => rfl
  rw [e0, hit, bind_ok]
  show (if freeAt ρ1 [i] = true then _ else _) = _
  rw [if_pos hf, e', outL_ok, show slotsT (.nm i) = [i] from rfl, h', back1 hi, List.nil_append]
/-- a loop over a told list: what holds behind a part of it -/
theorem loop_al {α : Type} {step : D → Env → Fl} {a : α → D} (I : List α → Env → Prop) (l0 : List α) (k : ∀ pre x post, l0 = pre ++ x :: post → ∀ ρ, I pre ρ → ∃ ρ', step (a x) ρ = .nx ρ' ∧ I (pre ++ [x]) ρ') : ∀ (l pre : List α) (ρ : Env), l0 = pre ++ l → I pre ρ → ∃ ρ', loopF step (l.map a) ρ = .nx ρ' ∧ I l0 ρ'
  | [], pre, ρ, e, h => ⟨ρ, rfl, by rw [e, List.append_nil]; exact h⟩
  | x :: l, pre, ρ, e0, h => by
    obtain ⟨ρ1, e, h1⟩ := k pre x l e0 ρ h
    obtain ⟨ρ', e', h'⟩ := loop_al I l0 k l (pre ++ [x]) ρ1 (by rw [e0, List.append_assoc]; rfl) h1
    refine ⟨ρ', ?_, h'⟩
    rw [List.map_cons]
    unfold loopF
    rw [e]
    exact e'
theorem st_fora {G : Fl → Prop} {α : Type} {ro : List Nat} {i : Nat} {it : E} {b r : S} {l : List α} {a : α → D} (I : List α → Env → Prop) (hi : evi t F it ρ = .ok (l.map a) ρ1) (hro : ro.contains i = false) (h0 : I [] ρ1)
    (h : ∀ pre x post, l = pre ++ x :: post → ∀ ρ, I pre ρ → GN (I (pre ++ [x])) (Kn.exec t F ro b (ρ.set i (some (.d (a x)))))) (k : ∀ ρ', I l ρ' → G (Kn.exec t F ro r ρ')) : G (Kn.exec t F ro (.cons (.for_ (.nm i) it b) r) ρ) := by
  obtain ⟨ρ', e, h'⟩ := loop_al (step := fun d ρ => match bindT (.nm i) d ρ with
      | some ρ' => Kn.exec t F ro b ρ'
      | none => .no) (a := a) I l (fun pre x post e ρ hI => by
    obtain ⟨ρ3, e3, h3⟩ := h pre x post e ρ hI
    exact ⟨ρ3, e3, h3⟩) l [] ρ1 rfl h0
  refine st_nx (ρ1 := ρ') ?_ (k ρ' h')
  rw [for_ev hi (by simp [slotsT]; simpa using hro)]
  exact e
theorem st_fort {G : Fl → Prop} {α : Type} {ro : List Nat} {i j : Nat} {it : E} {b r : S} {l : List α} {a c : α → D} (I : List α → Env → Prop) (hi : evi t F it ρ = .ok (l.map fun x => D.tup [a x, c x]) ρ1) (hro : ro.contains i = false) (hro2 : ro.contains j = false) (h0 : I [] ρ1)
    (h : ∀ pre x post, l = pre ++ x :: post → ∀ ρ, I pre ρ → GN (I (pre ++ [x])) (Kn.exec t F ro b ((ρ.set i (some (.d (a x)))).set j (some (.d (c x)))))) (k : ∀ ρ', I l ρ' → G (Kn.exec t F ro r ρ')) : G (Kn.exec t F ro (.cons (.for_ (.tp [i, j]) it b) r) ρ) := by
  obtain ⟨ρ', e, h'⟩ := loop_al (step := fun d ρ => match bindT (.tp [i, j]) d ρ with
      | some ρ' => Kn.exec t F ro b ρ'
      | none => .no) (a := fun x => D.tup [a x, c x]) I l (fun pre x post e ρ hI => by
    obtain ⟨ρ3, e3, h3⟩ := h pre x post e ρ hI
    exact ⟨ρ3, e3, h3⟩) l [] ρ1 rfl h0
  refine st_nx (ρ1 := ρ') ?_ (k ρ' h')
  rw [for_ev hi (by simp [slotsT]; exact ⟨by simpa using hro, by simpa using hro2⟩)]
  exact e
def bodyW : S → S
  | .whl _ b => b
  | s => s
theorem zip_evi {a b : E} {x y : SV} {xs ys : List D} (h1 : ev t F a ρ = .ok x ρ1) (h2 : ev t F b ρ1 = .ok y ρ2) (hx : frz x = .lst xs) (hy : frz y = .lst ys) : evi t F (.zip (.cons a (.cons b .nil))) ρ = .ok (zipL xs ys) ρ2 := by
  have e0 : ev t F (.zip (.cons a (.cons b .nil))) ρ = (evs t F (.cons a (.cons b .nil)) ρ).bind fun vs ρ => (match zip2 (frzs vs) with
    | some ds => .ok (.d (.lst ds)) ρ
    | none => .no) := by first | (simp only [ev]; done) | (simp only [ev]; rfl)
  have e1 : ev t F (.zip (.cons a (.cons b .nil))) ρ = .ok (.d (.lst (zipL xs ys))) ρ2 := by
    rw [e0, evs_cons h1 (evs_cons h2 evs_nil), bind_ok]
    show (match zip2 [frz x, frz y] with
      | some ds => R.ok (SV.d (.lst ds)) ρ2
      | none => .no) = _
    rw [hx, hy]
    rfl
  exact evi_of e1 rfl
theorem zipL_map {α : Type} (f g : α → D) : ∀ l : List α, zipL (l.map f) (l.map g) = l.map fun x => D.tup [f x, g x]
  | [] => rfl
  | x :: l => by
    show D.tup [f x, g x] :: zipL (l.map f) (l.map g) = _
    rw [zipL_map f g l]
    rfl
theorem exm_to {ro : List Nat} {i : Nat} {e : E} {v : SV} {xs0 xs ys : List SV} (h0 : ρ[i]? = some (some (.lst xs0))) (h : ev t F e ρ = .ok v ρ1) (h1 : ρ1[i]? = some (some (.lst xs))) (hv : svl v = some ys) (hl : xs.length + ys.length ≤ lim) (hs : ρ1.set i (some (.lst (xs ++ ys))) = ρ2) : Kn.exec t F ro (.exm i e) ρ = .nx ρ2 := by
  have e0 : Kn.exec t F ro (.exm i e) ρ = (match ρ[i]? with
    | some (some (.lst _)) => thenF (ev t F e ρ) fun v ρ => (match ρ[i]? with
      | some (some (.lst xs)) => (match svl v with
        | some ys => if xs.length + ys.length ≤ lim then .nx (ρ.set i (some (.lst (xs ++ ys)))) else .no
        | none => .no)
      | _ => .no)
    | _ => .no) := by first | (simp only [Kn.exec]; done) | (simp only [Kn.exec]; rfl)
  rw [e0, h0]
  show thenF (ev t F e ρ) _ = _
  rw [h]
  show (match ρ1[i]? with
      | some (some (.lst xs)) => (match svl v with
        | some ys => if xs.length + ys.length ≤ lim then Fl.nx (ρ1.set i (some (.lst (xs ++ ys)))) else .no
        | none => .no)
      | _ => .no) = _
  rw [h1]
  show (match svl v with
        | some ys => if xs.length + ys.length ≤ lim then Fl.nx (ρ1.set i (some (.lst (xs ++ ys)))) else .no
        | none => .no) = _
  rw [hv, ← hs]
  exact if_pos hl
theorem exm_exc {ro : List Nat} {i : Nat} {e : E} {x : Xc} {xs0 : List SV} (h0 : ρ[i]? = some (some (.lst xs0))) (h : ev t F e ρ = .exc x ρ1) : Kn.exec t F ro (.exm i e) ρ = .exc x ρ1 := by
  have e0 : Kn.exec t F ro (.exm i e) ρ = (match ρ[i]? with
    | some (some (.lst _)) => thenF (ev t F e ρ) fun v ρ => (match ρ[i]? with
      | some (some (.lst xs)) => (match svl v with
        | some ys => if xs.length + ys.length ≤ lim then .nx (ρ.set i (some (.lst (xs ++ ys)))) else .no
        | none => .no)
      | _ => .no)
    | _ => .no) := by first | (simp only [Kn.exec]; done) | (simp only [Kn.exec]; rfl)
  rw [e0, h0]
  show thenF (ev t F e ρ) _ = _
  rw [h]
  rfl
/-! while -/
theorem whl_go {c : Env → R SV} {b : Env → Fl} {n : Nat} (h : c ρ = .ok (.d (.bl true)) ρ1) (hb : b ρ1 = .nx ρ2) : loopW c b (n + 1) ρ = loopW c b n ρ2 := by
  rw [loopW, h]
  show (match b ρ1 with
      | .nx ρ' => loopW c b n ρ'
      | .ct ρ' => loopW c b n ρ'
      | .bk ρ' => .nx ρ'
      | r => r) = _
  rw [hb]
theorem whl_end {c : Env → R SV} {b : Env → Fl} {n : Nat} (h : c ρ = .ok (.d (.bl false)) ρ1) : loopW c b (n + 1) ρ = .nx ρ1 := by
  rw [loopW, h]
theorem whl_exc {c : Env → R SV} {b : Env → Fl} {n : Nat} {x : Xc} (h : c ρ = .ok (.d (.bl true)) ρ1) (hb : b ρ1 = .exc x ρ2) : loopW c b (n + 1) ρ = .exc x ρ2 := by
  rw [loopW, h]
  show (match b ρ1 with
      | .nx ρ' => loopW c b n ρ'
      | .ct ρ' => loopW c b n ρ'
      | .bk ρ' => .nx ρ'
      | r => r) = _
  rw [hb]
theorem whl_is {ro : List Nat} {c : E} {b : S} : Kn.exec t F ro (.whl c b) ρ = loopW (ev t F c) (Kn.exec t F ro b) fuel ρ := by first | (simp only [Kn.exec]; done) | (simp only [Kn.exec]; rfl)
/-! != with what is empty -/
theorem ne_lst0 (xs : List D) : neD (.lst xs) (.lst []) = some (!xs.isEmpty) := by
  cases xs with
  | nil => rfl
  | cons x xs =>
    unfold neD eqD
    by_cases h : ((flat (.lst (x :: xs)) && flat (.lst [])) || (okD (.lst (x :: xs)) 50 && okD (.lst []) 50)) = true
    · rw [if_pos h]
      rfl
    · rw [if_neg h]
      rfl
theorem ne_tup0 (xs : List D) : neD (.tup xs) (.tup []) = some (!xs.isEmpty) := by
  cases xs with
  | nil => rfl
  | cons x xs =>
    unfold neD eqD
    by_cases h : ((flat (.tup (x :: xs)) && flat (.tup [])) || (okD (.tup (x :: xs)) 50 && okD (.tup []) 50)) = true
    · rw [if_pos h]
      rfl
    · rw [if_neg h]
      rfl
theorem nel_ev {a b : E} {x y : SV} {xs : List D} {r : Bool} (h1 : ev t F a ρ = .ok x ρ1) (h2 : ev t F b ρ1 = .ok y ρ2) (hx : frz x = .lst xs) (hy : frz y = .lst []) (hr : (!xs.isEmpty) = r) : ev t F (.cmp .ne a b) ρ = .ok (.d (.bl r)) ρ2 :=
  cmp_ev h1 h2 (by rw [hx, hy, cnE, ne_lst0, hr])
theorem net_ev {a b : E} {x y : SV} {xs : List D} {r : Bool} (h1 : ev t F a ρ = .ok x ρ1) (h2 : ev t F b ρ1 = .ok y ρ2) (hx : frz x = .tup xs) (hy : frz y = .tup []) (hr : (!xs.isEmpty) = r) : ev t F (.cmp .ne a b) ρ = .ok (.d (.bl r)) ρ2 :=
  cmp_ev h1 h2 (by rw [hx, hy, cnE, ne_tup0, hr])
/-! methods without arguments, by their outcome -/
def MtF (t : T) (F : String → List SV → Cr) (m : String) (s : D) (v : SV) : Prop := ∃ c ns xs q o, s = .ins c ns xs ∧ t.meth c m = some q ∧ m ∉ ns ∧ F q [.d s] = .ok v o
theorem meth0_ev {m : String} {a : E} {x : SV} {s : D} {v : SV} (h : ev t F a ρ = .ok x ρ1) (hx : frz x = s) (hm : MtF t F m s v) : ev t F (.meth m a .nil) ρ = .ok v ρ1 := by
  obtain ⟨c, ns, xs, q, o, rfl, hq, hn, hF⟩ := hm
  exact meth_ev h hx hq hn evs_nil hF
end
end Kn

set_option Elab.async false
set_option linter.all false
set_option maxRecDepth 100000
set_option maxHeartbeats 4000000
/-! Tl7: calls by reference, value-or, fields that grow; loops that may end early. -/
namespace Kn
open PySem L2
section
variable {t : T} {F : String → List SV → Cr} {ρ ρ1 ρ2 ρ3 : Env}
theorem evr_nil : evr t F .nil ρ = .ok [] ρ := by simp only [evr]
theorem evr_cons {e es : E} {v : SV} {ds : List D} (hr : refE e = none) (h : ev t F e ρ = .ok v ρ1) (hs : evr t F es ρ1 = .ok ds ρ2) : evr t F (.cons e es) ρ = .ok (frz v :: ds) ρ2 := by
  have e0 : evr t F (.cons e es) ρ = (match refE e with
    | some i => (match ρ[i]? with
      | some (some _) => (evr t F es ρ).bind fun ds ρ => .ok (.non :: ds) ρ
      | _ => .no)
    | none => (ev t F e ρ).bind fun v ρ => (evr t F es ρ).bind fun ds ρ => .ok (frz v :: ds) ρ) := by first | (simp only [evr]; done) | (simp only [evr]; rfl)
  rw [e0, hr]
  show ((ev t F e ρ).bind fun v ρ => (evr t F es ρ).bind fun ds ρ => .ok (frz v :: ds) ρ) = _
  rw [h, bind_ok, hs]
  rfl
theorem evr_ref {i : Nat} {es : E} {s : SV} {ds : List D} (h : ρ[i]? = some (some s)) (hs : evr t F es ρ = .ok ds ρ1) : evr t F (.cons (.take i) es) ρ = .ok (.non :: ds) ρ1 := by
  have e0 : evr t F (.cons (.take i) es) ρ = (match ρ[i]? with
      | some (some _) => (evr t F es ρ).bind fun ds ρ => .ok (.non :: ds) ρ
      | _ => .no) := by first | (simp only [evr]; done) | (simp only [evr]; rfl)
  rw [e0, h]
  show ((evr t F es ρ).bind fun ds ρ => .ok (.non :: ds) ρ) = _
  rw [hs]
  rfl
theorem io_is {f : String} {as : E} {ds : List D} {p : List SV × Env} (hf : t.isFn f = true) (h : evr t F as ρ = .ok ds ρ1) (ht : takesR (refsE as) ds ρ1 = some p) : ev t F (.io f as) ρ = ofIo (refsE as) (F f p.1) p.2 := by
  have e0 : ev t F (.io f as) ρ = if t.isFn f then (evr t F as ρ).bind fun ds ρ => (match takesR (refsE as) ds ρ with
      | some p => ofIo (refsE as) (F f p.1) p.2
      | none => .no) else .no := by first | (simp only [ev]; done) | (simp only [ev]; rfl)
  rw [e0, if_pos hf, h, bind_ok, ht]
theorem iom_is {m q c : String} {i : Nat} {ns : List String} {xs : List SV} {as : E} {ds : List D} {p : List SV × Env} (h0 : ρ[i]? = some (some (.ins c ns xs))) (hq : t.meth c m = some q) (hn : ns.contains m = false) (h : evr t F as ρ = .ok ds ρ1) (ht : takesR (some i :: refsE as) (.non :: ds) ρ1 = some p) : ev t F (.iom m i as) ρ = ofIo (some i :: refsE as) (F q p.1) p.2 := by
  have e0 : ev t F (.iom m i as) ρ = (match ρ[i]? with
    | some (some (.ins c ns xs)) => (match t.meth c m with
      | some q => if ns.contains m then .no else (evr t F as ρ).bind fun ds ρ => (match takesR (some i :: refsE as) (.non :: ds) ρ with
        | some p => ofIo (some i :: refsE as) (F q p.1) p.2
        | none => .no)
      | none => .no)
    | _ => .no) := by first | (simp only [ev]; done) | (simp only [ev]; rfl)
  rw [e0, h0]
  show (match t.meth c m with
      | some q => if ns.contains m then R.no else (evr t F as ρ).bind fun ds ρ => (match takesR (some i :: refsE as) (.non :: ds) ρ with
        | some p => ofIo (some i :: refsE as) (F q p.1) p.2
        | none => .no)
      | none => .no) = _
  rw [hq]
  show (if ns.contains m = true then _ else _) = _
  rw [hn, h]
  show (match takesR (some i :: refsE as) (.non :: ds) ρ1 with
        | some p => ofIo (some i :: refsE as) (F q p.1) p.2
        | none => .no) = _
  rw [ht]
theorem ofIo_ok {rs : List (Option Nat)} {v : SV} {outs : List (Option SV)} (h : backIo rs outs ρ = some ρ1) : ofIo rs (.ok v outs) ρ = .ok v ρ1 := by
  show (match backIo rs outs ρ with
    | some ρ' => R.ok v ρ'
    | none => .no) = _
  rw [h]
theorem orv_non {a b : E} {x : R SV} (h : ev t F a ρ = .ok (.d .non) ρ1) (hb : ev t F b ρ1 = x) : ev t F (.orv a b) ρ = x := by
  have e0 : ev t F (.orv a b) ρ = (ev t F a ρ).bind fun x ρ => (match x with
    | .d .non => ev t F b ρ
    | .d (.tup (y :: ys)) => .ok (.d (.tup (y :: ys))) ρ
    | _ => .no) := by first | (simp only [ev]; done) | (simp only [ev]; rfl)
  rw [e0, h, bind_ok]
  exact hb
theorem orv_tup {a b : E} {y : D} {ys : List D} (h : ev t F a ρ = .ok (.d (.tup (y :: ys))) ρ1) : ev t F (.orv a b) ρ = .ok (.d (.tup (y :: ys))) ρ1 := by
  have e0 : ev t F (.orv a b) ρ = (ev t F a ρ).bind fun x ρ => (match x with
    | .d .non => ev t F b ρ
    | .d (.tup (y :: ys)) => .ok (.d (.tup (y :: ys))) ρ
    | _ => .no) := by first | (simp only [ev]; done) | (simp only [ev]; rfl)
  rw [e0, h, bind_ok]
theorem takef_ev {i : Nat} {f c : String} {ns : List String} {xs : List SV} {s : SV} (h : ρ[i]? = some (some (.ins c ns xs))) (hf : t.fld c f = true) (hs : fieldS ns xs f = some s) : ev t F (.takef i f) ρ = .ok s (ρ.set i none) := by
  have e0 : ev t F (.takef i f) ρ = (match ρ[i]? with
    | some (some (.ins c ns xs)) => if t.fld c f then (match fieldS ns xs f with
      | some s => .ok s (ρ.set i none)
      | none => .no) else .no
    | _ => .no) := by first | (simp only [ev]; done) | (simp only [ev]; rfl)
  rw [e0, h]
  show (if t.fld c f = true then (match fieldS ns xs f with
      | some s => R.ok s (ρ.set i none)
      | none => .no) else .no) = _
  rw [if_pos hf, hs]
theorem expr_ok {ro : List Nat} {e : E} {v : SV} (h : ev t F e ρ = .ok v ρ1) : Kn.exec t F ro (.expr e) ρ = .nx ρ1 := by
  have e0 : Kn.exec t F ro (.expr e) ρ = thenF (ev t F e ρ) fun _ ρ => .nx ρ := by first | (simp only [Kn.exec]; done) | (simp only [Kn.exec]; rfl)
  rw [e0, h]
  rfl
theorem seti_ok {ro : List Nat} {i j : Nat} {e : E} {v : SV} {xs : List SV} (h : ev t F e ρ = .ok v ρ1) (h1 : ρ1[i]? = some (some (.lst xs))) (hj : j < xs.length) : Kn.exec t F ro (.seti i j e) ρ = .nx (ρ1.set i (some (.lst (xs.set j v)))) := by
  have e0 : Kn.exec t F ro (.seti i j e) ρ = thenF (ev t F e ρ) fun v ρ => (match ρ[i]? with
    | some (some (.lst xs)) => if j < xs.length then .nx (ρ.set i (some (.lst (xs.set j v)))) else .no
    | _ => .no) := by first | (simp only [Kn.exec]; done) | (simp only [Kn.exec]; rfl)
  rw [e0, h]
  show (match ρ1[i]? with
    | some (some (.lst xs)) => if j < xs.length then Fl.nx (ρ1.set i (some (.lst (xs.set j v)))) else .no
    | _ => .no) = _
  rw [h1]
  show (if j < xs.length then _ else _) = _
  rw [if_pos hj]
theorem setf_ok {ro : List Nat} {i : Nat} {f c : String} {e : E} {v : SV} {ns : List String} {xs : List SV} (h : ev t F e ρ = .ok v ρ1) (h1 : ρ1[i]? = some (some (.ins c ns xs))) (hb : ns.length < 900 ∧ ns.length = xs.length ∧ t.fld c f = true) : Kn.exec t F ro (.setf i f e) ρ = .nx (ρ1.set i (some (.ins c (putN f v ns xs).1 (putN f v ns xs).2))) := by
  have e0 : Kn.exec t F ro (.setf i f e) ρ = thenF (ev t F e ρ) fun v ρ => (match ρ[i]? with
    | some (some (.ins c ns xs)) => if ns.length < 900 ∧ ns.length = xs.length ∧ t.fld c f = true then let r := putN f v ns xs; .nx (ρ.set i (some (.ins c r.1 r.2))) else .no
    | _ => .no) := by first | (simp only [Kn.exec]; done) | (simp only [Kn.exec]; rfl)
  rw [e0, h]
  show (match ρ1[i]? with
    | some (some (.ins c ns xs)) => if ns.length < 900 ∧ ns.length = xs.length ∧ t.fld c f = true then (Fl.nx (ρ1.set i (some (.ins c (putN f v ns xs).1 (putN f v ns xs).2)))) else .no
    | _ => .no) = _
  rw [h1]
  show (if ns.length < 900 ∧ ns.length = xs.length ∧ t.fld c f = true then _ else _) = _
  rw [if_pos hb]
theorem appf_ok {ro : List Nat} {i j : Nat} {f c : String} {y : D} {ns : List String} {xs ys : List SV} (hj : ρ[j]? = some (some (.d y))) (h1 : ρ[i]? = some (some (.ins c ns xs))) (hb : ns.length = xs.length ∧ t.fld c f = true) (hf : fieldS ns xs f = some (.lst ys)) (hl : ys.length < lim) : Kn.exec t F ro (.appf i f j) ρ = .nx (ρ.set i (some (.ins c (putN f (.lst (ys ++ [.d y])) ns xs).1 (putN f (.lst (ys ++ [.d y])) ns xs).2))) := by
  have e0 : Kn.exec t F ro (.appf i f j) ρ = (match ρ[j]?, ρ[i]? with
    | some (some (.d y)), some (some (.ins c ns xs)) => if ns.length = xs.length ∧ t.fld c f = true then (match fieldS ns xs f with
      | some (.lst ys) => if ys.length < lim then let r := putN f (.lst (ys ++ [.d y])) ns xs; .nx (ρ.set i (some (.ins c r.1 r.2))) else .no
      | _ => .no) else .no
    | _, _ => .no) := by first | (simp only [Kn.exec]; done) | (simp only [Kn.exec]; rfl)
  rw [e0, hj, h1]
  show (if ns.length = xs.length ∧ t.fld c f = true then (match fieldS ns xs f with
      | some (.lst ys) => if ys.length < lim then (Fl.nx (ρ.set i (some (SV.ins c (putN f (SV.lst (ys ++ [SV.d y])) ns xs).1 (putN f (SV.lst (ys ++ [SV.d y])) ns xs).2)))) else .no
      | _ => .no) else .no) = _
  rw [if_pos hb, hf]
  show (if ys.length < lim then _ else _) = _
  rw [if_pos hl]
/-- what a def gives back -/
theorem runF_rt {fd : FD} {ss : List SV} {v : SV} {ρ' : Env} (h1 : ss.length = fd.np ∧ fd.np ≤ fd.n ∧ fd.io.length = fd.np ∧ modesOk fd.io ss = true) (hx : Kn.exec t F (roOf fd.io 0) fd.body (ss.map some ++ List.replicate (fd.n - fd.np) none) = .rt v ρ') : runF t F fd ss = .ok v (outsOf fd.io ρ') := by
  unfold runF
  rw [if_pos h1, hx]
theorem runF_nx {fd : FD} {ss : List SV} {ρ' : Env} (h1 : ss.length = fd.np ∧ fd.np ≤ fd.n ∧ fd.io.length = fd.np ∧ modesOk fd.io ss = true) (hx : Kn.exec t F (roOf fd.io 0) fd.body (ss.map some ++ List.replicate (fd.n - fd.np) none) = .nx ρ') : runF t F fd ss = .ok (.d .non) (outsOf fd.io ρ') := by
  unfold runF
  rw [if_pos h1, hx]
theorem runF_exc {fd : FD} {ss : List SV} {x : Xc} {ρ' : Env} (hk : fd.kx = false) (h1 : ss.length = fd.np ∧ fd.np ≤ fd.n ∧ fd.io.length = fd.np ∧ modesOk fd.io ss = true) (hx : Kn.exec t F (roOf fd.io 0) fd.body (ss.map some ++ List.replicate (fd.n - fd.np) none) = .exc x ρ') : runF t F fd ss = .exc x := by
  unfold runF
  rw [if_pos h1, hx]
  show (if fd.kx = true then _ else _) = _
  rw [if_neg (by rw [hk]; exact Bool.false_ne_true)]
/-! ### loops that may end early -/
def isStop : Fl → Prop
  | .rt _ _ => True
  | .exc _ _ => True
  | _ => False
/-- one after another, till one fails -/
def seqE {α σ ε : Type} (f : α → σ → Except ε σ) : List α → σ → Except ε σ
  | [], s => .ok s
  | x :: xs, s => match f x s with
    | .ok s' => seqE f xs s'
    | .error e => .error e
def Res {σ ε : Type} (R : σ → Env → Prop) (G : ε → Fl → Prop) (o : Except ε σ) (x : Fl) : Prop := match o with
  | .ok s => ∃ ρ', x = .nx ρ' ∧ R s ρ'
  | .error e => G e x
theorem loop_run {α σ ε : Type} {step : D → Env → Fl} {a : α → D} (R : σ → Env → Prop) (G : ε → Fl → Prop) (f : α → σ → Except ε σ) (hG : ∀ e x, G e x → isStop x) : ∀ (l : List α), (∀ x ∈ l, ∀ s ρ, R s ρ → Res R G (f x s) (step (a x) ρ)) → ∀ s ρ, R s ρ → Res R G (seqE f l s) (loopF step (l.map a) ρ)
  | [], _, s, ρ, h => ⟨ρ, rfl, h⟩
  | x :: l, k, s, ρ, h => by
    have h1 := k x List.mem_cons_self s ρ h
    rw [List.map_cons]
    unfold seqE loopF
    cases e : f x s with
    | ok s' =>
      rw [e] at h1
      obtain ⟨ρ1, e1, r1⟩ := h1
      rw [e1]
      exact loop_run R G f hG l (fun y hy => k y (List.mem_cons_of_mem _ hy)) s' ρ1 r1
    | error e' =>
      rw [e] at h1
      have h1 : G e' (step (a x) ρ) := h1
      have hs := hG _ _ h1
      show G e' _
      cases hx : step (a x) ρ with
      | rt v ρ' => rw [hx] at h1; exact h1
      | exc y ρ' => rw [hx] at h1; exact h1
      | nx ρ' => rw [hx] at hs; exact hs.elim
      | bk ρ' => rw [hx] at hs; exact hs.elim
      | ct ρ' => rw [hx] at hs; exact hs.elim
      | no => rw [hx] at hs; exact hs.elim
theorem for_run {α σ ε : Type} {ro : List Nat} {i : Nat} {it : E} {b : S} {l : List α} {a : α → D} (R : σ → Env → Prop) (G : ε → Fl → Prop) (f : α → σ → Except ε σ) (hG : ∀ e x, G e x → isStop x) (hi : evi t F it ρ = .ok (l.map a) ρ1) (hro : ro.contains i = false)
    (h : ∀ x ∈ l, ∀ s ρ, R s ρ → Res R G (f x s) (Kn.exec t F ro b (ρ.set i (some (.d (a x)))))) {s : σ} (h0 : R s ρ1) : Res R G (seqE f l s) (Kn.exec t F ro (.for_ (.nm i) it b) ρ) := by
  rw [for_ev hi (by simp [slotsT]; simpa using hro)]
  exact loop_run R G f hG l (fun x hx s ρ hr => h x hx s ρ hr) s ρ1 h0
theorem seqE_snoc {α σ ε : Type} (f : α → σ → Except ε σ) (x : α) : ∀ (l : List α) (s : σ), seqE f (l ++ [x]) s = (match seqE f l s with
    | .ok s' => f x s'
    | .error e => .error e)
  | [], s => by
    show (match f x s with
      | .ok s' => seqE f [] s'
      | .error e => .error e) = f x s
    cases f x s <;> rfl
  | y :: l, s => by
    rw [List.cons_append]
    unfold seqE
    cases e : f y s with
    | ok s' => exact seqE_snoc f x l s'
    | error e => rfl
theorem Res.imp {σ ε : Type} {R R' : σ → Env → Prop} {G G' : ε → Fl → Prop} {o : Except ε σ} {x : Fl} (h : Res R G o x) (hR : ∀ s ρ, o = .ok s → R s ρ → R' s ρ) (hG : ∀ e x, o = .error e → G e x → G' e x) : Res R' G' o x := by
  cases o with
  | ok s =>
    obtain ⟨ρ', e, r⟩ := h
    exact ⟨ρ', e, hR s ρ' rfl r⟩
  | error e => exact hG e x rfl h
theorem Res.blk {σ ε : Type} {ro : List Nat} {R : σ → Env → Prop} {G : ε → Fl → Prop} (hG : ∀ e x, G e x → isStop x) {o : Except ε σ} {st : S} (h : Res R G o (Kn.exec t F ro st ρ)) : Res R G o (Kn.exec t F ro (.cons st .nil) ρ) := by
  cases o with
  | ok s =>
    obtain ⟨ρ', e, r⟩ := h
    exact ⟨ρ', one_nx e, r⟩
  | error e =>
    have hs := hG e _ h
    have h2 : G e (Kn.exec t F ro st ρ) := h
    show G e _
    generalize hx : Kn.exec t F ro st ρ = x at hs h2
    have h3 : isNx x = false := by cases x <;> first | rfl | exact hs.elim
    rw [st_to hx h3]
    exact h2
theorem Res.itf {σ ε : Type} {ro : List Nat} {R : σ → Env → Prop} {G : ε → Fl → Prop} {o : Except ε σ} {c : E} {a b : S} (h : ev t F c ρ = .ok (.d (.bl false)) ρ1) (k : Res R G o (Kn.exec t F ro b ρ1)) : Res R G o (Kn.exec t F ro (.ite c a b) ρ) := by
  rw [ite_f h rfl]
  exact k
theorem Res.itt {σ ε : Type} {ro : List Nat} {R : σ → Env → Prop} {G : ε → Fl → Prop} {o : Except ε σ} {c : E} {a b : S} (h : ev t F c ρ = .ok (.d (.bl true)) ρ1) (k : Res R G o (Kn.exec t F ro a ρ1)) : Res R G o (Kn.exec t F ro (.ite c a b) ρ) := by
  rw [ite_t h rfl]
  exact k
theorem frzE_at {i : Nat} {xs : List D} (h : ρ[i]? = some (some (.lst (xs.map .d)))) : (frzE ρ)[i]? = some (some (.d (.lst xs))) := by
  unfold frzE
  rw [List.getElem?_map, h]
  show some (some (SV.d (D.lst (frzs (xs.map .d))))) = _
  rw [frzs_dd]
theorem frzE_d {i : Nat} {x : D} (h : ρ[i]? = some (some (.d x))) : (frzE ρ)[i]? = some (some (.d x)) := by
  unfold frzE
  rw [List.getElem?_map, h]
  rfl
theorem len_own {i : Nat} {xs : List D} (h : ρ[i]? = some (some (.lst (xs.map .d)))) : ev t F (.bor (.blt .len (.cons (.var i) .nil))) ρ = .ok (.d (.int (xs.length : Nat))) ρ :=
  bor_ev (blt1_ev (var_ev (frzE_at h)) rfl) rfl
theorem st_nx0 {ro : List Nat} {st : S} {x : Fl} (h : Kn.exec t F ro st ρ = x) : Kn.exec t F ro (.cons st .nil) ρ = x := by
  have e0 : Kn.exec t F ro (.cons st .nil) ρ = (match Kn.exec t F ro st ρ with
    | .nx ρ' => Kn.exec t F ro .nil ρ'
    | x => x) := by first | (simp only [Kn.exec]; done) | (simp only [Kn.exec]; rfl)
  rw [e0, h]
  cases x with
  | nx ρ' => exact nil_blk
  | _ => rfl
theorem frzE_s {i : Nat} {s : SV} (h : ρ[i]? = some (some s)) : (frzE ρ)[i]? = some (some (.d (frz s))) := by
  unfold frzE
  rw [List.getElem?_map, h]
  rfl
theorem varS_to {i : Nat} {s : SV} {d : D} (h : ρ[i]? = some (some s)) (hd : frz s = d) (hs : ρ.set i (some (.d d)) = ρ1) : ev t F (.var i) ρ = .ok (.d d) ρ1 := by
  rw [← hs, ← hd]
  exact varS_ev h
theorem ret_exc {ro : List Nat} {e : E} {r : S} {x : Xc} (h : ev t F e ρ = .exc x ρ1) : Kn.exec t F ro (.cons (.ret e) r) ρ = .exc x ρ1 := by
  have e0 : Kn.exec t F ro (.cons (.ret e) r) ρ = (match thenF (ev t F e ρ) (fun v ρ => Fl.rt v ρ) with
    | .nx ρ' => Kn.exec t F ro r ρ'
    | x => x) := by first | (simp only [Kn.exec]; done) | (simp only [Kn.exec]; rfl)
  rw [e0, h]
  rfl
end
end Kn

set_option Elab.async false
set_option linter.all false
set_option maxRecDepth 100000
set_option maxHeartbeats 4000000
/-! the program as core text (printed by gen.py). -/
namespace Kn
open PySem L2
/-! ### the program k54_told_out, as core text (printed by gen.py) -/
def fd_law : FD := ⟨1, 12, [false],
  (.cons (.set 1 (.call "_law_draws" (.cons (.var 0) (.cons (.int 20) .nil))))
  (.cons (.set 2 (.bin .add (.int 1) (.bin .mod (.idx (.var 1) (.int 0)) (.int 16))))
  (.cons (.set 3 (.call "_law_trees" (.cons (.slc (.var 1) (.int 4) .emp) (.cons (.bin .add (.int 1) (.bin .mod (.idx (.var 1) (.int 1)) (.int 5))) (.cons (.int 4) .nil)))))
  (.cons (.ite (.cmp .eq (.bin .mod (.idx (.var 1) (.int 2)) (.int 7)) (.int 1)) (.cons (.set 4 (.bin .add (.bin .mul (.tup (.cons (.tup (.cons (.str [121, 111]) .nil)) .nil)) (.bin .add (.int 1) (.bin .mod (.bin .fdiv (.idx (.var 1) (.int 3)) (.int 8)) (.int 3)))) (.bin .mul (.tup (.cons (.tup (.cons (.str [107]) .nil)) .nil)) (.bin .mod (.bin .fdiv (.idx (.var 1) (.int 3)) (.int 24)) (.int 2)))))
    (.cons (.set 3 (.bin .add (.lst (.cons (.tup (.cons (.str [116, 105, 108, 108]) (.cons (.bin .mod (.idx (.var 1) (.int 3)) (.int 8)) (.cons (.var 4) .nil)))) .nil)) (.slc (.var 3) .emp (.int 1))))
    .nil)) .nil)
  (.cons (.ite (.cmp .eq (.bin .mod (.idx (.var 1) (.int 2)) (.int 7)) (.int 2)) (.cons (.set 5 (.lst (.cons (.tup (.cons (.str [116, 105, 109, 101, 115]) (.cons (.int 20) (.cons (.tup (.cons (.tup (.cons (.str [121, 111]) .nil)) .nil)) .nil)))) (.cons (.tup (.cons (.str [116, 105, 109, 101, 115]) (.cons (.bin .add (.int 19) (.bin .mod (.idx (.var 1) (.int 3)) (.int 2))) (.cons (.tup (.cons (.tup (.cons (.str [121, 111]) .nil)) .nil)) .nil)))) .nil))))
    (.cons (.set 3 (.bin .add (.bin .add (.var 5) (.slc (.var 3) .emp (.int 1))) (.lst (.cons (.tup (.cons (.str [99, 97, 98, 108, 101]) (.cons (.int 3) (.cons (.bl true) (.cons (.int 3) .nil))))) .nil))))
    (.cons (.set 2 (.bin .add (.int 1) (.bin .mod (.idx (.var 1) (.int 0)) (.int 3))))
    .nil))) .nil)
  (.cons (.set 6 (.lst (.cons (.var 2) .nil)))
  (.cons (.set 7 (.lst .nil))
  (.cons (.set 8 (.io "_law_tell" (.cons (.var 3) (.cons (.take 6) (.cons (.take 7) .nil)))))
  (.cons (.ite (.and (.cmp .eq (.bin .mod (.bin .fdiv (.idx (.var 1) (.int 2)) (.int 7)) (.int 2)) (.int 1)) (.cmp .is_ (.var 8) .non)) (.cons (.set 3 (.bin .add (.var 3) (.lst (.cons (.tup (.cons (.str [116, 105, 109, 101, 115]) (.cons (.idv 6 (.int 0)) (.cons (.tup (.cons (.tup (.cons (.str [107]) .nil)) .nil)) .nil)))) .nil))))
    (.cons (.set 6 (.lst (.cons (.var 2) .nil)))
    (.cons (.set 7 (.lst .nil))
    (.cons (.set 8 (.io "_law_tell" (.cons (.var 3) (.cons (.take 6) (.cons (.take 7) .nil)))))
    .nil)))) .nil)
  (.cons (.ite (.and (.cmp .is_ (.var 8) .non) (.cmp .gt (.idv 6 (.int 0)) (.int 0))) (.cons (.set 8 (.tup (.cons (.bor (.blt .len (.cons (.var 7) .nil))) (.cons (.str [108, 101, 102, 116]) .nil))))
    .nil) .nil)
  (.cons (.set 9 .non)
  (.cons (.set 10 .non)
  (.cons (.tryk (.cons (.set 10 (.call "told_out" (.cons (.blt .tuple (.cons (.var 3) .nil)) (.cons (.var 2) .nil))))
    .nil) "LoopError" 11 9)
  (.cons (.ite (.cmp .isnot (.var 9) .non) (.cons (.ite (.or (.cmp .ne (.call "_law_class" (.cons (.var 9) .nil)) (.str [78, 111, 80, 105, 101, 99, 101])) (.cmp .ne (.fld (.var 9) "course") (.int 0))) (.cons (.ret (.bl false))
      .nil) .nil)
    (.cons (.ret (.cmp .eq (.tup (.cons (.fld (.var 9) "stitch") (.cons (.fld (.var 9) "why") .nil))) (.var 8)))
    .nil)) .nil)
  (.cons (.ite (.bor (.or (.cmp .isnot (.var 8) .non) (.or (.not (.blt .isinstance (.cons (.var 10) (.cons (.tyn "list") .nil)))) (.cmp .ne (.var 10) (.var 7))))) (.cons (.ret (.bl false))
    .nil) .nil)
  (.cons (.app 10 (.str [120]))
  (.cons (.ret (.bor (.cmp .eq (.call "told_out" (.cons (.blt .tuple (.cons (.var 3) .nil)) (.cons (.var 2) .nil))) (.var 7))))
  .nil))))))))))))))))), false⟩
def fd__law_class : FD := ⟨1, 3, [false],
  (.cons (.set 1 (.lst (.cons (.blt .isinstance (.cons (.var 0) (.cons (.glb "NoDeed") .nil))) (.cons (.blt .isinstance (.cons (.var 0) (.cons (.glb "NoYarn") .nil))) (.cons (.blt .isinstance (.cons (.var 0) (.cons (.glb "NoWay") .nil))) (.cons (.blt .isinstance (.cons (.var 0) (.cons (.glb "NoLoop") .nil))) .nil))))))
  (.cons (.set 1 (.bin .add (.var 1) (.lst (.cons (.blt .isinstance (.cons (.var 0) (.cons (.glb "NoNeedle") .nil))) (.cons (.blt .isinstance (.cons (.var 0) (.cons (.glb "TooMany") .nil))) (.cons (.blt .isinstance (.cons (.var 0) (.cons (.glb "TooFar") .nil))) (.cons (.blt .isinstance (.cons (.var 0) (.cons (.glb "NoText") .nil))) .nil)))))))
  (.cons (.set 1 (.bin .add (.var 1) (.lst (.cons (.blt .isinstance (.cons (.var 0) (.cons (.glb "NoPiece") .nil))) (.cons (.blt .isinstance (.cons (.var 0) (.cons (.glb "NoName") .nil))) (.cons (.blt .isinstance (.cons (.var 0) (.cons (.glb "NoRow") .nil))) .nil))))))
  (.cons (.set 2 (.lst (.cons (.str [78, 111, 68, 101, 101, 100]) (.cons (.str [78, 111, 89, 97, 114, 110]) (.cons (.str [78, 111, 87, 97, 121]) (.cons (.str [78, 111, 76, 111, 111, 112]) (.cons (.str [78, 111, 78, 101, 101, 100, 108, 101]) (.cons (.str [84, 111, 111, 77, 97, 110, 121]) (.cons (.str [84, 111, 111, 70, 97, 114]) (.cons (.str [78, 111, 84, 101, 120, 116]) (.cons (.str [78, 111, 80, 105, 101, 99, 101]) (.cons (.str [78, 111, 78, 97, 109, 101]) .nil))))))))))))
  (.cons (.ite (.or (.cmp .ne (.bm .count (.var 1) (.cons (.bl true) .nil)) (.int 1)) (.not (.blt .isinstance (.cons (.var 0) (.cons (.tyn "ValueError") .nil))))) (.cons (.ret (.str [111, 116, 104, 101, 114]))
    .nil) .nil)
  (.cons (.ret (.idx (.bin .add (.var 2) (.lst (.cons (.str [78, 111, 82, 111, 119]) .nil))) (.bm .index (.var 1) (.cons (.bl true) .nil))))
  .nil)))))), false⟩
def fd__law_draws : FD := ⟨2, 7, [false, false],
  (.cons (.set 2 (.lst .nil))
  (.cons (.set 3 (.int 7))
  (.cons (.for_ (.nm 4) (.rng (.var 1)) (.cons (.set 5 (.int 0))
    (.cons (.ite (.cmp .gt (.blt .len (.cons (.var 0) .nil)) (.int 0)) (.cons (.set 5 (.idx (.var 0) (.bin .mod (.var 4) (.blt .len (.cons (.var 0) .nil)))))
      .nil) .nil)
    (.cons (.set 3 (.bin .mod (.bin .add (.bin .add (.bin .add (.bin .mul (.var 3) (.int 48271)) (.var 5)) (.var 4)) (.int 1)) (.int 2147483647)))
    (.cons (.set 6 (.bin .mod (.bin .add (.bin .mul (.var 3) (.var 3)) (.bin .mul (.int 16807) (.var 3))) (.int 2147483629)))
    (.cons (.app 2 (.bin .mod (.bin .add (.bin .mul (.var 6) (.var 6)) (.bin .mul (.int 16807) (.var 6))) (.int 2147483629)))
    .nil))))))
  (.cons (.ret (.var 2))
  .nil)))), false⟩
def fd__law_tell : FD := ⟨3, 7, [false, true, true],
  (.cons (.for_ (.nm 3) (.var 0) (.cons (.set 4 .non)
    (.cons (.ite (.cmp .eq (.idx (.var 3) (.int 0)) (.str [116, 105, 109, 101, 115])) (.cons (.for_ (.nm 5) (.rng (.idx (.var 3) (.int 1))) (.cons (.set 4 (.orv (.var 4) (.io "_law_tell" (.cons (.idx (.var 3) (.int 2)) (.cons (.take 1) (.cons (.take 2) .nil))))))
        .nil))
      .nil) (.cons (.ite (.cmp .eq (.idx (.var 3) (.int 0)) (.str [116, 105, 108, 108])) (.cons (.whl (.and (.cmp .is_ (.var 4) .non) (.cmp .gt (.idv 1 (.int 0)) (.idx (.var 3) (.int 1)))) (.cons (.set 6 (.idv 1 (.int 0)))
          (.cons (.set 4 (.io "_law_tell" (.cons (.idx (.var 3) (.int 2)) (.cons (.take 1) (.cons (.take 2) .nil)))))
          (.cons (.ite (.and (.cmp .is_ (.var 4) .non) (.cmp .eq (.idv 1 (.int 0)) (.var 6))) (.cons (.set 4 (.tup (.cons (.bor (.blt .len (.cons (.var 2) .nil))) (.cons (.str [105, 100, 108, 101]) .nil))))
            .nil) .nil)
          .nil))))
        .nil) (.cons (.ite (.bor (.cmp .gt (.blt .len (.cons (.var 2) .nil)) (.int 39))) (.cons (.set 4 (.tup (.cons (.bor (.blt .len (.cons (.var 2) .nil))) (.cons (.str [108, 111, 110, 103]) .nil))))
          .nil) (.cons (.ite (.cmp .gt (.call "_law_takes" (.cons (.var 3) .nil)) (.idv 1 (.int 0))) (.cons (.set 4 (.tup (.cons (.bor (.blt .len (.cons (.var 2) .nil))) (.cons (.str [102, 101, 119]) .nil))))
            .nil) (.cons (.seti 1 0 (.bin .sub (.idv 1 (.int 0)) (.call "_law_takes" (.cons (.var 3) .nil))))
            (.cons (.app 2 (.var 3))
            .nil)))
          .nil))
        .nil))
      .nil))
    (.cons (.ite (.cmp .isnot (.var 4) .non) (.cons (.ret (.var 4))
      .nil) .nil)
    .nil))))
  (.cons (.ret .non)
  .nil)), false⟩
def fd__law_trees : FD := ⟨3, 8, [false, false, false],
  (.cons (.set 3 (.lst .nil))
  (.cons (.for_ (.nm 4) (.rng (.var 1)) (.cons (.set 5 (.idx (.var 0) (.var 4)))
    (.cons (.ite (.and (.cmp .eq (.bin .mod (.var 5) (.int 5)) (.int 0)) (.cmp .gt (.var 2) (.int 0))) (.cons (.set 6 (.blt .tuple (.cons (.call "_law_trees" (.cons (.comp (.nm 7) (.rng (.int 4)) (.bin .fdiv (.var 5) (.bin .add (.int 7) (.bin .mul (.int 2) (.var 7))))) (.cons (.bin .add (.int 1) (.bin .mod (.bin .fdiv (.var 5) (.int 5)) (.int 3))) (.cons (.bin .sub (.var 2) (.int 1)) .nil)))) .nil)))
      (.cons (.app 3 (.idx (.lst (.cons (.tup (.cons (.str [116, 105, 109, 101, 115]) (.cons (.bin .mod (.bin .fdiv (.var 5) (.int 15)) (.int 21)) (.cons (.var 6) .nil)))) (.cons (.tup (.cons (.str [116, 105, 108, 108]) (.cons (.bin .mod (.bin .fdiv (.var 5) (.int 15)) (.int 16)) (.cons (.var 6) .nil)))) .nil))) (.bin .mod (.bin .fdiv (.var 5) (.int 40)) (.int 2))))
      .nil)) (.cons (.app 3 (.call "_law_simple" (.cons (.bin .fdiv (.var 5) (.int 5)) (.cons (.int 9) .nil))))
      .nil))
    .nil)))
  (.cons (.ret (.var 3))
  .nil))), false⟩
def fd_told_out : FD := ⟨2, 2, [false, false],
  (.cons (.ret (.call "told_out_at" (.cons (.var 0) (.cons (.var 1) (.cons (.int 0) .nil)))))
  .nil), false⟩
def fd__law_takes : FD := ⟨1, 1, [false],
  (.cons (.ite (.cmp .eq (.idx (.var 0) (.int 0)) (.str [99, 97, 98, 108, 101])) (.cons (.ret (.bin .add (.idx (.var 0) (.int 1)) (.idx (.var 0) (.int 3))))
    .nil) .nil)
  (.cons (.ret (.dget (.disp [.s [121, 111], .s [107, 50], .s [115, 50]] (.cons (.int 0) (.cons (.int 2) (.cons (.int 2) .nil)))) (.idx (.var 0) (.int 0)) (.int 1)))
  .nil)), false⟩
def fd__law_simple : FD := ⟨2, 4, [false, false],
  (.cons (.set 2 (.lst (.cons (.tup (.cons (.str [107]) .nil)) (.cons (.tup (.cons (.str [112]) .nil)) (.cons (.tup (.cons (.str [107]) .nil)) (.cons (.tup (.cons (.str [121, 111]) .nil)) (.cons (.tup (.cons (.str [107, 50]) .nil)) (.cons (.tup (.cons (.str [115, 50]) .nil)) (.cons (.tup (.cons (.str [112]) .nil)) .nil)))))))))
  (.cons (.set 3 (.idx (.var 2) (.bin .mod (.bin .mod (.var 0) (.int 8)) (.int 7))))
  (.cons (.ite (.cmp .eq (.bin .mod (.var 0) (.int 8)) (.int 7)) (.cons (.set 3 (.tup (.cons (.str [99, 97, 98, 108, 101]) (.cons (.bin .add (.int 1) (.bin .mod (.bin .fdiv (.var 0) (.int 8)) (.int 3))) (.cons (.cmp .eq (.bin .mod (.bin .fdiv (.var 0) (.int 24)) (.int 2)) (.int 1)) (.cons (.bin .add (.int 1) (.bin .mod (.bin .fdiv (.var 0) (.int 48)) (.int 3))) .nil))))))
    .nil) .nil)
  (.cons (.ite (.cmp .gt (.call "_law_takes" (.cons (.var 3) .nil)) (.var 1)) (.cons (.ret (.tup (.cons (.str [107]) .nil)))
    .nil) .nil)
  (.cons (.ret (.var 3))
  .nil))))), false⟩
def fd_told_out_at : FD := ⟨3, 4, [false, false, false],
  (.cons (.set 3 (.mk "Telling" (.cons (.var 1) (.cons (.var 2) .nil))))
  (.cons (.expr (.iom "tell" 3 (.cons (.var 0) .nil)))
  (.cons (.ite (.bor (.cmp .gt (.fld (.var 3) "still") (.int 0))) (.cons (.raise "NoPiece" (.cons (.var 2) (.cons (.bor (.blt .len (.cons (.fld (.var 3) "trees") .nil))) (.cons (.str [108, 101, 102, 116]) .nil))))
    .nil) .nil)
  (.cons (.ret (.takef 3 "trees"))
  .nil)))), false⟩
def fd_Tellingu_initu : FD := ⟨3, 3, [true, false, false],
  (.cons (.setf 0 "still" (.var 1))
  (.cons (.setf 0 "course" (.var 2))
  (.cons (.setf 0 "trees" (.lst .nil))
  .nil))), false⟩
def fd_Telling_tell : FD := ⟨2, 4, [true, false],
  (.cons (.for_ (.nm 2) (.var 1) (.cons (.ite (.cmp .eq (.idx (.var 2) (.int 0)) (.str [116, 105, 109, 101, 115])) (.cons (.for_ (.nm 3) (.rng (.idx (.var 2) (.int 1))) (.cons (.expr (.iom "tell" 0 (.cons (.idx (.var 2) (.int 2)) .nil)))
        .nil))
      .nil) (.cons (.ite (.cmp .eq (.idx (.var 2) (.int 0)) (.str [116, 105, 108, 108])) (.cons (.expr (.iom "tell_till" 0 (.cons (.var 2) .nil)))
        .nil) (.cons (.expr (.iom "tell_one" 0 (.cons (.var 2) .nil)))
        .nil))
      .nil))
    .nil))
  .nil), false⟩
def fd_Telling_tell_one : FD := ⟨2, 3, [true, false],
  (.cons (.set 2 (.meth "takes" (.call "stitch_of" (.cons (.var 1) .nil)) .nil))
  (.cons (.ite (.bor (.cmp .eq (.blt .len (.cons (.fld (.var 0) "trees") .nil)) (.glb "MOST_STITCHES"))) (.cons (.raise "NoPiece" (.cons (.bor (.fld (.var 0) "course")) (.cons (.bor (.blt .len (.cons (.fld (.var 0) "trees") .nil))) (.cons (.str [108, 111, 110, 103]) .nil))))
    .nil) .nil)
  (.cons (.ite (.bor (.cmp .gt (.var 2) (.fld (.var 0) "still"))) (.cons (.raise "NoPiece" (.cons (.bor (.fld (.var 0) "course")) (.cons (.bor (.blt .len (.cons (.fld (.var 0) "trees") .nil))) (.cons (.str [102, 101, 119]) .nil))))
    .nil) .nil)
  (.cons (.setf 0 "still" (.bin .sub (.bor (.fld (.var 0) "still")) (.var 2)))
  (.cons (.appf 0 "trees" 1)
  .nil))))), false⟩
def fd_Telling_tell_till : FD := ⟨2, 3, [true, false],
  (.cons (.whl (.bor (.cmp .gt (.fld (.var 0) "still") (.idx (.var 1) (.int 1)))) (.cons (.set 2 (.bor (.fld (.var 0) "still")))
    (.cons (.expr (.iom "tell" 0 (.cons (.idx (.var 1) (.int 2)) .nil)))
    (.cons (.ite (.bor (.cmp .eq (.fld (.var 0) "still") (.var 2))) (.cons (.raise "NoPiece" (.cons (.bor (.fld (.var 0) "course")) (.cons (.bor (.blt .len (.cons (.fld (.var 0) "trees") .nil))) (.cons (.str [105, 100, 108, 101]) .nil))))
      .nil) .nil)
    .nil))))
  .nil), false⟩
def fd_stitch_of : FD := ⟨1, 5, [false],
  (.cons (.set 1 (.lst (.cons (.tup (.cons (.var 0) .nil)) .nil)))
  (.cons (.whl (.cmp .ne (.var 1) (.lst .nil)) (.cons (.set 2 (.lst .nil))
    (.cons (.for_ (.nm 3) (.var 1) (.cons (.exm 2 (.comp (.nm 4) (.var 3) (.call "row_in" (.cons (.var 4) .nil))))
      .nil))
    (.cons (.set 1 (.cmpi (.nm 3) (.var 2) (.cmp .ne (.var 3) (.tup .nil)) (.var 3)))
    .nil))))
  (.cons (.ret (.call "stitch_made" (.cons (.var 0) .nil)))
  .nil))), false⟩
def fd_row_in : FD := ⟨1, 1, [false],
  (.cons (.ite (.or (.not (.blt .isinstance (.cons (.var 0) (.cons (.tyn "tuple") .nil)))) (.or (.cmp .eq (.blt .len (.cons (.var 0) .nil)) (.int 0)) (.not (.blt .isinstance (.cons (.idx (.var 0) (.int 0)) (.cons (.tyn "str") .nil)))))) (.cons (.raise "NoText" (.cons (.str [110, 111, 32, 115, 116, 105, 116, 99, 104]) .nil))
    .nil) .nil)
  (.cons (.ite (.and (.cmp .in_ (.idx (.var 0) (.int 0)) (.tup (.cons (.str [116, 105, 109, 101, 115]) (.cons (.str [116, 105, 108, 108]) .nil)))) (.call "is_repeat" (.cons (.var 0) .nil))) (.cons (.ret (.idx (.var 0) (.int 2)))
    .nil) .nil)
  (.cons (.ite (.or (.and (.cmp .eq (.idx (.var 0) (.int 0)) (.str [99, 97, 98, 108, 101])) (.cmp .isnot (.call "cable_of" (.cons (.var 0) .nil)) .non)) (.and (.cmp .eq (.blt .len (.cons (.var 0) .nil)) (.int 1)) (.cmp .isnot (.call "simple_of" (.cons (.idx (.var 0) (.int 0)) .nil)) .non))) (.cons (.ret (.tup .nil))
    .nil) .nil)
  (.cons (.raise "NoText" (.cons (.str [110, 111, 32, 115, 116, 105, 116, 99, 104]) .nil))
  .nil)))), false⟩
def fd_stitch_made : FD := ⟨1, 2, [false],
  (.cons (.ite (.cmp .eq (.idx (.var 0) (.int 0)) (.str [99, 97, 98, 108, 101])) (.cons (.ret (.call "cable_of" (.cons (.var 0) .nil)))
    .nil) .nil)
  (.cons (.ite (.cmp .eq (.idx (.var 0) (.int 0)) (.str [116, 105, 109, 101, 115])) (.cons (.ret (.mk "Times" (.cons (.idx (.var 0) (.int 1)) (.cons (.comp (.nm 1) (.idx (.var 0) (.int 2)) (.call "stitch_made" (.cons (.var 1) .nil))) .nil))))
    .nil) .nil)
  (.cons (.ite (.cmp .eq (.idx (.var 0) (.int 0)) (.str [116, 105, 108, 108])) (.cons (.ret (.mk "Till" (.cons (.idx (.var 0) (.int 1)) (.cons (.comp (.nm 1) (.idx (.var 0) (.int 2)) (.call "stitch_made" (.cons (.var 1) .nil))) .nil))))
    .nil) .nil)
  (.cons (.ret (.call "simple_of" (.cons (.idx (.var 0) (.int 0)) .nil)))
  .nil)))), false⟩
def fd_cable_of : FD := ⟨1, 1, [false],
  (.cons (.ite (.or (.cmp .ne (.blt .len (.cons (.var 0) .nil)) (.int 4)) (.or (.not (.call "is_between" (.cons (.idx (.var 0) (.int 1)) (.cons (.int 1) (.cons (.glb "MOST_CROSSED") .nil))))) (.not (.call "is_between" (.cons (.idx (.var 0) (.int 3)) (.cons (.int 1) (.cons (.glb "MOST_CROSSED") .nil))))))) (.cons (.ret .non)
    .nil) .nil)
  (.cons (.ite (.not (.blt .isinstance (.cons (.idx (.var 0) (.int 2)) (.cons (.tyn "bool") .nil)))) (.cons (.ret .non)
    .nil) .nil)
  (.cons (.ret (.mk "Cable" (.cons (.idx (.var 0) (.int 1)) (.cons (.idx (.var 0) (.int 2)) (.cons (.idx (.var 0) (.int 3)) .nil)))))
  .nil))), false⟩
def fd_is_repeat : FD := ⟨1, 1, [false],
  (.cons (.ite (.or (.cmp .ne (.blt .len (.cons (.var 0) .nil)) (.int 3)) (.or (.not (.blt .isinstance (.cons (.idx (.var 0) (.int 2)) (.cons (.tyn "tuple") .nil)))) (.cmp .eq (.blt .len (.cons (.idx (.var 0) (.int 2)) .nil)) (.int 0)))) (.cons (.ret (.bl false))
    .nil) .nil)
  (.cons (.ret (.call "is_between" (.cons (.idx (.var 0) (.int 1)) (.cons (.int 0) (.cons (.idx (.disp [.s [116, 105, 109, 101, 115], .s [116, 105, 108, 108]] (.cons (.glb "MOST_TIMES") (.cons (.glb "MOST_TILL") .nil))) (.idx (.var 0) (.int 0))) .nil)))))
  .nil)), false⟩
def fd_simple_of : FD := ⟨1, 1, [false],
  (.cons (.ite (.cmp .eq (.var 0) (.str [107])) (.cons (.ret (.mk0 "Plain"))
    .nil) .nil)
  (.cons (.ite (.cmp .eq (.var 0) (.str [112])) (.cons (.ret (.mk0 "Purl"))
    .nil) .nil)
  (.cons (.ite (.cmp .eq (.var 0) (.str [121, 111])) (.cons (.ret (.mk0 "Over"))
    .nil) .nil)
  (.cons (.ite (.cmp .eq (.var 0) (.str [107, 50])) (.cons (.ret (.mk0 "RightTwo"))
    .nil) .nil)
  (.cons (.ite (.cmp .eq (.var 0) (.str [115, 50])) (.cons (.ret (.mk0 "LeftTwo"))
    .nil) .nil)
  (.cons (.ret .non)
  .nil)))))), false⟩
def fd_Repeatu_initu : FD := ⟨3, 3, [true, false, false],
  (.cons (.setf 0 "times_told" (.var 1))
  (.cons (.setf 0 "row" (.var 2))
  .nil)), false⟩
def fd_Repeat_takes : FD := ⟨1, 1, [false],
  (.cons (.ret .non)
  .nil), false⟩
def fd_is_between : FD := ⟨3, 3, [false, false, false],
  (.cons (.ret (.and (.blt .isinstance (.cons (.var 0) (.cons (.tyn "int") .nil))) (.and (.not (.blt .isinstance (.cons (.var 0) (.cons (.tyn "bool") .nil)))) (.chn .le .le (.var 1) (.var 0) (.var 2)))))
  .nil), false⟩
def fd_Cableu_initu : FD := ⟨4, 4, [true, false, false, false],
  (.cons (.setf 0 "first" (.var 1))
  (.cons (.setf 0 "front" (.var 2))
  (.cons (.setf 0 "second" (.var 3))
  .nil))), false⟩
def fd_Cable_takes : FD := ⟨1, 1, [false],
  (.cons (.ret (.bin .add (.fld (.var 0) "first") (.fld (.var 0) "second")))
  .nil), false⟩
def fd_LeftTwo_takes : FD := ⟨1, 1, [false],
  (.cons (.ret (.int 2))
  .nil), false⟩
def fd_Over_takes : FD := ⟨1, 1, [false],
  (.cons (.ret (.int 0))
  .nil), false⟩
def fd_Stitch_takes : FD := ⟨1, 1, [false],
  (.cons (.ret (.int 1))
  .nil), false⟩
def fd_RightTwo_takes : FD := ⟨1, 1, [false],
  (.cons (.ret (.int 2))
  .nil), false⟩
def ptL : List (String × FD) := [("law", fd_law), ("_law_class", fd__law_class), ("_law_draws", fd__law_draws), ("_law_tell", fd__law_tell), ("_law_trees", fd__law_trees), ("told_out", fd_told_out), ("_law_takes", fd__law_takes), ("_law_simple", fd__law_simple), ("told_out_at", fd_told_out_at), ("Telling.__init__", fd_Tellingu_initu), ("Telling.tell", fd_Telling_tell), ("Telling.tell_one", fd_Telling_tell_one), ("Telling.tell_till", fd_Telling_tell_till), ("stitch_of", fd_stitch_of), ("row_in", fd_row_in), ("stitch_made", fd_stitch_made), ("cable_of", fd_cable_of), ("is_repeat", fd_is_repeat), ("simple_of", fd_simple_of), ("Repeat.__init__", fd_Repeatu_initu), ("Repeat.takes", fd_Repeat_takes), ("is_between", fd_is_between), ("Cable.__init__", fd_Cableu_initu), ("Cable.takes", fd_Cable_takes), ("LeftTwo.takes", fd_LeftTwo_takes), ("Over.takes", fd_Over_takes), ("Stitch.takes", fd_Stitch_takes), ("RightTwo.takes", fd_RightTwo_takes)]
def pt : String → Option FD := fun q => ptL.lookup q
def tbG : List (String × D) := [("NoRow", .cls "NoRow"), ("NoName", .cls "NoName"), ("NoPiece", .cls "NoPiece"), ("NoText", .cls "NoText"), ("TooFar", .cls "TooFar"), ("TooMany", .cls "TooMany"), ("NoNeedle", .cls "NoNeedle"), ("NoLoop", .cls "NoLoop"), ("NoWay", .cls "NoWay"), ("NoYarn", .cls "NoYarn"), ("NoDeed", .cls "NoDeed"), ("MOST_STITCHES", .int 40), ("MOST_CROSSED", .int 3), ("MOST_TILL", .int 15), ("MOST_TIMES", .int 20)]
def tbM : List ((String × String) × String) := [(("Cable", "takes"), "Cable.takes"), (("LeftTwo", "takes"), "LeftTwo.takes"), (("Over", "takes"), "Over.takes"), (("Plain", "takes"), "Stitch.takes"), (("Purl", "takes"), "Stitch.takes"), (("RightTwo", "takes"), "RightTwo.takes"), (("Telling", "tell"), "Telling.tell"), (("Telling", "tell_one"), "Telling.tell_one"), (("Telling", "tell_till"), "Telling.tell_till"), (("Till", "takes"), "Repeat.takes"), (("Times", "takes"), "Repeat.takes")]
def tbI : List (String × String) := [("Cable", "Cable.__init__"), ("Telling", "Telling.__init__"), ("Till", "Repeat.__init__"), ("Times", "Repeat.__init__")]
def tbN : List String := ["LeftTwo", "Over", "Plain", "Purl", "RightTwo"]
def tbS : List ((String × String) × Bool) := []
def tbF : List String := ["law", "_law_class", "_law_draws", "_law_tell", "_law_trees", "told_out", "_law_takes", "_law_simple", "told_out_at", "stitch_of", "row_in", "stitch_made", "cable_of", "is_repeat", "simple_of", "is_between"]
def tbA : List (String × String) := [("Cable", "first"), ("Cable", "front"), ("Cable", "second"), ("Telling", "still"), ("Telling", "course"), ("Telling", "trees"), ("Till", "times_told"), ("Till", "row"), ("Times", "times_told"), ("Times", "row")]
def tbXL : List (String × Nat) := [("NoPiece", 2), ("NoText", 1)]
def tbXE : List String := ["LoopError"]
def tbXN : List (String × Nat) := [("NoPiece", 3), ("NoText", 1)]
def tbXI : List ((String × String) × Bool) := [(("NoPiece", "LoopError"), true), (("NoPiece", "NoDeed"), false), (("NoPiece", "NoLoop"), false), (("NoPiece", "NoName"), false), (("NoPiece", "NoNeedle"), false), (("NoPiece", "NoPiece"), true), (("NoPiece", "NoRow"), false), (("NoPiece", "NoText"), false), (("NoPiece", "NoWay"), false), (("NoPiece", "NoYarn"), false), (("NoPiece", "TooFar"), false), (("NoPiece", "TooMany"), false), (("NoText", "LoopError"), true), (("NoText", "NoDeed"), false), (("NoText", "NoLoop"), false), (("NoText", "NoName"), false), (("NoText", "NoNeedle"), false), (("NoText", "NoPiece"), false), (("NoText", "NoRow"), false), (("NoText", "NoText"), true), (("NoText", "NoWay"), false), (("NoText", "NoYarn"), false), (("NoText", "TooFar"), false), (("NoText", "TooMany"), false)]
def tbXF : List (String × String) := [("NoPiece", "number"), ("NoPiece", "why"), ("NoPiece", "stitch"), ("NoPiece", "course"), ("NoText", "number"), ("NoText", "line")]
def tb : T where
  glob := fun x => tbG.lookup x
  meth := fun c m => tbM.lookup (c, m)
  init := fun c => tbI.lookup c
  ini0 := fun c => tbN.contains c
  isa := fun c C => tbS.lookup (c, C)
  isFn := fun f => tbF.contains f
  fld := fun c f => tbA.contains (c, f)
  xc := fun c xs => match tbXL.lookup c with
    | some 0 => xcL c xs
    | some 1 => xcT c xs
    | some 2 => xcP c xs
    | _ => none
  xn := fun c n => tbXN.contains (c, n)
  isx := fun c C => tbXI.lookup (c, C)
  fldx := fun c f => tbXF.contains (c, f)
  exn := fun c => tbXE.contains c
@[simp] theorem pt_law : pt "law" = some fd_law := rfl
@[simp] theorem pt__law_class : pt "_law_class" = some fd__law_class := rfl
@[simp] theorem pt__law_draws : pt "_law_draws" = some fd__law_draws := rfl
@[simp] theorem pt__law_tell : pt "_law_tell" = some fd__law_tell := rfl
@[simp] theorem pt__law_trees : pt "_law_trees" = some fd__law_trees := rfl
@[simp] theorem pt_told_out : pt "told_out" = some fd_told_out := rfl
@[simp] theorem pt__law_takes : pt "_law_takes" = some fd__law_takes := rfl
@[simp] theorem pt__law_simple : pt "_law_simple" = some fd__law_simple := rfl
@[simp] theorem pt_told_out_at : pt "told_out_at" = some fd_told_out_at := rfl
@[simp] theorem pt_Tellingu_initu : pt "Telling.__init__" = some fd_Tellingu_initu := rfl
@[simp] theorem pt_Telling_tell : pt "Telling.tell" = some fd_Telling_tell := rfl
@[simp] theorem pt_Telling_tell_one : pt "Telling.tell_one" = some fd_Telling_tell_one := rfl
@[simp] theorem pt_Telling_tell_till : pt "Telling.tell_till" = some fd_Telling_tell_till := rfl
@[simp] theorem pt_stitch_of : pt "stitch_of" = some fd_stitch_of := rfl
@[simp] theorem pt_row_in : pt "row_in" = some fd_row_in := rfl
@[simp] theorem pt_stitch_made : pt "stitch_made" = some fd_stitch_made := rfl
@[simp] theorem pt_cable_of : pt "cable_of" = some fd_cable_of := rfl
@[simp] theorem pt_is_repeat : pt "is_repeat" = some fd_is_repeat := rfl
@[simp] theorem pt_simple_of : pt "simple_of" = some fd_simple_of := rfl
@[simp] theorem pt_Repeatu_initu : pt "Repeat.__init__" = some fd_Repeatu_initu := rfl
@[simp] theorem pt_Repeat_takes : pt "Repeat.takes" = some fd_Repeat_takes := rfl
@[simp] theorem pt_is_between : pt "is_between" = some fd_is_between := rfl
@[simp] theorem pt_Cableu_initu : pt "Cable.__init__" = some fd_Cableu_initu := rfl
@[simp] theorem pt_Cable_takes : pt "Cable.takes" = some fd_Cable_takes := rfl
@[simp] theorem pt_LeftTwo_takes : pt "LeftTwo.takes" = some fd_LeftTwo_takes := rfl
@[simp] theorem pt_Over_takes : pt "Over.takes" = some fd_Over_takes := rfl
@[simp] theorem pt_Stitch_takes : pt "Stitch.takes" = some fd_Stitch_takes := rfl
@[simp] theorem pt_RightTwo_takes : pt "RightTwo.takes" = some fd_RightTwo_takes := rfl
@[simp] theorem tg_0 : tb.glob "NoRow" = some (.cls "NoRow") := rfl
@[simp] theorem tg_1 : tb.glob "NoName" = some (.cls "NoName") := rfl
@[simp] theorem tg_2 : tb.glob "NoPiece" = some (.cls "NoPiece") := rfl
@[simp] theorem tg_3 : tb.glob "NoText" = some (.cls "NoText") := rfl
@[simp] theorem tg_4 : tb.glob "TooFar" = some (.cls "TooFar") := rfl
@[simp] theorem tg_5 : tb.glob "TooMany" = some (.cls "TooMany") := rfl
@[simp] theorem tg_6 : tb.glob "NoNeedle" = some (.cls "NoNeedle") := rfl
@[simp] theorem tg_7 : tb.glob "NoLoop" = some (.cls "NoLoop") := rfl
@[simp] theorem tg_8 : tb.glob "NoWay" = some (.cls "NoWay") := rfl
@[simp] theorem tg_9 : tb.glob "NoYarn" = some (.cls "NoYarn") := rfl
@[simp] theorem tg_10 : tb.glob "NoDeed" = some (.cls "NoDeed") := rfl
@[simp] theorem tg_11 : tb.glob "MOST_STITCHES" = some (.int 40) := rfl
@[simp] theorem tg_12 : tb.glob "MOST_CROSSED" = some (.int 3) := rfl
@[simp] theorem tg_13 : tb.glob "MOST_TILL" = some (.int 15) := rfl
@[simp] theorem tg_14 : tb.glob "MOST_TIMES" = some (.int 20) := rfl
@[simp] theorem tm_0 : tb.meth "Cable" "takes" = some "Cable.takes" := rfl
@[simp] theorem tm_1 : tb.meth "LeftTwo" "takes" = some "LeftTwo.takes" := rfl
@[simp] theorem tm_2 : tb.meth "Over" "takes" = some "Over.takes" := rfl
@[simp] theorem tm_3 : tb.meth "Plain" "takes" = some "Stitch.takes" := rfl
@[simp] theorem tm_4 : tb.meth "Purl" "takes" = some "Stitch.takes" := rfl
@[simp] theorem tm_5 : tb.meth "RightTwo" "takes" = some "RightTwo.takes" := rfl
@[simp] theorem tm_6 : tb.meth "Telling" "tell" = some "Telling.tell" := rfl
@[simp] theorem tm_7 : tb.meth "Telling" "tell_one" = some "Telling.tell_one" := rfl
@[simp] theorem tm_8 : tb.meth "Telling" "tell_till" = some "Telling.tell_till" := rfl
@[simp] theorem tm_9 : tb.meth "Till" "takes" = some "Repeat.takes" := rfl
@[simp] theorem tm_10 : tb.meth "Times" "takes" = some "Repeat.takes" := rfl
@[simp] theorem ti_0 : tb.init "Cable" = some "Cable.__init__" := rfl
@[simp] theorem ti_1 : tb.init "Telling" = some "Telling.__init__" := rfl
@[simp] theorem ti_2 : tb.init "Till" = some "Repeat.__init__" := rfl
@[simp] theorem ti_3 : tb.init "Times" = some "Repeat.__init__" := rfl
@[simp] theorem tf_0 : tb.isFn "law" = true := rfl
@[simp] theorem tf_1 : tb.isFn "_law_class" = true := rfl
@[simp] theorem tf_2 : tb.isFn "_law_draws" = true := rfl
@[simp] theorem tf_3 : tb.isFn "_law_tell" = true := rfl
@[simp] theorem tf_4 : tb.isFn "_law_trees" = true := rfl
@[simp] theorem tf_5 : tb.isFn "told_out" = true := rfl
@[simp] theorem tf_6 : tb.isFn "_law_takes" = true := rfl
@[simp] theorem tf_7 : tb.isFn "_law_simple" = true := rfl
@[simp] theorem tf_8 : tb.isFn "told_out_at" = true := rfl
@[simp] theorem tf_9 : tb.isFn "stitch_of" = true := rfl
@[simp] theorem tf_10 : tb.isFn "row_in" = true := rfl
@[simp] theorem tf_11 : tb.isFn "stitch_made" = true := rfl
@[simp] theorem tf_12 : tb.isFn "cable_of" = true := rfl
@[simp] theorem tf_13 : tb.isFn "is_repeat" = true := rfl
@[simp] theorem tf_14 : tb.isFn "simple_of" = true := rfl
@[simp] theorem tf_15 : tb.isFn "is_between" = true := rfl
@[simp] theorem ta_0 : tb.fld "Cable" "first" = true := rfl
@[simp] theorem ta_1 : tb.fld "Cable" "front" = true := rfl
@[simp] theorem ta_2 : tb.fld "Cable" "second" = true := rfl
@[simp] theorem ta_3 : tb.fld "Telling" "still" = true := rfl
@[simp] theorem ta_4 : tb.fld "Telling" "course" = true := rfl
@[simp] theorem ta_5 : tb.fld "Telling" "trees" = true := rfl
@[simp] theorem ta_6 : tb.fld "Till" "times_told" = true := rfl
@[simp] theorem ta_7 : tb.fld "Till" "row" = true := rfl
@[simp] theorem ta_8 : tb.fld "Times" "times_told" = true := rfl
@[simp] theorem ta_9 : tb.fld "Times" "row" = true := rfl
@[simp] theorem txi_0 : tb.isx "NoPiece" "LoopError" = some true := rfl
@[simp] theorem txi_1 : tb.isx "NoPiece" "NoDeed" = some false := rfl
@[simp] theorem txi_2 : tb.isx "NoPiece" "NoLoop" = some false := rfl
@[simp] theorem txi_3 : tb.isx "NoPiece" "NoName" = some false := rfl
@[simp] theorem txi_4 : tb.isx "NoPiece" "NoNeedle" = some false := rfl
@[simp] theorem txi_5 : tb.isx "NoPiece" "NoPiece" = some true := rfl
@[simp] theorem txi_6 : tb.isx "NoPiece" "NoRow" = some false := rfl
@[simp] theorem txi_7 : tb.isx "NoPiece" "NoText" = some false := rfl
@[simp] theorem txi_8 : tb.isx "NoPiece" "NoWay" = some false := rfl
@[simp] theorem txi_9 : tb.isx "NoPiece" "NoYarn" = some false := rfl
@[simp] theorem txi_10 : tb.isx "NoPiece" "TooFar" = some false := rfl
@[simp] theorem txi_11 : tb.isx "NoPiece" "TooMany" = some false := rfl
@[simp] theorem txi_12 : tb.isx "NoText" "LoopError" = some true := rfl
@[simp] theorem txi_13 : tb.isx "NoText" "NoDeed" = some false := rfl
@[simp] theorem txi_14 : tb.isx "NoText" "NoLoop" = some false := rfl
@[simp] theorem txi_15 : tb.isx "NoText" "NoName" = some false := rfl
@[simp] theorem txi_16 : tb.isx "NoText" "NoNeedle" = some false := rfl
@[simp] theorem txi_17 : tb.isx "NoText" "NoPiece" = some false := rfl
@[simp] theorem txi_18 : tb.isx "NoText" "NoRow" = some false := rfl
@[simp] theorem txi_19 : tb.isx "NoText" "NoText" = some true := rfl
@[simp] theorem txi_20 : tb.isx "NoText" "NoWay" = some false := rfl
@[simp] theorem txi_21 : tb.isx "NoText" "NoYarn" = some false := rfl
@[simp] theorem txi_22 : tb.isx "NoText" "TooFar" = some false := rfl
@[simp] theorem txi_23 : tb.isx "NoText" "TooMany" = some false := rfl
@[simp] theorem txn_0 : tb.xn "NoPiece" 3 = true := rfl
@[simp] theorem txn_1 : tb.xn "NoText" 1 = true := rfl
@[simp] theorem txc_0 (xs : List D) : tb.xc "NoPiece" xs = xcP "NoPiece" xs := rfl
@[simp] theorem txc_1 (xs : List D) : tb.xc "NoText" xs = xcT "NoText" xs := rfl
@[simp] theorem txf_0 : tb.fldx "NoPiece" "number" = true := rfl
@[simp] theorem txf_1 : tb.fldx "NoPiece" "why" = true := rfl
@[simp] theorem txf_2 : tb.fldx "NoPiece" "stitch" = true := rfl
@[simp] theorem txf_3 : tb.fldx "NoPiece" "course" = true := rfl
@[simp] theorem txf_4 : tb.fldx "NoText" "number" = true := rfl
@[simp] theorem txf_5 : tb.fldx "NoText" "line" = true := rfl
end Kn

set_option Elab.async false
set_option linter.all false
set_option maxRecDepth 100000
set_option maxHeartbeats 4000000
/-! the top (printed by gen.py). -/
namespace Kn
open PySem L2
theorem cx_false {P : Program} {w : World} {H : Hp} {s : Shared} {e : Value} {s' : Shared} {o : List PySem.Env} (h : L2.CX P w o H s (fun _ _ _ => False) e s') : False := by
  obtain ⟨_, _, _, _, _, _, _, _, _, _, _, _, z⟩ := h
  exact z
theorem kit_c {K : PySem.W.Frag} {c C : Addr} {b : Bool} (h1 : PySem.W.isClsIn K C = true) (h2 : PySem.W.typeIn K (.ref C) = some (.type "type")) (h3 : PySem.W.subIn K (.ref c) (.ref C) = some b) : PySem.W.kitCls K (.ref c) (.ref C) = some b := by
  have e : (PySem.W.clsIn K C).isSome = true := h1
  unfold PySem.W.kitCls
  simp only [e, h2, Bool.true_and, beq_self_eq_true, if_true]
  exact h3
theorem kit_t {K : PySem.W.Frag} {c C : Addr} (h1 : PySem.W.isClsIn K C = true) (h2 : PySem.W.typeIn K (.ref C) = some (.type "type")) (h3 : PySem.W.subIn K (.ref c) (.ref C) = some true) : PySem.W.kitOne K (.ref c) (.ref C) = some true := by
  unfold PySem.W.kitOne
  split
  · rfl
  · exact kit_c h1 h2 h3
theorem kit_f {K : PySem.W.Frag} {c C : Addr} (h1 : PySem.W.isClsIn K C = true) (h2 : PySem.W.typeIn K (.ref C) = some (.type "type")) (h3 : PySem.W.subIn K (.ref c) (.ref C) = some false) (h4 : (Value.ref c == Value.ref C) = false) : PySem.W.kitOne K (.ref c) (.ref C) = some false := by
  unfold PySem.W.kitOne
  rw [if_neg (by rw [h4]; exact Bool.false_ne_true)]
  exact kit_c h1 h2 h3
theorem mem_lk {α β : Type} [BEq α] [LawfulBEq α] {a : α} {b : β} : ∀ {l : List (α × β)}, l.lookup a = some b → (a, b) ∈ l
  | [], h => by simp at h
  | (k, v) :: r, h => by
    rw [List.lookup_cons] at h
    cases hk : a == k with
    | true =>
      rw [hk] at h
      cases h
      rw [eq_of_beq hk]
      exact List.mem_cons_self
    | false =>
      rw [hk] at h
      exact List.mem_cons_of_mem _ (mem_lk h)
theorem law_sp {K : PySem.W.Frag} {cl : String → Option Addr} {t : T} {PT : String → Option FD} {n : Nat} {vs : List V} {H : Hp} {Q : VK} {E : XK} (LT : ∀ ns : List Int, ns.length ≤ 63 → ∃ outs, callN t PT n "law" [.d (.arg ns)] = .ok (.d (.bl true)) outs)
    (h : ∃ (a : Addr) (ns : List Int), vs = [.ref a] ∧ SqL K H a (ns.map V.int) ∧ ns.length ≤ 63 ∧ ∀ H', Q (.bl true) H') : spF K cl (callN t PT n) "law" vs H Q E := by
  obtain ⟨a, ns, rfl, hS, hl, q⟩ := h
  obtain ⟨outs, e⟩ := LT ns hl
  refine ⟨fun _ => False, [.d (.arg ns)], [], ⟨[], [], rfl, fun a => by simp, (fun a h => nomatch h), fun a h => False.elim h, ?_, ORs.nil, (fun p h => nomatch h)⟩, ?_⟩
  · rw [List.map_cons, List.map_cons]
    unfold OE
    refine ⟨_, _, [], [], rfl, rfl, ⟨.ref a, rfl, ?_⟩, by unfold List.map OE; exact ⟨rfl, rfl⟩⟩
    unfold OR VR
    refine ⟨⟨a, rfl, ?_⟩, rfl⟩
    rcases hS with h | h
    · exact .inr ⟨h, fun z => by rcases z with z | z <;> cases z⟩
    · exact .inl (.inr h)
  · rw [e]
    intro v H' f' _ r'
    obtain ⟨fe, ft, _, _, _, _, _, q2, _⟩ := r'
    unfold ORs at q2
    obtain ⟨w', ws', f1, f2, e1, e2, h1, h2⟩ := q2
    cases e1
    unfold OR at h1
    rw [h1.1.blE]
    exact q H'
/-! ### what the top has written -/
def topS (i : Nat) : Stmt := PySem.Challenge.pw_loopmill_k54_told_out.main.body.getD i (.Pass ⟨0, 0, 0, 0⟩)
def inCls (s : Stmt) : List Stmt := match s with
  | .ClassDef _ _ _ b _ _ _ _ _ _ _ => b
  | _ => []
abbrev s_law : Stmt := topS 53
def N_law : List Str := ["_law_script", "_law_draws_here", "_law_columns", "_law_trees_here", "_law_inner", "_law_more", "_law_left", "_law_found", "_law_fault", "_law_refusal", "_law_told", "_law_e"]
def P_law : List Str := ["_law_script"]
theorem sc_law : FnScope N_law P_law (defScope s_law) := C8.fnScope_by (by decide +kernel)
theorem ck_law : ckL N_law fd_law.body (defScope s_law) (defBody s_law) = true := by decide +kernel
abbrev s__law_class : Stmt := topS 51
def N__law_class : List Str := ["_law_e", "_law_some", "_law_names"]
def P__law_class : List Str := ["_law_e"]
theorem sc__law_class : FnScope N__law_class P__law_class (defScope s__law_class) := C8.fnScope_by (by decide +kernel)
theorem ck__law_class : ckL N__law_class fd__law_class.body (defScope s__law_class) (defBody s__law_class) = true := by decide +kernel
abbrev s__law_draws : Stmt := topS 43
def N__law_draws : List Str := ["_law_script", "_law_many", "_law_found", "_law_more", "_law_k", "_law_cell", "_law_mixed"]
def P__law_draws : List Str := ["_law_script", "_law_many"]
theorem sc__law_draws : FnScope N__law_draws P__law_draws (defScope s__law_draws) := C8.fnScope_by (by decide +kernel)
theorem ck__law_draws : ckL N__law_draws fd__law_draws.body (defScope s__law_draws) (defBody s__law_draws) = true := by decide +kernel
abbrev s__law_tell : Stmt := topS 52
def N__law_tell : List Str := ["_law_trees_here", "_law_left", "_law_found", "_law_tree", "_law_fault", "_law_turn", "_law_before"]
def P__law_tell : List Str := ["_law_trees_here", "_law_left", "_law_found"]
theorem sc__law_tell : FnScope N__law_tell P__law_tell (defScope s__law_tell) := C8.fnScope_by (by decide +kernel)
theorem ck__law_tell : ckL N__law_tell fd__law_tell.body (defScope s__law_tell) (defBody s__law_tell) = true := by decide +kernel
abbrev s__law_trees : Stmt := topS 50
def N__law_trees : List Str := ["_law_draws_here", "_law_many", "_law_deep", "_law_found", "_law_k", "_law_draw", "_law_row", "_law_j"]
def P__law_trees : List Str := ["_law_draws_here", "_law_many", "_law_deep"]
theorem sc__law_trees : FnScope N__law_trees P__law_trees (defScope s__law_trees) := C8.fnScope_by (by decide +kernel)
theorem ck__law_trees : ckL N__law_trees fd__law_trees.body (defScope s__law_trees) (defBody s__law_trees) = true := by decide +kernel
abbrev s_told_out : Stmt := topS 41
def N_told_out : List Str := ["trees", "columns"]
def P_told_out : List Str := ["trees", "columns"]
theorem sc_told_out : FnScope N_told_out P_told_out (defScope s_told_out) := C8.fnScope_by (by decide +kernel)
theorem ck_told_out : ckL N_told_out fd_told_out.body (defScope s_told_out) (defBody s_told_out) = true := by decide +kernel
abbrev s__law_takes : Stmt := topS 45
def N__law_takes : List Str := ["_law_tree"]
def P__law_takes : List Str := ["_law_tree"]
theorem sc__law_takes : FnScope N__law_takes P__law_takes (defScope s__law_takes) := C8.fnScope_by (by decide +kernel)
theorem ck__law_takes : ckL N__law_takes fd__law_takes.body (defScope s__law_takes) (defBody s__law_takes) = true := by decide +kernel
abbrev s__law_simple : Stmt := topS 44
def N__law_simple : List Str := ["_law_draw", "_law_taking", "_law_some", "_law_tree"]
def P__law_simple : List Str := ["_law_draw", "_law_taking"]
theorem sc__law_simple : FnScope N__law_simple P__law_simple (defScope s__law_simple) := C8.fnScope_by (by decide +kernel)
theorem ck__law_simple : ckL N__law_simple fd__law_simple.body (defScope s__law_simple) (defBody s__law_simple) = true := by decide +kernel
abbrev s_told_out_at : Stmt := topS 40
def N_told_out_at : List Str := ["trees", "columns", "course", "telling"]
def P_told_out_at : List Str := ["trees", "columns", "course"]
theorem sc_told_out_at : FnScope N_told_out_at P_told_out_at (defScope s_told_out_at) := C8.fnScope_by (by decide +kernel)
theorem ck_told_out_at : ckL N_told_out_at fd_told_out_at.body (defScope s_told_out_at) (defBody s_told_out_at) = true := by decide +kernel
abbrev s_Tellingu_initu : Stmt := (inCls (topS 39)).getD 0 (.Pass ⟨0, 0, 0, 0⟩)
def N_Tellingu_initu : List Str := ["self", "columns", "course"]
def P_Tellingu_initu : List Str := ["self", "columns", "course"]
theorem sc_Tellingu_initu : FnScope N_Tellingu_initu P_Tellingu_initu (defScope s_Tellingu_initu) := C8.fnScope_by (by decide +kernel)
theorem ck_Tellingu_initu : ckL N_Tellingu_initu fd_Tellingu_initu.body (defScope s_Tellingu_initu) (defBody s_Tellingu_initu) = true := by decide +kernel
abbrev s_Telling_tell : Stmt := (inCls (topS 39)).getD 1 (.Pass ⟨0, 0, 0, 0⟩)
def N_Telling_tell : List Str := ["self", "trees", "tree", "turn"]
def P_Telling_tell : List Str := ["self", "trees"]
theorem sc_Telling_tell : FnScope N_Telling_tell P_Telling_tell (defScope s_Telling_tell) := C8.fnScope_by (by decide +kernel)
theorem ck_Telling_tell : ckL N_Telling_tell fd_Telling_tell.body (defScope s_Telling_tell) (defBody s_Telling_tell) = true := by decide +kernel
abbrev s_Telling_tell_one : Stmt := (inCls (topS 39)).getD 3 (.Pass ⟨0, 0, 0, 0⟩)
def N_Telling_tell_one : List Str := ["self", "tree", "many"]
def P_Telling_tell_one : List Str := ["self", "tree"]
theorem sc_Telling_tell_one : FnScope N_Telling_tell_one P_Telling_tell_one (defScope s_Telling_tell_one) := C8.fnScope_by (by decide +kernel)
theorem ck_Telling_tell_one : ckL N_Telling_tell_one fd_Telling_tell_one.body (defScope s_Telling_tell_one) (defBody s_Telling_tell_one) = true := by decide +kernel
abbrev s_Telling_tell_till : Stmt := (inCls (topS 39)).getD 2 (.Pass ⟨0, 0, 0, 0⟩)
def N_Telling_tell_till : List Str := ["self", "tree", "before"]
def P_Telling_tell_till : List Str := ["self", "tree"]
theorem sc_Telling_tell_till : FnScope N_Telling_tell_till P_Telling_tell_till (defScope s_Telling_tell_till) := C8.fnScope_by (by decide +kernel)
theorem ck_Telling_tell_till : ckL N_Telling_tell_till fd_Telling_tell_till.body (defScope s_Telling_tell_till) (defBody s_Telling_tell_till) = true := by decide +kernel
abbrev s_stitch_of : Stmt := topS 36
def N_stitch_of : List Str := ["tree", "rows", "below", "row", "one"]
def P_stitch_of : List Str := ["tree"]
theorem sc_stitch_of : FnScope N_stitch_of P_stitch_of (defScope s_stitch_of) := C8.fnScope_by (by decide +kernel)
theorem ck_stitch_of : ckL N_stitch_of fd_stitch_of.body (defScope s_stitch_of) (defBody s_stitch_of) = true := by decide +kernel
abbrev s_row_in : Stmt := topS 34
def N_row_in : List Str := ["tree"]
def P_row_in : List Str := ["tree"]
theorem sc_row_in : FnScope N_row_in P_row_in (defScope s_row_in) := C8.fnScope_by (by decide +kernel)
theorem ck_row_in : ckL N_row_in fd_row_in.body (defScope s_row_in) (defBody s_row_in) = true := by decide +kernel
abbrev s_stitch_made : Stmt := topS 35
def N_stitch_made : List Str := ["tree", "one"]
def P_stitch_made : List Str := ["tree"]
theorem sc_stitch_made : FnScope N_stitch_made P_stitch_made (defScope s_stitch_made) := C8.fnScope_by (by decide +kernel)
theorem ck_stitch_made : ckL N_stitch_made fd_stitch_made.body (defScope s_stitch_made) (defBody s_stitch_made) = true := by decide +kernel
abbrev s_cable_of : Stmt := topS 32
def N_cable_of : List Str := ["tree"]
def P_cable_of : List Str := ["tree"]
theorem sc_cable_of : FnScope N_cable_of P_cable_of (defScope s_cable_of) := C8.fnScope_by (by decide +kernel)
theorem ck_cable_of : ckL N_cable_of fd_cable_of.body (defScope s_cable_of) (defBody s_cable_of) = true := by decide +kernel
abbrev s_is_repeat : Stmt := topS 33
def N_is_repeat : List Str := ["tree"]
def P_is_repeat : List Str := ["tree"]
theorem sc_is_repeat : FnScope N_is_repeat P_is_repeat (defScope s_is_repeat) := C8.fnScope_by (by decide +kernel)
theorem ck_is_repeat : ckL N_is_repeat fd_is_repeat.body (defScope s_is_repeat) (defBody s_is_repeat) = true := by decide +kernel
abbrev s_simple_of : Stmt := topS 31
def N_simple_of : List Str := ["word"]
def P_simple_of : List Str := ["word"]
theorem sc_simple_of : FnScope N_simple_of P_simple_of (defScope s_simple_of) := C8.fnScope_by (by decide +kernel)
theorem ck_simple_of : ckL N_simple_of fd_simple_of.body (defScope s_simple_of) (defBody s_simple_of) = true := by decide +kernel
abbrev s_Repeatu_initu : Stmt := (inCls (topS 27)).getD 0 (.Pass ⟨0, 0, 0, 0⟩)
def N_Repeatu_initu : List Str := ["self", "many", "row"]
def P_Repeatu_initu : List Str := ["self", "many", "row"]
theorem sc_Repeatu_initu : FnScope N_Repeatu_initu P_Repeatu_initu (defScope s_Repeatu_initu) := C8.fnScope_by (by decide +kernel)
theorem ck_Repeatu_initu : ckL N_Repeatu_initu fd_Repeatu_initu.body (defScope s_Repeatu_initu) (defBody s_Repeatu_initu) = true := by decide +kernel
abbrev s_Repeat_takes : Stmt := (inCls (topS 27)).getD 1 (.Pass ⟨0, 0, 0, 0⟩)
def N_Repeat_takes : List Str := ["self"]
def P_Repeat_takes : List Str := ["self"]
theorem sc_Repeat_takes : FnScope N_Repeat_takes P_Repeat_takes (defScope s_Repeat_takes) := C8.fnScope_by (by decide +kernel)
theorem ck_Repeat_takes : ckL N_Repeat_takes fd_Repeat_takes.body (defScope s_Repeat_takes) (defBody s_Repeat_takes) = true := by decide +kernel
abbrev s_is_between : Stmt := topS 15
def N_is_between : List Str := ["thing", "low", "high"]
def P_is_between : List Str := ["thing", "low", "high"]
theorem sc_is_between : FnScope N_is_between P_is_between (defScope s_is_between) := C8.fnScope_by (by decide +kernel)
theorem ck_is_between : ckL N_is_between fd_is_between.body (defScope s_is_between) (defBody s_is_between) = true := by decide +kernel
abbrev s_Cableu_initu : Stmt := (inCls (topS 26)).getD 0 (.Pass ⟨0, 0, 0, 0⟩)
def N_Cableu_initu : List Str := ["self", "first", "front", "second"]
def P_Cableu_initu : List Str := ["self", "first", "front", "second"]
theorem sc_Cableu_initu : FnScope N_Cableu_initu P_Cableu_initu (defScope s_Cableu_initu) := C8.fnScope_by (by decide +kernel)
theorem ck_Cableu_initu : ckL N_Cableu_initu fd_Cableu_initu.body (defScope s_Cableu_initu) (defBody s_Cableu_initu) = true := by decide +kernel
abbrev s_Cable_takes : Stmt := (inCls (topS 26)).getD 3 (.Pass ⟨0, 0, 0, 0⟩)
def N_Cable_takes : List Str := ["self"]
def P_Cable_takes : List Str := ["self"]
theorem sc_Cable_takes : FnScope N_Cable_takes P_Cable_takes (defScope s_Cable_takes) := C8.fnScope_by (by decide +kernel)
theorem ck_Cable_takes : ckL N_Cable_takes fd_Cable_takes.body (defScope s_Cable_takes) (defBody s_Cable_takes) = true := by decide +kernel
abbrev s_LeftTwo_takes : Stmt := (inCls (topS 25)).getD 1 (.Pass ⟨0, 0, 0, 0⟩)
def N_LeftTwo_takes : List Str := ["self"]
def P_LeftTwo_takes : List Str := ["self"]
theorem sc_LeftTwo_takes : FnScope N_LeftTwo_takes P_LeftTwo_takes (defScope s_LeftTwo_takes) := C8.fnScope_by (by decide +kernel)
theorem ck_LeftTwo_takes : ckL N_LeftTwo_takes fd_LeftTwo_takes.body (defScope s_LeftTwo_takes) (defBody s_LeftTwo_takes) = true := by decide +kernel
abbrev s_Over_takes : Stmt := (inCls (topS 23)).getD 1 (.Pass ⟨0, 0, 0, 0⟩)
def N_Over_takes : List Str := ["self"]
def P_Over_takes : List Str := ["self"]
theorem sc_Over_takes : FnScope N_Over_takes P_Over_takes (defScope s_Over_takes) := C8.fnScope_by (by decide +kernel)
theorem ck_Over_takes : ckL N_Over_takes fd_Over_takes.body (defScope s_Over_takes) (defBody s_Over_takes) = true := by decide +kernel
abbrev s_Stitch_takes : Stmt := (inCls (topS 20)).getD 2 (.Pass ⟨0, 0, 0, 0⟩)
def N_Stitch_takes : List Str := ["self"]
def P_Stitch_takes : List Str := ["self"]
theorem sc_Stitch_takes : FnScope N_Stitch_takes P_Stitch_takes (defScope s_Stitch_takes) := C8.fnScope_by (by decide +kernel)
theorem ck_Stitch_takes : ckL N_Stitch_takes fd_Stitch_takes.body (defScope s_Stitch_takes) (defBody s_Stitch_takes) = true := by decide +kernel
abbrev s_RightTwo_takes : Stmt := (inCls (topS 24)).getD 1 (.Pass ⟨0, 0, 0, 0⟩)
def N_RightTwo_takes : List Str := ["self"]
def P_RightTwo_takes : List Str := ["self"]
theorem sc_RightTwo_takes : FnScope N_RightTwo_takes P_RightTwo_takes (defScope s_RightTwo_takes) := C8.fnScope_by (by decide +kernel)
theorem ck_RightTwo_takes : ckL N_RightTwo_takes fd_RightTwo_takes.body (defScope s_RightTwo_takes) (defBody s_RightTwo_takes) = true := by decide +kernel
abbrev s_LE : Stmt := (inCls (topS 2)).getD 0 (.Pass ⟨0, 0, 0, 0⟩)
theorem sc_LE : FnScope ["self", "words", "number"] ["self", "words", "number"] (defScope s_LE) := C8.fnScope_by (by decide +kernel)
theorem lb_LE : leB "ValueError" "number" (defScope s_LE) (defBody s_LE) = true := by decide +kernel
abbrev s_NT : Stmt := (inCls (topS 10)).getD 0 (.Pass ⟨0, 0, 0, 0⟩)
theorem sc_NT : FnScope ["self", "words", "line"] ["self", "words", "line"] (defScope s_NT) := C8.fnScope_by (by decide +kernel)
theorem lb_NT : leB "LoopError" "line" (defScope s_NT) (defBody s_NT) = true := by decide +kernel
abbrev s_NP : Stmt := (inCls (topS 11)).getD 0 (.Pass ⟨0, 0, 0, 0⟩)
theorem sc_NP : FnScope ["self", "course", "stitch", "why"] ["self", "course", "stitch", "why"] (defScope s_NP) := C8.fnScope_by (by decide +kernel)
theorem lb_NP : npB (defScope s_NP) (defBody s_NP) = true := by decide +kernel
def spLaw (K : PySem.W.Frag) : Sp := fun vs H Q _ => ∃ (a : Addr) (ns : List Int), vs = [.ref a] ∧ SqL K H a (ns.map V.int) ∧ ns.length ≤ 63 ∧ ∀ H', Q (.bl true) H'
theorem all_mk {l : PySem.W.OpenLaw} {w : World} {K : PySem.W.Frag} {h : Heap} {mg : Str → Option Value} {fa f0 f1 f2 f3 f4 f5 f6 f7 f8 f9 f10 f11 f12 f13 f14 f15 f16 f17 f18 f19 f20 f21 f22 f23 f24 f25 f26 f27 C0 C1 C2 C3 C4 C5 C6 C7 C8 C9 C10 C11 C12 C13 C14 C15 C16 C17 C18 C19 C20 : Addr} (X : K.In h) (G : h.Ns mainGlobals mg) (hfa : mg "law" = some (.ref fa))
    {od0 an0 od1 an1 od2 an2 od3 an3 od4 an4 od5 an5 od6 an6 od7 an7 od8 an8 od9 an9 od10 an10 od11 an11 od12 an12 od13 an13 od14 an14 od15 an15 od16 an16 od17 an17 od18 an18 od19 an19 od20 an20 od21 an21 od22 an22 od23 an23 od24 an24 od25 an25 od26 an26 od27 an27 : Option Addr} {sl0 sl1 sl2 sl3 sl4 sl5 sl6 sl7 sl8 sl9 sl10 sl11 sl12 sl13 sl14 sl15 sl16 sl17 sl18 sl19 sl20 sl21 sl22 sl23 sl24 sl25 sl26 sl27 : Array (Option Value)} {oc0 kV0 dc0 pm0 cd0 ct0 oc1 kV1 dc1 pm1 cd1 ct1 oc2 kV2 dc2 pm2 cd2 ct2 oc3 kV3 dc3 pm3 cd3 ct3 oc4 kV4 dc4 pm4 cd4 ct4 oc5 kV5 dc5 pm5 cd5 ct5 oc6 kV6 dc6 pm6 cd6 ct6 oc7 kV7 dc7 pm7 cd7 ct7 oc8 kV8 dc8 pm8 cd8 ct8 oc9 kV9 dc9 pm9 cd9 ct9 oc10 kV10 dc10 pm10 cd10 ct10 oc11 kV11 dc11 pm11 cd11 ct11 oc12 kV12 dc12 pm12 cd12 ct12 oc13 kV13 dc13 pm13 cd13 ct13 oc14 kV14 dc14 pm14 cd14 ct14 oc15 kV15 dc15 pm15 cd15 ct15 oc16 kV16 dc16 pm16 cd16 ct16 oc17 kV17 dc17 pm17 cd17 ct17 oc18 kV18 dc18 pm18 cd18 ct18 oc19 kV19 dc19 pm19 cd19 ct19 oc20 kV20 dc20 pm20 cd20 ct20 oc21 kV21 dc21 pm21 cd21 ct21 oc22 kV22 dc22 pm22 cd22 ct22 oc23 kV23 dc23 pm23 cd23 ct23 oc24 kV24 dc24 pm24 cd24 ct24 oc25 kV25 dc25 pm25 cd25 ct25 oc26 kV26 dc26 pm26 cd26 ct26 oc27 kV27 dc27 pm27 cd27 ct27 : Value} {tk11 tk12 tk13 tk14 : Tok} {fX dT : Addr} {odX anX tdX : Option Addr} {ocX kVX dcX pmX cdX ctX tcX : Value} {slX tsX : Array (Option Value)} {tnX : Nat} {fXT dTT : Addr} {odXT anXT tdXT : Option Addr} {ocXT kVXT dcXT pmXT cdXT ctXT tcXT : Value} {slXT tsXT : Array (Option Value)} {tnXT : Nat} {fXP : Addr} {odXP anXP : Option Addr} {ocXP kVXP dcXP pmXP cdXP ctXP : Value} {slXP : Array (Option Value)} {xnm7 xq7 : Str} {xN7 : Addr} {xbs7 : List Value} {xsn7 : List Str} {xsub7 : List Value} {xab7 : Bool} {xcol7 : Option Bool} {xdd7 : Option Addr} {xm7a xm7b xm7c xm7d xm7e : Option Value} {xnm9 xq9 : Str} {xN9 : Addr} {xbs9 : List Value} {xsn9 : List Str} {xsub9 : List Value} {xab9 : Bool} {xcol9 : Option Bool} {xdd9 : Option Addr} {xm9a xm9b xm9c xm9d xm9e : Option Value}
    (aC0 : PySem.W.nsIn K mainGlobals "Cable" = some (some (.ref C0)))
    (aC1 : PySem.W.nsIn K mainGlobals "LeftTwo" = some (some (.ref C1)))
    (aC2 : PySem.W.nsIn K mainGlobals "LoopError" = some (some (.ref C2)))
    (aC3 : PySem.W.nsIn K mainGlobals "NoDeed" = some (some (.ref C3)))
    (aC4 : PySem.W.nsIn K mainGlobals "NoLoop" = some (some (.ref C4)))
    (aC5 : PySem.W.nsIn K mainGlobals "NoName" = some (some (.ref C5)))
    (aC6 : PySem.W.nsIn K mainGlobals "NoNeedle" = some (some (.ref C6)))
    (aC7 : PySem.W.nsIn K mainGlobals "NoPiece" = some (some (.ref C7)))
    (aC8 : PySem.W.nsIn K mainGlobals "NoRow" = some (some (.ref C8)))
    (aC9 : PySem.W.nsIn K mainGlobals "NoText" = some (some (.ref C9)))
    (aC10 : PySem.W.nsIn K mainGlobals "NoWay" = some (some (.ref C10)))
    (aC11 : PySem.W.nsIn K mainGlobals "NoYarn" = some (some (.ref C11)))
    (aC12 : PySem.W.nsIn K mainGlobals "Over" = some (some (.ref C12)))
    (aC13 : PySem.W.nsIn K mainGlobals "Plain" = some (some (.ref C13)))
    (aC14 : PySem.W.nsIn K mainGlobals "Purl" = some (some (.ref C14)))
    (aC15 : PySem.W.nsIn K mainGlobals "RightTwo" = some (some (.ref C15)))
    (aC16 : PySem.W.nsIn K mainGlobals "Telling" = some (some (.ref C16)))
    (aC17 : PySem.W.nsIn K mainGlobals "Till" = some (some (.ref C17)))
    (aC18 : PySem.W.nsIn K mainGlobals "Times" = some (some (.ref C18)))
    (aC19 : PySem.W.nsIn K mainGlobals "TooFar" = some (some (.ref C19)))
    (aC20 : PySem.W.nsIn K mainGlobals "TooMany" = some (some (.ref C20)))
    (a0 : PySem.W.nsIn K mainGlobals "law" = some (some (.ref f0)))
    (a1 : PySem.W.nsIn K mainGlobals "_law_class" = some (some (.ref f1)))
    (a2 : PySem.W.nsIn K mainGlobals "_law_draws" = some (some (.ref f2)))
    (a3 : PySem.W.nsIn K mainGlobals "_law_tell" = some (some (.ref f3)))
    (a4 : PySem.W.nsIn K mainGlobals "_law_trees" = some (some (.ref f4)))
    (a5 : PySem.W.nsIn K mainGlobals "told_out" = some (some (.ref f5)))
    (a6 : PySem.W.nsIn K mainGlobals "_law_takes" = some (some (.ref f6)))
    (a7 : PySem.W.nsIn K mainGlobals "_law_simple" = some (some (.ref f7)))
    (a8 : PySem.W.nsIn K mainGlobals "told_out_at" = some (some (.ref f8)))
    (a13 : PySem.W.nsIn K mainGlobals "stitch_of" = some (some (.ref f13)))
    (a14 : PySem.W.nsIn K mainGlobals "row_in" = some (some (.ref f14)))
    (a15 : PySem.W.nsIn K mainGlobals "stitch_made" = some (some (.ref f15)))
    (a16 : PySem.W.nsIn K mainGlobals "cable_of" = some (some (.ref f16)))
    (a17 : PySem.W.nsIn K mainGlobals "is_repeat" = some (some (.ref f17)))
    (a18 : PySem.W.nsIn K mainGlobals "simple_of" = some (some (.ref f18)))
    (a21 : PySem.W.nsIn K mainGlobals "is_between" = some (some (.ref f21)))
    (m0 : PySem.W.findIn K (.ref C0) "takes" = some (some (.ref f23)))
    (m1 : PySem.W.findIn K (.ref C1) "takes" = some (some (.ref f24)))
    (m2 : PySem.W.findIn K (.ref C12) "takes" = some (some (.ref f25)))
    (m3 : PySem.W.findIn K (.ref C13) "takes" = some (some (.ref f26)))
    (m4 : PySem.W.findIn K (.ref C14) "takes" = some (some (.ref f26)))
    (m5 : PySem.W.findIn K (.ref C15) "takes" = some (some (.ref f27)))
    (m6 : PySem.W.findIn K (.ref C16) "tell" = some (some (.ref f10)))
    (m7 : PySem.W.findIn K (.ref C16) "tell_one" = some (some (.ref f11)))
    (m8 : PySem.W.findIn K (.ref C16) "tell_till" = some (some (.ref f12)))
    (m9 : PySem.W.findIn K (.ref C17) "takes" = some (some (.ref f20)))
    (m10 : PySem.W.findIn K (.ref C18) "takes" = some (some (.ref f20)))
    (n0 : PySem.W.findIn K (.ref C0) "__init__" = some (some (.ref f22)))
    (n1 : PySem.W.findIn K (.ref C16) "__init__" = some (some (.ref f9)))
    (n2 : PySem.W.findIn K (.ref C17) "__init__" = some (some (.ref f19)))
    (n3 : PySem.W.findIn K (.ref C18) "__init__" = some (some (.ref f19)))
    (l0 : K.lookup f0 = some ⟨oc0, od0, .func (PySem.W.fnOf "law" "law" (defArgs s_law) (defBody s_law) (defScope s_law) .none kV0 dc0 pm0 an0 cd0 ct0), sl0⟩)
    (c0 : PySem.W.codeIn K cd0 "law" = true)
    (k0 : PySem.W.keepIn K (.ref f0) = true)
    (l1 : K.lookup f1 = some ⟨oc1, od1, .func (PySem.W.fnOf "_law_class" "_law_class" (defArgs s__law_class) (defBody s__law_class) (defScope s__law_class) .none kV1 dc1 pm1 an1 cd1 ct1), sl1⟩)
    (c1 : PySem.W.codeIn K cd1 "_law_class" = true)
    (k1 : PySem.W.keepIn K (.ref f1) = true)
    (l2 : K.lookup f2 = some ⟨oc2, od2, .func (PySem.W.fnOf "_law_draws" "_law_draws" (defArgs s__law_draws) (defBody s__law_draws) (defScope s__law_draws) .none kV2 dc2 pm2 an2 cd2 ct2), sl2⟩)
    (c2 : PySem.W.codeIn K cd2 "_law_draws" = true)
    (k2 : PySem.W.keepIn K (.ref f2) = true)
    (l3 : K.lookup f3 = some ⟨oc3, od3, .func (PySem.W.fnOf "_law_tell" "_law_tell" (defArgs s__law_tell) (defBody s__law_tell) (defScope s__law_tell) .none kV3 dc3 pm3 an3 cd3 ct3), sl3⟩)
    (c3 : PySem.W.codeIn K cd3 "_law_tell" = true)
    (k3 : PySem.W.keepIn K (.ref f3) = true)
    (l4 : K.lookup f4 = some ⟨oc4, od4, .func (PySem.W.fnOf "_law_trees" "_law_trees" (defArgs s__law_trees) (defBody s__law_trees) (defScope s__law_trees) .none kV4 dc4 pm4 an4 cd4 ct4), sl4⟩)
    (c4 : PySem.W.codeIn K cd4 "_law_trees" = true)
    (k4 : PySem.W.keepIn K (.ref f4) = true)
    (l5 : K.lookup f5 = some ⟨oc5, od5, .func (PySem.W.fnOf "told_out" "told_out" (defArgs s_told_out) (defBody s_told_out) (defScope s_told_out) .none kV5 dc5 pm5 an5 cd5 ct5), sl5⟩)
    (c5 : PySem.W.codeIn K cd5 "told_out" = true)
    (k5 : PySem.W.keepIn K (.ref f5) = true)
    (l6 : K.lookup f6 = some ⟨oc6, od6, .func (PySem.W.fnOf "_law_takes" "_law_takes" (defArgs s__law_takes) (defBody s__law_takes) (defScope s__law_takes) .none kV6 dc6 pm6 an6 cd6 ct6), sl6⟩)
    (c6 : PySem.W.codeIn K cd6 "_law_takes" = true)
    (k6 : PySem.W.keepIn K (.ref f6) = true)
    (l7 : K.lookup f7 = some ⟨oc7, od7, .func (PySem.W.fnOf "_law_simple" "_law_simple" (defArgs s__law_simple) (defBody s__law_simple) (defScope s__law_simple) .none kV7 dc7 pm7 an7 cd7 ct7), sl7⟩)
    (c7 : PySem.W.codeIn K cd7 "_law_simple" = true)
    (k7 : PySem.W.keepIn K (.ref f7) = true)
    (l8 : K.lookup f8 = some ⟨oc8, od8, .func (PySem.W.fnOf "told_out_at" "told_out_at" (defArgs s_told_out_at) (defBody s_told_out_at) (defScope s_told_out_at) .none kV8 dc8 pm8 an8 cd8 ct8), sl8⟩)
    (c8 : PySem.W.codeIn K cd8 "told_out_at" = true)
    (k8 : PySem.W.keepIn K (.ref f8) = true)
    (l9 : K.lookup f9 = some ⟨oc9, od9, .func (PySem.W.fnOf "__init__" "Telling.__init__" (defArgs s_Tellingu_initu) (defBody s_Tellingu_initu) (defScope s_Tellingu_initu) .none kV9 dc9 pm9 an9 cd9 ct9), sl9⟩)
    (c9 : PySem.W.codeIn K cd9 "Telling.__init__" = true)
    (k9 : PySem.W.keepIn K (.ref f9) = true)
    (i9 : PySem.W.isFn K (.ref f9) = true)
    (l10 : K.lookup f10 = some ⟨oc10, od10, .func (PySem.W.fnOf "tell" "Telling.tell" (defArgs s_Telling_tell) (defBody s_Telling_tell) (defScope s_Telling_tell) .none kV10 dc10 pm10 an10 cd10 ct10), sl10⟩)
    (c10 : PySem.W.codeIn K cd10 "Telling.tell" = true)
    (k10 : PySem.W.keepIn K (.ref f10) = true)
    (i10 : PySem.W.isFn K (.ref f10) = true)
    (l11 : K.lookup f11 = some ⟨oc11, od11, .func (PySem.W.fnOf "tell_one" "Telling.tell_one" (defArgs s_Telling_tell_one) (defBody s_Telling_tell_one) (defScope s_Telling_tell_one) .none kV11 dc11 pm11 an11 cd11 ct11), sl11⟩)
    (c11 : PySem.W.codeIn K cd11 "Telling.tell_one" = true)
    (k11 : PySem.W.keepIn K (.ref f11) = true)
    (i11 : PySem.W.isFn K (.ref f11) = true)
    (l12 : K.lookup f12 = some ⟨oc12, od12, .func (PySem.W.fnOf "tell_till" "Telling.tell_till" (defArgs s_Telling_tell_till) (defBody s_Telling_tell_till) (defScope s_Telling_tell_till) .none kV12 dc12 pm12 an12 cd12 ct12), sl12⟩)
    (c12 : PySem.W.codeIn K cd12 "Telling.tell_till" = true)
    (k12 : PySem.W.keepIn K (.ref f12) = true)
    (i12 : PySem.W.isFn K (.ref f12) = true)
    (l13 : K.lookup f13 = some ⟨oc13, od13, .func (PySem.W.fnOf "stitch_of" "stitch_of" (defArgs s_stitch_of) (defBody s_stitch_of) (defScope s_stitch_of) .none kV13 dc13 pm13 an13 cd13 ct13), sl13⟩)
    (c13 : PySem.W.codeIn K cd13 "stitch_of" = true)
    (k13 : PySem.W.keepIn K (.ref f13) = true)
    (l14 : K.lookup f14 = some ⟨oc14, od14, .func (PySem.W.fnOf "row_in" "row_in" (defArgs s_row_in) (defBody s_row_in) (defScope s_row_in) .none kV14 dc14 pm14 an14 cd14 ct14), sl14⟩)
    (c14 : PySem.W.codeIn K cd14 "row_in" = true)
    (k14 : PySem.W.keepIn K (.ref f14) = true)
    (l15 : K.lookup f15 = some ⟨oc15, od15, .func (PySem.W.fnOf "stitch_made" "stitch_made" (defArgs s_stitch_made) (defBody s_stitch_made) (defScope s_stitch_made) .none kV15 dc15 pm15 an15 cd15 ct15), sl15⟩)
    (c15 : PySem.W.codeIn K cd15 "stitch_made" = true)
    (k15 : PySem.W.keepIn K (.ref f15) = true)
    (l16 : K.lookup f16 = some ⟨oc16, od16, .func (PySem.W.fnOf "cable_of" "cable_of" (defArgs s_cable_of) (defBody s_cable_of) (defScope s_cable_of) .none kV16 dc16 pm16 an16 cd16 ct16), sl16⟩)
    (c16 : PySem.W.codeIn K cd16 "cable_of" = true)
    (k16 : PySem.W.keepIn K (.ref f16) = true)
    (l17 : K.lookup f17 = some ⟨oc17, od17, .func (PySem.W.fnOf "is_repeat" "is_repeat" (defArgs s_is_repeat) (defBody s_is_repeat) (defScope s_is_repeat) .none kV17 dc17 pm17 an17 cd17 ct17), sl17⟩)
    (c17 : PySem.W.codeIn K cd17 "is_repeat" = true)
    (k17 : PySem.W.keepIn K (.ref f17) = true)
    (l18 : K.lookup f18 = some ⟨oc18, od18, .func (PySem.W.fnOf "simple_of" "simple_of" (defArgs s_simple_of) (defBody s_simple_of) (defScope s_simple_of) .none kV18 dc18 pm18 an18 cd18 ct18), sl18⟩)
    (c18 : PySem.W.codeIn K cd18 "simple_of" = true)
    (k18 : PySem.W.keepIn K (.ref f18) = true)
    (l19 : K.lookup f19 = some ⟨oc19, od19, .func (PySem.W.fnOf "__init__" "Repeat.__init__" (defArgs s_Repeatu_initu) (defBody s_Repeatu_initu) (defScope s_Repeatu_initu) .none kV19 dc19 pm19 an19 cd19 ct19), sl19⟩)
    (c19 : PySem.W.codeIn K cd19 "Repeat.__init__" = true)
    (k19 : PySem.W.keepIn K (.ref f19) = true)
    (i19 : PySem.W.isFn K (.ref f19) = true)
    (l20 : K.lookup f20 = some ⟨oc20, od20, .func (PySem.W.fnOf "takes" "Repeat.takes" (defArgs s_Repeat_takes) (defBody s_Repeat_takes) (defScope s_Repeat_takes) .none kV20 dc20 pm20 an20 cd20 ct20), sl20⟩)
    (c20 : PySem.W.codeIn K cd20 "Repeat.takes" = true)
    (k20 : PySem.W.keepIn K (.ref f20) = true)
    (i20 : PySem.W.isFn K (.ref f20) = true)
    (l21 : K.lookup f21 = some ⟨oc21, od21, .func (PySem.W.fnOf "is_between" "is_between" (defArgs s_is_between) (defBody s_is_between) (defScope s_is_between) .none kV21 dc21 pm21 an21 cd21 ct21), sl21⟩)
    (c21 : PySem.W.codeIn K cd21 "is_between" = true)
    (k21 : PySem.W.keepIn K (.ref f21) = true)
    (l22 : K.lookup f22 = some ⟨oc22, od22, .func (PySem.W.fnOf "__init__" "Cable.__init__" (defArgs s_Cableu_initu) (defBody s_Cableu_initu) (defScope s_Cableu_initu) .none kV22 dc22 pm22 an22 cd22 ct22), sl22⟩)
    (c22 : PySem.W.codeIn K cd22 "Cable.__init__" = true)
    (k22 : PySem.W.keepIn K (.ref f22) = true)
    (i22 : PySem.W.isFn K (.ref f22) = true)
    (l23 : K.lookup f23 = some ⟨oc23, od23, .func (PySem.W.fnOf "takes" "Cable.takes" (defArgs s_Cable_takes) (defBody s_Cable_takes) (defScope s_Cable_takes) .none kV23 dc23 pm23 an23 cd23 ct23), sl23⟩)
    (c23 : PySem.W.codeIn K cd23 "Cable.takes" = true)
    (k23 : PySem.W.keepIn K (.ref f23) = true)
    (i23 : PySem.W.isFn K (.ref f23) = true)
    (l24 : K.lookup f24 = some ⟨oc24, od24, .func (PySem.W.fnOf "takes" "LeftTwo.takes" (defArgs s_LeftTwo_takes) (defBody s_LeftTwo_takes) (defScope s_LeftTwo_takes) .none kV24 dc24 pm24 an24 cd24 ct24), sl24⟩)
    (c24 : PySem.W.codeIn K cd24 "LeftTwo.takes" = true)
    (k24 : PySem.W.keepIn K (.ref f24) = true)
    (i24 : PySem.W.isFn K (.ref f24) = true)
    (l25 : K.lookup f25 = some ⟨oc25, od25, .func (PySem.W.fnOf "takes" "Over.takes" (defArgs s_Over_takes) (defBody s_Over_takes) (defScope s_Over_takes) .none kV25 dc25 pm25 an25 cd25 ct25), sl25⟩)
    (c25 : PySem.W.codeIn K cd25 "Over.takes" = true)
    (k25 : PySem.W.keepIn K (.ref f25) = true)
    (i25 : PySem.W.isFn K (.ref f25) = true)
    (l26 : K.lookup f26 = some ⟨oc26, od26, .func (PySem.W.fnOf "takes" "Stitch.takes" (defArgs s_Stitch_takes) (defBody s_Stitch_takes) (defScope s_Stitch_takes) .none kV26 dc26 pm26 an26 cd26 ct26), sl26⟩)
    (c26 : PySem.W.codeIn K cd26 "Stitch.takes" = true)
    (k26 : PySem.W.keepIn K (.ref f26) = true)
    (i26 : PySem.W.isFn K (.ref f26) = true)
    (l27 : K.lookup f27 = some ⟨oc27, od27, .func (PySem.W.fnOf "takes" "RightTwo.takes" (defArgs s_RightTwo_takes) (defBody s_RightTwo_takes) (defScope s_RightTwo_takes) .none kV27 dc27 pm27 an27 cd27 ct27), sl27⟩)
    (c27 : PySem.W.codeIn K cd27 "RightTwo.takes" = true)
    (k27 : PySem.W.keepIn K (.ref f27) = true)
    (i27 : PySem.W.isFn K (.ref f27) = true)
    (pg0 : PySem.W.plainGet K C0 Str.empty = true)
    (hd0 : PySem.W.hasDictIn K C0 = true)
    (po0 : PySem.W.plainOver K C0 = true)
    (sa0 : PySem.W.findIn K (.ref C0) "__setattr__" = some (some (.builtin "object.__setattr__")))
    (mk0 : PySem.W.makesIn K C0 = true)
    (kc0 : PySem.W.keepIn K (.ref C0) = true)
    (nf0_first : PySem.W.findIn K (.ref C0) "first" = some none)
    (nf0_front : PySem.W.findIn K (.ref C0) "front" = some none)
    (nf0_second : PySem.W.findIn K (.ref C0) "second" = some none)
    (pg1 : PySem.W.plainGet K C1 Str.empty = true)
    (hd1 : PySem.W.hasDictIn K C1 = true)
    (po1 : PySem.W.plainOver K C1 = true)
    (sa1 : PySem.W.findIn K (.ref C1) "__setattr__" = some (some (.builtin "object.__setattr__")))
    (mk1 : PySem.W.makesIn K C1 = true)
    (kc1 : PySem.W.keepIn K (.ref C1) = true)
    (in1 : PySem.W.findIn K (.ref C1) "__init__" = some (some (.builtin "object.__init__")))
    (xo1 : PySem.W.mroIn K C1 (.type "object") = some true)
    (pg12 : PySem.W.plainGet K C12 Str.empty = true)
    (hd12 : PySem.W.hasDictIn K C12 = true)
    (po12 : PySem.W.plainOver K C12 = true)
    (sa12 : PySem.W.findIn K (.ref C12) "__setattr__" = some (some (.builtin "object.__setattr__")))
    (mk12 : PySem.W.makesIn K C12 = true)
    (kc12 : PySem.W.keepIn K (.ref C12) = true)
    (in12 : PySem.W.findIn K (.ref C12) "__init__" = some (some (.builtin "object.__init__")))
    (xo12 : PySem.W.mroIn K C12 (.type "object") = some true)
    (pg13 : PySem.W.plainGet K C13 Str.empty = true)
    (hd13 : PySem.W.hasDictIn K C13 = true)
    (po13 : PySem.W.plainOver K C13 = true)
    (sa13 : PySem.W.findIn K (.ref C13) "__setattr__" = some (some (.builtin "object.__setattr__")))
    (mk13 : PySem.W.makesIn K C13 = true)
    (kc13 : PySem.W.keepIn K (.ref C13) = true)
    (in13 : PySem.W.findIn K (.ref C13) "__init__" = some (some (.builtin "object.__init__")))
    (xo13 : PySem.W.mroIn K C13 (.type "object") = some true)
    (pg14 : PySem.W.plainGet K C14 Str.empty = true)
    (hd14 : PySem.W.hasDictIn K C14 = true)
    (po14 : PySem.W.plainOver K C14 = true)
    (sa14 : PySem.W.findIn K (.ref C14) "__setattr__" = some (some (.builtin "object.__setattr__")))
    (mk14 : PySem.W.makesIn K C14 = true)
    (kc14 : PySem.W.keepIn K (.ref C14) = true)
    (in14 : PySem.W.findIn K (.ref C14) "__init__" = some (some (.builtin "object.__init__")))
    (xo14 : PySem.W.mroIn K C14 (.type "object") = some true)
    (pg15 : PySem.W.plainGet K C15 Str.empty = true)
    (hd15 : PySem.W.hasDictIn K C15 = true)
    (po15 : PySem.W.plainOver K C15 = true)
    (sa15 : PySem.W.findIn K (.ref C15) "__setattr__" = some (some (.builtin "object.__setattr__")))
    (mk15 : PySem.W.makesIn K C15 = true)
    (kc15 : PySem.W.keepIn K (.ref C15) = true)
    (in15 : PySem.W.findIn K (.ref C15) "__init__" = some (some (.builtin "object.__init__")))
    (xo15 : PySem.W.mroIn K C15 (.type "object") = some true)
    (pg16 : PySem.W.plainGet K C16 Str.empty = true)
    (hd16 : PySem.W.hasDictIn K C16 = true)
    (po16 : PySem.W.plainOver K C16 = true)
    (sa16 : PySem.W.findIn K (.ref C16) "__setattr__" = some (some (.builtin "object.__setattr__")))
    (mk16 : PySem.W.makesIn K C16 = true)
    (kc16 : PySem.W.keepIn K (.ref C16) = true)
    (nf16_still : PySem.W.findIn K (.ref C16) "still" = some none)
    (nf16_course : PySem.W.findIn K (.ref C16) "course" = some none)
    (nf16_trees : PySem.W.findIn K (.ref C16) "trees" = some none)
    (pg17 : PySem.W.plainGet K C17 Str.empty = true)
    (hd17 : PySem.W.hasDictIn K C17 = true)
    (po17 : PySem.W.plainOver K C17 = true)
    (sa17 : PySem.W.findIn K (.ref C17) "__setattr__" = some (some (.builtin "object.__setattr__")))
    (mk17 : PySem.W.makesIn K C17 = true)
    (kc17 : PySem.W.keepIn K (.ref C17) = true)
    (nf17_times_told : PySem.W.findIn K (.ref C17) "times_told" = some none)
    (nf17_row : PySem.W.findIn K (.ref C17) "row" = some none)
    (pg18 : PySem.W.plainGet K C18 Str.empty = true)
    (hd18 : PySem.W.hasDictIn K C18 = true)
    (po18 : PySem.W.plainOver K C18 = true)
    (sa18 : PySem.W.findIn K (.ref C18) "__setattr__" = some (some (.builtin "object.__setattr__")))
    (mk18 : PySem.W.makesIn K C18 = true)
    (kc18 : PySem.W.keepIn K (.ref C18) = true)
    (nf18_times_told : PySem.W.findIn K (.ref C18) "times_told" = some none)
    (nf18_row : PySem.W.findIn K (.ref C18) "row" = some none)
    (xl7 : K.lookup C7 = some (excClassObj xnm7 xq7 C7 xN7 xbs7 [.ref C2, .type "ValueError", .type "Exception", .type "BaseException", .type "object"] true xsn7 xsub7 xab7 xcol7 xdd7 xm7a xm7b xm7c xm7d xm7e "ValueError.__new__"))
    (xsa7 : PySem.W.findIn K (.ref C7) "__setattr__" = some (some (.builtin "object.__setattr__")))
    (xkc7 : PySem.W.keepIn K (.ref C7) = true)
    (xga7 : PySem.W.findIn K (.ref C7) "__getattribute__" = some (some (.builtin "BaseException.__getattribute__")))
    (xgg7 : PySem.W.findIn K (.ref C7) "__getattr__" = some none)
    (xha7 : PySem.W.findIn K (.ref C7) "__class__" = some (some (.builtin "object.__class__")))
    (xhm7 : PySem.W.mroIn K C7 (.type "object") = some true)
    (xve7 : PySem.W.subIn K (.ref C7) (.type "ValueError") = some true)
    (xin7 : PySem.W.findIn K (.ref C7) "__init__" = some (some (.ref fXP)))
    (xnf7 : PySem.W.findIn K (.ref C7) "number" = some none)
    (xnf7why : PySem.W.findIn K (.ref C7) "why" = some none)
    (xnf7stitch : PySem.W.findIn K (.ref C7) "stitch" = some none)
    (xnf7course : PySem.W.findIn K (.ref C7) "course" = some none)
    (xl9 : K.lookup C9 = some (excClassObj xnm9 xq9 C9 xN9 xbs9 [.ref C2, .type "ValueError", .type "Exception", .type "BaseException", .type "object"] true xsn9 xsub9 xab9 xcol9 xdd9 xm9a xm9b xm9c xm9d xm9e "ValueError.__new__"))
    (xsa9 : PySem.W.findIn K (.ref C9) "__setattr__" = some (some (.builtin "object.__setattr__")))
    (xkc9 : PySem.W.keepIn K (.ref C9) = true)
    (xga9 : PySem.W.findIn K (.ref C9) "__getattribute__" = some (some (.builtin "BaseException.__getattribute__")))
    (xgg9 : PySem.W.findIn K (.ref C9) "__getattr__" = some none)
    (xha9 : PySem.W.findIn K (.ref C9) "__class__" = some (some (.builtin "object.__class__")))
    (xhm9 : PySem.W.mroIn K C9 (.type "object") = some true)
    (xve9 : PySem.W.subIn K (.ref C9) (.type "ValueError") = some true)
    (xin9 : PySem.W.findIn K (.ref C9) "__init__" = some (some (.ref fXT)))
    (xnf9 : PySem.W.findIn K (.ref C9) "number" = some none)
    (xnf9line : PySem.W.findIn K (.ref C9) "line" = some none)
    (bR : PySem.W.readsIn K C2 (.type "type") = true)
    (bG : PySem.W.specialIn K (.ref C2) "__getattribute__" = some (some (.builtin "type.__getattribute__")))
    (bF : PySem.W.findCls K (.ref C2) (.type "type") "__init__" = some (.val (.ref fX)))
    (lXT : K.lookup fXT = some ⟨ocXT, odXT, .func (PySem.W.fnOf "__init__" "NoText.__init__" (defArgs s_NT) (defBody s_NT) (defScope s_NT) (.ref dTT) kVXT dcXT pmXT anXT cdXT ctXT), slXT⟩)
    (cXT : PySem.W.codeIn K cdXT "NoText.__init__" = true)
    (kXT : PySem.W.keepIn K (.ref fXT) = true)
    (dXT : K.lookup dTT = some ⟨tcXT, tdXT, .seq #[.none] tnXT, tsXT⟩)
    (tXT : PySem.W.typeIn K (.ref fXT) = some (.type "function"))
    (lXP : K.lookup fXP = some ⟨ocXP, odXP, .func (PySem.W.fnOf "__init__" "NoPiece.__init__" (defArgs s_NP) (defBody s_NP) (defScope s_NP) .none kVXP dcXP pmXP anXP cdXP ctXP), slXP⟩)
    (cXP : PySem.W.codeIn K cdXP "NoPiece.__init__" = true)
    (kXP : PySem.W.keepIn K (.ref fXP) = true)
    (tXP : PySem.W.typeIn K (.ref fXP) = some (.type "function"))
    (lX : K.lookup fX = some ⟨ocX, odX, .func (PySem.W.fnOf "__init__" "LoopError.__init__" (defArgs s_LE) (defBody s_LE) (defScope s_LE) (.ref dT) kVX dcX pmX anX cdX ctX), slX⟩)
    (cX : PySem.W.codeIn K cdX "LoopError.__init__" = true)
    (kX : PySem.W.keepIn K (.ref fX) = true)
    (dX : K.lookup dT = some ⟨tcX, tdX, .seq #[.none] tnX, tsX⟩)
    (tX : PySem.W.typeIn K (.ref fX) = some (.type "function"))
    (vX : PySem.W.findCls K (.type "ValueError") (.type "type") "__init__" = some (.val (.builtin "ValueError.__init__")))
    (xbe2 : PySem.W.subIn K (.ref C2) (.type "BaseException") = some true)
    (xty2 : PySem.W.typeIn K (.ref C2) = some (.type "type"))
    (xhd2 : PySem.W.hasDictIn K C2 = true)
    (xic2 : PySem.W.isClsIn K C2 = true)
    (xbe3 : PySem.W.subIn K (.ref C3) (.type "BaseException") = some true)
    (xty3 : PySem.W.typeIn K (.ref C3) = some (.type "type"))
    (xhd3 : PySem.W.hasDictIn K C3 = true)
    (xic3 : PySem.W.isClsIn K C3 = true)
    (xbe4 : PySem.W.subIn K (.ref C4) (.type "BaseException") = some true)
    (xty4 : PySem.W.typeIn K (.ref C4) = some (.type "type"))
    (xhd4 : PySem.W.hasDictIn K C4 = true)
    (xic4 : PySem.W.isClsIn K C4 = true)
    (xbe5 : PySem.W.subIn K (.ref C5) (.type "BaseException") = some true)
    (xty5 : PySem.W.typeIn K (.ref C5) = some (.type "type"))
    (xhd5 : PySem.W.hasDictIn K C5 = true)
    (xic5 : PySem.W.isClsIn K C5 = true)
    (xbe6 : PySem.W.subIn K (.ref C6) (.type "BaseException") = some true)
    (xty6 : PySem.W.typeIn K (.ref C6) = some (.type "type"))
    (xhd6 : PySem.W.hasDictIn K C6 = true)
    (xic6 : PySem.W.isClsIn K C6 = true)
    (xbe7 : PySem.W.subIn K (.ref C7) (.type "BaseException") = some true)
    (xty7 : PySem.W.typeIn K (.ref C7) = some (.type "type"))
    (xhd7 : PySem.W.hasDictIn K C7 = true)
    (xic7 : PySem.W.isClsIn K C7 = true)
    (xbe8 : PySem.W.subIn K (.ref C8) (.type "BaseException") = some true)
    (xty8 : PySem.W.typeIn K (.ref C8) = some (.type "type"))
    (xhd8 : PySem.W.hasDictIn K C8 = true)
    (xic8 : PySem.W.isClsIn K C8 = true)
    (xbe9 : PySem.W.subIn K (.ref C9) (.type "BaseException") = some true)
    (xty9 : PySem.W.typeIn K (.ref C9) = some (.type "type"))
    (xhd9 : PySem.W.hasDictIn K C9 = true)
    (xic9 : PySem.W.isClsIn K C9 = true)
    (xbe10 : PySem.W.subIn K (.ref C10) (.type "BaseException") = some true)
    (xty10 : PySem.W.typeIn K (.ref C10) = some (.type "type"))
    (xhd10 : PySem.W.hasDictIn K C10 = true)
    (xic10 : PySem.W.isClsIn K C10 = true)
    (xbe11 : PySem.W.subIn K (.ref C11) (.type "BaseException") = some true)
    (xty11 : PySem.W.typeIn K (.ref C11) = some (.type "type"))
    (xhd11 : PySem.W.hasDictIn K C11 = true)
    (xic11 : PySem.W.isClsIn K C11 = true)
    (xbe19 : PySem.W.subIn K (.ref C19) (.type "BaseException") = some true)
    (xty19 : PySem.W.typeIn K (.ref C19) = some (.type "type"))
    (xhd19 : PySem.W.hasDictIn K C19 = true)
    (xic19 : PySem.W.isClsIn K C19 = true)
    (xbe20 : PySem.W.subIn K (.ref C20) (.type "BaseException") = some true)
    (xty20 : PySem.W.typeIn K (.ref C20) = some (.type "type"))
    (xhd20 : PySem.W.hasDictIn K C20 = true)
    (xic20 : PySem.W.isClsIn K C20 = true)
    (xp0 : PySem.W.subIn K (.ref C7) (.ref C2) = some true)
    (xp1 : PySem.W.subIn K (.ref C7) (.ref C3) = some false)
    (xne1 : (Value.ref C7 == Value.ref C3) = false)
    (xp2 : PySem.W.subIn K (.ref C7) (.ref C4) = some false)
    (xne2 : (Value.ref C7 == Value.ref C4) = false)
    (xp3 : PySem.W.subIn K (.ref C7) (.ref C5) = some false)
    (xne3 : (Value.ref C7 == Value.ref C5) = false)
    (xp4 : PySem.W.subIn K (.ref C7) (.ref C6) = some false)
    (xne4 : (Value.ref C7 == Value.ref C6) = false)
    (xp5 : PySem.W.subIn K (.ref C7) (.ref C7) = some true)
    (xp6 : PySem.W.subIn K (.ref C7) (.ref C8) = some false)
    (xne6 : (Value.ref C7 == Value.ref C8) = false)
    (xp7 : PySem.W.subIn K (.ref C7) (.ref C9) = some false)
    (xne7 : (Value.ref C7 == Value.ref C9) = false)
    (xp8 : PySem.W.subIn K (.ref C7) (.ref C10) = some false)
    (xne8 : (Value.ref C7 == Value.ref C10) = false)
    (xp9 : PySem.W.subIn K (.ref C7) (.ref C11) = some false)
    (xne9 : (Value.ref C7 == Value.ref C11) = false)
    (xp10 : PySem.W.subIn K (.ref C7) (.ref C19) = some false)
    (xne10 : (Value.ref C7 == Value.ref C19) = false)
    (xp11 : PySem.W.subIn K (.ref C7) (.ref C20) = some false)
    (xne11 : (Value.ref C7 == Value.ref C20) = false)
    (xp12 : PySem.W.subIn K (.ref C9) (.ref C2) = some true)
    (xp13 : PySem.W.subIn K (.ref C9) (.ref C3) = some false)
    (xne13 : (Value.ref C9 == Value.ref C3) = false)
    (xp14 : PySem.W.subIn K (.ref C9) (.ref C4) = some false)
    (xne14 : (Value.ref C9 == Value.ref C4) = false)
    (xp15 : PySem.W.subIn K (.ref C9) (.ref C5) = some false)
    (xne15 : (Value.ref C9 == Value.ref C5) = false)
    (xp16 : PySem.W.subIn K (.ref C9) (.ref C6) = some false)
    (xne16 : (Value.ref C9 == Value.ref C6) = false)
    (xp17 : PySem.W.subIn K (.ref C9) (.ref C7) = some false)
    (xne17 : (Value.ref C9 == Value.ref C7) = false)
    (xp18 : PySem.W.subIn K (.ref C9) (.ref C8) = some false)
    (xne18 : (Value.ref C9 == Value.ref C8) = false)
    (xp19 : PySem.W.subIn K (.ref C9) (.ref C9) = some true)
    (xp20 : PySem.W.subIn K (.ref C9) (.ref C10) = some false)
    (xne20 : (Value.ref C9 == Value.ref C10) = false)
    (xp21 : PySem.W.subIn K (.ref C9) (.ref C11) = some false)
    (xne21 : (Value.ref C9 == Value.ref C11) = false)
    (xp22 : PySem.W.subIn K (.ref C9) (.ref C19) = some false)
    (xne22 : (Value.ref C9 == Value.ref C19) = false)
    (xp23 : PySem.W.subIn K (.ref C9) (.ref C20) = some false)
    (xne23 : (Value.ref C9 == Value.ref C20) = false)
    (xg : PySem.W.specialIn K (.builtin "object.__class__") "__get__" = some (some (.builtin "getset_descriptor.__get__")))
    (xt : PySem.W.takesIn K (.builtin "object.__class__") = some true)
    (g11 : PySem.W.nsIn K mainGlobals "MOST_STITCHES" = some (some (.int 40 tk11)))
    (g12 : PySem.W.nsIn K mainGlobals "MOST_CROSSED" = some (some (.int 3 tk12)))
    (g13 : PySem.W.nsIn K mainGlobals "MOST_TILL" = some (some (.int 15 tk13)))
    (g14 : PySem.W.nsIn K mainGlobals "MOST_TIMES" = some (some (.int 20 tk14)))
    (z_len : PySem.W.nsIn K mainGlobals "len" = some none)
    (z_str : PySem.W.nsIn K mainGlobals "str" = some none)
    (z_int : PySem.W.nsIn K mainGlobals "int" = some none)
    (z_abs : PySem.W.nsIn K mainGlobals "abs" = some none)
    (z_max : PySem.W.nsIn K mainGlobals "max" = some none)
    (z_min : PySem.W.nsIn K mainGlobals "min" = some none)
    (z_all : PySem.W.nsIn K mainGlobals "all" = some none)
    (z_any : PySem.W.nsIn K mainGlobals "any" = some none)
    (z_list : PySem.W.nsIn K mainGlobals "list" = some none)
    (z_tuple : PySem.W.nsIn K mainGlobals "tuple" = some none)
    (z_isinstance : PySem.W.nsIn K mainGlobals "isinstance" = some none)
    (z_bool : PySem.W.nsIn K mainGlobals "bool" = some none)
    (z_ValueError : PySem.W.nsIn K mainGlobals "ValueError" = some none)
    (z_range : PySem.W.nsIn K mainGlobals "range" = some none)
    (z_enumerate : PySem.W.nsIn K mainGlobals "enumerate" = some none)
    (z_zip : PySem.W.nsIn K mainGlobals "zip" = some none)
    (LT : ∀ ns : List Int, ns.length ≤ 63 → ∃ outs, callN tb pt 20 "law" [.d (.arg ns)] = .ok (.d (.bl true)) outs) :
    ∃ fd : FuncData, (∀ (s : Shared) (v : Value), BindsTo s fd ⟨[v], []⟩ [("_law_script", v)]) ∧ ∀ base : Heap, K.In base → base.Ns mainGlobals mg → FnOk l.prog w K mg base (L2.CX l.prog w) (2 * 20 + 10) fa fd ["_law_script"] (spLaw K) := by
  have e := hfa.symm.trans (PySem.W.mg_of X G a0)
  cases e
  let clL : List (String × Addr) := [("Cable", C0), ("LeftTwo", C1), ("LoopError", C2), ("NoDeed", C3), ("NoLoop", C4), ("NoName", C5), ("NoNeedle", C6), ("NoPiece", C7), ("NoRow", C8), ("NoText", C9), ("NoWay", C10), ("NoYarn", C11), ("Over", C12), ("Plain", C13), ("Purl", C14), ("RightTwo", C15), ("Telling", C16), ("Till", C17), ("Times", C18), ("TooFar", C19), ("TooMany", C20)]
  have F0 := fun_mk (st := s_law) l0 c0 k0
  have b0 := F0.binds (ps := P_law) fun _ _ _ _ _ _ us hl => match us, hl with | [_], _ => rfl
  have E0 : EntOk K pt ⟨"law", fa, _, P_law, fd_law⟩ := ⟨rfl, b0, _, _, _, _, F0, sc_law, rfl, rfl, rfl, Nat.le_of_ble_eq_true rfl, ck_law⟩
  have F1 := fun_mk (st := s__law_class) l1 c1 k1
  have b1 := F1.binds (ps := P__law_class) fun _ _ _ _ _ _ us hl => match us, hl with | [_], _ => rfl
  have E1 : EntOk K pt ⟨"_law_class", f1, _, P__law_class, fd__law_class⟩ := ⟨rfl, b1, _, _, _, _, F1, sc__law_class, rfl, rfl, rfl, Nat.le_of_ble_eq_true rfl, ck__law_class⟩
  have F2 := fun_mk (st := s__law_draws) l2 c2 k2
  have b2 := F2.binds (ps := P__law_draws) fun _ _ _ _ _ _ us hl => match us, hl with | [_, _], _ => rfl
  have E2 : EntOk K pt ⟨"_law_draws", f2, _, P__law_draws, fd__law_draws⟩ := ⟨rfl, b2, _, _, _, _, F2, sc__law_draws, rfl, rfl, rfl, Nat.le_of_ble_eq_true rfl, ck__law_draws⟩
  have F3 := fun_mk (st := s__law_tell) l3 c3 k3
  have b3 := F3.binds (ps := P__law_tell) fun _ _ _ _ _ _ us hl => match us, hl with | [_, _, _], _ => rfl
  have E3 : EntOk K pt ⟨"_law_tell", f3, _, P__law_tell, fd__law_tell⟩ := ⟨rfl, b3, _, _, _, _, F3, sc__law_tell, rfl, rfl, rfl, Nat.le_of_ble_eq_true rfl, ck__law_tell⟩
  have F4 := fun_mk (st := s__law_trees) l4 c4 k4
  have b4 := F4.binds (ps := P__law_trees) fun _ _ _ _ _ _ us hl => match us, hl with | [_, _, _], _ => rfl
  have E4 : EntOk K pt ⟨"_law_trees", f4, _, P__law_trees, fd__law_trees⟩ := ⟨rfl, b4, _, _, _, _, F4, sc__law_trees, rfl, rfl, rfl, Nat.le_of_ble_eq_true rfl, ck__law_trees⟩
  have F5 := fun_mk (st := s_told_out) l5 c5 k5
  have b5 := F5.binds (ps := P_told_out) fun _ _ _ _ _ _ us hl => match us, hl with | [_, _], _ => rfl
  have E5 : EntOk K pt ⟨"told_out", f5, _, P_told_out, fd_told_out⟩ := ⟨rfl, b5, _, _, _, _, F5, sc_told_out, rfl, rfl, rfl, Nat.le_of_ble_eq_true rfl, ck_told_out⟩
  have F6 := fun_mk (st := s__law_takes) l6 c6 k6
  have b6 := F6.binds (ps := P__law_takes) fun _ _ _ _ _ _ us hl => match us, hl with | [_], _ => rfl
  have E6 : EntOk K pt ⟨"_law_takes", f6, _, P__law_takes, fd__law_takes⟩ := ⟨rfl, b6, _, _, _, _, F6, sc__law_takes, rfl, rfl, rfl, Nat.le_of_ble_eq_true rfl, ck__law_takes⟩
  have F7 := fun_mk (st := s__law_simple) l7 c7 k7
  have b7 := F7.binds (ps := P__law_simple) fun _ _ _ _ _ _ us hl => match us, hl with | [_, _], _ => rfl
  have E7 : EntOk K pt ⟨"_law_simple", f7, _, P__law_simple, fd__law_simple⟩ := ⟨rfl, b7, _, _, _, _, F7, sc__law_simple, rfl, rfl, rfl, Nat.le_of_ble_eq_true rfl, ck__law_simple⟩
  have F8 := fun_mk (st := s_told_out_at) l8 c8 k8
  have b8 := F8.binds (ps := P_told_out_at) fun _ _ _ _ _ _ us hl => match us, hl with | [_, _, _], _ => rfl
  have E8 : EntOk K pt ⟨"told_out_at", f8, _, P_told_out_at, fd_told_out_at⟩ := ⟨rfl, b8, _, _, _, _, F8, sc_told_out_at, rfl, rfl, rfl, Nat.le_of_ble_eq_true rfl, ck_told_out_at⟩
  have F9 := fun_mk (st := s_Tellingu_initu) l9 c9 k9
  have b9 := F9.binds (ps := P_Tellingu_initu) fun _ _ _ _ _ _ us hl => match us, hl with | [_, _, _], _ => rfl
  have E9 : EntOk K pt ⟨"Telling.__init__", f9, _, P_Tellingu_initu, fd_Tellingu_initu⟩ := ⟨rfl, b9, _, _, _, _, F9, sc_Tellingu_initu, rfl, rfl, rfl, Nat.le_of_ble_eq_true rfl, ck_Tellingu_initu⟩
  have F10 := fun_mk (st := s_Telling_tell) l10 c10 k10
  have b10 := F10.binds (ps := P_Telling_tell) fun _ _ _ _ _ _ us hl => match us, hl with | [_, _], _ => rfl
  have E10 : EntOk K pt ⟨"Telling.tell", f10, _, P_Telling_tell, fd_Telling_tell⟩ := ⟨rfl, b10, _, _, _, _, F10, sc_Telling_tell, rfl, rfl, rfl, Nat.le_of_ble_eq_true rfl, ck_Telling_tell⟩
  have F11 := fun_mk (st := s_Telling_tell_one) l11 c11 k11
  have b11 := F11.binds (ps := P_Telling_tell_one) fun _ _ _ _ _ _ us hl => match us, hl with | [_, _], _ => rfl
  have E11 : EntOk K pt ⟨"Telling.tell_one", f11, _, P_Telling_tell_one, fd_Telling_tell_one⟩ := ⟨rfl, b11, _, _, _, _, F11, sc_Telling_tell_one, rfl, rfl, rfl, Nat.le_of_ble_eq_true rfl, ck_Telling_tell_one⟩
  have F12 := fun_mk (st := s_Telling_tell_till) l12 c12 k12
  have b12 := F12.binds (ps := P_Telling_tell_till) fun _ _ _ _ _ _ us hl => match us, hl with | [_, _], _ => rfl
  have E12 : EntOk K pt ⟨"Telling.tell_till", f12, _, P_Telling_tell_till, fd_Telling_tell_till⟩ := ⟨rfl, b12, _, _, _, _, F12, sc_Telling_tell_till, rfl, rfl, rfl, Nat.le_of_ble_eq_true rfl, ck_Telling_tell_till⟩
  have F13 := fun_mk (st := s_stitch_of) l13 c13 k13
  have b13 := F13.binds (ps := P_stitch_of) fun _ _ _ _ _ _ us hl => match us, hl with | [_], _ => rfl
  have E13 : EntOk K pt ⟨"stitch_of", f13, _, P_stitch_of, fd_stitch_of⟩ := ⟨rfl, b13, _, _, _, _, F13, sc_stitch_of, rfl, rfl, rfl, Nat.le_of_ble_eq_true rfl, ck_stitch_of⟩
  have F14 := fun_mk (st := s_row_in) l14 c14 k14
  have b14 := F14.binds (ps := P_row_in) fun _ _ _ _ _ _ us hl => match us, hl with | [_], _ => rfl
  have E14 : EntOk K pt ⟨"row_in", f14, _, P_row_in, fd_row_in⟩ := ⟨rfl, b14, _, _, _, _, F14, sc_row_in, rfl, rfl, rfl, Nat.le_of_ble_eq_true rfl, ck_row_in⟩
  have F15 := fun_mk (st := s_stitch_made) l15 c15 k15
  have b15 := F15.binds (ps := P_stitch_made) fun _ _ _ _ _ _ us hl => match us, hl with | [_], _ => rfl
  have E15 : EntOk K pt ⟨"stitch_made", f15, _, P_stitch_made, fd_stitch_made⟩ := ⟨rfl, b15, _, _, _, _, F15, sc_stitch_made, rfl, rfl, rfl, Nat.le_of_ble_eq_true rfl, ck_stitch_made⟩
  have F16 := fun_mk (st := s_cable_of) l16 c16 k16
  have b16 := F16.binds (ps := P_cable_of) fun _ _ _ _ _ _ us hl => match us, hl with | [_], _ => rfl
  have E16 : EntOk K pt ⟨"cable_of", f16, _, P_cable_of, fd_cable_of⟩ := ⟨rfl, b16, _, _, _, _, F16, sc_cable_of, rfl, rfl, rfl, Nat.le_of_ble_eq_true rfl, ck_cable_of⟩
  have F17 := fun_mk (st := s_is_repeat) l17 c17 k17
  have b17 := F17.binds (ps := P_is_repeat) fun _ _ _ _ _ _ us hl => match us, hl with | [_], _ => rfl
  have E17 : EntOk K pt ⟨"is_repeat", f17, _, P_is_repeat, fd_is_repeat⟩ := ⟨rfl, b17, _, _, _, _, F17, sc_is_repeat, rfl, rfl, rfl, Nat.le_of_ble_eq_true rfl, ck_is_repeat⟩
  have F18 := fun_mk (st := s_simple_of) l18 c18 k18
  have b18 := F18.binds (ps := P_simple_of) fun _ _ _ _ _ _ us hl => match us, hl with | [_], _ => rfl
  have E18 : EntOk K pt ⟨"simple_of", f18, _, P_simple_of, fd_simple_of⟩ := ⟨rfl, b18, _, _, _, _, F18, sc_simple_of, rfl, rfl, rfl, Nat.le_of_ble_eq_true rfl, ck_simple_of⟩
  have F19 := fun_mk (st := s_Repeatu_initu) l19 c19 k19
  have b19 := F19.binds (ps := P_Repeatu_initu) fun _ _ _ _ _ _ us hl => match us, hl with | [_, _, _], _ => rfl
  have E19 : EntOk K pt ⟨"Repeat.__init__", f19, _, P_Repeatu_initu, fd_Repeatu_initu⟩ := ⟨rfl, b19, _, _, _, _, F19, sc_Repeatu_initu, rfl, rfl, rfl, Nat.le_of_ble_eq_true rfl, ck_Repeatu_initu⟩
  have F20 := fun_mk (st := s_Repeat_takes) l20 c20 k20
  have b20 := F20.binds (ps := P_Repeat_takes) fun _ _ _ _ _ _ us hl => match us, hl with | [_], _ => rfl
  have E20 : EntOk K pt ⟨"Repeat.takes", f20, _, P_Repeat_takes, fd_Repeat_takes⟩ := ⟨rfl, b20, _, _, _, _, F20, sc_Repeat_takes, rfl, rfl, rfl, Nat.le_of_ble_eq_true rfl, ck_Repeat_takes⟩
  have F21 := fun_mk (st := s_is_between) l21 c21 k21
  have b21 := F21.binds (ps := P_is_between) fun _ _ _ _ _ _ us hl => match us, hl with | [_, _, _], _ => rfl
  have E21 : EntOk K pt ⟨"is_between", f21, _, P_is_between, fd_is_between⟩ := ⟨rfl, b21, _, _, _, _, F21, sc_is_between, rfl, rfl, rfl, Nat.le_of_ble_eq_true rfl, ck_is_between⟩
  have F22 := fun_mk (st := s_Cableu_initu) l22 c22 k22
  have b22 := F22.binds (ps := P_Cableu_initu) fun _ _ _ _ _ _ us hl => match us, hl with | [_, _, _, _], _ => rfl
  have E22 : EntOk K pt ⟨"Cable.__init__", f22, _, P_Cableu_initu, fd_Cableu_initu⟩ := ⟨rfl, b22, _, _, _, _, F22, sc_Cableu_initu, rfl, rfl, rfl, Nat.le_of_ble_eq_true rfl, ck_Cableu_initu⟩
  have F23 := fun_mk (st := s_Cable_takes) l23 c23 k23
  have b23 := F23.binds (ps := P_Cable_takes) fun _ _ _ _ _ _ us hl => match us, hl with | [_], _ => rfl
  have E23 : EntOk K pt ⟨"Cable.takes", f23, _, P_Cable_takes, fd_Cable_takes⟩ := ⟨rfl, b23, _, _, _, _, F23, sc_Cable_takes, rfl, rfl, rfl, Nat.le_of_ble_eq_true rfl, ck_Cable_takes⟩
  have F24 := fun_mk (st := s_LeftTwo_takes) l24 c24 k24
  have b24 := F24.binds (ps := P_LeftTwo_takes) fun _ _ _ _ _ _ us hl => match us, hl with | [_], _ => rfl
  have E24 : EntOk K pt ⟨"LeftTwo.takes", f24, _, P_LeftTwo_takes, fd_LeftTwo_takes⟩ := ⟨rfl, b24, _, _, _, _, F24, sc_LeftTwo_takes, rfl, rfl, rfl, Nat.le_of_ble_eq_true rfl, ck_LeftTwo_takes⟩
  have F25 := fun_mk (st := s_Over_takes) l25 c25 k25
  have b25 := F25.binds (ps := P_Over_takes) fun _ _ _ _ _ _ us hl => match us, hl with | [_], _ => rfl
  have E25 : EntOk K pt ⟨"Over.takes", f25, _, P_Over_takes, fd_Over_takes⟩ := ⟨rfl, b25, _, _, _, _, F25, sc_Over_takes, rfl, rfl, rfl, Nat.le_of_ble_eq_true rfl, ck_Over_takes⟩
  have F26 := fun_mk (st := s_Stitch_takes) l26 c26 k26
  have b26 := F26.binds (ps := P_Stitch_takes) fun _ _ _ _ _ _ us hl => match us, hl with | [_], _ => rfl
  have E26 : EntOk K pt ⟨"Stitch.takes", f26, _, P_Stitch_takes, fd_Stitch_takes⟩ := ⟨rfl, b26, _, _, _, _, F26, sc_Stitch_takes, rfl, rfl, rfl, Nat.le_of_ble_eq_true rfl, ck_Stitch_takes⟩
  have F27 := fun_mk (st := s_RightTwo_takes) l27 c27 k27
  have b27 := F27.binds (ps := P_RightTwo_takes) fun _ _ _ _ _ _ us hl => match us, hl with | [_], _ => rfl
  have E27 : EntOk K pt ⟨"RightTwo.takes", f27, _, P_RightTwo_takes, fd_RightTwo_takes⟩ := ⟨rfl, b27, _, _, _, _, F27, sc_RightTwo_takes, rfl, rfl, rfl, Nat.le_of_ble_eq_true rfl, ck_RightTwo_takes⟩
  have K0 : Cls K C0 := ⟨pg0, hd0, po0, sa0⟩
  have K1 : Cls K C1 := ⟨pg1, hd1, po1, sa1⟩
  have K12 : Cls K C12 := ⟨pg12, hd12, po12, sa12⟩
  have K13 : Cls K C13 := ⟨pg13, hd13, po13, sa13⟩
  have K14 : Cls K C14 := ⟨pg14, hd14, po14, sa14⟩
  have K15 : Cls K C15 := ⟨pg15, hd15, po15, sa15⟩
  have K16 : Cls K C16 := ⟨pg16, hd16, po16, sa16⟩
  have K17 : Cls K C17 := ⟨pg17, hd17, po17, sa17⟩
  have K18 : Cls K C18 := ⟨pg18, hd18, po18, sa18⟩
  have cl0 : clL.lookup "Cable" = some C0 := rfl
  have cl1 : clL.lookup "LeftTwo" = some C1 := rfl
  have cl2 : clL.lookup "LoopError" = some C2 := rfl
  have cl3 : clL.lookup "NoDeed" = some C3 := rfl
  have cl4 : clL.lookup "NoLoop" = some C4 := rfl
  have cl5 : clL.lookup "NoName" = some C5 := rfl
  have cl6 : clL.lookup "NoNeedle" = some C6 := rfl
  have cl7 : clL.lookup "NoPiece" = some C7 := rfl
  have cl8 : clL.lookup "NoRow" = some C8 := rfl
  have cl9 : clL.lookup "NoText" = some C9 := rfl
  have cl10 : clL.lookup "NoWay" = some C10 := rfl
  have cl11 : clL.lookup "NoYarn" = some C11 := rfl
  have cl12 : clL.lookup "Over" = some C12 := rfl
  have cl13 : clL.lookup "Plain" = some C13 := rfl
  have cl14 : clL.lookup "Purl" = some C14 := rfl
  have cl15 : clL.lookup "RightTwo" = some C15 := rfl
  have cl16 : clL.lookup "Telling" = some C16 := rfl
  have cl17 : clL.lookup "Till" = some C17 := rfl
  have cl18 : clL.lookup "Times" = some C18 := rfl
  have cl19 : clL.lookup "TooFar" = some C19 := rfl
  have cl20 : clL.lookup "TooMany" = some C20 := rfl
  have FX : FunD K "__init__" "LoopError.__init__" (defArgs s_LE) (defBody s_LE) (defScope s_LE) [.non] [] fX _ := ⟨⟨_, _, _, _, _, _, _, _, _, _, rfl, lX, cX, .inr ⟨by simp, dT, _, [.none], _, rfl, dX, rfl, .cons rfl .nil⟩, .inl rfl⟩, kX⟩
  have bX1 := FX.binds1 (ps := ["self", "words", "number"]) 2 0 (by simp) rfl fun _ _ _ _ _ _ _ us its h1 h2 => match us, its, h1, h2 with | [_, _], [_], _, _ => ⟨_, rfl, rfl⟩
  have bX2 := FX.binds1 (ps := ["self", "words", "number"]) 3 1 (by simp) rfl fun _ _ _ _ _ _ _ us its h1 h2 => match us, its, h1, h2 with | [_, _, _], [_], _, _ => ⟨_, rfl, rfl⟩
  have BI : ∀ base : Heap, BaseI l.prog w K mg base "LoopError" := fun base => by
    obtain ⟨ds, r1, r2⟩ := bX1
    exact ⟨C2, fX, _, ds, PySem.W.mg_of X G aC2, ⟨bR, bG⟩, bF, kX, le_ok 3 FX sc_LE lb_LE (PySem.W.mg_none_of X G z_ValueError) vX, r1, r2⟩
  have FXT : FunD K "__init__" "NoText.__init__" (defArgs s_NT) (defBody s_NT) (defScope s_NT) [.non] [] fXT _ := ⟨⟨_, _, _, _, _, _, _, _, _, _, rfl, lXT, cXT, .inr ⟨by simp, dTT, _, [.none], _, rfl, dXT, rfl, .cons rfl .nil⟩, .inl rfl⟩, kXT⟩
  have bT1 := FXT.binds1 (ps := ["self", "words", "line"]) 2 0 (by simp) rfl fun _ _ _ _ _ _ _ us its h1 h2 => match us, its, h1, h2 with | [_, _], [_], _, _ => ⟨_, rfl, rfl⟩
  have bT2 := FXT.binds1 (ps := ["self", "words", "line"]) 3 1 (by simp) rfl fun _ _ _ _ _ _ _ us its h1 h2 => match us, its, h1, h2 with | [_, _, _], [_], _, _ => ⟨_, rfl, rfl⟩
  have FXP : FunD K "__init__" "NoPiece.__init__" (defArgs s_NP) (defBody s_NP) (defScope s_NP) [] [] fXP _ := ⟨⟨_, _, _, _, _, _, _, _, _, _, rfl, lXP, cXP, .inl ⟨rfl, rfl⟩, .inl rfl⟩, kXP⟩
  have bP := (fun_mk (st := s_NP) lXP cXP kXP).binds (ps := ["self", "course", "stitch", "why"]) fun _ _ _ _ _ _ us hl => match us, hl with | [_, _, _, _], _ => rfl
  have XO7 : OexC K C7 := ⟨⟨_, _, _, _, _, _, _, _, _, _, _, _, _, _, _, xl7, by rfl⟩, xsa7, xbe7, xty7, xkc7⟩
  have XK7 : XcK K C7 := ⟨xga7, xgg7, xbe7, xhd7, xha7, xg, xt, xhm7, xic7⟩
  have XO9 : OexC K C9 := ⟨⟨_, _, _, _, _, _, _, _, _, _, _, _, _, _, _, xl9, by rfl⟩, xsa9, xbe9, xty9, xkc9⟩
  have XK9 : XcK K C9 := ⟨xga9, xgg9, xbe9, xhd9, xha9, xg, xt, xhm9, xic9⟩
  have Z : Top K mg (fun c => clL.lookup c) tb pt := by
    refine ⟨?glob, ?blt, ?tyn, ?isx, ?xcl, ?rng, ?enm, ?isa, ?fn, ?meth, ?ini0, ?zp, ?init, ?fld⟩
    case glob =>
      intro x d hx
      have hx : tbG.lookup x = some d := hx
      have hm := mem_lk hx
      simp only [tbG, List.mem_cons, List.not_mem_nil, or_false, Prod.mk.injEq] at hm
      rcases hm with ⟨rfl, rfl⟩ | ⟨rfl, rfl⟩ | ⟨rfl, rfl⟩ | ⟨rfl, rfl⟩ | ⟨rfl, rfl⟩ | ⟨rfl, rfl⟩ | ⟨rfl, rfl⟩ | ⟨rfl, rfl⟩ | ⟨rfl, rfl⟩ | ⟨rfl, rfl⟩ | ⟨rfl, rfl⟩ | ⟨rfl, rfl⟩ | ⟨rfl, rfl⟩ | ⟨rfl, rfl⟩ | ⟨rfl, rfl⟩
      · exact ⟨_, .ref C8, PySem.W.mg_of X G aC8, rfl, fun A H => by unfold VR; exact ⟨C8, cl8, rfl⟩⟩
      · exact ⟨_, .ref C5, PySem.W.mg_of X G aC5, rfl, fun A H => by unfold VR; exact ⟨C5, cl5, rfl⟩⟩
      · exact ⟨_, .ref C7, PySem.W.mg_of X G aC7, rfl, fun A H => by unfold VR; exact ⟨C7, cl7, rfl⟩⟩
      · exact ⟨_, .ref C9, PySem.W.mg_of X G aC9, rfl, fun A H => by unfold VR; exact ⟨C9, cl9, rfl⟩⟩
      · exact ⟨_, .ref C19, PySem.W.mg_of X G aC19, rfl, fun A H => by unfold VR; exact ⟨C19, cl19, rfl⟩⟩
      · exact ⟨_, .ref C20, PySem.W.mg_of X G aC20, rfl, fun A H => by unfold VR; exact ⟨C20, cl20, rfl⟩⟩
      · exact ⟨_, .ref C6, PySem.W.mg_of X G aC6, rfl, fun A H => by unfold VR; exact ⟨C6, cl6, rfl⟩⟩
      · exact ⟨_, .ref C4, PySem.W.mg_of X G aC4, rfl, fun A H => by unfold VR; exact ⟨C4, cl4, rfl⟩⟩
      · exact ⟨_, .ref C10, PySem.W.mg_of X G aC10, rfl, fun A H => by unfold VR; exact ⟨C10, cl10, rfl⟩⟩
      · exact ⟨_, .ref C11, PySem.W.mg_of X G aC11, rfl, fun A H => by unfold VR; exact ⟨C11, cl11, rfl⟩⟩
      · exact ⟨_, .ref C3, PySem.W.mg_of X G aC3, rfl, fun A H => by unfold VR; exact ⟨C3, cl3, rfl⟩⟩
      · exact ⟨_, .int 40, PySem.W.mg_of X G g11, ⟨_, rfl⟩, fun A H => VR.int⟩
      · exact ⟨_, .int 3, PySem.W.mg_of X G g12, ⟨_, rfl⟩, fun A H => VR.int⟩
      · exact ⟨_, .int 15, PySem.W.mg_of X G g13, ⟨_, rfl⟩, fun A H => VR.int⟩
      · exact ⟨_, .int 20, PySem.W.mg_of X G g14, ⟨_, rfl⟩, fun A H => VR.int⟩
    case blt =>
      intro b
      cases b
      · exact PySem.W.mg_none_of X G z_len
      · exact PySem.W.mg_none_of X G z_str
      · exact PySem.W.mg_none_of X G z_int
      · exact PySem.W.mg_none_of X G z_abs
      · exact PySem.W.mg_none_of X G z_max
      · exact PySem.W.mg_none_of X G z_min
      · exact PySem.W.mg_none_of X G z_all
      · exact PySem.W.mg_none_of X G z_any
      · exact PySem.W.mg_none_of X G z_list
      · exact PySem.W.mg_none_of X G z_tuple
      · exact PySem.W.mg_none_of X G z_isinstance
    case tyn =>
      intro n hn
      have hn : n = "int" ∨ n = "str" ∨ n = "bool" ∨ n = "tuple" ∨ n = "list" ∨ n = "ValueError" := by simpa [tys] using hn
      rcases hn with rfl | rfl | rfl | rfl | rfl | rfl
      · exact PySem.W.mg_none_of X G z_int
      · exact PySem.W.mg_none_of X G z_str
      · exact PySem.W.mg_none_of X G z_bool
      · exact PySem.W.mg_none_of X G z_tuple
      · exact PySem.W.mg_none_of X G z_list
      · exact PySem.W.mg_none_of X G z_ValueError
    case isx =>
      constructor
      · intro c C b a A hx h1 h2
        have hx : tbXI.lookup (c, C) = some b := hx
        have hm := mem_lk hx
        simp only [tbXI, List.mem_cons, List.not_mem_nil, or_false, Prod.mk.injEq] at hm
        rcases hm with ⟨⟨rfl, rfl⟩, rfl⟩ | ⟨⟨rfl, rfl⟩, rfl⟩ | ⟨⟨rfl, rfl⟩, rfl⟩ | ⟨⟨rfl, rfl⟩, rfl⟩ | ⟨⟨rfl, rfl⟩, rfl⟩ | ⟨⟨rfl, rfl⟩, rfl⟩ | ⟨⟨rfl, rfl⟩, rfl⟩ | ⟨⟨rfl, rfl⟩, rfl⟩ | ⟨⟨rfl, rfl⟩, rfl⟩ | ⟨⟨rfl, rfl⟩, rfl⟩ | ⟨⟨rfl, rfl⟩, rfl⟩ | ⟨⟨rfl, rfl⟩, rfl⟩ | ⟨⟨rfl, rfl⟩, rfl⟩ | ⟨⟨rfl, rfl⟩, rfl⟩ | ⟨⟨rfl, rfl⟩, rfl⟩ | ⟨⟨rfl, rfl⟩, rfl⟩ | ⟨⟨rfl, rfl⟩, rfl⟩ | ⟨⟨rfl, rfl⟩, rfl⟩ | ⟨⟨rfl, rfl⟩, rfl⟩ | ⟨⟨rfl, rfl⟩, rfl⟩ | ⟨⟨rfl, rfl⟩, rfl⟩ | ⟨⟨rfl, rfl⟩, rfl⟩ | ⟨⟨rfl, rfl⟩, rfl⟩ | ⟨⟨rfl, rfl⟩, rfl⟩
        · cases (show some C7 = some a from h1)
          cases (show some C2 = some A from h2)
          exact ⟨kit_t xic2 xty2 xp0, exm_r xbe2 xhd2 xty2 xp0⟩
        · cases (show some C7 = some a from h1)
          cases (show some C3 = some A from h2)
          exact ⟨kit_f xic3 xty3 xp1 xne1, exm_r xbe3 xhd3 xty3 xp1⟩
        · cases (show some C7 = some a from h1)
          cases (show some C4 = some A from h2)
          exact ⟨kit_f xic4 xty4 xp2 xne2, exm_r xbe4 xhd4 xty4 xp2⟩
        · cases (show some C7 = some a from h1)
          cases (show some C5 = some A from h2)
          exact ⟨kit_f xic5 xty5 xp3 xne3, exm_r xbe5 xhd5 xty5 xp3⟩
        · cases (show some C7 = some a from h1)
          cases (show some C6 = some A from h2)
          exact ⟨kit_f xic6 xty6 xp4 xne4, exm_r xbe6 xhd6 xty6 xp4⟩
        · cases (show some C7 = some a from h1)
          cases (show some C7 = some A from h2)
          exact ⟨kit_t xic7 xty7 xp5, exm_r xbe7 xhd7 xty7 xp5⟩
        · cases (show some C7 = some a from h1)
          cases (show some C8 = some A from h2)
          exact ⟨kit_f xic8 xty8 xp6 xne6, exm_r xbe8 xhd8 xty8 xp6⟩
        · cases (show some C7 = some a from h1)
          cases (show some C9 = some A from h2)
          exact ⟨kit_f xic9 xty9 xp7 xne7, exm_r xbe9 xhd9 xty9 xp7⟩
        · cases (show some C7 = some a from h1)
          cases (show some C10 = some A from h2)
          exact ⟨kit_f xic10 xty10 xp8 xne8, exm_r xbe10 xhd10 xty10 xp8⟩
        · cases (show some C7 = some a from h1)
          cases (show some C11 = some A from h2)
          exact ⟨kit_f xic11 xty11 xp9 xne9, exm_r xbe11 xhd11 xty11 xp9⟩
        · cases (show some C7 = some a from h1)
          cases (show some C19 = some A from h2)
          exact ⟨kit_f xic19 xty19 xp10 xne10, exm_r xbe19 xhd19 xty19 xp10⟩
        · cases (show some C7 = some a from h1)
          cases (show some C20 = some A from h2)
          exact ⟨kit_f xic20 xty20 xp11 xne11, exm_r xbe20 xhd20 xty20 xp11⟩
        · cases (show some C9 = some a from h1)
          cases (show some C2 = some A from h2)
          exact ⟨kit_t xic2 xty2 xp12, exm_r xbe2 xhd2 xty2 xp12⟩
        · cases (show some C9 = some a from h1)
          cases (show some C3 = some A from h2)
          exact ⟨kit_f xic3 xty3 xp13 xne13, exm_r xbe3 xhd3 xty3 xp13⟩
        · cases (show some C9 = some a from h1)
          cases (show some C4 = some A from h2)
          exact ⟨kit_f xic4 xty4 xp14 xne14, exm_r xbe4 xhd4 xty4 xp14⟩
        · cases (show some C9 = some a from h1)
          cases (show some C5 = some A from h2)
          exact ⟨kit_f xic5 xty5 xp15 xne15, exm_r xbe5 xhd5 xty5 xp15⟩
        · cases (show some C9 = some a from h1)
          cases (show some C6 = some A from h2)
          exact ⟨kit_f xic6 xty6 xp16 xne16, exm_r xbe6 xhd6 xty6 xp16⟩
        · cases (show some C9 = some a from h1)
          cases (show some C7 = some A from h2)
          exact ⟨kit_f xic7 xty7 xp17 xne17, exm_r xbe7 xhd7 xty7 xp17⟩
        · cases (show some C9 = some a from h1)
          cases (show some C8 = some A from h2)
          exact ⟨kit_f xic8 xty8 xp18 xne18, exm_r xbe8 xhd8 xty8 xp18⟩
        · cases (show some C9 = some a from h1)
          cases (show some C9 = some A from h2)
          exact ⟨kit_t xic9 xty9 xp19, exm_r xbe9 xhd9 xty9 xp19⟩
        · cases (show some C9 = some a from h1)
          cases (show some C10 = some A from h2)
          exact ⟨kit_f xic10 xty10 xp20 xne20, exm_r xbe10 xhd10 xty10 xp20⟩
        · cases (show some C9 = some a from h1)
          cases (show some C11 = some A from h2)
          exact ⟨kit_f xic11 xty11 xp21 xne21, exm_r xbe11 xhd11 xty11 xp21⟩
        · cases (show some C9 = some a from h1)
          cases (show some C19 = some A from h2)
          exact ⟨kit_f xic19 xty19 xp22 xne22, exm_r xbe19 xhd19 xty19 xp22⟩
        · cases (show some C9 = some a from h1)
          cases (show some C20 = some A from h2)
          exact ⟨kit_f xic20 xty20 xp23 xne23, exm_r xbe20 xhd20 xty20 xp23⟩
      · intro c C b a hx h1
        have hx : tbXI.lookup (c, C) = some b := hx
        have hm := mem_lk hx
        simp only [tbXI, List.mem_cons, List.not_mem_nil, or_false, Prod.mk.injEq] at hm
        rcases hm with ⟨⟨rfl, rfl⟩, rfl⟩ | ⟨⟨rfl, rfl⟩, rfl⟩ | ⟨⟨rfl, rfl⟩, rfl⟩ | ⟨⟨rfl, rfl⟩, rfl⟩ | ⟨⟨rfl, rfl⟩, rfl⟩ | ⟨⟨rfl, rfl⟩, rfl⟩ | ⟨⟨rfl, rfl⟩, rfl⟩ | ⟨⟨rfl, rfl⟩, rfl⟩ | ⟨⟨rfl, rfl⟩, rfl⟩ | ⟨⟨rfl, rfl⟩, rfl⟩ | ⟨⟨rfl, rfl⟩, rfl⟩ | ⟨⟨rfl, rfl⟩, rfl⟩ | ⟨⟨rfl, rfl⟩, rfl⟩ | ⟨⟨rfl, rfl⟩, rfl⟩ | ⟨⟨rfl, rfl⟩, rfl⟩ | ⟨⟨rfl, rfl⟩, rfl⟩ | ⟨⟨rfl, rfl⟩, rfl⟩ | ⟨⟨rfl, rfl⟩, rfl⟩ | ⟨⟨rfl, rfl⟩, rfl⟩ | ⟨⟨rfl, rfl⟩, rfl⟩ | ⟨⟨rfl, rfl⟩, rfl⟩ | ⟨⟨rfl, rfl⟩, rfl⟩ | ⟨⟨rfl, rfl⟩, rfl⟩ | ⟨⟨rfl, rfl⟩, rfl⟩
        · cases (show some C7 = some a from h1)
          exact ⟨XK7, kit_ve xve7⟩
        · cases (show some C7 = some a from h1)
          exact ⟨XK7, kit_ve xve7⟩
        · cases (show some C7 = some a from h1)
          exact ⟨XK7, kit_ve xve7⟩
        · cases (show some C7 = some a from h1)
          exact ⟨XK7, kit_ve xve7⟩
        · cases (show some C7 = some a from h1)
          exact ⟨XK7, kit_ve xve7⟩
        · cases (show some C7 = some a from h1)
          exact ⟨XK7, kit_ve xve7⟩
        · cases (show some C7 = some a from h1)
          exact ⟨XK7, kit_ve xve7⟩
        · cases (show some C7 = some a from h1)
          exact ⟨XK7, kit_ve xve7⟩
        · cases (show some C7 = some a from h1)
          exact ⟨XK7, kit_ve xve7⟩
        · cases (show some C7 = some a from h1)
          exact ⟨XK7, kit_ve xve7⟩
        · cases (show some C7 = some a from h1)
          exact ⟨XK7, kit_ve xve7⟩
        · cases (show some C7 = some a from h1)
          exact ⟨XK7, kit_ve xve7⟩
        · cases (show some C9 = some a from h1)
          exact ⟨XK9, kit_ve xve9⟩
        · cases (show some C9 = some a from h1)
          exact ⟨XK9, kit_ve xve9⟩
        · cases (show some C9 = some a from h1)
          exact ⟨XK9, kit_ve xve9⟩
        · cases (show some C9 = some a from h1)
          exact ⟨XK9, kit_ve xve9⟩
        · cases (show some C9 = some a from h1)
          exact ⟨XK9, kit_ve xve9⟩
        · cases (show some C9 = some a from h1)
          exact ⟨XK9, kit_ve xve9⟩
        · cases (show some C9 = some a from h1)
          exact ⟨XK9, kit_ve xve9⟩
        · cases (show some C9 = some a from h1)
          exact ⟨XK9, kit_ve xve9⟩
        · cases (show some C9 = some a from h1)
          exact ⟨XK9, kit_ve xve9⟩
        · cases (show some C9 = some a from h1)
          exact ⟨XK9, kit_ve xve9⟩
        · cases (show some C9 = some a from h1)
          exact ⟨XK9, kit_ve xve9⟩
        · cases (show some C9 = some a from h1)
          exact ⟨XK9, kit_ve xve9⟩
      · intro c f a hx h1
        have hm : (c, f) ∈ tbXF := by simpa using (show tbXF.contains (c, f) = true from hx)
        simp only [tbXF, List.mem_cons, List.not_mem_nil, or_false, Prod.mk.injEq] at hm
        rcases hm with ⟨rfl, rfl⟩ | ⟨rfl, rfl⟩ | ⟨rfl, rfl⟩ | ⟨rfl, rfl⟩ | ⟨rfl, rfl⟩ | ⟨rfl, rfl⟩
        · cases (show some C7 = some a from h1)
          exact ⟨XK7, xnf7⟩
        · cases (show some C7 = some a from h1)
          exact ⟨XK7, xnf7why⟩
        · cases (show some C7 = some a from h1)
          exact ⟨XK7, xnf7stitch⟩
        · cases (show some C7 = some a from h1)
          exact ⟨XK7, xnf7course⟩
        · cases (show some C9 = some a from h1)
          exact ⟨XK9, xnf9⟩
        · cases (show some C9 = some a from h1)
          exact ⟨XK9, xnf9line⟩
    case xcl =>
      intro c hx
      have hm : c ∈ tbXE := by simpa using (show tbXE.contains c = true from hx)
      simp only [tbXE, List.mem_cons, List.not_mem_nil, or_false] at hm
      rcases hm with rfl
      · exact ⟨C2, cl2, PySem.W.mg_of X G aC2⟩
    case rng => exact PySem.W.mg_none_of X G z_range
    case enm => exact PySem.W.mg_none_of X G z_enumerate
    case zp => exact PySem.W.mg_none_of X G z_zip
    case ini0 =>
      intro c hx
      have hm : c ∈ tbN := by simpa using (show tbN.contains c = true from hx)
      simp only [tbN, List.mem_cons, List.not_mem_nil, or_false] at hm
      rcases hm with rfl | rfl | rfl | rfl | rfl
      · exact ⟨C1, cl1, PySem.W.mg_of X G aC1, ⟨mk1, in1, xo1, kc1⟩⟩
      · exact ⟨C12, cl12, PySem.W.mg_of X G aC12, ⟨mk12, in12, xo12, kc12⟩⟩
      · exact ⟨C13, cl13, PySem.W.mg_of X G aC13, ⟨mk13, in13, xo13, kc13⟩⟩
      · exact ⟨C14, cl14, PySem.W.mg_of X G aC14, ⟨mk14, in14, xo14, kc14⟩⟩
      · exact ⟨C15, cl15, PySem.W.mg_of X G aC15, ⟨mk15, in15, xo15, kc15⟩⟩
    case isa =>
      exact ⟨fun c C b a A hx => (nomatch (show none = some b from hx)), fun c C b a hx => (nomatch (show none = some b from hx))⟩
    case fn =>
      intro f hf
      have hm : f ∈ tbF := by simpa using (show tbF.contains f = true from hf)
      simp only [tbF, List.mem_cons, List.not_mem_nil, or_false] at hm
      rcases hm with rfl | rfl | rfl | rfl | rfl | rfl | rfl | rfl | rfl | rfl | rfl | rfl | rfl | rfl | rfl | rfl
      · exact ⟨_, E0, rfl, PySem.W.mg_of X G a0, k0⟩
      · exact ⟨_, E1, rfl, PySem.W.mg_of X G a1, k1⟩
      · exact ⟨_, E2, rfl, PySem.W.mg_of X G a2, k2⟩
      · exact ⟨_, E3, rfl, PySem.W.mg_of X G a3, k3⟩
      · exact ⟨_, E4, rfl, PySem.W.mg_of X G a4, k4⟩
      · exact ⟨_, E5, rfl, PySem.W.mg_of X G a5, k5⟩
      · exact ⟨_, E6, rfl, PySem.W.mg_of X G a6, k6⟩
      · exact ⟨_, E7, rfl, PySem.W.mg_of X G a7, k7⟩
      · exact ⟨_, E8, rfl, PySem.W.mg_of X G a8, k8⟩
      · exact ⟨_, E13, rfl, PySem.W.mg_of X G a13, k13⟩
      · exact ⟨_, E14, rfl, PySem.W.mg_of X G a14, k14⟩
      · exact ⟨_, E15, rfl, PySem.W.mg_of X G a15, k15⟩
      · exact ⟨_, E16, rfl, PySem.W.mg_of X G a16, k16⟩
      · exact ⟨_, E17, rfl, PySem.W.mg_of X G a17, k17⟩
      · exact ⟨_, E18, rfl, PySem.W.mg_of X G a18, k18⟩
      · exact ⟨_, E21, rfl, PySem.W.mg_of X G a21, k21⟩
    case meth =>
      intro c m q C hx h1
      have hx : tbM.lookup (c, m) = some q := hx
      have hm := mem_lk hx
      simp only [tbM, List.mem_cons, List.not_mem_nil, or_false, Prod.mk.injEq] at hm
      rcases hm with ⟨⟨rfl, rfl⟩, rfl⟩ | ⟨⟨rfl, rfl⟩, rfl⟩ | ⟨⟨rfl, rfl⟩, rfl⟩ | ⟨⟨rfl, rfl⟩, rfl⟩ | ⟨⟨rfl, rfl⟩, rfl⟩ | ⟨⟨rfl, rfl⟩, rfl⟩ | ⟨⟨rfl, rfl⟩, rfl⟩ | ⟨⟨rfl, rfl⟩, rfl⟩ | ⟨⟨rfl, rfl⟩, rfl⟩ | ⟨⟨rfl, rfl⟩, rfl⟩ | ⟨⟨rfl, rfl⟩, rfl⟩
      · cases (show some C0 = some C from h1)
        exact ⟨K0, _, E23, rfl, m0, i23, k23⟩
      · cases (show some C1 = some C from h1)
        exact ⟨K1, _, E24, rfl, m1, i24, k24⟩
      · cases (show some C12 = some C from h1)
        exact ⟨K12, _, E25, rfl, m2, i25, k25⟩
      · cases (show some C13 = some C from h1)
        exact ⟨K13, _, E26, rfl, m3, i26, k26⟩
      · cases (show some C14 = some C from h1)
        exact ⟨K14, _, E26, rfl, m4, i26, k26⟩
      · cases (show some C15 = some C from h1)
        exact ⟨K15, _, E27, rfl, m5, i27, k27⟩
      · cases (show some C16 = some C from h1)
        exact ⟨K16, _, E10, rfl, m6, i10, k10⟩
      · cases (show some C16 = some C from h1)
        exact ⟨K16, _, E11, rfl, m7, i11, k11⟩
      · cases (show some C16 = some C from h1)
        exact ⟨K16, _, E12, rfl, m8, i12, k12⟩
      · cases (show some C17 = some C from h1)
        exact ⟨K17, _, E20, rfl, m9, i20, k20⟩
      · cases (show some C18 = some C from h1)
        exact ⟨K18, _, E20, rfl, m10, i20, k20⟩
    case init =>
      intro c q hx
      have hx : tbI.lookup c = some q := hx
      have hm := mem_lk hx
      simp only [tbI, List.mem_cons, List.not_mem_nil, or_false, Prod.mk.injEq] at hm
      rcases hm with ⟨rfl, rfl⟩ | ⟨rfl, rfl⟩ | ⟨rfl, rfl⟩ | ⟨rfl, rfl⟩
      · exact ⟨C0, _, cl0, PySem.W.mg_of X G aC0, E22, rfl, mk0, n0, i22, kc0⟩
      · exact ⟨C16, _, cl16, PySem.W.mg_of X G aC16, E9, rfl, mk16, n1, i9, kc16⟩
      · exact ⟨C17, _, cl17, PySem.W.mg_of X G aC17, E19, rfl, mk17, n2, i19, kc17⟩
      · exact ⟨C18, _, cl18, PySem.W.mg_of X G aC18, E19, rfl, mk18, n3, i19, kc18⟩
    case fld =>
      intro c f C hx h1
      have hm : (c, f) ∈ tbA := by simpa using (show tbA.contains (c, f) = true from hx)
      simp only [tbA, List.mem_cons, List.not_mem_nil, or_false, Prod.mk.injEq] at hm
      rcases hm with ⟨rfl, rfl⟩ | ⟨rfl, rfl⟩ | ⟨rfl, rfl⟩ | ⟨rfl, rfl⟩ | ⟨rfl, rfl⟩ | ⟨rfl, rfl⟩ | ⟨rfl, rfl⟩ | ⟨rfl, rfl⟩ | ⟨rfl, rfl⟩ | ⟨rfl, rfl⟩
      · cases (show some C0 = some C from h1)
        exact ⟨K0, nf0_first⟩
      · cases (show some C0 = some C from h1)
        exact ⟨K0, nf0_front⟩
      · cases (show some C0 = some C from h1)
        exact ⟨K0, nf0_second⟩
      · cases (show some C16 = some C from h1)
        exact ⟨K16, nf16_still⟩
      · cases (show some C16 = some C from h1)
        exact ⟨K16, nf16_course⟩
      · cases (show some C16 = some C from h1)
        exact ⟨K16, nf16_trees⟩
      · cases (show some C17 = some C from h1)
        exact ⟨K17, nf17_times_told⟩
      · cases (show some C17 = some C from h1)
        exact ⟨K17, nf17_row⟩
      · cases (show some C18 = some C from h1)
        exact ⟨K18, nf18_times_told⟩
      · cases (show some C18 = some C from h1)
        exact ⟨K18, nf18_row⟩
  have ZX : ∀ base : Heap, ∀ c n, tb.xn c n = true → XMk l.prog w K mg base (fun c => clL.lookup c) tb.xc c n := by
    intro base c n hx
    have hm : (c, n) ∈ tbXN := by simpa using (show tbXN.contains (c, n) = true from hx)
    simp only [tbXN, List.mem_cons, List.not_mem_nil, or_false, Prod.mk.injEq] at hm
    rcases hm with ⟨rfl, rfl⟩ | ⟨rfl, rfl⟩
    · exact xmk_P (by funext xs; rfl) (np_ok FXP sc_NP lb_NP (BI base)) bP cl7 (PySem.W.mg_of X G aC7) XO7 xin7 tXP (by intro f hf; simp at hf; rcases hf with rfl | rfl | rfl | rfl <;> first | exact xnf7why | exact xnf7stitch | exact xnf7course | exact xnf7)
    · exact xmk_T (by decide) (by funext xs; rfl) (nt_ok FXT sc_NT lb_NT (BI base)) bT1 bT2 cl9 (PySem.W.mg_of X G aC9) XO9 xin9 tXT xnf9 xnf9line
  refine ⟨_, fun s v => .of_eq rfl, fun base _ _ => FnOk.imp (top_fn (P := l.prog) (w := w) (base := base) Z (ZX base) 20 _ E0) fun vs H Q E hq => ?_⟩
  exact law_sp LT hq
end Kn

set_option Elab.async false
set_option linter.all false
set_option maxRecDepth 100000
set_option maxHeartbeats 4000000
/-! PG: a program's own basics: calls by name, the draws. -/
namespace Kn
open PySem L2
theorem callN_at {q : String} {fd : FD} (n : Nat) {ss : List SV} (h : pt q = some fd) : callN tb pt (n + 1) q ss = runF tb (callN tb pt n) fd ss := by
  show (match pt q with
    | some fd => runF tb (callN tb pt n) fd ss
    | none => .no) = _
  rw [h]
/-- things that may be asked for -/
theorem run_rt {q : String} {fd : FD} (n : Nat) {ss : List SV} {v : SV} {ρ' : Env} (h : pt q = some fd) (h1 : ss.length = fd.np ∧ fd.np ≤ fd.n ∧ fd.io.length = fd.np ∧ modesOk fd.io ss = true) (hx : Kn.exec tb (callN tb pt n) (roOf fd.io 0) fd.body (ss.map some ++ List.replicate (fd.n - fd.np) none) = .rt v ρ') : ∃ o, callN tb pt (n + 1) q ss = .ok v o := by
  rw [callN_at n h]
  unfold runF
  rw [if_pos h1, hx]
  exact ⟨_, rfl⟩
theorem run_exc {q : String} {fd : FD} (n : Nat) {ss : List SV} {x : Xc} {ρ' : Env} (h : pt q = some fd) (h1 : ss.length = fd.np ∧ fd.np ≤ fd.n ∧ fd.io.length = fd.np ∧ modesOk fd.io ss = true) (hx : Kn.exec tb (callN tb pt n) (roOf fd.io 0) fd.body (ss.map some ++ List.replicate (fd.n - fd.np) none) = .exc x ρ') (hk : fd.kx = false := by rfl) : callN tb pt (n + 1) q ss = .exc x := by
  rw [callN_at n h]
  unfold runF
  rw [if_pos h1, hx]
  show (if fd.kx = true then _ else _) = _
  rw [if_neg (by rw [hk]; exact Bool.false_ne_true)]
def drB : S := bodyS (nthS fd__law_draws.body 2)
theorem draw_turn (F : String → List SV → Cr) (ns : List Int) (M : Option SV) (ds : List Int) (m j : Int) (b c : Option SV) (hl : ds.length < 1000) :
    ∃ (d m' : Int) (b' c' : Option SV), 0 ≤ d ∧ Kn.exec tb F [] drB [some (.d (.arg ns)), M, some (.lst (ds.map fun z => .d (.int z))), some (.d (.int m)), some (.d (.int j)), b, c] =
      .nx [some (.d (.arg ns)), M, some (.lst ((ds ++ [d]).map fun z => .d (.int z))), some (.d (.int m')), some (.d (.int j)), b', c'] := by
  obtain ⟨z, hz⟩ : ∃ z : Int, (if 0 < ns.length then atI ns (j % (ns.length : Int)) = some z else z = 0) := by
    by_cases h0 : 0 < ns.length
    · obtain ⟨z, hz⟩ := atI_mod ns j h0
      exact ⟨z, by rw [if_pos h0]; exact hz⟩
    · exact ⟨0, by rw [if_neg h0]⟩
  obtain ⟨m2, hm2⟩ : ∃ m2, m2 = (m * 48271 + z + j + 1) % 2147483647 := ⟨_, rfl⟩
  have q1 : -18446744073709551616 < m2 := by omega
  have q2 : m2 < 18446744073709551616 := by omega
  obtain ⟨m3, hm3⟩ : ∃ m3, m3 = (m2 * m2 + 16807 * m2) % 2147483629 := ⟨_, rfl⟩
  have q3 : 0 ≤ m3 := by rw [hm3]; exact Int.emod_nonneg _ (by decide)
  have q4 : m3 < 2147483629 := by rw [hm3]; exact Int.emod_lt_of_pos _ (by decide)
  have q5 : -18446744073709551616 < m3 := by omega
  have q6 : m3 < 18446744073709551616 := by omega
  have len : ∀ ρ : Env, ρ[0]? = some (some (.d (.arg ns))) → ev tb F (.blt .len (.cons (.var 0) .nil)) ρ = .ok (.d (.int ns.length)) ρ := fun ρ h => blt1_ev (var_ev h) rfl
  refine ⟨(m3 * m3 + 16807 * m3) % 2147483629, m2, some (.d (.int z)), some (.d (.int m3)), Int.emod_nonneg _ (by decide), ?_⟩
  refine st_nx (G := fun x => x = _) (ρ1 := [some (.d (.arg ns)), M, some (.lst (ds.map fun z => .d (.int z))), some (.d (.int m)), some (.d (.int j)), some (.d (.int 0)), c]) (set_ok int_ev rfl) ?_
  refine st_nx (G := fun x => x = _) (ρ1 := [some (.d (.arg ns)), M, some (.lst (ds.map fun z => .d (.int z))), some (.d (.int m)), some (.d (.int j)), some (.d (.int z)), c]) ?_ ?_
  · by_cases h0 : 0 < ns.length
    · rw [if_pos h0] at hz
      have h0' : (0 : Int) < (ns.length : Int) := by omega
      refine ite_t (cmp_ev (r := true) (len _ rfl) int_ev (by rw [frz, frz, cgI, decide_eq_true h0'])) (one_nx (set_ok (idx_ev (var_ev rfl) (bin_ev (var_ev rfl) (len _ rfl) (bM _ _ h0')) ?_) rfl))
      show (atI ns (j % (ns.length : Int))).map D.int = some (.int z)
      rw [hz]
      rfl
    · rw [if_neg h0] at hz
      subst hz
      have h0' : ¬ (0 : Int) < (ns.length : Int) := by omega
      exact ite_f (cmp_ev (r := false) (len _ rfl) int_ev (by rw [frz, frz, cgI, decide_eq_false h0'])) (by simp only [Kn.exec])
  refine st_nx (G := fun x => x = _) (ρ1 := [some (.d (.arg ns)), M, some (.lst (ds.map fun z => .d (.int z))), some (.d (.int ((m * 48271 + z + j + 1) % 2147483647))), some (.d (.int j)), some (.d (.int z)), c])
    (set_ok (bin_ev (bin_ev (bin_ev (bin_ev (bin_ev (var_ev rfl) int_ev (bX _ _ (by decide) (by decide))) (var_ev rfl) (bA _ _)) (var_ev rfl) (bA _ _)) int_ev (bA _ _)) int_ev (bM _ _ (by decide))) rfl) ?_
  rw [← hm2]
  refine st_nx (G := fun x => x = _) (ρ1 := [some (.d (.arg ns)), M, some (.lst (ds.map fun z => .d (.int z))), some (.d (.int m2)), some (.d (.int j)), some (.d (.int z)), some (.d (.int ((m2 * m2 + 16807 * m2) % 2147483629)))])
    (set_ok (bin_ev (bin_ev (bin_ev (var_ev rfl) (var_ev rfl) (bX _ _ q1 q2)) (bin_ev int_ev (var_ev rfl) (bX _ _ q1 q2)) (bA _ _)) int_ev (bM _ _ (by decide))) rfl) ?_
  rw [← hm3]
  refine st_nx (G := fun x => x = _) (ρ1 := [some (.d (.arg ns)), M, some (.lst ((ds.map fun z => .d (.int z)) ++ [.d (.int ((m3 * m3 + 16807 * m3) % 2147483629))])), some (.d (.int m2)), some (.d (.int j)), some (.d (.int z)), some (.d (.int m3))])
    (app_ok (xs0 := ds.map fun z => .d (.int z)) rfl (bin_ev (bin_ev (bin_ev (var_ev rfl) (var_ev rfl) (bX _ _ q5 q6)) (bin_ev int_ev (var_ev rfl) (bX _ _ q5 q6)) (bA _ _)) int_ev (bM _ _ (by decide))) rfl (by rw [List.length_map]; exact Nat.lt_trans hl (by decide))) ?_
  rw [List.map_append]
  simp only [Kn.exec, List.map_cons, List.map_nil]
def GDr (many : Nat) (x : Fl) : Prop := ∃ ds : List Int, ds.length = many ∧ (∀ d ∈ ds, 0 ≤ d) ∧ ∃ ρ', x = .rt (.d (.lst (ds.map .int))) ρ'
theorem draws (n : Nat) (ns : List Int) (many : Nat) (hmany : many ≤ 1000) : ∃ ds : List Int, ds.length = many ∧ (∀ d ∈ ds, 0 ≤ d) ∧ ∃ o, callN tb pt (n + 1) "_law_draws" [.d (.arg ns), .d (.int (many : Nat))] = .ok (.d (.lst (ds.map .int))) o := by
  have key : GDr many (Kn.exec tb (callN tb pt n) [] fd__law_draws.body ([SV.d (.arg ns), .d (.int (many : Nat))].map some ++ List.replicate (fd__law_draws.n - fd__law_draws.np) none)) := by
    generalize callN tb pt n = F
    have b1 : (-1000000000000 : Int) < (many : Int) := by omega
    have b2 : (many : Int) < 1000000000000 := by omega
    refine st_nx (ρ1 := [some (.d (.arg ns)), some (.d (.int (many : Nat))), some (.lst []), none, none, none, none]) (by simp [fd__law_draws, Kn.exec, ev, evs, thenF, R.bind, lim, roOf]) ?_
    refine st_nx (ρ1 := [some (.d (.arg ns)), some (.d (.int (many : Nat))), some (.lst []), some (.d (.int 7)), none, none, none]) (set_ok int_ev rfl) ?_
    refine st_for (ds := rngD 0 (many : Nat)) (ρ1 := [some (.d (.arg ns)), some (.d (.int (many : Nat))), some (.lst []), some (.d (.int 7)), none, none, none]) (fun i ρ => ∃ (ds : List Int) (m : Int) (a b c : Option SV), ρ = [some (.d (.arg ns)), some (.d (.int (many : Nat))), some (.lst (ds.map fun z => .d (.int z))), some (.d (.int m)), a, b, c] ∧ ds.length = i ∧ ∀ d ∈ ds, 0 ≤ d) ?_ rfl ⟨[], 7, none, none, none, rfl, rfl, by simp⟩ ?_ ?_
    · exact rng_evi (var_ev rfl) rfl ⟨b1, b2⟩
    · rintro d hd i ρ hi ⟨ds, m, a, b, c, rfl, hl, hp⟩
      rw [rngD_len'] at hi
      obtain ⟨j, hj, rfl⟩ := List.mem_map.mp hd
      obtain ⟨d, m', b', c', hd0, e⟩ := draw_turn F ns (some (.d (.int (many : Nat)))) ds m (0 + (j : Int)) b c (by omega)
      refine ⟨_, rfl, _, e, ds ++ [d], m', _, b', c', rfl, by simp [hl], fun x hx => ?_⟩
      rcases List.mem_append.mp hx with hx | hx
      · exact hp x hx
      · rw [List.mem_singleton.mp hx]
        exact hd0
    · rintro ρ' ⟨ds, m, a, b, c, rfl, hl, hp⟩
      have hl : ds.length = many := by rw [hl, rngD_len']; omega
      refine st_rt (v := .d (.lst (ds.map .int))) (ρ1 := [some (.d (.arg ns)), some (.d (.int (many : Nat))), some (.d (.lst (ds.map .int))), some (.d (.int m)), a, b, c]) (by simp [Kn.exec, ev, thenF, frz, frzs_map]) ⟨ds, hl, hp, _, rfl⟩
  obtain ⟨ds, h1, h2, ρ', h3⟩ := key
  exact ⟨ds, h1, h2, run_rt n pt__law_draws ⟨rfl, by decide, rfl, rfl⟩ h3⟩
end Kn

set_option Elab.async false
set_option linter.all false
set_option maxRecDepth 100000
set_option maxHeartbeats 4000000
/-! TR: trees of stitches: what they are, their stitches, their texts. -/
namespace Kn
open PySem L2
/-- a tree of no repeat, its stitch, its text, what it takes and leaves -/
inductive Sm : D → D → List Nat → Int → Int → Prop
  | k : Sm (.tup [.str [107]]) (.ins "Plain" [] []) [107] 1 1
  | p : Sm (.tup [.str [112]]) (.ins "Purl" [] []) [112] 1 1
  | yo : Sm (.tup [.str [121, 111]]) (.ins "Over" [] []) [121, 111] 0 1
  | k2 : Sm (.tup [.str [107, 50]]) (.ins "RightTwo" [] []) [107, 50] 2 1
  | s2 : Sm (.tup [.str [115, 50]]) (.ins "LeftTwo" [] []) [115, 50] 2 1
  | cab (a b : Int) (f : Bool) (a1 : 1 ≤ a) (a2 : a ≤ 3) (b1 : 1 ≤ b) (b2 : b ≤ 3) : Sm (.tup [.str [99, 97, 98, 108, 101], .int a, .bl f, .int b]) (.ins "Cable" ["first", "front", "second"] [.int a, .bl f, .int b]) ((([99] ++ istr a) ++ [if f then 102 else 98]) ++ istr b) (a + b) (a + b)
abbrev Tp : Type := D × D × List Nat
def repK (tl : Bool) : List Nat := if tl then [116, 105, 108, 108] else [116, 105, 109, 101, 115]
def repX (tl : Bool) (m : Int) (ps : List Tp) : D := .tup [.str (repK tl), .int m, .tup (ps.map (·.1))]
def repS (tl : Bool) (m : Int) (ps : List Tp) : D := .ins (if tl then "Till" else "Times") ["times_told", "row"] [.int m, .lst (ps.map (·.2.1))]
def repW (tl : Bool) (m : Int) (ps : List Tp) : List Nat := (([40] ++ TL.joinL [32] (ps.map (·.2.2))) ++ (if tl then [41, 116, 105, 108, 108, 32] else [41, 42])) ++ istr m
/-- a tree of repeats up to n deep -/
def TrP : Nat → D → D → List Nat → Prop
  | 0, x, s, w => ∃ tk lv, Sm x s w tk lv
  | n + 1, x, s, w => (∃ tk lv, Sm x s w tk lv) ∨ ∃ (tl : Bool) (m : Int) (ps : List Tp), 0 ≤ m ∧ m ≤ (if tl then 15 else 20) ∧ ps ≠ [] ∧ ps.length ≤ 3 ∧ (∀ p ∈ ps, TrP n p.1 p.2.1 p.2.2) ∧ x = repX tl m ps ∧ s = repS tl m ps ∧ w = repW tl m ps
theorem TrP.sm {x s : D} {w : List Nat} {tk lv : Int} (h : Sm x s w tk lv) : ∀ n, TrP n x s w
  | 0 => ⟨tk, lv, h⟩
  | n + 1 => .inl ⟨tk, lv, h⟩
theorem TrP.up : ∀ {n : Nat} {x s : D} {w : List Nat}, TrP n x s w → TrP (n + 1) x s w
  | 0, x, s, w, h => .inl h
  | n + 1, x, s, w, h => by
    rcases h with h | ⟨tl, m, ps, h1, h2, h3, h4, h5, h6⟩
    · exact .inl h
    · exact .inr ⟨tl, m, ps, h1, h2, h3, h4, fun p hp => TrP.up (h5 p hp), h6⟩
def LB : Nat → Nat
  | 0 => 4
  | n + 1 => 3 * LB n + 14
theorem istr1 (k : Int) (h1 : 1 ≤ k) (h2 : k ≤ 3) : (istr k).length = 1 ∧ (istr k).all (fun c => decide (c < 1114112)) = true ∧ k.natAbs < 1000000000000000000 := by
  have key : ∀ j : Fin 4, 1 ≤ (j : Nat) → (istr ((j : Nat) : Int)).length = 1 := by decide +kernel
  have := key ⟨k.toNat, by omega⟩ (by show 1 ≤ k.toNat; omega)
  have e : ((k.toNat : Nat) : Int) = k := by omega
  simp only [e] at this
  obtain ⟨_, q1, q2⟩ := istr_len k (by omega) (by omega)
  exact ⟨this, q1, q2⟩
theorem Sm.txt {x s : D} {w : List Nat} {tk lv : Int} (h : Sm x s w tk lv) : w.length ≤ 4 ∧ w.all (fun c => decide (c < 1114112)) = true := by
  cases h with
  | cab a b f a1 a2 b1 b2 =>
    obtain ⟨p1, p2, _⟩ := istr1 a a1 a2
    obtain ⟨q1, q2, _⟩ := istr1 b b1 b2
    refine ⟨by simp only [List.length_append, List.length_cons, List.length_nil, p1, q1]; omega, all_a (all_a (all_a rfl p2) ?_) q2⟩
    cases f <;> rfl
  | _ => exact ⟨by simp, rfl⟩
theorem TrP.txt : ∀ {n : Nat} {x s : D} {w : List Nat}, TrP n x s w → w.length ≤ LB n ∧ w.all (fun c => decide (c < 1114112)) = true
  | 0, x, s, w, ⟨tk, lv, h⟩ => h.txt
  | n + 1, x, s, w, h => by
    rcases h with ⟨tk, lv, h⟩ | ⟨tl, m, ps, h1, h2, h3, h4, h5, h6, h7, rfl⟩
    · obtain ⟨q1, q2⟩ := h.txt
      exact ⟨by show w.length ≤ 3 * LB n + 14; omega, q2⟩
    · have hm : m ≤ 24 := by cases tl <;> simp at h2 <;> omega
      obtain ⟨p1, p2, _⟩ := istr_len m (by omega) hm
      have hs := ssum_le (fun p : Tp => p.2.2) (LB n) ps fun p hp => (TrP.txt (h5 p hp)).1
      have hj := j_len [32] (ps.map fun p : Tp => p.2.2)
      rw [List.length_map, List.length_singleton] at hj
      have h3' : LB n * ps.length ≤ LB n * 3 := Nat.mul_le_mul_left _ h4
      have hl : (if tl then [41, 116, 105, 108, 108, 32] else [41, 42] : List Nat).length ≤ 6 := by cases tl <;> simp
      refine ⟨?_, all_a (all_a (all_a rfl (j_all rfl ?_)) (by cases tl <;> rfl)) p2⟩
      · show (repW tl m ps).length ≤ 3 * LB n + 14
        unfold repW
        simp only [List.length_append, List.length_singleton]
        omega
      · rw [List.all_map, List.all_eq_true]
        exact fun p hp => (TrP.txt (h5 p hp)).2
/-- == serves for it -/
theorem TrP.ok : ∀ {n : Nat} {x s : D} {w : List Nat}, TrP n x s w → ∀ k, 2 * n + 1 ≤ k → okD x k = true
  | 0, x, s, w, ⟨tk, lv, h⟩, k, hk => by
    obtain ⟨j, rfl⟩ : ∃ j, k = j + 1 := ⟨k - 1, by omega⟩
    cases h <;> rfl
  | n + 1, x, s, w, h, k, hk => by
    obtain ⟨j, rfl⟩ : ∃ j, k = j + 1 := ⟨k - 1, by omega⟩
    rcases h with ⟨tk, lv, h⟩ | ⟨tl, m, ps, h1, h2, h3, h4, h5, rfl, h7, h8⟩
    · cases h <;> rfl
    · obtain ⟨i, rfl⟩ : ∃ i, j = i + 1 := ⟨j - 1, by omega⟩
      have hr : ∀ l : List Tp, (∀ p ∈ l, TrP n p.1 p.2.1 p.2.2) → okDs (l.map (·.1)) i = true := fun l => by
        induction l with
        | nil => exact fun _ => rfl
        | cons p l ih =>
          intro hl
          show (okD p.1 i && okDs (l.map (·.1)) i) = true
          rw [TrP.ok (hl p List.mem_cons_self) i (by omega), ih fun q hq => hl q (List.mem_cons_of_mem _ hq)]
          rfl
      show (okD (.str (repK tl)) (i + 1) && (okD (.int m) (i + 1) && (okD (.tup (ps.map (·.1))) (i + 1) && true))) = true
      have e1 : okD (.str (repK tl)) (i + 1) = true := by cases tl <;> rfl
      have e2 : okD (.tup (ps.map (·.1))) (i + 1) = true := hr ps h5
      rw [e1, e2]
      rfl
/-- a tree is a tuple, a text first -/
theorem TrP.head {n : Nat} {x s : D} {w : List Nat} (h : TrP n x s w) : ∃ c r, x = .tup (.str c :: r) := by
  have hs : ∀ {tk lv}, Sm x s w tk lv → ∃ c r, x = .tup (.str c :: r) := fun h => by cases h <;> exact ⟨_, _, rfl⟩
  cases n with
  | zero =>
    obtain ⟨_, _, h⟩ := h
    exact hs h
  | succ n =>
    rcases h with ⟨_, _, h⟩ | ⟨tl, m, ps, _, _, _, _, _, rfl, _⟩
    · exact hs h
    · exact ⟨_, _, rfl⟩
/-! ### bounds, simple words, cables -/
theorem is_between_i (n : Nat) (i lo hi : Int) : ∃ o, callN tb pt (n + 1) "is_between" [.d (.int i), .d (.int lo), .d (.int hi)] = .ok (.d (.bl (decide (lo ≤ i) && decide (i ≤ hi)))) o := by
  have key : GV (.d (.bl (decide (lo ≤ i) && decide (i ≤ hi)))) (Kn.exec tb (callN tb pt n) [] fd_is_between.body ([SV.d (.int i), .d (.int lo), .d (.int hi)].map some ++ List.replicate (fd_is_between.n - fd_is_between.np) none)) := by
    generalize callN tb pt n = F
    exact ⟨_, ret_blk (and_ev (p := true) (blt_ev (evs_cons (var_ev rfl) (evs_cons tyn_ev evs_nil)) rfl) fun _ => and_ev (p := true) (not_ev (p := false) (blt_ev (evs_cons (var_ev rfl) (evs_cons tyn_ev evs_nil)) rfl)) fun _ => chn_ev (var_ev rfl) (var_ev rfl) (var_ev rfl) rfl rfl rfl)⟩
  obtain ⟨ρ', h3⟩ := key
  exact run_rt n pt_is_between ⟨rfl, by decide, rfl, rfl⟩ h3
def smF (w : List Nat) : SV := if w = [107] then .ins "Plain" [] [] else if w = [112] then .ins "Purl" [] [] else if w = [121, 111] then .ins "Over" [] [] else if w = [107, 50] then .ins "RightTwo" [] [] else if w = [115, 50] then .ins "LeftTwo" [] [] else .d .non
theorem simple_of_at (n : Nat) (w : List Nat) : ∃ o, callN tb pt (n + 1) "simple_of" [.d (.str w)] = .ok (smF w) o := by
  have key : GV (smF w) (Kn.exec tb (callN tb pt n) [] fd_simple_of.body ([SV.d (.str w)].map some ++ List.replicate (fd_simple_of.n - fd_simple_of.np) none)) := by
    generalize callN tb pt n = F
    have hc : ∀ v : List Nat, ev tb F (.cmp .eq (.var 0) (.str v)) [some (.d (.str w))] = .ok (.d (.bl (decide (w = v)))) [some (.d (.str w))] := fun v => eq_ev (var_ev rfl) str_ev (eqT w v)
    have f : ∀ {v : List Nat} {a : S} {r : S} {x : Fl}, w ≠ v → Kn.exec tb F [] r [some (.d (.str w))] = x → Kn.exec tb F [] (.cons (.ite (.cmp .eq (.var 0) (.str v)) a .nil) r) [some (.d (.str w))] = x := fun {v a r x} h hr =>
      st_nx (G := fun y => y = x) (ite_f (by rw [hc v, decide_eq_false h]) nil_blk) hr
    have t : ∀ {v : List Nat} {c : String} {r : S}, w = v → tb.ini0 c = true → Kn.exec tb F [] (.cons (.ite (.cmp .eq (.var 0) (.str v)) (.cons (.ret (.mk0 c)) .nil) .nil) r) [some (.d (.str w))] = .rt (.ins c [] []) [some (.d (.str w))] := fun {v c r} h hi =>
      st_rt (G := fun y => y = _) (ite_t (by rw [hc v, decide_eq_true h]) (ret_blk (mk0_ev hi))) rfl
    unfold smF
    by_cases h1 : w = [107]
    · rw [if_pos h1]
      exact ⟨_, t h1 rfl⟩
    rw [if_neg h1]
    by_cases h2 : w = [112]
    · rw [if_pos h2]
      exact ⟨_, f h1 (t h2 rfl)⟩
    rw [if_neg h2]
    by_cases h3 : w = [121, 111]
    · rw [if_pos h3]
      exact ⟨_, f h1 (f h2 (t h3 rfl))⟩
    rw [if_neg h3]
    by_cases h4 : w = [107, 50]
    · rw [if_pos h4]
      exact ⟨_, f h1 (f h2 (f h3 (t h4 rfl)))⟩
    rw [if_neg h4]
    by_cases h5 : w = [115, 50]
    · rw [if_pos h5]
      exact ⟨_, f h1 (f h2 (f h3 (f h4 (t h5 rfl))))⟩
    rw [if_neg h5]
    exact ⟨_, f h1 (f h2 (f h3 (f h4 (f h5 (ret_blk (const_ev rfl))))))⟩
  obtain ⟨ρ', h3⟩ := key
  exact run_rt n pt_simple_of ⟨rfl, by decide, rfl, rfl⟩ h3
theorem cable_init (n : Nat) (a b c : D) : callN tb pt (n + 1) "Cable.__init__" [.ins "Cable" [] [], .d a, .d b, .d c] = .ok (.d .non) [some (.ins "Cable" ["first", "front", "second"] [.d a, .d b, .d c]), none, none, none] := by
  simp [callN, fd_Cableu_initu, runF, modesOk, Kn.exec, ev, evs, thenF, R.bind, R.of, frzs, frz, roOf, outsOf, putN]
theorem rep_init (n : Nat) (c : String) (hc : c = "Times" ∨ c = "Till") (a b : D) : callN tb pt (n + 1) "Repeat.__init__" [.ins c [] [], .d a, .d b] = .ok (.d .non) [some (.ins c ["times_told", "row"] [.d a, .d b]), none, none] := by
  rcases hc with rfl | rfl <;> simp [callN, fd_Repeatu_initu, runF, modesOk, Kn.exec, ev, evs, thenF, R.bind, R.of, frzs, frz, roOf, outsOf, putN]
theorem cable_of_ok (n : Nat) (a b : Int) (f : Bool) (a1 : 1 ≤ a) (a2 : a ≤ 3) (b1 : 1 ≤ b) (b2 : b ≤ 3) : ∃ o, callN tb pt (n + 2) "cable_of" [.d (.tup [.str [99, 97, 98, 108, 101], .int a, .bl f, .int b])] = .ok (.ins "Cable" ["first", "front", "second"] [.d (.int a), .d (.bl f), .d (.int b)]) o := by
  obtain ⟨o1, h1⟩ := is_between_i n a 1 3
  obtain ⟨o2, h2⟩ := is_between_i n b 1 3
  rw [decide_eq_true a1, decide_eq_true a2] at h1
  rw [decide_eq_true b1, decide_eq_true b2] at h2
  have h3 := cable_init n (.int a) (.bl f) (.int b)
  have key : GV (.ins "Cable" ["first", "front", "second"] [.d (.int a), .d (.bl f), .d (.int b)]) (Kn.exec tb (callN tb pt (n + 1)) [] fd_cable_of.body ([SV.d (.tup [.str [99, 97, 98, 108, 101], .int a, .bl f, .int b])].map some ++ List.replicate (fd_cable_of.n - fd_cable_of.np) none)) := by
    generalize callN tb pt (n + 1) = F at h1 h2 h3 ⊢
    refine ⟨_, st_nx (G := fun y => y = _) (ite_f (or_ev (p := false) (q := false) (ne_ev (r := true) (blt1_ev (var_ev rfl) rfl) int_ev rfl) fun _ => or_ev (p := false) (q := false) (not_ev (p := true) (call_ev (o := o1) rfl (evs_cons (idx_ev (var_ev rfl) int_ev rfl) (evs_cons int_ev (evs_cons (glb_ev rfl) evs_nil))) h1)) fun _ => not_ev (p := true) (call_ev (o := o2) rfl (evs_cons (idx_ev (var_ev rfl) int_ev rfl) (evs_cons int_ev (evs_cons (glb_ev rfl) evs_nil))) h2)) nil_blk)
      (st_nx (G := fun y => y = _) (ite_f (not_ev (p := true) (blt_ev (evs_cons (idx_ev (var_ev rfl) int_ev rfl) (evs_cons tyn_ev evs_nil)) rfl)) nil_blk)
        (ret_blk (mk_ev rfl (evs_cons (idx_ev (var_ev rfl) int_ev rfl) (evs_cons (idx_ev (var_ev rfl) int_ev rfl) (evs_cons (idx_ev (var_ev rfl) int_ev rfl) evs_nil))) h3)))⟩
  obtain ⟨ρ', h4⟩ := key
  exact run_rt (n + 1) pt_cable_of ⟨rfl, by decide, rfl, rfl⟩ h4
end Kn

set_option Elab.async false
set_option linter.all false
set_option maxRecDepth 100000
set_option maxHeartbeats 4000000
/-! TN: stitches made of trees; what their methods tell. -/
namespace Kn
open PySem L2
theorem eqTf {a b : List Nat} (h : a ≠ b) : eqD (.str a) (.str b) = some false := by rw [eqT, decide_eq_false h]
theorem eqTt (a : List Nat) : eqD (.str a) (.str a) = some true := by rw [eqT, decide_eq_true rfl]
/-! ### stitch_made -/
theorem sm_made (k : Nat) {x s : D} {w : List Nat} {tk lv : Int} (h : Sm x s w tk lv) : ∃ o, callN tb pt (k + 3) "stitch_made" [.d x] = .ok (ow s) o := by
  have simple : ∀ u : List Nat, u ≠ [99, 97, 98, 108, 101] → u ≠ [116, 105, 109, 101, 115] → u ≠ [116, 105, 108, 108] → ∃ o, callN tb pt (k + 3) "stitch_made" [.d (.tup [.str u])] = .ok (smF u) o := fun u h1 h2 h3 => by
    obtain ⟨o1, hs⟩ := simple_of_at (k + 1) u
    have key : GV (smF u) (Kn.exec tb (callN tb pt (k + 2)) [] fd_stitch_made.body ([SV.d (.tup [.str u])].map some ++ List.replicate (fd_stitch_made.n - fd_stitch_made.np) none)) := by
      generalize callN tb pt (k + 2) = F at hs ⊢
      refine ⟨_, st_nx (G := fun y => y = _) (ite_f (eq_ev (idx_ev (var_ev rfl) int_ev rfl) str_ev (eqTf h1)) nil_blk) (st_nx (G := fun y => y = _) (ite_f (eq_ev (idx_ev (var_ev rfl) int_ev rfl) str_ev (eqTf h2)) nil_blk) (st_nx (G := fun y => y = _) (ite_f (eq_ev (idx_ev (var_ev rfl) int_ev rfl) str_ev (eqTf h3)) nil_blk) (ret_blk (call_ev rfl (evs_cons (idx_ev (var_ev rfl) int_ev rfl) evs_nil) hs))))⟩
    obtain ⟨ρ', h4⟩ := key
    exact run_rt (k + 2) pt_stitch_made ⟨rfl, by decide, rfl, rfl⟩ h4
  cases h with
  | k => exact simple _ (by decide) (by decide) (by decide)
  | p => exact simple _ (by decide) (by decide) (by decide)
  | yo => exact simple _ (by decide) (by decide) (by decide)
  | k2 => exact simple _ (by decide) (by decide) (by decide)
  | s2 => exact simple _ (by decide) (by decide) (by decide)
  | cab a b f a1 a2 b1 b2 =>
    obtain ⟨o1, hs⟩ := cable_of_ok k a b f a1 a2 b1 b2
    have key : GV (.ins "Cable" ["first", "front", "second"] [.d (.int a), .d (.bl f), .d (.int b)]) (Kn.exec tb (callN tb pt (k + 2)) [] fd_stitch_made.body ([SV.d (.tup [.str [99, 97, 98, 108, 101], .int a, .bl f, .int b])].map some ++ List.replicate (fd_stitch_made.n - fd_stitch_made.np) none)) := by
      generalize callN tb pt (k + 2) = F at hs ⊢
      exact ⟨_, st_rt (G := fun y => y = _) (ite_t (eq_ev (idx_ev (var_ev rfl) int_ev rfl) str_ev (eqTt _)) (ret_blk (call_ev rfl (evs_cons (var_ev rfl) evs_nil) hs))) rfl⟩
    obtain ⟨ρ', h4⟩ := key
    exact run_rt (k + 2) pt_stitch_made ⟨rfl, by decide, rfl, rfl⟩ h4
theorem lim3 {n : Nat} (h : n ≤ 1000) : n ≤ lim := by simp only [lim]; omega
theorem stitch_made_at : ∀ (n k : Nat) {x s : D} {w : List Nat}, TrP n x s w → ∃ o, callN tb pt (k + n + 3) "stitch_made" [.d x] = .ok (ow s) o
  | 0, k, x, s, w, ⟨tk, lv, h⟩ => sm_made k h
  | n + 1, k, x, s, w, .inl ⟨tk, lv, h⟩ => sm_made (k + (n + 1)) h
  | n + 1, k, x, s, w, .inr ⟨tl, m, ps, h1, h2, h3, h4, h5, hx, hs, hw⟩ => by
    subst hx
    subst hs
    have H : ∀ p ∈ ps, ∃ o, callN tb pt (k + n + 3) "stitch_made" [.d p.1] = .ok (ow p.2.1) o := fun p hp => stitch_made_at n k (h5 p hp)
    have hi := rep_init (k + n + 2) (if tl then "Till" else "Times") (by cases tl <;> simp) (.int m) (.lst (ps.map (·.2.1)))
    have key : GV (ow (repS tl m ps)) (Kn.exec tb (callN tb pt (k + n + 3)) [] fd_stitch_made.body ([SV.d (repX tl m ps)].map some ++ List.replicate (fd_stitch_made.n - fd_stitch_made.np) none)) := by
      generalize callN tb pt (k + n + 3) = F at H hi ⊢
      have hrow : ev tb F (.comp (.nm 1) (.idx (.var 0) (.int 2)) (.call "stitch_made" (.cons (.var 1) .nil))) [some (.d (repX tl m ps)), none] = .ok (.lst (ps.map fun p => ow p.2.1)) [some (.d (repX tl m ps)), none] :=
        comp_sv (a := fun p : Tp => p.1) (Nat.lt_succ_self 1) (evi_of (idx_ev (var_ev rfl) int_ev rfl) rfl) rfl (lim3 (by omega)) fun p hp => by
          obtain ⟨o, ho⟩ := H p hp
          exact call_ev rfl (evs_cons (var_ev (set_at (Nat.lt_succ_self 1))) evs_nil) ho
      have hargs : ∀ c : String, F "Repeat.__init__" [.ins c [] [], .d (.int m), .d (.lst (ps.map (·.2.1)))] = .ok (.d .non) [some (.ins c ["times_told", "row"] [.d (.int m), .d (.lst (ps.map (·.2.1)))]), none, none] → F "Repeat.__init__" (.ins c [] [] :: (frzs [SV.d (.int m), SV.lst (ps.map fun p => ow p.2.1)]).map .d) = .ok (.d .non) [some (.ins c ["times_told", "row"] [.d (.int m), .d (.lst (ps.map (·.2.1)))]), none, none] := fun c h => by
        rw [show frzs [SV.d (.int m), SV.lst (ps.map fun p => ow p.2.1)] = [.int m, .lst (frzs (ps.map fun p => ow p.2.1))] from rfl, frzs_ow ps fun p => p.2.1]
        exact h
      cases tl with
      | false => exact ⟨_, st_nx (G := fun y => y = _) (ite_f (eq_ev (idx_ev (var_ev rfl) int_ev rfl) str_ev rfl) nil_blk) (st_rt (G := fun y => y = _) (ite_t (eq_ev (idx_ev (var_ev rfl) int_ev rfl) str_ev rfl) (ret_blk (mk_ev rfl (evs_cons (idx_ev (var_ev rfl) int_ev rfl) (evs_cons hrow evs_nil)) (hargs _ hi)))) rfl)⟩
      | true => exact ⟨_, st_nx (G := fun y => y = _) (ite_f (eq_ev (idx_ev (var_ev rfl) int_ev rfl) str_ev rfl) nil_blk) (st_nx (G := fun y => y = _) (ite_f (eq_ev (idx_ev (var_ev rfl) int_ev rfl) str_ev rfl) nil_blk) (st_rt (G := fun y => y = _) (ite_t (eq_ev (idx_ev (var_ev rfl) int_ev rfl) str_ev rfl) (ret_blk (mk_ev rfl (evs_cons (idx_ev (var_ev rfl) int_ev rfl) (evs_cons hrow evs_nil)) (hargs _ hi)))) rfl))⟩
    obtain ⟨ρ', h6⟩ := key
    exact run_rt (k + n + 3) pt_stitch_made ⟨rfl, by decide, rfl, rfl⟩ h6
/-! ### methods of what is no repeat -/
abbrev Mt (N : Nat) (m : String) (s : D) (v : SV) : Prop := MtF tb (callN tb pt N) m s v
theorem mt_of {N : Nat} {m q c : String} {ns : List String} {xs : List D} {v : SV} (h1 : tb.meth c m = some q) (h2 : m ∉ ns) (h3 : ∃ o, callN tb pt N q [.d (.ins c ns xs)] = .ok v o) : Mt N m (.ins c ns xs) v := by
  obtain ⟨o, h⟩ := h3
  exact ⟨c, ns, xs, q, o, rfl, h1, h2, h⟩
theorem sm_takes (k : Nat) {x s : D} {w : List Nat} {tk lv : Int} (h : Sm x s w tk lv) : Mt (k + 1) "takes" s (.d (.int tk)) := by
  cases h with
  | k => exact mt_of rfl (by decide) (run_rt k pt_Stitch_takes ⟨rfl, by decide, rfl, rfl⟩ (ret_blk int_ev))
  | p => exact mt_of rfl (by decide) (run_rt k pt_Stitch_takes ⟨rfl, by decide, rfl, rfl⟩ (ret_blk int_ev))
  | yo => exact mt_of rfl (by decide) (run_rt k pt_Over_takes ⟨rfl, by decide, rfl, rfl⟩ (ret_blk int_ev))
  | k2 => exact mt_of rfl (by decide) (run_rt k pt_RightTwo_takes ⟨rfl, by decide, rfl, rfl⟩ (ret_blk int_ev))
  | s2 => exact mt_of rfl (by decide) (run_rt k pt_LeftTwo_takes ⟨rfl, by decide, rfl, rfl⟩ (ret_blk int_ev))
  | cab a b f a1 a2 b1 b2 => exact mt_of rfl (by decide) (run_rt k pt_Cable_takes ⟨rfl, by decide, rfl, rfl⟩ (ret_blk (bin_ev (fld_ev (var_ev rfl) rfl) (fld_ev (var_ev rfl) rfl) (bA a b))))
/-! ### methods of repeats -/
end Kn

set_option Elab.async false
set_option linter.all false
set_option maxRecDepth 100000
set_option maxHeartbeats 4000000
/-! TO: stitch_of: of trees, of what is none. -/
namespace Kn
open PySem L2
/-- the row of a repeat's tree -/
def kd : D → List D
  | .tup [.str _, .int _, .tup xs] => xs
  | _ => []
theorem is_repeat_ok (k : Nat) (tl : Bool) (m : Int) (x : D) (xs : List D) (h1 : 0 ≤ m) (h2 : m ≤ (if tl then 15 else 20)) : ∃ o, callN tb pt (k + 2) "is_repeat" [.d (.tup [.str (repK tl), .int m, .tup (x :: xs)])] = .ok (.d (.bl true)) o := by
  obtain ⟨o1, hb⟩ := is_between_i k m 0 (if tl then 15 else 20)
  rw [decide_eq_true h1, decide_eq_true h2] at hb
  have key : GV (.d (.bl true)) (Kn.exec tb (callN tb pt (k + 1)) [] fd_is_repeat.body ([SV.d (.tup [.str (repK tl), .int m, .tup (x :: xs)])].map some ++ List.replicate (fd_is_repeat.n - fd_is_repeat.np) none)) := by
    generalize callN tb pt (k + 1) = F at hb ⊢
    have hlen : eqD (.int ((x :: xs).length : Nat)) (.int 0) = some false := by rw [eqI, List.length_cons, decide_eq_false (by omega)]
    refine ⟨_, st_nx (G := fun y => y = _) (ite_f (or_ev (p := false) (q := false) (ne_ev (r := true) (blt1_ev (var_ev rfl) rfl) int_ev rfl) fun _ => or_ev (p := false) (q := false) (not_ev (p := true) (blt_ev (evs_cons (idx_ev (var_ev rfl) int_ev rfl) (evs_cons tyn_ev evs_nil)) rfl)) fun _ => eq_ev (blt1_ev (idx_ev (d := .tup (x :: xs)) (var_ev rfl) int_ev rfl) rfl) int_ev hlen) nil_blk) (ret_blk (call_ev rfl (evs_cons (idx_ev (var_ev rfl) int_ev rfl) (evs_cons int_ev (evs_cons (idx_ev (d := .int (if tl then 15 else 20)) (disp_ev (by decide) (evs_cons (glb_ev rfl) (evs_cons (glb_ev rfl) evs_nil))) (idx_ev (var_ev rfl) int_ev rfl) (by cases tl <;> rfl)) evs_nil))) hb))⟩
  obtain ⟨ρ', h3⟩ := key
  exact run_rt (k + 1) pt_is_repeat ⟨rfl, by decide, rfl, rfl⟩ h3
/-- a repeat's row, whatever it holds -/
theorem row_in_rep (k : Nat) (tl : Bool) (m : Int) (x : D) (xs : List D) (h1 : 0 ≤ m) (h2 : m ≤ (if tl then 15 else 20)) : ∃ o, callN tb pt (k + 3) "row_in" [.d (.tup [.str (repK tl), .int m, .tup (x :: xs)])] = .ok (.d (.tup (x :: xs))) o := by
  obtain ⟨o1, hb⟩ := is_repeat_ok k tl m x xs h1 h2
  have key : GV (.d (.tup (x :: xs))) (Kn.exec tb (callN tb pt (k + 2)) [] fd_row_in.body ([SV.d (.tup [.str (repK tl), .int m, .tup (x :: xs)])].map some ++ List.replicate (fd_row_in.n - fd_row_in.np) none)) := by
    generalize callN tb pt (k + 2) = F at hb ⊢
    refine ⟨_, st_nx (G := fun y => y = _) (ite_f (or_ev (p := false) (q := false) (not_ev (p := true) (blt_ev (evs_cons (var_ev rfl) (evs_cons tyn_ev evs_nil)) rfl)) fun _ => or_ev (p := false) (q := false) (eq_ev (r := false) (blt1_ev (var_ev rfl) rfl) int_ev rfl) fun _ => not_ev (p := true) (blt_ev (evs_cons (idx_ev (var_ev rfl) int_ev rfl) (evs_cons tyn_ev evs_nil)) rfl)) nil_blk) (st_rt (G := fun y => y = _) (ite_t (and_ev (p := true) (q := true) (int_ev2 (ls := [[116, 105, 109, 101, 115], [116, 105, 108, 108]]) (idx_ev (var_ev rfl) int_ev rfl) (const_ev rfl) rfl (by cases tl <;> rfl)) fun _ => call_ev rfl (evs_cons (var_ev rfl) evs_nil) hb) (ret_blk (idx_ev (var_ev rfl) int_ev rfl))) rfl)⟩
  obtain ⟨ρ', h3⟩ := key
  exact run_rt (k + 2) pt_row_in ⟨rfl, by decide, rfl, rfl⟩ h3
theorem row_in_sm (k : Nat) {x s : D} {w : List Nat} {tk lv : Int} (h : Sm x s w tk lv) : ∃ o, callN tb pt (k + 3) "row_in" [.d x] = .ok (.d (.tup (kd x))) o := by
  have simple : ∀ u : List Nat, u ≠ [99, 97, 98, 108, 101] → ([[116, 105, 109, 101, 115], [116, 105, 108, 108]].any fun y => decide (y = u)) = false → isN (frz (smF u)) = false → ∃ o, callN tb pt (k + 3) "row_in" [.d (.tup [.str u])] = .ok (.d (.tup [])) o := fun u h1 h2 h3 => by
    obtain ⟨o1, hs⟩ := simple_of_at (k + 1) u
    have key : GV (.d (.tup [])) (Kn.exec tb (callN tb pt (k + 2)) [] fd_row_in.body ([SV.d (.tup [.str u])].map some ++ List.replicate (fd_row_in.n - fd_row_in.np) none)) := by
      generalize callN tb pt (k + 2) = F at hs ⊢
      refine ⟨_, st_nx (G := fun y => y = _) (ite_f (or_ev (p := false) (q := false) (not_ev (p := true) (blt_ev (evs_cons (var_ev rfl) (evs_cons tyn_ev evs_nil)) rfl)) fun _ => or_ev (p := false) (q := false) (eq_ev (r := false) (blt1_ev (var_ev rfl) rfl) int_ev rfl) fun _ => not_ev (p := true) (blt_ev (evs_cons (idx_ev (var_ev rfl) int_ev rfl) (evs_cons tyn_ev evs_nil)) rfl)) nil_blk)
        (st_nx (G := fun y => y = _) (ite_f (and_ev (p := false) (q := false) (int_ev2 (ls := [[116, 105, 109, 101, 115], [116, 105, 108, 108]]) (idx_ev (var_ev rfl) int_ev rfl) (const_ev rfl) rfl h2) fun h => nomatch h) nil_blk)
          (st_rt (G := fun y => y = _) (ite_t (or_ev (p := false) (q := true) (and_ev (p := false) (q := false) (eq_ev (idx_ev (var_ev rfl) int_ev rfl) str_ev (eqTf h1)) fun h => nomatch h) fun _ => and_ev (p := true) (q := true) (eq_ev (r := true) (blt1_ev (var_ev rfl) rfl) int_ev rfl) fun _ => isnot_ev (r := false) (call_ev rfl (evs_cons (idx_ev (var_ev rfl) int_ev rfl) evs_nil) hs) h3) (ret_blk (const_ev rfl))) rfl))⟩
    obtain ⟨ρ', h4⟩ := key
    exact run_rt (k + 2) pt_row_in ⟨rfl, by decide, rfl, rfl⟩ h4
  cases h with
  | k => exact simple _ (by decide) rfl rfl
  | p => exact simple _ (by decide) rfl rfl
  | yo => exact simple _ (by decide) rfl rfl
  | k2 => exact simple _ (by decide) rfl rfl
  | s2 => exact simple _ (by decide) rfl rfl
  | cab a b f a1 a2 b1 b2 =>
    obtain ⟨o1, hs⟩ := cable_of_ok k a b f a1 a2 b1 b2
    have key : GV (.d (.tup [])) (Kn.exec tb (callN tb pt (k + 2)) [] fd_row_in.body ([SV.d (.tup [.str [99, 97, 98, 108, 101], .int a, .bl f, .int b])].map some ++ List.replicate (fd_row_in.n - fd_row_in.np) none)) := by
      generalize callN tb pt (k + 2) = F at hs ⊢
      exact ⟨_, st_nx (G := fun y => y = _) (ite_f (or_ev (p := false) (q := false) (not_ev (p := true) (blt_ev (evs_cons (var_ev rfl) (evs_cons tyn_ev evs_nil)) rfl)) fun _ => or_ev (p := false) (q := false) (eq_ev (r := false) (blt1_ev (var_ev rfl) rfl) int_ev rfl) fun _ => not_ev (p := true) (blt_ev (evs_cons (idx_ev (var_ev rfl) int_ev rfl) (evs_cons tyn_ev evs_nil)) rfl)) nil_blk)
        (st_nx (G := fun y => y = _) (ite_f (and_ev (p := false) (q := false) (int_ev2 (ls := [[116, 105, 109, 101, 115], [116, 105, 108, 108]]) (idx_ev (var_ev rfl) int_ev rfl) (const_ev rfl) rfl rfl) fun h => nomatch h) nil_blk)
          (st_rt (G := fun y => y = _) (ite_t (or_ev (p := true) (q := true) (and_ev (p := true) (q := true) (eq_ev (idx_ev (var_ev rfl) int_ev rfl) str_ev (eqTt _)) fun _ => isnot_ev (r := false) (call_ev rfl (evs_cons (var_ev rfl) evs_nil) hs) rfl) fun h => nomatch h) (ret_blk (const_ev rfl))) rfl))⟩
    obtain ⟨ρ', h4⟩ := key
    exact run_rt (k + 2) pt_row_in ⟨rfl, by decide, rfl, rfl⟩ h4
/-- a tree of that depth -/
def Gd (n : Nat) (x : D) : Prop := ∃ s w, TrP n x s w
theorem row_in_at (k : Nat) {n : Nat} {x : D} (h : Gd n x) : ∃ o, callN tb pt (k + 3) "row_in" [.d x] = .ok (.d (.tup (kd x))) o := by
  obtain ⟨s, w, h⟩ := h
  cases n with
  | zero =>
    obtain ⟨_, _, h⟩ := h
    exact row_in_sm k h
  | succ n =>
    rcases h with ⟨_, _, h⟩ | ⟨tl, m, ps, h1, h2, h3, h4, h5, rfl, h7, h8⟩
    · exact row_in_sm k h
    · cases ps with
      | nil => exact absurd rfl h3
      | cons p ps =>
        have e1 : repX tl m (p :: ps) = .tup [.str (repK tl), .int m, .tup (p.1 :: ps.map fun p : Tp => p.1)] := rfl
        have e2 : kd (repX tl m (p :: ps)) = p.1 :: ps.map fun p : Tp => p.1 := rfl
        rw [e2, e1]
        exact row_in_rep k tl m p.1 (ps.map fun p : Tp => p.1) h1 h2
theorem kd_sm {x s : D} {w : List Nat} {tk lv : Int} (h : Sm x s w tk lv) : kd x = [] := by cases h <;> rfl
theorem kd_0 {x : D} (h : Gd 0 x) : kd x = [] := by
  obtain ⟨s, w, _, _, h⟩ := h
  exact kd_sm h
theorem kd_s {n : Nat} {x : D} (h : Gd (n + 1) x) : (kd x).length ≤ 3 ∧ ∀ y ∈ kd x, Gd n y := by
  obtain ⟨s, w, h⟩ := h
  rcases h with ⟨_, _, h⟩ | ⟨tl, m, ps, h1, h2, h3, h4, h5, rfl, h7, h8⟩
  · rw [kd_sm h]
    exact ⟨Nat.zero_le _, fun y hy => nomatch hy⟩
  · show (ps.map (·.1)).length ≤ 3 ∧ ∀ y ∈ ps.map (·.1), Gd n y
    rw [List.length_map]
    refine ⟨h4, fun y hy => ?_⟩
    obtain ⟨p, hp, rfl⟩ := List.mem_map.mp hy
    exact ⟨_, _, h5 p hp⟩
/-! ### the loop of stitch_of -/
def soC : E := .cmp .ne (.var 1) (.lst .nil)
def soB : S := bodyW (nthS fd_stitch_of.body 1)
def nxt (rows : List (List D)) : List (List D) := (rows.flatten.map kd).filter fun r => !r.isEmpty
section
variable (F : String → List SV → Cr) (X : SV)
theorem so_cond (rows : List (List D)) (b c : Option SV) {r : Bool} (h : (!rows.isEmpty) = r) : ev tb F soC [some X, some (.lst (rows.map fun r => .d (.tup r))), b, c, none] = .ok (.d (.bl r)) [some X, some (.d (.lst (rows.map .tup))), b, c, none] := by
  have e : frzs (rows.map fun r => SV.d (.tup r)) = rows.map .tup := frzs_map rows D.tup
  refine nel_ev (x := .d (.lst (frzs (rows.map fun r => SV.d (.tup r))))) (y := .lst []) (xs := rows.map .tup) (ρ1 := [some X, some (.d (.lst (rows.map .tup))), b, c, none]) ?_ (lst_ev evs_nil (lim3 (by simp))) (by rw [e]; rfl) rfl (by rw [← h]; cases rows <;> rfl)
  rw [← e]
  exact varF_ev rfl
theorem so_row (R : SV) (acc : List SV) (r : List D) (hr : ∀ y ∈ r, ∃ o, F "row_in" [.d y] = .ok (.d (.tup (kd y))) o) (hl : acc.length + r.length ≤ 1000) :
    Kn.exec tb F [] (bodyS (nthS soB 1)) [some X, some R, some (.lst acc), some (.d (.tup r)), none] = .nx [some X, some R, some (.lst (acc ++ r.map fun y => .d (.tup (kd y)))), some (.d (.tup r)), none] := by
  have hm : r.map (fun y : D => y) = r := List.map_id' r
  have hi : evi tb F (.var 3) [some X, some R, some (.lst acc), some (.d (.tup r)), none] = .ok (r.map fun y : D => y) [some X, some R, some (.lst acc), some (.d (.tup r)), none] := by
    rw [hm]
    exact evi_of (var_ev rfl) rfl
  have hc : ev tb F (.comp (.nm 4) (.var 3) (.call "row_in" (.cons (.var 4) .nil))) [some X, some R, some (.lst acc), some (.d (.tup r)), none] = .ok (.lst (r.map fun y => .d (.tup (kd y)))) [some X, some R, some (.lst acc), some (.d (.tup r)), none] :=
    comp_al (a := fun y : D => y) (b := fun y : D => .tup (kd y)) (Nat.lt_succ_self 4) hi rfl (lim3 (by omega)) fun y hy => by
      obtain ⟨o, ho⟩ := hr y hy
      exact call_ev rfl (evs_cons (var_ev (set_at (Nat.lt_succ_self 4))) evs_nil) ho
  show Kn.exec tb F [] (.cons (.exm 2 (.comp (.nm 4) (.var 3) (.call "row_in" (.cons (.var 4) .nil)))) .nil) _ = _
  exact one_nx (exm_to (xs0 := acc) (xs := acc) (ys := r.map fun y => .d (.tup (kd y))) rfl hc rfl rfl (lim3 (by rw [List.length_map]; exact hl)) rfl)
theorem so_turn (rows : List (List D)) (b : Option SV) (c : Option D) (hr : ∀ r ∈ rows, ∀ y ∈ r, ∃ o, F "row_in" [.d y] = .ok (.d (.tup (kd y))) o) (hl : rows.flatten.length ≤ 500) :
    ∃ (b' : Option SV) (c' : Option D), Kn.exec tb F [] soB [some X, some (.d (.lst (rows.map .tup))), b, c.map .d, none] = .nx [some X, some (.lst ((nxt rows).map fun r => .d (.tup r))), b', c'.map .d, none] := by
  let G : Fl → Prop := fun y => ∃ (b' : Option SV) (c' : Option D), y = Fl.nx [some X, some (.lst ((nxt rows).map fun r => .d (.tup r))), b', c'.map .d, none]
  have key : G (Kn.exec tb F [] soB [some X, some (.d (.lst (rows.map .tup))), b, c.map .d, none]) := by
    refine st_nx (G := G) (ρ1 := [some X, some (.d (.lst (rows.map .tup))), some (.lst []), c.map .d, none]) (set_ok (lst_ev evs_nil (lim3 (by simp))) rfl) ?_
    refine st_fora (G := G) (l := rows) (a := D.tup) (ρ1 := [some X, some (.d (.lst (rows.map .tup))), some (.lst []), c.map .d, none]) (fun pre ρ => ∃ c' : Option D, ρ = [some X, some (.d (.lst (rows.map .tup))), some (.lst (pre.flatten.map fun y => .d (.tup (kd y)))), c'.map .d, none]) (evi_of (var_ev rfl) rfl) rfl ⟨c, rfl⟩ ?_ ?_
    · rintro pre r post e ρ ⟨c', rfl⟩
      have hlen : rows.flatten.length = pre.flatten.length + (r.length + post.flatten.length) := by rw [e, List.flatten_append, List.length_append, List.flatten_cons, List.length_append]
      have h := so_row F X (.d (.lst (rows.map .tup))) (pre.flatten.map fun y => .d (.tup (kd y))) r (hr r (by rw [e]; exact List.mem_append_right _ List.mem_cons_self)) (by rw [List.length_map]; omega)
      refine ⟨_, h, some (.tup r), ?_⟩
      rw [List.flatten_append, List.map_append, List.flatten_cons, List.flatten_nil, List.append_nil]
      rfl
    · rintro ρ' ⟨c', rfl⟩
      have e : frzs (rows.flatten.map fun y => SV.d (.tup (kd y))) = rows.flatten.map fun y => .tup (kd y) := frzs_map rows.flatten fun y => .tup (kd y)
      have hv : ev tb F (.var 2) [some X, some (.d (.lst (rows.map .tup))), some (.lst (rows.flatten.map fun y => .d (.tup (kd y)))), c'.map .d, none] = .ok (.d (.lst (rows.flatten.map fun y => .tup (kd y)))) [some X, some (.d (.lst (rows.map .tup))), some (.d (.lst (rows.flatten.map fun y => .tup (kd y)))), c'.map .d, none] := by
        rw [← e]
        exact varF_ev rfl
      have hf : freeAt [some X, some (.d (.lst (rows.map .tup))), some (.d (.lst (rows.flatten.map fun y => .tup (kd y)))), c'.map .d, none] [3] = true := by cases c' <;> rfl
      have hc := flt_ev (t := tb) (F := F) (ρ1 := [some X, some (.d (.lst (rows.map .tup))), some (.d (.lst (rows.flatten.map fun y => .tup (kd y)))), c'.map .d, none]) (i := 3) (c := .cmp .ne (.var 3) (.tup .nil)) (p := fun d => match d with
        | .tup xs => !xs.isEmpty
        | _ => false) (Nat.lt_succ_of_lt (Nat.lt_succ_self 3)) (evi_of hv rfl) hf (lim3 (by rw [List.length_map]; omega)) fun d hd => by
          obtain ⟨y, hy, rfl⟩ := List.mem_map.mp hd
          exact net_ev (xs := kd y) (var_ev (set_at (Nat.lt_succ_of_lt (Nat.lt_succ_self 3)))) (const_ev (v := .d (.tup [])) rfl) rfl rfl rfl
      have e2 : (rows.flatten.map fun y => D.tup (kd y)).filter (fun d => match d with
        | .tup xs => !xs.isEmpty
        | _ => false) = (nxt rows).map .tup := by
        unfold nxt
        rw [show (rows.flatten.map fun y => D.tup (kd y)) = (rows.flatten.map kd).map .tup by rw [List.map_map]; rfl, List.filter_map]
        rfl
      rw [e2] at hc
      refine ⟨some (.d (.lst (rows.flatten.map fun y => .tup (kd y)))), c', ?_⟩
      refine one_nx (set_to hc rfl ?_)
      rw [List.map_map]
      rfl
  exact key
theorem fl_le (p : List D → Bool) : ∀ L : List (List D), (L.filter p).flatten.length ≤ L.flatten.length
  | [] => Nat.le_refl _
  | x :: L => by
    have ih := fl_le p L
    rw [List.flatten_cons, List.length_append]
    by_cases h : p x = true
    · rw [List.filter_cons_of_pos h, List.flatten_cons, List.length_append]
      omega
    · rw [List.filter_cons_of_neg h]
      omega
theorem fl3 : ∀ ys : List D, (∀ y ∈ ys, (kd y).length ≤ 3) → (ys.map kd).flatten.length ≤ 3 * ys.length
  | [], _ => Nat.le_refl _
  | y :: ys, h => by
    have ih := fl3 ys fun z hz => h z (List.mem_cons_of_mem _ hz)
    have := h y List.mem_cons_self
    rw [List.map_cons, List.flatten_cons, List.length_append, List.length_cons]
    omega
theorem so_end (k : Nat) (b c : Option SV) : ∃ b' c', loopW (ev tb F soC) (Kn.exec tb F [] soB) (k + 1) [some X, some (.lst []), b, c, none] = .nx [some X, some (.d (.lst [])), b', c', none] :=
  ⟨b, c, whl_end (so_cond F X [] b c (r := false) rfl)⟩
theorem so_loop (hF : ∀ n y, Gd n y → ∃ o, F "row_in" [.d y] = .ok (.d (.tup (kd y))) o) : ∀ (n : Nat) (rows : List (List D)) (k : Nat) (b : Option SV) (c : Option D), (∀ r ∈ rows, ∀ y ∈ r, Gd n y) → rows.flatten.length * 3 ^ n ≤ 500 → n + 2 ≤ k →
    ∃ a' b' c', loopW (ev tb F soC) (Kn.exec tb F [] soB) k [some X, some (.lst (rows.map fun r => .d (.tup r))), b, c.map .d, none] = .nx [some X, a', b', c', none] := by
  intro n
  induction n with
  | zero =>
    intro rows k b c h hs hk
    obtain ⟨k, rfl⟩ : ∃ j, k = j + 2 := ⟨k - 2, by omega⟩
    by_cases he : rows = []
    · subst he
      obtain ⟨b', c', e⟩ := so_end F X (k + 1) b (c.map .d)
      exact ⟨_, _, _, e⟩
    · obtain ⟨b', c', e⟩ := so_turn F X rows b c (fun r hr y hy => hF 0 y (h r hr y hy)) (by simpa using hs)
      have hn : nxt rows = [] := by
        unfold nxt
        refine List.filter_eq_nil_iff.mpr fun r hr => ?_
        obtain ⟨y, hy, rfl⟩ := List.mem_map.mp hr
        obtain ⟨r', hr', hy'⟩ := List.mem_flatten.mp hy
        rw [kd_0 (h r' hr' y hy')]
        decide
      rw [hn] at e
      obtain ⟨b2, c2, e2⟩ := so_end F X k b' (c'.map .d)
      refine ⟨_, b2, c2, (whl_go (so_cond F X rows b (c.map .d) (r := true) (by cases rows with | nil => exact absurd rfl he | cons _ _ => rfl)) e).trans e2⟩
  | succ n ih =>
    intro rows k b c h hs hk
    obtain ⟨k, rfl⟩ : ∃ j, k = j + 1 := ⟨k - 1, by omega⟩
    by_cases he : rows = []
    · subst he
      obtain ⟨b', c', e⟩ := so_end F X k b (c.map .d)
      exact ⟨_, _, _, e⟩
    · have h3 : 1 ≤ 3 ^ n := Nat.one_le_pow _ _ (by decide)
      have hs' : rows.flatten.length * 3 * 3 ^ n ≤ 500 := by rw [Nat.mul_assoc, Nat.mul_comm 3, ← Nat.pow_succ]; exact hs
      have hs1 : rows.flatten.length ≤ 500 := Nat.le_trans (Nat.le_trans (Nat.le_mul_of_pos_right _ (by decide : 0 < 3)) (Nat.le_mul_of_pos_right _ h3)) hs'
      obtain ⟨b', c', e⟩ := so_turn F X rows b c (fun r hr y hy => hF (n + 1) y (h r hr y hy)) hs1
      have hy : ∀ y ∈ rows.flatten, Gd (n + 1) y := fun y hy => by
        obtain ⟨r', hr', hy'⟩ := List.mem_flatten.mp hy
        exact h r' hr' y hy'
      have hl : (nxt rows).flatten.length ≤ 3 * rows.flatten.length := Nat.le_trans (fl_le _ _) (fl3 _ fun y hy' => (kd_s (hy y hy')).1)
      obtain ⟨a2, b2, c2, e2⟩ := ih (nxt rows) k b' c' (fun r hr y hyr => by
        obtain ⟨z, hz, rfl⟩ := List.mem_map.mp (List.mem_filter.mp hr).1
        exact (kd_s (hy z hz)).2 y hyr) (Nat.le_trans (Nat.mul_le_mul_right _ hl) (by rw [Nat.mul_comm 3]; exact hs')) (by omega)
      exact ⟨a2, b2, c2, (whl_go (so_cond F X rows b (c.map .d) (r := true) (by cases rows with | nil => exact absurd rfl he | cons _ _ => rfl)) e).trans e2⟩
/-- a turn in which something raises -/
theorem so_exc (l : List D) (y : D) (rest : List D) (x : Xc) (k : Nat) (b : Option SV) (c : Option D) (hl : ∀ z ∈ l, ∃ o, F "row_in" [.d z] = .ok (.d (.tup (kd z))) o) (hy : F "row_in" [.d y] = .exc x) (hn : l.length ≤ 500) :
    ∃ ρ', loopW (ev tb F soC) (Kn.exec tb F [] soB) (k + 1) [some X, some (.lst [.d (.tup (l ++ y :: rest))]), b, c.map .d, none] = .exc x ρ' := by
  have hc := so_cond F X [l ++ y :: rest] b (c.map .d) (r := true) rfl
  have hm : l.map (fun y : D => y) = l := List.map_id' l
  have hi : evi tb F (.var 3) [some X, some (.d (.lst [.tup (l ++ y :: rest)])), some (.lst []), some (.d (.tup (l ++ y :: rest))), none] = .ok (l.map (fun y : D => y) ++ y :: rest) [some X, some (.d (.lst [.tup (l ++ y :: rest)])), some (.lst []), some (.d (.tup (l ++ y :: rest))), none] := by
    rw [hm]
    exact evi_of (var_ev rfl) rfl
  have he : ev tb F (.comp (.nm 4) (.var 3) (.call "row_in" (.cons (.var 4) .nil))) [some X, some (.d (.lst [.tup (l ++ y :: rest)])), some (.lst []), some (.d (.tup (l ++ y :: rest))), none] = .exc x [some X, some (.d (.lst [.tup (l ++ y :: rest)])), some (.lst []), some (.d (.tup (l ++ y :: rest))), none] :=
    comp_exc (a := fun y : D => y) (b := fun y : D => .d (.tup (kd y))) (Nat.lt_succ_self 4) hi rfl (lim3 (by omega)) (fun z hz => by
      obtain ⟨o, ho⟩ := hl z hz
      exact call_ev rfl (evs_cons (var_ev (set_at (Nat.lt_succ_self 4))) evs_nil) ho) (call_exc rfl (evs_cons (var_ev (set_at (Nat.lt_succ_self 4))) evs_nil) hy)
  have hb : Kn.exec tb F [] soB [some X, some (.d (.lst [.tup (l ++ y :: rest)])), b, c.map .d, none] = .exc x [some X, some (.d (.lst [.tup (l ++ y :: rest)])), some (.lst []), some (.d (.tup (l ++ y :: rest))), none] := by
    refine st_nx (G := fun z => z = _) (ρ1 := [some X, some (.d (.lst [.tup (l ++ y :: rest)])), some (.lst []), c.map .d, none]) (set_ok (lst_ev evs_nil (lim3 (by simp))) rfl) ?_
    refine st_to ?_ rfl
    rw [for_ev (ds := [.tup (l ++ y :: rest)]) (ρ1 := [some X, some (.d (.lst [.tup (l ++ y :: rest)])), some (.lst []), c.map .d, none]) (evi_of (var_ev rfl) rfl) rfl]
    have hx : Kn.exec tb F [] (bodyS (nthS soB 1)) [some X, some (.d (.lst [.tup (l ++ y :: rest)])), some (.lst []), some (.d (.tup (l ++ y :: rest))), none] = .exc x [some X, some (.d (.lst [.tup (l ++ y :: rest)])), some (.lst []), some (.d (.tup (l ++ y :: rest))), none] := by
      show Kn.exec tb F [] (.cons (.exm 2 (.comp (.nm 4) (.var 3) (.call "row_in" (.cons (.var 4) .nil)))) .nil) _ = _
      exact st_to (exm_exc rfl he) rfl
    unfold loopF
    show (match Kn.exec tb F [] (bodyS (nthS soB 1)) [some X, some (.d (.lst [.tup (l ++ y :: rest)])), some (.lst []), some (.d (.tup (l ++ y :: rest))), none] with
      | .nx ρ' => loopF _ [] ρ'
      | .ct ρ' => loopF _ [] ρ'
      | .bk ρ' => .nx ρ'
      | r => r) = _
    rw [hx]
  exact ⟨_, whl_exc hc hb⟩
end
theorem stitch_of_at (n k : Nat) (hn : n ≤ 4) {x s : D} {w : List Nat} (h : TrP n x s w) : ∃ o, callN tb pt (k + n + 4) "stitch_of" [.d x] = .ok (ow s) o := by
  have hF : ∀ j y, Gd j y → ∃ o, callN tb pt (k + n + 3) "row_in" [.d y] = .ok (.d (.tup (kd y))) o := fun j y hy => row_in_at (k + n) hy
  obtain ⟨o1, hm⟩ := stitch_made_at n k h
  have key : GV (ow s) (Kn.exec tb (callN tb pt (k + n + 3)) [] fd_stitch_of.body ([SV.d x].map some ++ List.replicate (fd_stitch_of.n - fd_stitch_of.np) none)) := by
    generalize callN tb pt (k + n + 3) = F at hF hm ⊢
    obtain ⟨a', b', c', e⟩ := so_loop F (.d x) hF n [[x]] 100000 none none (fun r hr y hy => by
      rw [List.mem_singleton.mp hr] at hy
      rw [List.mem_singleton.mp hy]
      exact ⟨s, w, h⟩) (by
        have : 3 ^ n ≤ 3 ^ 4 := Nat.pow_le_pow_right (by decide) hn
        show 1 * 3 ^ n ≤ 500
        omega) (by omega)
    refine ⟨_, st_nx (G := fun y => y = _) (ρ1 := [some (.d x), some (.lst [.d (.tup [x])]), none, none, none]) (set_ok (lst_ev (evs_cons (tup_ev (evs_cons (var_ev rfl) evs_nil) (lim3 (by simp))) evs_nil) (lim3 (by simp))) rfl) (st_nx (G := fun y => y = _) (whl_is.trans e) (ret_blk (call_ev rfl (evs_cons (var_ev rfl) evs_nil) hm)))⟩
  obtain ⟨ρ', h4⟩ := key
  exact run_rt (k + n + 3) pt_stitch_of ⟨rfl, by decide, rfl, rfl⟩ h4
theorem stitch_of_exc (k : Nat) (y : D) (x : Xc) (h : callN tb pt k "row_in" [.d y] = .exc x) : callN tb pt (k + 1) "stitch_of" [.d y] = .exc x := by
  have key : ∃ ρ', Kn.exec tb (callN tb pt k) [] fd_stitch_of.body ([SV.d y].map some ++ List.replicate (fd_stitch_of.n - fd_stitch_of.np) none) = .exc x ρ' := by
    generalize callN tb pt k = F at h ⊢
    obtain ⟨ρ', e⟩ := so_exc F (.d y) [] y [] x 99999 none none (fun z hz => nomatch hz) h (Nat.zero_le _)
    refine ⟨ρ', st_nx (G := fun y => y = _) (ρ1 := [some (.d y), some (.lst [.d (.tup [y])]), none, none, none]) (set_ok (lst_ev (evs_cons (tup_ev (evs_cons (var_ev rfl) evs_nil) (lim3 (by simp))) evs_nil) (lim3 (by simp))) rfl) (st_to (whl_is.trans e) rfl)⟩
  obtain ⟨ρ', h4⟩ := key
  exact run_exc k pt_stitch_of ⟨rfl, by decide, rfl, rfl⟩ h4
/-- a repeat whose row has something wrong in it -/
theorem stitch_of_exc2 (k : Nat) (y : D) (l : List D) (z : D) (r : List D) (x : Xc) (hkd : kd y = l ++ z :: r) (hy : ∃ o, callN tb pt k "row_in" [.d y] = .ok (.d (.tup (kd y))) o) (hl : ∀ u ∈ l, ∃ o, callN tb pt k "row_in" [.d u] = .ok (.d (.tup (kd u))) o) (hn : l.length ≤ 500) (h : callN tb pt k "row_in" [.d z] = .exc x) : callN tb pt (k + 1) "stitch_of" [.d y] = .exc x := by
  have key : ∃ ρ', Kn.exec tb (callN tb pt k) [] fd_stitch_of.body ([SV.d y].map some ++ List.replicate (fd_stitch_of.n - fd_stitch_of.np) none) = .exc x ρ' := by
    generalize callN tb pt k = F at h hy hl ⊢
    obtain ⟨b', c', e⟩ := so_turn F (.d y) [[y]] none none (fun r hr u hu => by
      rw [List.mem_singleton.mp hr] at hu
      rw [List.mem_singleton.mp hu]
      exact hy) (by simp)
    have hnx : nxt [[y]] = [l ++ z :: r] := by
      show [kd y].filter _ = _
      rw [hkd]
      cases l <;> rfl
    rw [hnx] at e
    obtain ⟨ρ', e2⟩ := so_exc F (.d y) l z r x 99998 b' c' hl h hn
    have e3 := (whl_go (n := 99999) (so_cond F (.d y) [[y]] none none (r := true) rfl) e).trans e2
    refine ⟨ρ', st_nx (G := fun y => y = _) (ρ1 := [some (.d y), some (.lst [.d (.tup [y])]), none, none, none]) (set_ok (lst_ev (evs_cons (tup_ev (evs_cons (var_ev rfl) evs_nil) (lim3 (by simp))) evs_nil) (lim3 (by simp))) rfl) (st_to (whl_is.trans e3) rfl)⟩
  obtain ⟨ρ', h4⟩ := key
  exact run_exc k pt_stitch_of ⟨rfl, by decide, rfl, rfl⟩ h4
end Kn

set_option Elab.async false
set_option linter.all false
set_option maxRecDepth 100000
set_option maxHeartbeats 4000000
/-! TE: the law's own trees, their texts, what they take and leave. -/
namespace Kn
open PySem L2
theorem law_takes_sm (k : Nat) {x s : D} {w : List Nat} {tk lv : Int} (h : Sm x s w tk lv) : ∃ o, callN tb pt (k + 1) "_law_takes" [.d x] = .ok (.d (.int tk)) o := by
  have simple : ∀ (u : List Nat) (j : Int), u ≠ [99, 97, 98, 108, 101] → (atK (.s u) [.s [121, 111], .s [107, 50], .s [115, 50]] [D.int 0, .int 2, .int 2]).getD (.int 1) = .int j → ∃ o, callN tb pt (k + 1) "_law_takes" [.d (.tup [.str u])] = .ok (.d (.int j)) o := fun u j h1 h2 =>
    run_rt k pt__law_takes ⟨rfl, by decide, rfl, rfl⟩ (ρ' := [some (.d (.tup [.str u]))]) (st_nx (G := fun y => y = _) (ite_f (eq_ev (idx_ev (var_ev rfl) int_ev rfl) str_ev (eqTf h1)) nil_blk) (ret_blk (by
      rw [← h2]
      exact dget_ev (z := .d (.int 1)) (disp_ev (vs := [.d (.int 0), .d (.int 2), .d (.int 2)]) (by decide) (const_evs rfl)) rfl (idx_ev (var_ev rfl) int_ev rfl) int_ev rfl)))
  cases h with
  | k => exact simple _ _ (by decide) rfl
  | p => exact simple _ _ (by decide) rfl
  | yo => exact simple _ _ (by decide) rfl
  | k2 => exact simple _ _ (by decide) rfl
  | s2 => exact simple _ _ (by decide) rfl
  | cab a b f a1 a2 b1 b2 => exact run_rt k pt__law_takes ⟨rfl, by decide, rfl, rfl⟩ (ρ' := [some (.d (.tup [.str [99, 97, 98, 108, 101], .int a, .bl f, .int b]))]) (st_rt (G := fun y => y = _) (ite_t (eq_ev (idx_ev (var_ev rfl) int_ev rfl) str_ev (eqTt _)) (ret_blk (bin_ev (idx_ev (var_ev rfl) int_ev rfl) (idx_ev (var_ev rfl) int_ev rfl) (bA a b)))) rfl)
/-! ### _law_written -/
theorem sm_head {x s : D} {w : List Nat} {tk lv : Int} (h : Sm x s w tk lv) : ∃ c r, x = .tup (.str c :: r) ∧ c ≠ [116, 105, 109, 101, 115] ∧ c ≠ [116, 105, 108, 108] := by
  cases h <;> exact ⟨_, _, rfl, by decide, by decide⟩
theorem idx0 (x : D) (xs : List D) : idxD (.tup (x :: xs)) (.int 0) = some x := show atI (x :: xs) (0 : Int) = some x from atI_nat (j := 0) List.getElem?_cons_zero
/-! ### _law_simple -/
theorem sm_le9 {x s : D} {w : List Nat} {tk lv : Int} (h : Sm x s w tk lv) : tk ≤ 9 := by cases h <;> omega
theorem law_simple_at (k : Nat) (d : Int) (hd : 0 ≤ d) : ∃ x s w tk lv, Sm x s w tk lv ∧ ∃ o, callN tb pt (k + 2) "_law_simple" [.d (.int d), .d (.int 9)] = .ok (.d x) o := by
  obtain ⟨i, hi, hi7⟩ : ∃ i : Nat, d % 8 % 7 = i ∧ i < 7 := ⟨(d % 8 % 7).toNat, by omega, by omega⟩
  have hx : ∃ x0, idxD (.lst [.tup [.str [107]], .tup [.str [112]], .tup [.str [107]], .tup [.str [121, 111]], .tup [.str [107, 50]], .tup [.str [115, 50]], .tup [.str [112]]]) (.int (d % 8 % 7)) = some x0 ∧ ∃ s w tk lv, Sm x0 s w tk lv := by
    rw [hi]
    match i, hi7 with
    | 0, _ => exact ⟨_, rfl, _, _, _, _, .k⟩
    | 1, _ => exact ⟨_, rfl, _, _, _, _, .p⟩
    | 2, _ => exact ⟨_, rfl, _, _, _, _, .k⟩
    | 3, _ => exact ⟨_, rfl, _, _, _, _, .yo⟩
    | 4, _ => exact ⟨_, rfl, _, _, _, _, .k2⟩
    | 5, _ => exact ⟨_, rfl, _, _, _, _, .s2⟩
    | 6, _ => exact ⟨_, rfl, _, _, _, _, .p⟩
  obtain ⟨x0, hx0, s0, w0, tk0, lv0, hs0⟩ := hx
  let some0 : SV := .lst [.d (.tup [.str [107]]), .d (.tup [.str [112]]), .d (.tup [.str [107]]), .d (.tup [.str [121, 111]]), .d (.tup [.str [107, 50]]), .d (.tup [.str [115, 50]]), .d (.tup [.str [112]])]
  have hfr : frz some0 = .lst [.tup [.str [107]], .tup [.str [112]], .tup [.str [107]], .tup [.str [121, 111]], .tup [.str [107, 50]], .tup [.str [115, 50]], .tup [.str [112]]] := rfl
  have htk := fun (x s : D) (w : List Nat) (tk lv : Int) (h : Sm x s w tk lv) => law_takes_sm k h
  have fin : ∀ (F : String → List SV → Cr), (∀ (x s : D) (w : List Nat) (tk lv : Int), Sm x s w tk lv → ∃ o, F "_law_takes" [.d x] = .ok (.d (.int tk)) o) → ∀ (Z : D) {x s : D} {w : List Nat} {tk lv : Int}, Sm x s w tk lv → Kn.exec tb F [] (.cons (nthS fd__law_simple.body 3) (.cons (.ret (.var 3)) .nil)) [some (.d (.int d)), some (.d (.int 9)), some (.d Z), some (.d x)] = .rt (.d x) [some (.d (.int d)), some (.d (.int 9)), some (.d Z), some (.d x)] := fun F HF Z x s w tk lv h => by
    obtain ⟨o, ho⟩ := HF x s w tk lv h
    have := sm_le9 h
    exact st_nx (G := fun y => y = _) (ite_f (cmp_ev (r := false) (call_ev rfl (evs_cons (var_ev rfl) evs_nil) ho) (var_ev rfl) (by rw [frz, frz, cgI, decide_eq_false (by omega)])) nil_blk) (ret_blk (var_ev rfl))
  have key : ∃ x s w tk lv, Sm x s w tk lv ∧ GV (.d x) (Kn.exec tb (callN tb pt (k + 1)) [] fd__law_simple.body [some (.d (.int d)), some (.d (.int 9)), none, none]) := by
    generalize callN tb pt (k + 1) = F at htk ⊢
    by_cases h7 : d % 8 = 7
    · refine ⟨_, _, _, _, _, Sm.cab (1 + d / 8 % 3) (1 + d / 48 % 3) (decide (d / 24 % 2 = 1)) (by omega) (by omega) (by omega) (by omega), ?_⟩
      refine ⟨[some (.d (.int d)), some (.d (.int 9)), some (.d (frz some0)), some (.d (.tup [.str [99, 97, 98, 108, 101], .int (1 + d / 8 % 3), .bl (decide (d / 24 % 2 = 1)), .int (1 + d / 48 % 3)]))], ?_⟩
      refine st_nx (G := fun y => y = _) (ρ1 := [some (.d (.int d)), some (.d (.int 9)), some some0, none]) (set_ok (const_ev rfl) rfl) ?_
      refine st_nx (G := fun y => y = _) (ρ1 := [some (.d (.int d)), some (.d (.int 9)), some (.d (frz some0)), some (.d x0)]) (set_to (idx_ev (varS_ev rfl) (bin_ev (bin_ev (var_ev rfl) int_ev (bM _ _ (by decide))) int_ev (bM _ _ (by decide))) (by rw [frz, hfr]; exact hx0)) rfl rfl) ?_
      refine st_nx (G := fun y => y = _) (ρ1 := [some (.d (.int d)), some (.d (.int 9)), some (.d (frz some0)), some (.d (.tup [.str [99, 97, 98, 108, 101], .int (1 + d / 8 % 3), .bl (decide (d / 24 % 2 = 1)), .int (1 + d / 48 % 3)]))]) (ite_t (eq_ev (bin_ev (var_ev rfl) int_ev (bM _ _ (by decide))) int_ev (by rw [frz, frz, eqI, decide_eq_true h7])) (one_nx (set_ok (tup_ev (vs := [.d (.str [99, 97, 98, 108, 101]), .d (.int (1 + d / 8 % 3)), .d (.bl (decide (d / 24 % 2 = 1))), .d (.int (1 + d / 48 % 3))]) (evs_cons str_ev (evs_cons (bin_ev int_ev (bin_ev (bin_ev (var_ev rfl) int_ev (bF _ _ (by decide) (by decide))) int_ev (bM _ _ (by decide))) (bA _ _)) (evs_cons (eq_ev (bin_ev (bin_ev (var_ev rfl) int_ev (bF _ _ (by decide) (by decide))) int_ev (bM _ _ (by decide))) int_ev (eqI _ _)) (evs_cons (bin_ev int_ev (bin_ev (bin_ev (var_ev rfl) int_ev (bF _ _ (by decide) (by decide))) int_ev (bM _ _ (by decide))) (bA _ _)) evs_nil)))) (lim3 (by simp))) rfl))) ?_
      exact fin F htk _ (Sm.cab (1 + d / 8 % 3) (1 + d / 48 % 3) (decide (d / 24 % 2 = 1)) (by omega) (by omega) (by omega) (by omega))
    · refine ⟨x0, s0, w0, tk0, lv0, hs0, ?_⟩
      refine ⟨[some (.d (.int d)), some (.d (.int 9)), some (.d (frz some0)), some (.d x0)], ?_⟩
      refine st_nx (G := fun y => y = _) (ρ1 := [some (.d (.int d)), some (.d (.int 9)), some some0, none]) (set_ok (const_ev rfl) rfl) ?_
      refine st_nx (G := fun y => y = _) (ρ1 := [some (.d (.int d)), some (.d (.int 9)), some (.d (frz some0)), some (.d x0)]) (set_to (idx_ev (varS_ev rfl) (bin_ev (bin_ev (var_ev rfl) int_ev (bM _ _ (by decide))) int_ev (bM _ _ (by decide))) (by rw [frz, hfr]; exact hx0)) rfl rfl) ?_
      refine st_nx (G := fun y => y = _) (ρ1 := [some (.d (.int d)), some (.d (.int 9)), some (.d (frz some0)), some (.d x0)]) (ite_f (eq_ev (bin_ev (var_ev rfl) int_ev (bM _ _ (by decide))) int_ev (by rw [frz, frz, eqI, decide_eq_false h7])) nil_blk) ?_
      exact fin F htk _ hs0
  obtain ⟨x, s, w, tk, lv, hs, ρ', e⟩ := key
  exact ⟨x, s, w, tk, lv, hs, run_rt (k + 1) pt__law_simple ⟨rfl, by decide, rfl, rfl⟩ e⟩
/-! ### _law_trees -/
def ltB : S := bodyS (nthS fd__law_trees.body 1)
theorem lt_turn (F : String → List SV → Cr) (ds : List Int) (M : Option SV) (d : Nat) (qs : List Tp) (z : Int) (j : Nat) (b0 c0 : Option SV) (hz : 0 ≤ z) (hj : ds[j]? = some z) (hq : qs.length ≤ 900)
    (HS : ∀ e : Int, 0 ≤ e → ∃ x s w tk lv, Sm x s w tk lv ∧ ∃ o, F "_law_simple" [.d (.int e), .d (.int 9)] = .ok (.d x) o)
    (HT : ∀ (es : List Int) (m : Nat), d ≠ 0 → (∀ e ∈ es, 0 ≤ e) → m ≤ es.length → m ≤ 3 → ∃ ps : List Tp, ps.length = m ∧ (∀ p ∈ ps, TrP (d - 1) p.1 p.2.1 p.2.2) ∧ ∃ o, F "_law_trees" [.d (.lst (es.map .int)), .d (.int m), .d (.int ((d : Int) - 1))] = .ok (.d (.lst (ps.map fun p : Tp => p.1))) o) :
    ∃ p : Tp, TrP d p.1 p.2.1 p.2.2 ∧ ∃ b c, Kn.exec tb F [] ltB [some (.d (.lst (ds.map .int))), M, some (.d (.int d)), some (.lst (qs.map fun p : Tp => .d p.1)), some (.d (.int (0 + (j : Int)))), b0, c0, none] =
      .nx [some (.d (.lst (ds.map .int))), M, some (.d (.int d)), some (.lst ((qs ++ [p]).map fun p : Tp => .d p.1)), some (.d (.int (0 + (j : Int)))), b, c, none] := by
  have hal : (qs.map fun p : Tp => SV.d p.1).length < lim := by rw [List.length_map]; exact Nat.lt_of_le_of_lt hq (by decide)
  have hid : idxD (.lst (ds.map .int)) (.int (0 + (j : Int))) = some (.int z) := by
    rw [Int.zero_add]
    show atI (ds.map D.int) (j : Int) = _
    exact atI_nat (by rw [List.getElem?_map, hj]; rfl)
  have e3 : ∀ p : Tp, (qs ++ [p]).map (fun p : Tp => SV.d p.1) = qs.map (fun p : Tp => SV.d p.1) ++ [.d p.1] := fun p => List.map_append
  have hand : ev tb F (.and (.cmp .eq (.bin .mod (.var 5) (.int 5)) (.int 0)) (.cmp .gt (.var 2) (.int 0))) [some (.d (.lst (ds.map .int))), M, some (.d (.int d)), some (.lst (qs.map fun p : Tp => .d p.1)), some (.d (.int (0 + (j : Int)))), some (.d (.int z)), c0, none] = .ok (.d (.bl (decide (z % 5 = 0) && decide (0 < (d : Int))))) [some (.d (.lst (ds.map .int))), M, some (.d (.int d)), some (.lst (qs.map fun p : Tp => .d p.1)), some (.d (.int (0 + (j : Int)))), some (.d (.int z)), c0, none] :=
    and_ev (eq_ev (bin_ev (var_ev rfl) int_ev (bM _ _ (by decide))) int_ev (eqI _ _)) fun _ => cmp_ev (var_ev rfl) int_ev (cgI _ _)
  have first : Kn.exec tb F [] (nthS ltB 0) [some (.d (.lst (ds.map .int))), M, some (.d (.int d)), some (.lst (qs.map fun p : Tp => .d p.1)), some (.d (.int (0 + (j : Int)))), b0, c0, none] = .nx [some (.d (.lst (ds.map .int))), M, some (.d (.int d)), some (.lst (qs.map fun p : Tp => .d p.1)), some (.d (.int (0 + (j : Int)))), some (.d (.int z)), c0, none] :=
    set_ok (idx_ev (var_ev rfl) (var_ev rfl) hid) rfl
  by_cases hc : z % 5 = 0 ∧ d ≠ 0
  · obtain ⟨h5, hd⟩ := hc
    rw [decide_eq_true h5, decide_eq_true (by omega : 0 < (d : Int))] at hand
    obtain ⟨m, hm⟩ : ∃ m : Nat, 1 + z / 5 % 3 = m := ⟨(1 + z / 5 % 3).toNat, by omega⟩
    obtain ⟨ps, hps, hps2, o, ho⟩ := HT ((List.range 4).map fun j : Nat => z / (7 + 2 * (0 + (j : Int)))) m hd (fun e he => by
      obtain ⟨j, _, rfl⟩ := List.mem_map.mp he
      exact Int.ediv_nonneg hz (by omega)) (by rw [List.length_map, List.length_range]; omega) (by omega)
    have hne : ps ≠ [] := by
      intro h
      rw [h, List.length_nil] at hps
      omega
    have hcomp : ∀ ρ : Env, ρ.length = 8 → ρ[5]? = some (some (.d (.int z))) → freeAt ρ [7] = true → ev tb F (.comp (.nm 7) (.rng (.int 4)) (.bin .fdiv (.var 5) (.bin .add (.int 7) (.bin .mul (.int 2) (.var 7))))) ρ = .ok (.lst ((List.range 4).map fun j : Nat => .d (.int (z / (7 + 2 * (0 + (j : Int))))))) ρ := fun ρ hρ h5 hf => by
      refine comp_al (l := List.range 4) (a := fun j : Nat => .int (0 + (j : Int))) (b := fun j : Nat => .int (z / (7 + 2 * (0 + (j : Int))))) (by omega) (rng_evi int_ev rfl (by decide)) hf (lim3 (by simp)) fun j hj => ?_
      have hj4 : j < 4 := List.mem_range.mp hj
      have g5 : ((wipeE ρ [7]).set 7 (some (.d (.int (0 + (j : Int))))))[5]? = some (some (.d (.int z))) := by
        show ((ρ.set 7 none).set 7 (some (.d (.int (0 + (j : Int))))))[5]? = _
        rw [List.getElem?_set_ne (by decide), List.getElem?_set_ne (by decide), h5]
      exact bin_ev (var_ev g5) (bin_ev int_ev (bin_ev int_ev (var_ev (set_at (by omega))) (bX _ _ (by omega) (by omega))) (bA _ _)) (bF _ _ (by omega) (by omega))
    have hrow : ev tb F (.blt .tuple (.cons (.call "_law_trees" (.cons (.comp (.nm 7) (.rng (.int 4)) (.bin .fdiv (.var 5) (.bin .add (.int 7) (.bin .mul (.int 2) (.var 7))))) (.cons (.bin .add (.int 1) (.bin .mod (.bin .fdiv (.var 5) (.int 5)) (.int 3))) (.cons (.bin .sub (.var 2) (.int 1)) .nil)))) .nil)) [some (.d (.lst (ds.map .int))), M, some (.d (.int d)), some (.lst (qs.map fun p : Tp => .d p.1)), some (.d (.int (0 + (j : Int)))), some (.d (.int z)), c0, none] = .ok (.d (.tup (ps.map fun p : Tp => p.1))) [some (.d (.lst (ds.map .int))), M, some (.d (.int d)), some (.lst (qs.map fun p : Tp => .d p.1)), some (.d (.int (0 + (j : Int)))), some (.d (.int z)), c0, none] :=
      blt1_ev (call_ev rfl (evs_cons (hcomp _ rfl rfl rfl) (evs_cons (bin_ev int_ev (bin_ev (bin_ev (var_ev rfl) int_ev (bF _ _ (by decide) (by decide))) int_ev (bM _ _ (by decide))) (v := .d (.int m)) (by rw [← hm]; rfl)) (evs_cons (bin_ev (var_ev rfl) int_ev (bS _ _)) evs_nil))) ho) rfl
    let p0 : Bool → Int → Tp := fun tl m => (repX tl m ps, repS tl m ps, repW tl m ps)
    have hp0 : ∀ (tl : Bool) (m : Int), 0 ≤ m → m ≤ (if tl then 15 else 20) → TrP d (repX tl m ps) (repS tl m ps) (repW tl m ps) := fun tl m h1 h2 => by
      obtain ⟨e, rfl⟩ : ∃ e, d = e + 1 := ⟨d - 1, by omega⟩
      exact .inr ⟨tl, m, ps, h1, h2, hne, by omega, hps2, rfl, rfl, rfl⟩
    have hev : ∀ {x : D}, idxD (.lst [repX false (z / 15 % 21) ps, repX true (z / 15 % 16) ps]) (.int (z / 40 % 2)) = some x → ev tb F (.idx (.lst (.cons (.tup (.cons (.str [116, 105, 109, 101, 115]) (.cons (.bin .mod (.bin .fdiv (.var 5) (.int 15)) (.int 21)) (.cons (.var 6) .nil)))) (.cons (.tup (.cons (.str [116, 105, 108, 108]) (.cons (.bin .mod (.bin .fdiv (.var 5) (.int 15)) (.int 16)) (.cons (.var 6) .nil)))) .nil))) (.bin .mod (.bin .fdiv (.var 5) (.int 40)) (.int 2))) [some (.d (.lst (ds.map .int))), M, some (.d (.int d)), some (.lst (qs.map fun p : Tp => .d p.1)), some (.d (.int (0 + (j : Int)))), some (.d (.int z)), some (.d (.tup (ps.map fun p : Tp => p.1))), none] = .ok (.d x) [some (.d (.lst (ds.map .int))), M, some (.d (.int d)), some (.lst (qs.map fun p : Tp => .d p.1)), some (.d (.int (0 + (j : Int)))), some (.d (.int z)), some (.d (.tup (ps.map fun p : Tp => p.1))), none] := fun {x} h =>
      idx_ev (lst_ev (vs := [.d (repX false (z / 15 % 21) ps), .d (repX true (z / 15 % 16) ps)]) (evs_cons (tup_ev (vs := [.d (.str [116, 105, 109, 101, 115]), .d (.int (z / 15 % 21)), .d (.tup (ps.map fun p : Tp => p.1))]) (evs_cons str_ev (evs_cons (bin_ev (bin_ev (var_ev rfl) int_ev (bF _ _ (by decide) (by decide))) int_ev (bM _ _ (by decide))) (evs_cons (var_ev rfl) evs_nil))) (lim3 (by simp))) (evs_cons (tup_ev (vs := [.d (.str [116, 105, 108, 108]), .d (.int (z / 15 % 16)), .d (.tup (ps.map fun p : Tp => p.1))]) (evs_cons str_ev (evs_cons (bin_ev (bin_ev (var_ev rfl) int_ev (bF _ _ (by decide) (by decide))) int_ev (bM _ _ (by decide))) (evs_cons (var_ev rfl) evs_nil))) (lim3 (by simp))) evs_nil)) (lim3 (by simp))) (bin_ev (bin_ev (var_ev rfl) int_ev (bF _ _ (by decide) (by decide))) int_ev (bM _ _ (by decide))) h
    have hx : ∃ (tl : Bool) (m : Int), 0 ≤ m ∧ m ≤ (if tl then 15 else 20) ∧ idxD (.lst [repX false (z / 15 % 21) ps, repX true (z / 15 % 16) ps]) (.int (z / 40 % 2)) = some (repX tl m ps) := by
      rcases (by omega : z / 40 % 2 = 0 ∨ z / 40 % 2 = 1) with h | h
      · rw [h]
        exact ⟨false, z / 15 % 21, by omega, by show z / 15 % 21 ≤ 20; omega, rfl⟩
      · rw [h]
        exact ⟨true, z / 15 % 16, by omega, by show z / 15 % 16 ≤ 15; omega, rfl⟩
    obtain ⟨tl, m', h1, h2, hx⟩ := hx
    refine ⟨p0 tl m', hp0 tl m' h1 h2, some (.d (.int z)), some (.d (.tup (ps.map fun p : Tp => p.1))), ?_⟩
    rw [e3]
    exact st_nx (G := fun y => y = _) first (one_nx (ite_t hand (st_nx (G := fun y => y = _) (set_ok hrow rfl) (one_nx (app_ok rfl (hev hx) rfl hal)))))
  · have hf : (decide (z % 5 = 0) && decide (0 < (d : Int))) = false := by
      rw [Bool.and_eq_false_iff]
      by_cases h5 : z % 5 = 0
      · exact .inr (decide_eq_false (by omega))
      · exact .inl (decide_eq_false h5)
    rw [hf] at hand
    obtain ⟨x, s, w, tk, lv, hs, o, ho⟩ := HS (z / 5) (by omega)
    refine ⟨(x, s, w), TrP.sm hs d, some (.d (.int z)), c0, ?_⟩
    rw [e3]
    exact st_nx (G := fun y => y = _) first (one_nx (ite_f hand (one_nx (app_ok rfl (call_ev rfl (evs_cons (bin_ev (var_ev rfl) int_ev (bF _ _ (by decide) (by decide))) (evs_cons int_ev evs_nil)) ho) rfl hal))))
theorem lt_all (F : String → List SV → Cr) (ds : List Int) (many d : Nat) (hds : ∀ z ∈ ds, 0 ≤ z) (hm : many ≤ ds.length) (hm9 : many ≤ 900)
    (HS : ∀ e : Int, 0 ≤ e → ∃ x s w tk lv, Sm x s w tk lv ∧ ∃ o, F "_law_simple" [.d (.int e), .d (.int 9)] = .ok (.d x) o)
    (HT : ∀ (es : List Int) (m : Nat), d ≠ 0 → (∀ e ∈ es, 0 ≤ e) → m ≤ es.length → m ≤ 3 → ∃ ps : List Tp, ps.length = m ∧ (∀ p ∈ ps, TrP (d - 1) p.1 p.2.1 p.2.2) ∧ ∃ o, F "_law_trees" [.d (.lst (es.map .int)), .d (.int m), .d (.int ((d : Int) - 1))] = .ok (.d (.lst (ps.map fun p : Tp => p.1))) o) :
    ∃ ps : List Tp, ps.length = many ∧ (∀ p ∈ ps, TrP d p.1 p.2.1 p.2.2) ∧ GV (.d (.lst (ps.map fun p : Tp => p.1))) (Kn.exec tb F [] fd__law_trees.body [some (.d (.lst (ds.map .int))), some (.d (.int (many : Nat))), some (.d (.int d)), none, none, none, none, none]) := by
  let G : Fl → Prop := fun y => ∃ ps : List Tp, ps.length = many ∧ (∀ p ∈ ps, TrP d p.1 p.2.1 p.2.2) ∧ GV (.d (.lst (ps.map fun p : Tp => p.1))) y
  have key : G (Kn.exec tb F [] fd__law_trees.body [some (.d (.lst (ds.map .int))), some (.d (.int (many : Nat))), some (.d (.int d)), none, none, none, none, none]) := by
    refine st_nx (G := G) (ρ1 := [some (.d (.lst (ds.map .int))), some (.d (.int (many : Nat))), some (.d (.int d)), some (.lst []), none, none, none, none]) (set_ok (lst_ev evs_nil (lim3 (by simp))) rfl) ?_
    have hr : rngD 0 (many : Nat) = (List.range many).map fun k : Nat => .int (0 + (k : Int)) := by unfold rngD; simp
    refine st_fora (G := G) (l := List.range many) (a := fun k : Nat => .int (0 + (k : Int))) (ρ1 := [some (.d (.lst (ds.map .int))), some (.d (.int (many : Nat))), some (.d (.int d)), some (.lst []), none, none, none, none]) (fun pre ρ => ∃ (qs : List Tp) (a b c : Option SV), qs.length = pre.length ∧ (∀ p ∈ qs, TrP d p.1 p.2.1 p.2.2) ∧ ρ = [some (.d (.lst (ds.map .int))), some (.d (.int (many : Nat))), some (.d (.int d)), some (.lst (qs.map fun p : Tp => .d p.1)), a, b, c, none]) (by rw [← hr]; exact rng_evi (var_ev rfl) rfl (by omega)) rfl ⟨[], none, none, none, rfl, fun p hp => (nomatch hp), rfl⟩ ?_ ?_
    · rintro pre j post e ρ ⟨qs, a, b, c, hl, hq, rfl⟩
      have hj : j < many := List.mem_range.mp (by rw [e]; exact List.mem_append_right _ List.mem_cons_self)
      have hlen : many = pre.length + (post.length + 1) := by
        have := congrArg List.length e
        rw [List.length_range, List.length_append, List.length_cons] at this
        exact this
      obtain ⟨p, hp, b', c', he⟩ := lt_turn F ds (some (.d (.int (many : Nat)))) d qs ds[j] j b c (hds _ (List.getElem_mem _)) (List.getElem?_eq_getElem (by omega)) (by omega) HS HT
      refine ⟨_, he, qs ++ [p], _, b', c', by rw [List.length_append, List.length_append, hl]; rfl, fun x hx => ?_, rfl⟩
      rcases List.mem_append.mp hx with hx | hx
      · exact hq x hx
      · rw [List.mem_singleton.mp hx]
        exact hp
    · rintro ρ' ⟨qs, a, b, c, hl, hq, rfl⟩
      have e2 : frzs (qs.map fun p : Tp => SV.d p.1) = qs.map fun p : Tp => p.1 := frzs_map qs fun p => p.1
      refine ⟨qs, by rw [hl, List.length_range], hq, _, ret_blk (ρ1 := [some (.d (.lst (ds.map .int))), some (.d (.int (many : Nat))), some (.d (.int d)), some (.d (.lst (qs.map fun p : Tp => p.1))), a, b, c, none]) ?_⟩
      rw [← e2]
      exact varF_ev rfl
  exact key
theorem law_trees_at : ∀ (d k : Nat) (ds : List Int) (many : Nat), (∀ z ∈ ds, 0 ≤ z) → many ≤ ds.length → many ≤ 900 → ∃ ps : List Tp, ps.length = many ∧ (∀ p ∈ ps, TrP d p.1 p.2.1 p.2.2) ∧ ∃ o, callN tb pt (k + d + 3) "_law_trees" [.d (.lst (ds.map .int)), .d (.int (many : Nat)), .d (.int (d : Nat))] = .ok (.d (.lst (ps.map fun p : Tp => p.1))) o := by
  intro d
  induction d with
  | zero =>
    intro k ds many h1 h2 h3
    obtain ⟨ps, q1, q2, ρ', e⟩ := lt_all (callN tb pt (k + 2)) ds many 0 h1 h2 h3 (fun e he => law_simple_at k e he) fun _ _ h => absurd rfl h
    exact ⟨ps, q1, q2, run_rt (k + 2) pt__law_trees ⟨rfl, by decide, rfl, rfl⟩ e⟩
  | succ d ih =>
    intro k ds many h1 h2 h3
    obtain ⟨ps, q1, q2, ρ', e⟩ := lt_all (callN tb pt (k + d + 3)) ds many (d + 1) h1 h2 h3 (fun e he => law_simple_at (k + d + 1) e he) fun es m _ he hm hm3 => by
      rw [show ((d + 1 : Nat) : Int) - 1 = (d : Nat) by omega]
      exact ih k es m he hm (by omega)
    exact ⟨ps, q1, q2, run_rt (k + d + 3) pt__law_trees ⟨rfl, by decide, rfl, rfl⟩ e⟩
end Kn

set_option Elab.async false
set_option linter.all false
set_option maxRecDepth 100000
set_option maxHeartbeats 4000000
/-! TA: telling out, plainly. -/
namespace Kn
open PySem L2
/-- how many columns a tree of no repeat takes -/
def tkD : D → Int
  | .tup [.str w] => if w = [121, 111] then 0 else if w = [107, 50] ∨ w = [115, 50] then 2 else 1
  | .tup [.str _, .int a, .bl _, .int b] => a + b
  | _ => 1
theorem tk_sm {x s : D} {w : List Nat} {tk lv : Int} (h : Sm x s w tk lv) : tkD x = tk ∧ 0 ≤ tk := by
  cases h with
  | cab a b f a1 a2 b1 b2 => exact ⟨rfl, by omega⟩
  | _ => exact ⟨by decide, by decide⟩
/-- a repeat's kind, number, row -/
def kn : D → Option (Bool × Int × List D)
  | .tup [.str w, .int m, .tup xs] => if w = [116, 105, 108, 108] then some (true, m, xs) else if w = [116, 105, 109, 101, 115] then some (false, m, xs) else none
  | _ => none
def GtS (x : D) : Prop := ∃ s w tk lv, Sm x s w tk lv
/-- a tree of repeats up to n deep, rows of any length -/
def GtP : Nat → D → Prop
  | 0, x => GtS x
  | n + 1, x => GtS x ∨ ∃ (tl : Bool) (m : Int) (row : List D), 0 ≤ m ∧ m ≤ 20 ∧ (∀ y ∈ row, GtP n y) ∧ x = .tup [.str (repK tl), .int m, .tup row]
theorem GtP.sm {x : D} (h : GtS x) : ∀ n, GtP n x
  | 0 => h
  | n + 1 => .inl h
theorem GtP.of : ∀ {n : Nat} {x s : D} {w : List Nat}, TrP n x s w → GtP n x
  | 0, x, s, w, ⟨tk, lv, h⟩ => ⟨s, w, tk, lv, h⟩
  | n + 1, x, s, w, h => by
    rcases h with ⟨tk, lv, h⟩ | ⟨tl, m, ps, h1, h2, h3, h4, h5, h6, h7, h8⟩
    · exact .inl ⟨s, w, tk, lv, h⟩
    · refine .inr ⟨tl, m, ps.map (fun p : Tp => p.1), h1, by cases tl <;> simp at h2 <;> omega, fun y hy => ?_, h6⟩
      obtain ⟨p, hp, rfl⟩ := List.mem_map.mp hy
      exact GtP.of (h5 p hp)
theorem kn_sm {x : D} (h : GtS x) : kn x = none := by
  obtain ⟨s, w, tk, lv, h⟩ := h
  cases h <;> rfl
theorem kn_rep (tl : Bool) (m : Int) (row : List D) : kn (.tup [.str (repK tl), .int m, .tup row]) = some (tl, m, row) := by cases tl <;> rfl
abbrev Tst : Type := Int × List D
abbrev Tot : Type := Except (Nat × List Nat) Tst
def wLong : List Nat := [108, 111, 110, 103]
def wFew : List Nat := [102, 101, 119]
def wIdle : List Nat := [105, 100, 108, 101]
def wLeft : List Nat := [108, 101, 102, 116]
def one (x : D) (s : Tst) : Tot := if s.2.length = 40 then .error (s.2.length, wLong) else if s.1 < tkD x then .error (s.2.length, wFew) else .ok (s.1 - tkD x, s.2 ++ [x])
def til (f : Tst → Tot) (m : Int) : Nat → Tst → Tot
  | 0, s => .ok s
  | k + 1, s => if m < s.1 then (match f s with
    | .ok s' => if s'.1 = s.1 then .error (s'.2.length, wIdle) else til f m k s'
    | .error e => .error e) else .ok s
def tel : Nat → D → Tst → Tot
  | 0, x => one x
  | n + 1, x => match kn x with
    | none => one x
    | some (true, m, row) => til (seqE (tel n) row) m 100
    | some (false, m, row) => seqE (fun _ : Nat => seqE (tel n) row) (List.range m.toNat)
theorem tel_sm {x : D} (h : GtS x) : ∀ n, tel n x = one x
  | 0 => rfl
  | n + 1 => by
    show (match kn x with
      | none => one x
      | some (true, m, row) => til (seqE (tel n) row) m 100
      | some (false, m, row) => seqE (fun _ : Nat => seqE (tel n) row) (List.range m.toNat)) = _
    rw [kn_sm h]
theorem tel_till (n : Nat) (m : Int) (row : List D) : tel (n + 1) (.tup [.str (repK true), .int m, .tup row]) = til (seqE (tel n) row) m 100 := by
  show (match kn (.tup [.str (repK true), .int m, .tup row]) with
      | none => one (.tup [.str (repK true), .int m, .tup row])
      | some (true, m, row) => til (seqE (tel n) row) m 100
      | some (false, m, row) => seqE (fun _ : Nat => seqE (tel n) row) (List.range m.toNat)) = _
  rw [kn_rep]
theorem tel_times (n : Nat) (m : Int) (row : List D) : tel (n + 1) (.tup [.str (repK false), .int m, .tup row]) = seqE (fun _ : Nat => seqE (tel n) row) (List.range m.toNat) := by
  show (match kn (.tup [.str (repK false), .int m, .tup row]) with
      | none => one (.tup [.str (repK false), .int m, .tup row])
      | some (true, m, row) => til (seqE (tel n) row) m 100
      | some (false, m, row) => seqE (fun _ : Nat => seqE (tel n) row) (List.range m.toNat)) = _
  rw [kn_rep]
/-- what holds of a state -/
structure Vd (s : Tst) : Prop where
  lo : 0 ≤ s.1
  hi : s.1 ≤ 16
  len : s.2.length ≤ 40
  ok : ∀ d ∈ s.2, okD d 49 = true
def eWs : List (List Nat) := [wLong, wFew, wIdle, wLeft]
/-- what holds of an outcome -/
def VdO (s : Tst) (o : Tot) : Prop := match o with
  | .ok s' => Vd s' ∧ s'.1 ≤ s.1
  | .error e => e.2 ∈ eWs ∧ e.1 ≤ 40
theorem ok_sm {x : D} (h : GtS x) : okD x 49 = true := by
  obtain ⟨s, w, tk, lv, h⟩ := h
  cases h <;> rfl
theorem one_vd {x : D} (h : GtS x) {s : Tst} (v : Vd s) : VdO s (one x s) := by
  have hx := ok_sm h
  obtain ⟨s0, w, tk, lv, h⟩ := h
  obtain ⟨e, h0⟩ := tk_sm h
  unfold one
  by_cases h1 : s.2.length = 40
  · rw [if_pos h1]
    exact ⟨by simp [eWs], by show s.2.length ≤ 40; omega⟩
  · rw [if_neg h1]
    by_cases h2 : s.1 < tkD x
    · rw [if_pos h2]
      exact ⟨by simp [eWs], v.len⟩
    · rw [if_neg h2]
      have := v.lo
      have := v.hi
      have := v.len
      refine ⟨⟨by show 0 ≤ s.1 - tkD x; omega, by show s.1 - tkD x ≤ 16; omega, by show (s.2 ++ [x]).length ≤ 40; rw [List.length_append, List.length_singleton]; omega, fun d hd => ?_⟩, by show s.1 - tkD x ≤ s.1; omega⟩
      rcases List.mem_append.mp hd with hd | hd
      · exact v.ok d hd
      · rw [List.mem_singleton.mp hd]
        exact hx
theorem seq_vd {α : Type} {f : α → Tst → Tot} : ∀ {l : List α}, (∀ x ∈ l, ∀ s, Vd s → VdO s (f x s)) → ∀ {s : Tst}, Vd s → VdO s (seqE f l s)
  | [], _, s, v => ⟨v, Int.le_refl _⟩
  | x :: l, h, s, v => by
    have h1 := h x List.mem_cons_self s v
    unfold seqE
    cases e : f x s with
    | ok s' =>
      rw [e] at h1
      have h2 := seq_vd (fun y hy => h y (List.mem_cons_of_mem _ hy)) h1.1
      show VdO s (seqE f l s')
      cases e2 : seqE f l s' with
      | ok s2 =>
        rw [e2] at h2
        exact ⟨h2.1, Int.le_trans h2.2 h1.2⟩
      | error e => rw [e2] at h2; exact h2
    | error e' =>
      rw [e] at h1
      exact h1
theorem til_vd {f : Tst → Tot} (m : Int) (h : ∀ s, Vd s → VdO s (f s)) : ∀ (k : Nat) {s : Tst}, Vd s → VdO s (til f m k s)
  | 0, s, v => ⟨v, Int.le_refl _⟩
  | k + 1, s, v => by
    unfold til
    by_cases hm : m < s.1
    · rw [if_pos hm]
      have h1 := h s v
      cases e : f s with
      | ok s' =>
        rw [e] at h1
        show VdO s (if s'.1 = s.1 then .error (s'.2.length, wIdle) else til f m k s')
        by_cases h2 : s'.1 = s.1
        · rw [if_pos h2]
          exact ⟨by simp [eWs], h1.1.len⟩
        · rw [if_neg h2]
          have h3 := til_vd m h k h1.1
          cases e2 : til f m k s' with
          | ok s2 =>
            rw [e2] at h3
            exact ⟨h3.1, Int.le_trans h3.2 h1.2⟩
          | error e => rw [e2] at h3; exact h3
      | error e' =>
        rw [e] at h1
        exact h1
    · rw [if_neg hm]
      exact ⟨v, Int.le_refl _⟩
theorem tel_vd : ∀ {n : Nat} {x : D}, GtP n x → ∀ {s : Tst}, Vd s → VdO s (tel n x s)
  | 0, x, h, s, v => one_vd h v
  | n + 1, x, h, s, v => by
    rcases h with h | ⟨tl, m, row, h1, h2, h3, rfl⟩
    · rw [tel_sm h]
      exact one_vd h v
    · cases tl with
      | true =>
        rw [tel_till]
        exact til_vd m (fun s v => seq_vd (fun y hy s v => tel_vd (h3 y hy) v) v) 100 v
      | false =>
        rw [tel_times]
        exact seq_vd (fun _ _ s v => seq_vd (fun y hy s v => tel_vd (h3 y hy) v) v) v
theorem row_vd {n : Nat} {row : List D} (h : ∀ y ∈ row, GtP n y) {s : Tst} (v : Vd s) : VdO s (seqE (tel n) row s) := seq_vd (fun y hy s v => tel_vd (h y hy) v) v
end Kn

set_option Elab.async false
set_option linter.all false
set_option maxRecDepth 100000
set_option maxHeartbeats 4000000
/-! TB: the program tells out. -/
namespace Kn
open PySem L2
def tele (c : Int) (s : Tst) : SV := .ins "Telling" ["still", "course", "trees"] [.d (.int s.1), .d (.int c), .lst (s.2.map .d)]
def teleD (c : Int) (s : Tst) : D := .ins "Telling" ["still", "course", "trees"] [.int s.1, .int c, .lst s.2]
theorem frz_tele (c : Int) (s : Tst) : frz (tele c s) = teleD c s := by
  show D.ins _ _ (frzs _) = _
  show D.ins _ _ [.int s.1, .int c, .lst (frzs (s.2.map .d))] = _
  rw [frzs_dd]
  rfl
def NP (c : Int) (e : Nat × List Nat) : Xc := ⟨"NoPiece", ["why", "stitch", "course", "number"], [.str e.2, .int (e.1 : Nat), .int c, .int (-1)]⟩
def PO (c : Int) (o : Tot) (r : Cr) : Prop := match o with
  | .ok s' => r = .ok (.d .non) [some (tele c s'), none]
  | .error e => r = .exc (NP c e)
abbrev GX (c : Int) : Nat × List Nat → Fl → Prop := fun e x => ∃ ρ', x = .exc (NP c e) ρ'
theorem GX.stop {c : Int} (e : Nat × List Nat) (x : Fl) (h : GX c e x) : isStop x := by
  obtain ⟨ρ', rfl⟩ := h
  trivial
section
variable {F : String → List SV → Cr} {c : Int} {s : Tst}
theorem fz1 {a : List (Option SV)} : frzE (some (tele c s) :: a) = some (.d (teleD c s)) :: frzE a := by
  show (Option.map (fun s => SV.d (frz s)) (some (tele c s))) :: frzE a = _
  rw [Option.map_some, frz_tele]
theorem still_ev {a : List (Option SV)} : ev tb F (.fld (.var 0) "still") (frzE (some (tele c s) :: a)) = .ok (.d (.int s.1)) (frzE (some (tele c s) :: a)) := by
  rw [fz1]
  exact fld_ev (var_ev rfl) rfl
theorem len_ev2 {a : List (Option SV)} : ev tb F (.blt .len (.cons (.fld (.var 0) "trees") .nil)) (frzE (some (tele c s) :: a)) = .ok (.d (.int (s.2.length : Nat))) (frzE (some (tele c s) :: a)) := by
  rw [fz1]
  exact blt1_ev (fld_ev (d := .lst s.2) (var_ev rfl) rfl) rfl
theorem course_ev {a : List (Option SV)} : ev tb F (.fld (.var 0) "course") (frzE (some (tele c s) :: a)) = .ok (.d (.int c)) (frzE (some (tele c s) :: a)) := by
  rw [fz1]
  exact fld_ev (var_ev rfl) rfl
/-- NoPiece(self.course, len(self.trees), why) -/
theorem np_raise {ro : List Nat} {a : List (Option SV)} (w : List Nat) : ∃ ρ', Kn.exec tb F ro (.cons (.raise "NoPiece" (.cons (.bor (.fld (.var 0) "course")) (.cons (.bor (.blt .len (.cons (.fld (.var 0) "trees") .nil))) (.cons (.str w) .nil)))) .nil) (some (tele c s) :: a) = .exc (NP c (s.2.length, w)) ρ' :=
  ⟨some (tele c s) :: a, st_to (raise_to rfl (evs_cons (bor_ev course_ev rfl) (evs_cons (bor_ev len_ev2 rfl) (evs_cons str_ev evs_nil))) rfl) rfl⟩
theorem iom_step {ro : List Nat} {m q : String} {as : E} {d : D} {rest : List (Option SV)} {o : Tot} (hq : tb.meth "Telling" m = some q) (hm : ["still", "course", "trees"].contains m = false) (he : evr tb F as (some (tele c s) :: rest) = .ok [d] (some (tele c s) :: rest)) (hr : refsE as = [none]) (hF : PO c o (F q [tele c s, .d d])) :
    Res (fun s' ρ' => ρ' = some (tele c s') :: rest) (GX c) o (Kn.exec tb F ro (.expr (.iom m 0 as)) (some (tele c s) :: rest)) := by
  have h := iom_is (t := tb) (F := F) (ρ := some (tele c s) :: rest) (ρ1 := some (tele c s) :: rest) (m := m) (q := q) (c := "Telling") (i := 0) (ns := ["still", "course", "trees"]) (xs := [.d (.int s.1), .d (.int c), .lst (s.2.map .d)]) (as := as) (ds := [d]) (p := ([tele c s, .d d], none :: rest)) rfl hq hm he (by rw [hr]; rfl)
  rw [hr] at h
  cases o with
  | ok s' =>
    have hF : F q [tele c s, .d d] = .ok (.d .non) [some (tele c s'), none] := hF
    refine ⟨some (tele c s') :: rest, expr_ok (v := .d .non) (h.trans ?_), rfl⟩
    show ofIo [some 0, none] (F q [tele c s, .d d]) (none :: rest) = _
    rw [hF]
    refine ofIo_ok ?_
    show (if 0 < (none :: rest).length then backIo [none] [none] ((none :: rest).set 0 (some (tele c s'))) else none) = _
    rw [if_pos (show 0 < (none :: rest : List (Option SV)).length by simp)]
    rfl
  | error e =>
    have hF : F q [tele c s, .d d] = .exc (NP c e) := hF
    refine ⟨none :: rest, ?_⟩
    have h2 : ev tb F (.iom m 0 as) (some (tele c s) :: rest) = .exc (NP c e) (none :: rest) := by
      refine h.trans ?_
      show ofIo [some 0, none] (F q [tele c s, .d d]) (none :: rest) = _
      rw [hF]
      rfl
    have e0 : Kn.exec tb F ro (.expr (.iom m 0 as)) (some (tele c s) :: rest) = thenF (ev tb F (.iom m 0 as) (some (tele c s) :: rest)) fun _ ρ => .nx ρ := by first | (simp only [Kn.exec]; done) | (simp only [Kn.exec]; rfl)
    rw [e0, h2]
    rfl
end
/-- one stitch -/
theorem tell_one_at (k : Nat) (c : Int) {x : D} (hx : GtS x) {s : Tst} (v : Vd s) : PO c (one x s) (callN tb pt (k + 5) "Telling.tell_one" [tele c s, .d x]) := by
  obtain ⟨x0, w, tk, lv, h⟩ := hx
  obtain ⟨etk, h0⟩ := tk_sm h
  obtain ⟨o1, hs⟩ := stitch_of_at 0 k (by decide) (show TrP 0 x x0 w from ⟨tk, lv, h⟩)
  have hs : callN tb pt (k + 4) "stitch_of" [.d x] = .ok (ow x0) o1 := hs
  have ht : MtF tb (callN tb pt (k + 4)) "takes" x0 (.d (.int tk)) := sm_takes (k + 3) h
  have key : Res (fun s' ρ' => ∃ a b, ρ' = [some (tele c s'), a, b]) (GX c) (one x s) (Kn.exec tb (callN tb pt (k + 4)) [0] fd_Telling_tell_one.body [some (tele c s), some (.d x), none]) := by
    generalize callN tb pt (k + 4) = F at hs ht ⊢
    have h1 : Kn.exec tb F [0] (nthS fd_Telling_tell_one.body 0) [some (tele c s), some (.d x), none] = .nx [some (tele c s), some (.d x), some (.d (.int tk))] := set_ok (meth0_ev (call_ev rfl (evs_cons (var_ev rfl) evs_nil) hs) (frz_ow _) ht) rfl
    unfold one
    rw [etk]
    have c1 : ev tb F (.bor (.cmp .eq (.blt .len (.cons (.fld (.var 0) "trees") .nil)) (.glb "MOST_STITCHES"))) [some (tele c s), some (.d x), some (.d (.int tk))] = .ok (.d (.bl (decide ((s.2.length : Int) = 40)))) [some (tele c s), some (.d x), some (.d (.int tk))] := bor_ev (eq_ev len_ev2 (glb_ev rfl) (eqI _ _)) rfl
    have c2 : ev tb F (.bor (.cmp .gt (.var 2) (.fld (.var 0) "still"))) [some (tele c s), some (.d x), some (.d (.int tk))] = .ok (.d (.bl (decide (s.1 < tk)))) [some (tele c s), some (.d x), some (.d (.int tk))] := bor_ev (cmp_ev (var_ev (x := .int tk) (by rw [fz1]; rfl)) still_ev (cgI _ _)) rfl
    by_cases h40 : s.2.length = 40
    · rw [if_pos h40]
      rw [decide_eq_true (show (s.2.length : Int) = 40 by omega)] at c1
      obtain ⟨ρ', e⟩ := np_raise (F := F) (ro := [0]) (c := c) (s := s) (a := [some (.d x), some (.d (.int tk))]) wLong
      exact ⟨ρ', st_nx (G := fun y => y = _) h1 (st_to (ite_t c1 e) rfl)⟩
    rw [if_neg h40]
    rw [decide_eq_false (show ¬ (s.2.length : Int) = 40 by omega)] at c1
    by_cases hf : s.1 < tk
    · rw [if_pos hf]
      rw [decide_eq_true hf] at c2
      obtain ⟨ρ', e⟩ := np_raise (F := F) (ro := [0]) (c := c) (s := s) (a := [some (.d x), some (.d (.int tk))]) wFew
      exact ⟨ρ', st_nx (G := fun y => y = _) h1 (st_nx (G := fun y => y = _) (ite_f c1 nil_blk) (st_to (ite_t c2 e) rfl))⟩
    rw [if_neg hf]
    rw [decide_eq_false hf] at c2
    have h4 : Kn.exec tb F [0] (nthS fd_Telling_tell_one.body 3) [some (tele c s), some (.d x), some (.d (.int tk))] = .nx [some (tele c (s.1 - tk, s.2)), some (.d x), some (.d (.int tk))] :=
      setf_ok (c := "Telling") (ns := ["still", "course", "trees"]) (xs := [.d (.int s.1), .d (.int c), .lst (s.2.map .d)]) (bin_ev (bor_ev still_ev rfl) (var_ev rfl) (bS _ _)) rfl ⟨by decide, rfl, rfl⟩
    have h5 : Kn.exec tb F [0] (nthS fd_Telling_tell_one.body 4) [some (tele c (s.1 - tk, s.2)), some (.d x), some (.d (.int tk))] = .nx [some (tele c (s.1 - tk, s.2 ++ [x])), some (.d x), some (.d (.int tk))] := by
      have h6 := appf_ok (t := tb) (F := F) (ro := [0]) (ρ := [some (tele c (s.1 - tk, s.2)), some (.d x), some (.d (.int tk))]) (i := 0) (j := 1) (f := "trees") (c := "Telling") (y := x) (ns := ["still", "course", "trees"]) (xs := [.d (.int (s.1 - tk)), .d (.int c), .lst (s.2.map .d)]) (ys := s.2.map .d) rfl rfl ⟨rfl, rfl⟩ rfl (by rw [List.length_map]; have := v.len; have : lim = 1000000 := rfl; omega)
      refine h6.trans ?_
      show Fl.nx [some (SV.ins "Telling" ["still", "course", "trees"] [.d (.int (s.1 - tk)), .d (.int c), .lst (s.2.map .d ++ [.d x])]), some (.d x), some (.d (.int tk))] = Fl.nx [some (SV.ins "Telling" ["still", "course", "trees"] [.d (.int (s.1 - tk)), .d (.int c), .lst ((s.2 ++ [x]).map .d)]), some (.d x), some (.d (.int tk))]
      rw [List.map_append]
      rfl
    exact ⟨_, st_nx (G := fun y => y = _) h1 (st_nx (G := fun y => y = _) (ite_f c1 nil_blk) (st_nx (G := fun y => y = _) (ite_f c2 nil_blk) (st_nx (G := fun y => y = _) h4 (one_nx h5)))), _, _, rfl⟩
  show PO c (one x s) (callN tb pt (k + 4 + 1) "Telling.tell_one" [tele c s, .d x])
  rw [callN_at (k + 4) pt_Telling_tell_one]
  cases ho : one x s with
  | ok s' =>
    rw [ho] at key
    obtain ⟨ρ', e, a, b, rfl⟩ := key
    exact runF_nx (fd := fd_Telling_tell_one) (ss := [tele c s, .d x]) ⟨rfl, by decide, rfl, rfl⟩ e
  | error e' =>
    rw [ho] at key
    obtain ⟨ρ', e⟩ := key
    exact runF_exc (fd := fd_Telling_tell_one) (ss := [tele c s, .d x]) rfl ⟨rfl, by decide, rfl, rfl⟩ e
/-- again and again -/
def ttC : E := match nthS fd_Telling_tell_till.body 0 with
  | .whl c _ => c
  | _ => .bad
def ttB : S := bodyW (nthS fd_Telling_tell_till.body 0)
theorem tt_loop {F : String → List SV → Cr} (c : Int) (f : Tst → Tot) (w : List Nat) (m : Int) (row : List D) (hv : ∀ s, Vd s → VdO s (f s)) (HF : ∀ s, Vd s → PO c (f s) (F "Telling.tell" [tele c s, .d (.tup row)])) : ∀ (j K : Nat) (s : Tst) (a : Option D), Vd s → s.1.toNat < j → j ≤ K →
    Res (fun s' ρ' => ∃ a b, ρ' = [some (tele c s'), a, b]) (GX c) (til f m j s) (loopW (ev tb F ttC) (Kn.exec tb F [0] ttB) K [some (tele c s), some (.d (.tup [.str w, .int m, .tup row])), a.map .d])
  | 0, K, s, a, v, h, hk => absurd h (Nat.not_lt_zero _)
  | j + 1, K, s, a, v, h, hk => by
    obtain ⟨K, rfl⟩ : ∃ K', K = K' + 1 := ⟨K - 1, by omega⟩
    have hc : ∀ b : Option D, ev tb F ttC [some (tele c s), some (.d (.tup [.str w, .int m, .tup row])), b.map .d] = .ok (.d (.bl (decide (m < s.1)))) [some (tele c s), some (.d (.tup [.str w, .int m, .tup row])), b.map .d] := fun b => by
      cases b <;> exact bor_ev (cmp_ev still_ev (idx_ev (d := .int m) (var_ev (x := .tup [.str w, .int m, .tup row]) (by rw [fz1]; rfl)) int_ev rfl) (cgI _ _)) rfl
    have hc := hc a
    unfold til
    by_cases hm : m < s.1
    · rw [if_pos hm]
      rw [decide_eq_true hm] at hc
      have h1 : Kn.exec tb F [0] (nthS ttB 0) [some (tele c s), some (.d (.tup [.str w, .int m, .tup row])), a.map .d] = .nx [some (tele c s), some (.d (.tup [.str w, .int m, .tup row])), some (.d (.int s.1))] := set_ok (bor_ev still_ev rfl) rfl
      have h2 := iom_step (F := F) (c := c) (s := s) (ro := [0]) (m := "tell") (q := "Telling.tell") (as := .cons (.idx (.var 1) (.int 2)) .nil) (d := .tup row) (rest := [some (.d (.tup [.str w, .int m, .tup row])), some (.d (.int s.1))]) (o := f s) rfl rfl (evr_cons rfl (idx_ev (var_ev rfl) int_ev rfl) evr_nil) rfl (HF s v)
      have hv := hv s v
      cases ho : f s with
      | error e =>
        rw [ho] at h2
        obtain ⟨ρ', e2⟩ := h2
        refine ⟨ρ', whl_exc hc (st_nx (G := fun y => y = _) h1 (st_to e2 rfl))⟩
      | ok s' =>
        rw [ho] at h2 hv
        obtain ⟨ρ', e2, rfl⟩ := h2
        obtain ⟨hv, hle⟩ := hv
        have c3 : ev tb F (.bor (.cmp .eq (.fld (.var 0) "still") (.var 2))) [some (tele c s'), some (.d (.tup [.str w, .int m, .tup row])), some (.d (.int s.1))] = .ok (.d (.bl (decide (s'.1 = s.1)))) [some (tele c s'), some (.d (.tup [.str w, .int m, .tup row])), some (.d (.int s.1))] := bor_ev (eq_ev still_ev (var_ev (x := .int s.1) (by rw [fz1]; rfl)) (eqI _ _)) rfl
        show Res _ _ (if s'.1 = s.1 then .error (s'.2.length, wIdle) else til f m j s') _
        by_cases he : s'.1 = s.1
        · rw [if_pos he]
          rw [decide_eq_true he] at c3
          obtain ⟨ρ', e3⟩ := np_raise (F := F) (ro := [0]) (c := c) (s := s') (a := [some (.d (.tup [.str w, .int m, .tup row])), some (.d (.int s.1))]) wIdle
          exact ⟨ρ', whl_exc hc (st_nx (G := fun y => y = _) h1 (st_nx (G := fun y => y = _) e2 (st_to (ite_t c3 e3) rfl)))⟩
        · rw [if_neg he]
          rw [decide_eq_false he] at c3
          have ih := tt_loop c f w m row (by assumption) HF j K s' (some (.int s.1)) hv (by have := hv.lo; have := v.lo; omega) (by omega)
          have hb : Kn.exec tb F [0] ttB [some (tele c s), some (.d (.tup [.str w, .int m, .tup row])), a.map .d] = .nx [some (tele c s'), some (.d (.tup [.str w, .int m, .tup row])), some (.d (.int s.1))] := st_nx (G := fun y => y = _) h1 (st_nx (G := fun y => y = _) e2 (one_nx (ite_f c3 nil_blk)))
          have hc : ev tb F ttC [some (tele c s), some (.d (.tup [.str w, .int m, .tup row])), a.map .d] = .ok (.d (.bl true)) [some (tele c s), some (.d (.tup [.str w, .int m, .tup row])), a.map .d] := hc
          rw [whl_go hc hb]
          exact ih
    · rw [if_neg hm]
      rw [decide_eq_false hm] at hc
      exact ⟨_, whl_end hc, _, _, rfl⟩
theorem whl_res {F : String → List SV → Cr} {ro : List Nat} {σ ε : Type} {R : σ → Env → Prop} {G : ε → Fl → Prop} {o : Except ε σ} {c : E} {b : S} {ρ : Env} (h : Res R G o (loopW (ev tb F c) (Kn.exec tb F ro b) fuel ρ)) : Res R G o (Kn.exec tb F ro (.whl c b) ρ) := by
  rw [whl_is]
  exact h
theorem po_of {F : String → List SV → Cr} {c : Int} {o : Tot} {fd : FD} {s : Tst} {d : D} (hk : fd.kx = false) (hio : fd.io = [true, false]) (hnp : fd.np = 2) (hn : 2 ≤ fd.n) (key : Res (fun s' ρ' => ∃ a r, ρ' = some (tele c s') :: a :: r) (GX c) o (Kn.exec tb F [0] fd.body ([some (tele c s), some (.d d)] ++ List.replicate (fd.n - 2) none))) : PO c o (runF tb F fd [tele c s, .d d]) := by
  have h1 : [tele c s, .d d].length = fd.np ∧ fd.np ≤ fd.n ∧ fd.io.length = fd.np ∧ modesOk fd.io [tele c s, .d d] = true := ⟨by rw [hnp]; rfl, by rw [hnp]; exact hn, by rw [hnp, hio]; rfl, by rw [hio]; rfl⟩
  have h2 : Kn.exec tb F (roOf fd.io 0) fd.body (([tele c s, .d d].map some) ++ List.replicate (fd.n - fd.np) none) = Kn.exec tb F [0] fd.body ([some (tele c s), some (.d d)] ++ List.replicate (fd.n - 2) none) := by rw [hio, hnp]; rfl
  cases o with
  | ok s' =>
    obtain ⟨ρ', e, a, r, rfl⟩ := key
    have := runF_nx h1 (h2.trans e)
    rw [hio] at this
    exact this
  | error e' =>
    obtain ⟨ρ', e⟩ := key
    exact runF_exc hk h1 (h2.trans e)
theorem tell_till_at (N : Nat) (c : Int) {n : Nat} (m : Int) (row : List D) (hr : ∀ y ∈ row, GtP n y) (HF : ∀ s, Vd s → PO c (seqE (tel n) row s) (callN tb pt N "Telling.tell" [tele c s, .d (.tup row)])) {s : Tst} (v : Vd s) :
    PO c (tel (n + 1) (.tup [.str (repK true), .int m, .tup row]) s) (callN tb pt (N + 1) "Telling.tell_till" [tele c s, .d (.tup [.str (repK true), .int m, .tup row])]) := by
  rw [callN_at N pt_Telling_tell_till, tel_till]
  generalize callN tb pt N = F at HF ⊢
  refine po_of rfl rfl rfl (by decide) ?_
  have h := tt_loop c (seqE (tel n) row) (repK true) m row (fun s v => row_vd hr v) HF 100 fuel s none v (by have := v.lo; have := v.hi; omega) (by decide)
  exact Res.blk GX.stop (whl_res (Res.imp h (fun s ρ _ hR => by
    obtain ⟨a, b, rfl⟩ := hR
    exact ⟨a, [b], rfl⟩) fun e x _ hx => hx))
/-! ### tell -/
def ttE (c : Int) (A x : D) (s : Tst) (b : Option SV) : Env := [some (tele c s), some (.d A), some (.d x), b]
def tlB : S := bodyS (nthS fd_Telling_tell.body 0)
theorem tl_turn {F : String → List SV → Cr} (c : Int) (A : D) (n : Nat) (x : D) (hx : GtP n x) (H1 : GtS x → ∀ s, Vd s → PO c (one x s) (F "Telling.tell_one" [tele c s, .d x]))
    (H2 : ∀ m row n', n = n' + 1 → x = .tup [.str (repK true), .int m, .tup row] → ∀ s, Vd s → PO c (tel n x s) (F "Telling.tell_till" [tele c s, .d x]))
    (H3 : ∀ row n', n = n' + 1 → (∀ y ∈ row, GtP n' y) → ∀ s, Vd s → PO c (seqE (tel n') row s) (F "Telling.tell" [tele c s, .d (.tup row)])) {s : Tst} (v : Vd s) (b : Option SV) :
    Res (fun s' ρ' => ∃ b', ρ' = ttE c A x s' b') (GX c) (tel n x s) (Kn.exec tb F [0] tlB (ttE c A x s b)) := by
  have simple : GtS x → Res (fun s' ρ' => ∃ b', ρ' = ttE c A x s' b') (GX c) (tel n x s) (Kn.exec tb F [0] tlB (ttE c A x s b)) := fun h => by
    rw [tel_sm h]
    have h1 := H1 h s v
    obtain ⟨s0, w, tk, lv, h⟩ := h
    obtain ⟨u, r, rfl, n1, n2⟩ := sm_head h
    have h2 := iom_step (F := F) (c := c) (s := s) (ro := [0]) (m := "tell_one") (q := "Telling.tell_one") (as := .cons (.var 2) .nil) (d := .tup (.str u :: r)) (rest := [some (.d A), some (.d (.tup (.str u :: r))), b]) rfl rfl (evr_cons rfl (var_ev rfl) evr_nil) rfl h1
    have h3 : Res (fun s' ρ' => ∃ b', ρ' = ttE c A (.tup (.str u :: r)) s' b') (GX c) (one (.tup (.str u :: r)) s) (Kn.exec tb F [0] (.cons (.expr (.iom "tell_one" 0 (.cons (.var 2) .nil))) .nil) (ttE c A (.tup (.str u :: r)) s b)) := Res.blk GX.stop (Res.imp h2 (fun s ρ _ hR => ⟨b, hR⟩) fun e x _ hx => hx)
    refine Res.blk GX.stop ?_
    exact Res.itf (eq_ev (idx_ev (var_ev rfl) int_ev (idx0 _ _)) str_ev (eqTf n1)) (Res.blk GX.stop (Res.itf (eq_ev (idx_ev (var_ev rfl) int_ev (idx0 _ _)) str_ev (eqTf n2)) h3))
  cases n with
  | zero => exact simple hx
  | succ n =>
    rcases hx with h | ⟨tl, m, row, m1, m2, hr, rfl⟩
    · exact simple h
    · cases tl with
      | true =>
        have h1 := H2 m row n rfl rfl s v
        have h2 := iom_step (F := F) (c := c) (s := s) (ro := [0]) (m := "tell_till") (q := "Telling.tell_till") (as := .cons (.var 2) .nil) (d := .tup [.str (repK true), .int m, .tup row]) (rest := [some (.d A), some (.d (.tup [.str (repK true), .int m, .tup row])), b]) rfl rfl (evr_cons rfl (var_ev rfl) evr_nil) rfl h1
        refine Res.blk GX.stop ?_
        exact Res.itf (eq_ev (idx_ev (var_ev rfl) int_ev (idx0 _ _)) str_ev (eqTf (by decide))) (Res.blk GX.stop (Res.itt (eq_ev (idx_ev (var_ev rfl) int_ev (idx0 _ _)) str_ev rfl) (Res.blk GX.stop (Res.imp h2 (fun s ρ _ hR => ⟨b, hR⟩) fun e x _ hx => hx))))
      | false =>
        rw [tel_times]
        refine Res.blk GX.stop ?_
        refine Res.itt (eq_ev (idx_ev (var_ev rfl) int_ev (idx0 _ _)) str_ev rfl) (Res.blk GX.stop ?_)
        have hrg : rngD 0 m = (List.range m.toNat).map fun k : Nat => .int (0 + (k : Int)) := by unfold rngD; simp
        have hfor := for_run (t := tb) (F := F) (ro := [0]) (i := 3) (it := .rng (.idx (.var 2) (.int 1))) (b := .cons (.expr (.iom "tell" 0 (.cons (.idx (.var 2) (.int 2)) .nil))) .nil) (l := List.range m.toNat) (a := fun k : Nat => .int (0 + (k : Int))) (ρ := ttE c A (.tup [.str (repK false), .int m, .tup row]) s b) (ρ1 := ttE c A (.tup [.str (repK false), .int m, .tup row]) s b)
          (fun s' ρ' => Vd s' ∧ ∃ b', ρ' = ttE c A (.tup [.str (repK false), .int m, .tup row]) s' b') (GX c) (fun _ : Nat => seqE (tel n) row) GX.stop (by rw [← hrg]; exact rng_evi (idx_ev (d := .int m) (var_ev rfl) int_ev rfl) rfl (by omega)) rfl (fun k hk s ρ hR => by
            obtain ⟨v, b', rfl⟩ := hR
            have hv := row_vd hr v
            have h2 := iom_step (F := F) (c := c) (s := s) (ro := [0]) (m := "tell") (q := "Telling.tell") (as := .cons (.idx (.var 2) (.int 2)) .nil) (d := .tup row) (rest := [some (.d A), some (.d (.tup [.str (repK false), .int m, .tup row])), some (.d (.int (0 + (k : Int))))]) rfl rfl (evr_cons rfl (idx_ev (var_ev rfl) int_ev rfl) evr_nil) rfl (H3 row n rfl hr s v)
            refine Res.blk GX.stop (Res.imp h2 (fun s' ρ e hR => ⟨?_, _, hR⟩) fun e x _ hx => hx)
            rw [e] at hv
            exact hv.1) (s := s) ⟨v, b, rfl⟩
        exact Res.imp hfor (fun s ρ _ hR => hR.2) fun e x _ hx => hx
theorem tell_at : ∀ (n k : Nat) (c : Int) (A : D) (row : List D), itemsD A = some row → (∀ y ∈ row, GtP n y) → ∀ {s : Tst}, Vd s → PO c (seqE (tel n) row s) (callN tb pt (k + 2 * n + 6) "Telling.tell" [tele c s, .d A]) := by
  intro n
  induction n with
  | zero =>
    intro k c A row hA hr s v
    rw [show k + 2 * 0 + 6 = k + 5 + 1 from rfl, callN_at (k + 5) pt_Telling_tell]
    have H1 : ∀ x, GtS x → ∀ s, Vd s → PO c (one x s) (callN tb pt (k + 5) "Telling.tell_one" [tele c s, .d x]) := fun x hx s v => tell_one_at k c hx v
    generalize callN tb pt (k + 5) = F at H1 ⊢
    refine po_of rfl rfl rfl (by decide) (Res.blk GX.stop ?_)
    have hm : row.map (fun y : D => y) = row := List.map_id' row
    have h := for_run (t := tb) (F := F) (ro := [0]) (i := 2) (it := .var 1) (b := tlB) (l := row) (a := fun y : D => y) (ρ := [some (tele c s), some (.d A), none, none]) (ρ1 := [some (tele c s), some (.d A), none, none]) (fun s' ρ' => Vd s' ∧ ∃ a b', ρ' = [some (tele c s'), some (.d A), a, b']) (GX c) (tel 0) GX.stop (by rw [hm]; exact evi_of (var_ev rfl) hA) rfl (fun y hy s ρ hR => by
      obtain ⟨v, a, b', rfl⟩ := hR
      have hv := tel_vd (hr y hy) v
      exact Res.imp (tl_turn (F := F) c A 0 y (hr y hy) (H1 y) (fun _ _ n' e => nomatch e) (fun _ n' e => nomatch e) v b') (fun s' ρ e hR => by
        obtain ⟨b2, hR⟩ := hR
        rw [e] at hv
        exact ⟨hv.1, _, _, hR⟩) fun e x _ hx => hx) (s := s) ⟨v, none, none, rfl⟩
    exact Res.imp h (fun s ρ _ hR => by
      obtain ⟨_, a, b, rfl⟩ := hR
      exact ⟨_, [a, b], rfl⟩) fun e x _ hx => hx
  | succ n ih =>
    intro k c A row hA hr s v
    rw [show k + 2 * (n + 1) + 6 = (k + 2 * n + 7) + 1 by omega, callN_at (k + 2 * n + 7) pt_Telling_tell]
    have H1 : ∀ x, GtS x → ∀ s, Vd s → PO c (one x s) (callN tb pt (k + 2 * n + 7) "Telling.tell_one" [tele c s, .d x]) := fun x hx s v => by
      rw [show k + 2 * n + 7 = (k + 2 * n + 2) + 5 by omega]
      exact tell_one_at (k + 2 * n + 2) c hx v
    have H3 : ∀ row, (∀ y ∈ row, GtP n y) → ∀ s, Vd s → PO c (seqE (tel n) row s) (callN tb pt (k + 2 * n + 7) "Telling.tell" [tele c s, .d (.tup row)]) := fun row hr s v => by
      rw [show k + 2 * n + 7 = (k + 1) + 2 * n + 6 by omega]
      exact ih (k + 1) c (.tup row) row rfl hr v
    have H2 : ∀ m row, (∀ y ∈ row, GtP n y) → ∀ s, Vd s → PO c (tel (n + 1) (.tup [.str (repK true), .int m, .tup row]) s) (callN tb pt (k + 2 * n + 7) "Telling.tell_till" [tele c s, .d (.tup [.str (repK true), .int m, .tup row])]) := fun m row hr s v =>
      tell_till_at (k + 2 * n + 6) c m row hr (fun s v => ih k c (.tup row) row rfl hr v) v
    generalize callN tb pt (k + 2 * n + 7) = F at H1 H2 H3 ⊢
    refine po_of rfl rfl rfl (by decide) (Res.blk GX.stop ?_)
    have hm : row.map (fun y : D => y) = row := List.map_id' row
    have h := for_run (t := tb) (F := F) (ro := [0]) (i := 2) (it := .var 1) (b := tlB) (l := row) (a := fun y : D => y) (ρ := [some (tele c s), some (.d A), none, none]) (ρ1 := [some (tele c s), some (.d A), none, none]) (fun s' ρ' => Vd s' ∧ ∃ a b', ρ' = [some (tele c s'), some (.d A), a, b']) (GX c) (tel (n + 1)) GX.stop (by rw [hm]; exact evi_of (var_ev rfl) hA) rfl (fun y hy s ρ hR => by
      obtain ⟨v, a, b', rfl⟩ := hR
      have hv := tel_vd (hr y hy) v
      exact Res.imp (tl_turn (F := F) c A (n + 1) y (hr y hy) (H1 y) (fun m row n' e ey s v => by
        cases e
        rcases hr y hy with h | ⟨tl, m', row', m1, m2, hr', e2⟩
        · obtain ⟨s0, w, tk, lv, h⟩ := h
          obtain ⟨u, r, e3, n1, n2⟩ := sm_head h
          rw [ey] at e3
          cases e3
          exact absurd rfl n2
        · rw [ey] at e2
          have : row = row' := by cases tl <;> (simp [repK] at e2; try exact e2.2)
          subst this
          rw [ey]
          exact H2 m row hr' s v) (fun row n' e hr' s v => by
        cases e
        exact H3 row hr' s v) v b') (fun s' ρ e hR => by
        obtain ⟨b2, hR⟩ := hR
        rw [e] at hv
        exact ⟨hv.1, _, _, hR⟩) fun e x _ hx => hx) (s := s) ⟨v, none, none, rfl⟩
    exact Res.imp h (fun s ρ _ hR => by
      obtain ⟨_, a, b, rfl⟩ := hR
      exact ⟨_, [a, b], rfl⟩) fun e x _ hx => hx
end Kn

set_option Elab.async false
set_option linter.all false
set_option maxRecDepth 100000
set_option maxHeartbeats 4000000
/-! TC: the law tells out. -/
namespace Kn
open PySem L2
def lef (s : Tst) : SV := .lst [.d (.int s.1)]
def fou (s : Tst) : SV := .lst (s.2.map .d)
def fv (e : Nat × List Nat) : SV := .d (.tup [.int (e.1 : Nat), .str e.2])
def ltE (A : D) (s : Tst) (x : Option SV) (f a b : Option SV) : Env := [some (.d A), some (lef s), some (fou s), x, f, a, b]
def LP (o : Tot) (r : Cr) : Prop := match o with
  | .ok s' => r = .ok (.d .non) [none, some (lef s'), some (fou s')]
  | .error e => ∃ s', r = .ok (fv e) [none, some (lef s'), some (fou s')]
/-- behind the part that tells -/
def Md (A x : D) (o : Tot) (y : Fl) : Prop := match o with
  | .ok s' => ∃ a b, y = .nx (ltE A s' (some (.d x)) (some (.d .non)) a b)
  | .error e => ∃ s' a b, y = .nx (ltE A s' (some (.d x)) (some (fv e)) a b)
def ioE : E := .io "_law_tell" (.cons (.idx (.var 3) (.int 2)) (.cons (.take 1) (.cons (.take 2) .nil)))
def fvO : Tot → SV
  | .ok _ => .d .non
  | .error e => fv e
section
variable {F : String → List SV → Cr} {s : Tst}
theorem io_at {A x : D} {row : List D} {f a b : Option SV} {o : Tot} (hx : idxD x (.int 2) = some (.tup row)) (h : LP o (F "_law_tell" [.d (.tup row), lef s, fou s])) :
    ∃ s', (∀ s1, o = .ok s1 → s' = s1) ∧ ev tb F ioE (ltE A s (some (.d x)) f a b) = .ok (fvO o) (ltE A s' (some (.d x)) f a b) := by
  have h0 := io_is (t := tb) (F := F) (f := "_law_tell") (as := .cons (.idx (.var 3) (.int 2)) (.cons (.take 1) (.cons (.take 2) .nil))) (ρ := ltE A s (some (.d x)) f a b) (ρ1 := ltE A s (some (.d x)) f a b) (ds := [.tup row, .non, .non]) (p := ([.d (.tup row), lef s, fou s], [some (.d A), none, none, some (.d x), f, a, b])) rfl (evr_cons rfl (idx_ev (d := .tup row) (var_ev (x := x) rfl) int_ev hx) (evr_ref (s := lef s) rfl (evr_ref (s := fou s) rfl evr_nil))) rfl
  cases o with
  | ok s' =>
    have h : F "_law_tell" [.d (.tup row), lef s, fou s] = .ok (.d .non) [none, some (lef s'), some (fou s')] := h
    refine ⟨s', fun s1 e => by cases e; rfl, h0.trans ?_⟩
    show ofIo [none, some 1, some 2] (F "_law_tell" [.d (.tup row), lef s, fou s]) _ = _
    rw [h]
    exact ofIo_ok rfl
  | error e =>
    obtain ⟨s', h⟩ := h
    refine ⟨s', fun s1 e => (by cases e), h0.trans ?_⟩
    show ofIo [none, some 1, some 2] (F "_law_tell" [.d (.tup row), lef s, fou s]) _ = _
    rw [h]
    exact ofIo_ok rfl
theorem lef_ev {A : D} {x f a b : Option SV} : ev tb F (.idv 1 (.int 0)) (ltE A s x f a b) = .ok (.d (.int s.1)) (ltE A s x f a b) := idv_ev (s0 := lef s) (s := lef s) rfl int_ev rfl rfl
theorem fou_ev {A : D} {x f a b : Option SV} : ev tb F (.bor (.blt .len (.cons (.var 2) .nil))) (ltE A s x f a b) = .ok (.d (.int (s.2.length : Nat))) (ltE A s x f a b) := len_own (xs := s.2) rfl
theorem fault_set {A : D} {x f a b : Option SV} (w : List Nat) : Kn.exec tb F [1, 2] (.set 4 (.tup (.cons (.bor (.blt .len (.cons (.var 2) .nil))) (.cons (.str w) .nil)))) (ltE A s x f a b) = .nx (ltE A s x (some (fv (s.2.length, w))) a b) :=
  set_to (tup_ev (vs := [.d (.int (s.2.length : Nat)), .d (.str w)]) (evs_cons fou_ev (evs_cons str_ev evs_nil)) (lim3 (by simp))) rfl rfl
end
def lrB : S := bodyS (nthS fd__law_tell.body 0)
/-- the middle of a turn: times -/
theorem lm_times {F : String → List SV → Cr} {A x : D} {m : Int} {row : List D} {f : Tst → Tot} (hm : idxD x (.int 1) = some (.int m)) (hx : idxD x (.int 2) = some (.tup row)) (hb : -1000000000000 < m ∧ m < 1000000000000) (HF : ∀ s, Vd s → LP (f s) (F "_law_tell" [.d (.tup row), lef s, fou s])) (hv : ∀ s, Vd s → VdO s (f s)) {s : Tst} (v : Vd s) (a b : Option SV) :
    Md A x (seqE (fun _ : Nat => f) (List.range m.toNat) s) (Kn.exec tb F [1, 2] (.cons (.for_ (.nm 5) (.rng (.idx (.var 3) (.int 1))) (.cons (.set 4 (.orv (.var 4) ioE)) .nil)) .nil) (ltE A s (some (.d x)) (some (.d .non)) a b)) := by
  have hrg : rngD 0 m = (List.range m.toNat).map fun k : Nat => .int (0 + (k : Int)) := by unfold rngD; simp
  refine st_fora (G := fun y => Md A x (seqE (fun _ : Nat => f) (List.range m.toNat) s) y) (l := List.range m.toNat) (a := fun k : Nat => .int (0 + (k : Int))) (ρ1 := ltE A s (some (.d x)) (some (.d .non)) a b) (fun pre ρ => (∀ s1, seqE (fun _ : Nat => f) pre s = .ok s1 → Vd s1) ∧ ∃ s' a' b', (∀ s1, seqE (fun _ : Nat => f) pre s = .ok s1 → s' = s1) ∧ ρ = ltE A s' (some (.d x)) (some (fvO (seqE (fun _ : Nat => f) pre s))) a' b')
    (by rw [← hrg]; exact rng_evi (idx_ev (d := .int m) (var_ev (x := x) rfl) int_ev hm) rfl hb) rfl ⟨fun s1 e => by cases e; exact v, s, a, b, fun s1 e => by cases e; rfl, rfl⟩ ?_ ?_
  · rintro pre k post e ρ ⟨hvd, s', a', b', hs, rfl⟩
    rw [seqE_snoc]
    cases ho : seqE (fun _ : Nat => f) pre s with
    | ok s1 =>
      have e1 := hs s1 ho
      subst e1
      have v1 := hvd s' ho
      have hv1 := hv s' v1
      obtain ⟨s2, k1, k2⟩ := io_at (F := F) (A := A) (x := x) (f := some (.d .non)) (a := some (.d (.int (0 + (k : Int))))) (b := b') hx (HF s' v1)
      refine ⟨_, one_nx (set_to (orv_non (var_ev rfl) k2) rfl rfl), fun s1 e => ?_, s2, _, _, k1, rfl⟩
      have e : f s' = .ok s1 := e
      rw [e] at hv1
      exact hv1.1
    | error e1 =>
      exact ⟨_, one_nx (set_to (orv_tup (var_ev rfl)) rfl rfl), fun s1 e => (by cases e), s', _, _, fun s1 e => (by cases e), rfl⟩
  · rintro ρ' ⟨hvd, s', a', b', hs, rfl⟩
    rw [nil_blk]
    cases ho : seqE (fun _ : Nat => f) (List.range m.toNat) s with
    | ok s1 =>
      rw [hs s1 ho]
      exact ⟨a', b', rfl⟩
    | error e1 => exact ⟨s', a', b', rfl⟩
def lwC : E := .and (.cmp .is_ (.var 4) .non) (.cmp .gt (.idv 1 (.int 0)) (.idx (.var 3) (.int 1)))
def lwB : S := .cons (.set 6 (.idv 1 (.int 0))) (.cons (.set 4 ioE) (.cons (.ite (.and (.cmp .is_ (.var 4) .non) (.cmp .eq (.idv 1 (.int 0)) (.var 6))) (.cons (.set 4 (.tup (.cons (.bor (.blt .len (.cons (.var 2) .nil))) (.cons (.str [105, 100, 108, 101]) .nil)))) .nil) .nil) .nil))
theorem lm_till {F : String → List SV → Cr} {A x : D} {m : Int} {row : List D} {f : Tst → Tot} (hm : idxD x (.int 1) = some (.int m)) (hx : idxD x (.int 2) = some (.tup row)) (HF : ∀ s, Vd s → LP (f s) (F "_law_tell" [.d (.tup row), lef s, fou s])) (hv : ∀ s, Vd s → VdO s (f s)) : ∀ (j K : Nat) (s : Tst) (a b : Option SV), Vd s → s.1.toNat < j → j + 1 ≤ K →
    Md A x (til f m j s) (loopW (ev tb F lwC) (Kn.exec tb F [1, 2] lwB) K (ltE A s (some (.d x)) (some (.d .non)) a b))
  | 0, K, s, a, b, v, h, hk => absurd h (Nat.not_lt_zero _)
  | j + 1, K, s, a, b, v, h, hk => by
    obtain ⟨K, rfl⟩ : ∃ K', K = K' + 2 := ⟨K - 2, by omega⟩
    have hc : ev tb F lwC (ltE A s (some (.d x)) (some (.d .non)) a b) = .ok (.d (.bl (true && decide (m < s.1)))) (ltE A s (some (.d x)) (some (.d .non)) a b) :=
      and_ev (p := true) (q := decide (m < s.1)) (is_ev (var_ev rfl) rfl) fun _ => cmp_ev lef_ev (idx_ev (d := .int m) (var_ev (x := x) rfl) int_ev hm) (cgI _ _)
    rw [Bool.true_and] at hc
    have stop : ∀ (e : Nat × List Nat) (s' : Tst) (a b : Option SV) (k : Nat), loopW (ev tb F lwC) (Kn.exec tb F [1, 2] lwB) (k + 1) (ltE A s' (some (.d x)) (some (fv e)) a b) = .nx (ltE A s' (some (.d x)) (some (fv e)) a b) := fun e s' a b k =>
      whl_end (and_ev (p := false) (q := false) (is_ev (var_ev rfl) rfl) fun h => nomatch h)
    unfold til
    by_cases hlt : m < s.1
    · rw [if_pos hlt]
      rw [decide_eq_true hlt] at hc
      obtain ⟨s', k1, k2⟩ := io_at (F := F) (A := A) (x := x) (f := some (.d .non)) (a := a) (b := some (.d (.int s.1))) hx (HF s v)
      have hv1 := hv s v
      have h1 : Kn.exec tb F [1, 2] (nthS lwB 0) (ltE A s (some (.d x)) (some (.d .non)) a b) = .nx (ltE A s (some (.d x)) (some (.d .non)) a (some (.d (.int s.1)))) := set_ok lef_ev rfl
      have h2 : Kn.exec tb F [1, 2] (nthS lwB 1) (ltE A s (some (.d x)) (some (.d .non)) a (some (.d (.int s.1)))) = .nx (ltE A s' (some (.d x)) (some (fvO (f s))) a (some (.d (.int s.1)))) := set_to k2 rfl rfl
      cases ho : f s with
      | error e =>
        rw [ho] at h2
        have hb : Kn.exec tb F [1, 2] lwB (ltE A s (some (.d x)) (some (.d .non)) a b) = .nx (ltE A s' (some (.d x)) (some (fv e)) a (some (.d (.int s.1)))) :=
          st_nx (G := fun y => y = _) h1 (st_nx (G := fun y => y = _) h2 (one_nx (ite_f (and_ev (p := false) (q := false) (is_ev (var_ev rfl) rfl) fun h => nomatch h) nil_blk)))
        rw [whl_go hc hb, stop]
        exact ⟨s', _, _, rfl⟩
      | ok s1 =>
        rw [ho] at h2 hv1
        have e1 := k1 s1 ho
        subst e1
        obtain ⟨v1, hle⟩ := hv1
        have c3 : ev tb F (.and (.cmp .is_ (.var 4) .non) (.cmp .eq (.idv 1 (.int 0)) (.var 6))) (ltE A s' (some (.d x)) (some (.d .non)) a (some (.d (.int s.1)))) = .ok (.d (.bl (true && decide (s'.1 = s.1)))) (ltE A s' (some (.d x)) (some (.d .non)) a (some (.d (.int s.1)))) :=
          and_ev (p := true) (q := decide (s'.1 = s.1)) (is_ev (var_ev rfl) rfl) fun _ => eq_ev lef_ev (var_ev rfl) (eqI _ _)
        rw [Bool.true_and] at c3
        show Md A x (if s'.1 = s.1 then .error (s'.2.length, wIdle) else til f m j s') _
        by_cases he : s'.1 = s.1
        · rw [if_pos he]
          rw [decide_eq_true he] at c3
          have hb : Kn.exec tb F [1, 2] lwB (ltE A s (some (.d x)) (some (.d .non)) a b) = .nx (ltE A s' (some (.d x)) (some (fv (s'.2.length, wIdle))) a (some (.d (.int s.1)))) :=
            st_nx (G := fun y => y = _) h1 (st_nx (G := fun y => y = _) h2 (one_nx (ite_t c3 (one_nx (fault_set wIdle)))))
          rw [whl_go hc hb, stop]
          exact ⟨s', _, _, rfl⟩
        · rw [if_neg he]
          rw [decide_eq_false he] at c3
          have hb : Kn.exec tb F [1, 2] lwB (ltE A s (some (.d x)) (some (.d .non)) a b) = .nx (ltE A s' (some (.d x)) (some (.d .non)) a (some (.d (.int s.1)))) :=
            st_nx (G := fun y => y = _) h1 (st_nx (G := fun y => y = _) h2 (one_nx (ite_f c3 nil_blk)))
          rw [whl_go hc hb]
          exact lm_till hm hx HF hv j (K + 1) s' _ _ v1 (by have := v1.lo; have := v.lo; omega) (by omega)
    · rw [if_neg hlt]
      rw [decide_eq_false hlt] at hc
      rw [whl_end hc]
      exact ⟨a, b, rfl⟩
/-- the middle of a turn: one stitch -/
def loB : S := .cons (.ite (.bor (.cmp .gt (.blt .len (.cons (.var 2) .nil)) (.int 39))) (.cons (.set 4 (.tup (.cons (.bor (.blt .len (.cons (.var 2) .nil))) (.cons (.str [108, 111, 110, 103]) .nil)))) .nil)
  (.cons (.ite (.cmp .gt (.call "_law_takes" (.cons (.var 3) .nil)) (.idv 1 (.int 0))) (.cons (.set 4 (.tup (.cons (.bor (.blt .len (.cons (.var 2) .nil))) (.cons (.str [102, 101, 119]) .nil)))) .nil)
    (.cons (.seti 1 0 (.bin .sub (.idv 1 (.int 0)) (.call "_law_takes" (.cons (.var 3) .nil)))) (.cons (.app 2 (.var 3)) .nil))) .nil)) .nil
theorem lm_one {F : String → List SV → Cr} {A x : D} (ht : ∃ o, F "_law_takes" [.d x] = .ok (.d (.int (tkD x))) o) {s : Tst} (v : Vd s) (a b : Option SV) :
    Md A x (one x s) (Kn.exec tb F [1, 2] loB (ltE A s (some (.d x)) (some (.d .non)) a b)) := by
  obtain ⟨o1, ht⟩ := ht
  have hl := v.len
  have hcall : ∀ s : Tst, ev tb F (.call "_law_takes" (.cons (.var 3) .nil)) (ltE A s (some (.d x)) (some (.d .non)) a b) = .ok (.d (.int (tkD x))) (ltE A s (some (.d x)) (some (.d .non)) a b) := fun s => call_ev rfl (evs_cons (var_ev rfl) evs_nil) ht
  have c1 : ev tb F (.bor (.cmp .gt (.blt .len (.cons (.var 2) .nil)) (.int 39))) (ltE A s (some (.d x)) (some (.d .non)) a b) = .ok (.d (.bl (decide ((39 : Int) < (s.2.length : Nat))))) (ltE A s (some (.d x)) (some (.d .non)) a b) :=
    bor_ev (cmp_ev (blt1_ev (var_ev (frzE_at (xs := s.2) rfl)) rfl) int_ev (cgI _ _)) rfl
  have c2 : ev tb F (.cmp .gt (.call "_law_takes" (.cons (.var 3) .nil)) (.idv 1 (.int 0))) (ltE A s (some (.d x)) (some (.d .non)) a b) = .ok (.d (.bl (decide (s.1 < tkD x)))) (ltE A s (some (.d x)) (some (.d .non)) a b) := cmp_ev (hcall s) lef_ev (cgI _ _)
  unfold one
  by_cases h40 : s.2.length = 40
  · rw [if_pos h40]
    rw [decide_eq_true (by omega)] at c1
    exact ⟨s, a, b, one_nx (ite_t c1 (one_nx (fault_set wLong)))⟩
  rw [if_neg h40]
  rw [decide_eq_false (by omega)] at c1
  by_cases hf : s.1 < tkD x
  · rw [if_pos hf]
    rw [decide_eq_true hf] at c2
    exact ⟨s, a, b, one_nx (ite_f c1 (one_nx (ite_t c2 (one_nx (fault_set wFew)))))⟩
  rw [if_neg hf]
  rw [decide_eq_false hf] at c2
  have h3 : Kn.exec tb F [1, 2] (.seti 1 0 (.bin .sub (.idv 1 (.int 0)) (.call "_law_takes" (.cons (.var 3) .nil)))) (ltE A s (some (.d x)) (some (.d .non)) a b) = .nx (ltE A (s.1 - tkD x, s.2) (some (.d x)) (some (.d .non)) a b) :=
    seti_ok (xs := [.d (.int s.1)]) (bin_ev lef_ev (hcall s) (bS _ _)) rfl (by simp)
  have h4 : Kn.exec tb F [1, 2] (.app 2 (.var 3)) (ltE A (s.1 - tkD x, s.2) (some (.d x)) (some (.d .non)) a b) = .nx (ltE A (s.1 - tkD x, s.2 ++ [x]) (some (.d x)) (some (.d .non)) a b) := by
    refine (app_ok (xs0 := s.2.map .d) (xs := s.2.map .d) (v := .d x) rfl (var_ev rfl) rfl (by rw [List.length_map]; have : lim = 1000000 := rfl; omega)).trans ?_
    show Fl.nx [some (.d A), some (lef (s.1 - tkD x, s.2)), some (.lst (s.2.map .d ++ [.d x])), some (.d x), some (.d .non), a, b] = Fl.nx [some (.d A), some (lef (s.1 - tkD x, s.2 ++ [x])), some (.lst ((s.2 ++ [x]).map .d)), some (.d x), some (.d .non), a, b]
    rw [List.map_append]
    rfl
  exact ⟨a, b, one_nx (ite_f c1 (one_nx (ite_f c2 (st_nx (G := fun y => y = _) h3 (one_nx h4)))))⟩
/-- a turn -/
theorem lr_turn {F : String → List SV → Cr} (A : D) (n : Nat) (x : D) (hx : GtP n x) (H1 : GtS x → ∃ o, F "_law_takes" [.d x] = .ok (.d (.int (tkD x))) o)
    (H3 : ∀ row n', n = n' + 1 → (∀ y ∈ row, GtP n' y) → ∀ s, Vd s → LP (seqE (tel n') row s) (F "_law_tell" [.d (.tup row), lef s, fou s])) {s : Tst} (v : Vd s) (f a b : Option SV) :
    Res (fun s' ρ' => ∃ f' a' b', ρ' = ltE A s' (some (.d x)) f' a' b') (fun e y => ∃ ρ', y = .rt (fv e) ρ' ∧ ∃ s' r, ρ' = some (.d A) :: some (lef s') :: some (fou s') :: r) (tel n x s) (Kn.exec tb F [1, 2] lrB (ltE A s (some (.d x)) f a b)) := by
  have h0 : Kn.exec tb F [1, 2] (nthS lrB 0) (ltE A s (some (.d x)) f a b) = .nx (ltE A s (some (.d x)) (some (.d .non)) a b) := set_ok (const_ev rfl) rfl
  have fin : Md A x (tel n x s) (Kn.exec tb F [1, 2] (nthS lrB 1) (ltE A s (some (.d x)) (some (.d .non)) a b)) → Res (fun s' ρ' => ∃ f' a' b', ρ' = ltE A s' (some (.d x)) f' a' b') (fun e y => ∃ ρ', y = .rt (fv e) ρ' ∧ ∃ s' r, ρ' = some (.d A) :: some (lef s') :: some (fou s') :: r) (tel n x s) (Kn.exec tb F [1, 2] lrB (ltE A s (some (.d x)) f a b)) := fun hm => by
    cases ho : tel n x s with
    | ok s' =>
      rw [ho] at hm
      obtain ⟨a', b', hm⟩ := hm
      exact ⟨_, st_nx (G := fun y => y = _) h0 (st_nx (G := fun y => y = _) hm (one_nx (ite_f (isnot_ev (r := true) (var_ev rfl) rfl) nil_blk))), _, _, _, rfl⟩
    | error e =>
      rw [ho] at hm
      obtain ⟨s', a', b', hm⟩ := hm
      exact ⟨_, st_nx (G := fun y => y = _) h0 (st_nx (G := fun y => y = _) hm (st_to (ite_t (isnot_ev (r := false) (var_ev rfl) rfl) (ret_blk (var_ev rfl))) rfl)), s', _, rfl⟩
  refine fin ?_
  have simple : GtS x → Md A x (tel n x s) (Kn.exec tb F [1, 2] (nthS lrB 1) (ltE A s (some (.d x)) (some (.d .non)) a b)) := fun h => by
    rw [tel_sm h]
    have h1 := lm_one (A := A) (H1 h) v a b
    obtain ⟨s0, w, tk, lv, h⟩ := h
    obtain ⟨u, r, rfl, n1, n2⟩ := sm_head h
    rw [show Kn.exec tb F [1, 2] (nthS lrB 1) (ltE A s (some (.d (.tup (.str u :: r)))) (some (.d .non)) a b) = Kn.exec tb F [1, 2] loB (ltE A s (some (.d (.tup (.str u :: r)))) (some (.d .non)) a b) from ite_f (eq_ev (idx_ev (var_ev rfl) int_ev (idx0 _ _)) str_ev (eqTf n1)) (st_nx0 (ite_f (eq_ev (idx_ev (var_ev rfl) int_ev (idx0 _ _)) str_ev (eqTf n2)) rfl))]
    exact h1
  cases n with
  | zero => exact simple hx
  | succ n =>
    rcases hx with h | ⟨tl, m, row, m1, m2, hr, rfl⟩
    · exact simple h
    · have HF := H3 row n rfl hr
      have hv : ∀ s, Vd s → VdO s (seqE (tel n) row s) := fun s v => row_vd hr v
      cases tl with
      | true =>
        rw [tel_till]
        rw [show Kn.exec tb F [1, 2] (nthS lrB 1) (ltE A s (some (.d (.tup [.str (repK true), .int m, .tup row]))) (some (.d .non)) a b) = Kn.exec tb F [1, 2] (.whl lwC lwB) (ltE A s (some (.d (.tup [.str (repK true), .int m, .tup row]))) (some (.d .non)) a b) from ite_f (eq_ev (idx_ev (var_ev rfl) int_ev (idx0 _ _)) str_ev (eqTf (by decide))) (st_nx0 (ite_t (eq_ev (idx_ev (var_ev rfl) int_ev (idx0 _ _)) str_ev rfl) (st_nx0 rfl))), whl_is]
        exact lm_till rfl rfl HF hv 100 fuel s a b v (by have := v.lo; have := v.hi; omega) (by decide)
      | false =>
        rw [tel_times]
        rw [show Kn.exec tb F [1, 2] (nthS lrB 1) (ltE A s (some (.d (.tup [.str (repK false), .int m, .tup row]))) (some (.d .non)) a b) = _ from ite_t (eq_ev (idx_ev (var_ev rfl) int_ev (idx0 _ _)) str_ev rfl) rfl]
        exact lm_times rfl rfl (by omega) HF hv v a b
theorem lp_of {F : String → List SV → Cr} (A : D) (row : List D) (hA : itemsD A = some row) (n : Nat) (hr : ∀ y ∈ row, GtP n y) (H1 : ∀ x, GtS x → ∃ o, F "_law_takes" [.d x] = .ok (.d (.int (tkD x))) o)
    (H3 : ∀ row n', n = n' + 1 → (∀ y ∈ row, GtP n' y) → ∀ s, Vd s → LP (seqE (tel n') row s) (F "_law_tell" [.d (.tup row), lef s, fou s])) {s : Tst} (v : Vd s) : LP (seqE (tel n) row s) (runF tb F fd__law_tell [.d A, lef s, fou s]) := by
  have hm : row.map (fun y : D => y) = row := List.map_id' row
  have h := for_run (t := tb) (F := F) (ro := [1, 2]) (i := 3) (it := .var 0) (b := lrB) (l := row) (a := fun y : D => y) (ρ := ltE A s none none none none) (ρ1 := ltE A s none none none none) (fun s' ρ' => Vd s' ∧ ∃ x f a b, ρ' = ltE A s' x f a b) (fun e y => ∃ ρ', y = .rt (fv e) ρ' ∧ ∃ s' r, ρ' = some (.d A) :: some (lef s') :: some (fou s') :: r) (tel n) (fun e y hy => by
    obtain ⟨ρ', rfl, _⟩ := hy
    trivial) (by rw [hm]; exact evi_of (var_ev rfl) hA) rfl (fun y hy s ρ hR => by
      obtain ⟨v, x, f, a, b, rfl⟩ := hR
      have hv := tel_vd (hr y hy) v
      exact Res.imp (lr_turn (F := F) A n y (hr y hy) (H1 y) H3 v f a b) (fun s' ρ e hR => by
        obtain ⟨f', a', b', hR⟩ := hR
        rw [e] at hv
        exact ⟨hv.1, _, _, _, _, hR⟩) fun e x _ hx => hx) (s := s) ⟨v, none, none, none, none, rfl⟩
  cases ho : seqE (tel n) row s with
  | ok s' =>
    rw [ho] at h
    obtain ⟨ρ', e, _, x, f, a, b, rfl⟩ := h
    exact runF_rt (fd := fd__law_tell) (ss := [.d A, lef s, fou s]) ⟨rfl, by decide, rfl, rfl⟩ (st_nx (G := fun y => y = _) e (ret_blk (const_ev rfl)))
  | error e' =>
    rw [ho] at h
    obtain ⟨ρ', e, s', r, rfl⟩ := h
    exact ⟨s', runF_rt (fd := fd__law_tell) (ss := [.d A, lef s, fou s]) ⟨rfl, by decide, rfl, rfl⟩ (st_to e rfl)⟩
theorem law_tell_at : ∀ (n k : Nat) (A : D) (row : List D), itemsD A = some row → (∀ y ∈ row, GtP n y) → ∀ {s : Tst}, Vd s → LP (seqE (tel n) row s) (callN tb pt (k + n + 2) "_law_tell" [.d A, lef s, fou s]) := by
  intro n
  induction n with
  | zero =>
    intro k A row hA hr s v
    rw [show k + 0 + 2 = k + 1 + 1 from rfl, callN_at (k + 1) pt__law_tell]
    exact lp_of A row hA 0 hr (fun x hx => by
      obtain ⟨s0, w, tk, lv, h⟩ := hx
      rw [(tk_sm h).1]
      exact law_takes_sm k h) (fun _ n' e => nomatch e) v
  | succ n ih =>
    intro k A row hA hr s v
    rw [show k + (n + 1) + 2 = k + n + 2 + 1 by omega, callN_at (k + n + 2) pt__law_tell]
    exact lp_of A row hA (n + 1) hr (fun x hx => by
      obtain ⟨s0, w, tk, lv, h⟩ := hx
      rw [(tk_sm h).1]
      exact law_takes_sm (k + n + 1) h) (fun row n' e hr' s v => by
      cases e
      exact ih k (.tup row) row rfl hr' v) v
end Kn

set_option Elab.async false
set_option linter.all false
set_option maxRecDepth 100000
set_option maxHeartbeats 4000000
/-! TF: told_out, whole. -/
namespace Kn
open PySem L2
def finT : Tot → Except (Nat × List Nat) (List D)
  | .ok s => if 0 < s.1 then .error (s.2.length, wLeft) else .ok s.2
  | .error e => .error e
theorem fin_pos {s : Tst} (h : 0 < s.1) : finT (.ok s) = .error (s.2.length, wLeft) := if_pos h
theorem fin_neg {s : Tst} (h : ¬ 0 < s.1) : finT (.ok s) = .ok s.2 := if_neg h
def TP (c : Int) (o : Tot) (r : Cr) : Prop := match finT o with
  | .ok xs => ∃ outs, r = .ok (.lst (xs.map .d)) outs
  | .error e => r = .exc (NP c e)
theorem tele_init (n : Nat) (a b : D) : callN tb pt (n + 1) "Telling.__init__" [.ins "Telling" [] [], .d a, .d b] = .ok (.d .non) [some (.ins "Telling" ["still", "course", "trees"] [.d a, .d b, .lst []]), none, none] := by
  simp [callN, fd_Tellingu_initu, runF, modesOk, Kn.exec, ev, evs, thenF, R.bind, R.of, frzs, frz, roOf, outsOf, putN, lim]
theorem told_out_at_ok (n k : Nat) (c C : Int) (A : D) (row : List D) (hA : itemsD A = some row) (hr : ∀ y ∈ row, GtP n y) (v : Vd (C, [])) : TP c (seqE (tel n) row (C, [])) (callN tb pt (k + 2 * n + 7) "told_out_at" [.d A, .d (.int C), .d (.int c)]) := by
  have hi := tele_init (k + 2 * n + 5) (.int C) (.int c)
  have ht := tell_at n k c A row hA hr v
  have hi : callN tb pt (k + 2 * n + 6) "Telling.__init__" [.ins "Telling" [] [], .d (.int C), .d (.int c)] = .ok (.d .non) [some (tele c (C, [])), none, none] := hi
  have key : TP c (seqE (tel n) row (C, [])) (runF tb (callN tb pt (k + 2 * n + 6)) fd_told_out_at [.d A, .d (.int C), .d (.int c)]) := by
    generalize callN tb pt (k + 2 * n + 6) = F at hi ht ⊢
    have h1 : Kn.exec tb F [] (nthS fd_told_out_at.body 0) [some (.d A), some (.d (.int C)), some (.d (.int c)), none] = .nx [some (.d A), some (.d (.int C)), some (.d (.int c)), some (tele c (C, []))] :=
      set_ok (mk_ev rfl (evs_cons (var_ev rfl) (evs_cons (var_ev rfl) evs_nil)) hi) rfl
    have h0 := iom_is (t := tb) (F := F) (ρ := [some (.d A), some (.d (.int C)), some (.d (.int c)), some (tele c (C, []))]) (ρ1 := [some (.d A), some (.d (.int C)), some (.d (.int c)), some (tele c (C, []))]) (m := "tell") (q := "Telling.tell") (c := "Telling") (i := 3) (ns := ["still", "course", "trees"]) (xs := [.d (.int C), .d (.int c), .lst []]) (as := .cons (.var 0) .nil) (ds := [A]) (p := ([tele c (C, []), .d A], [some (.d A), some (.d (.int C)), some (.d (.int c)), none])) rfl rfl rfl (evr_cons rfl (var_ev rfl) evr_nil) rfl
    have h0 : ev tb F (.iom "tell" 3 (.cons (.var 0) .nil)) [some (.d A), some (.d (.int C)), some (.d (.int c)), some (tele c (C, []))] = ofIo [some 3, none] (F "Telling.tell" [tele c (C, []), .d A]) [some (.d A), some (.d (.int C)), some (.d (.int c)), none] := h0
    have hv := row_vd hr v
    cases ho : seqE (tel n) row (C, []) with
    | error e =>
      rw [ho] at ht
      have ht : F "Telling.tell" [tele c (C, []), .d A] = .exc (NP c e) := ht
      rw [ht] at h0
      have h0 : ev tb F (.iom "tell" 3 (.cons (.var 0) .nil)) [some (.d A), some (.d (.int C)), some (.d (.int c)), some (tele c (C, []))] = .exc (NP c e) [some (.d A), some (.d (.int C)), some (.d (.int c)), none] := h0
      exact runF_exc (fd := fd_told_out_at) (ss := [.d A, .d (.int C), .d (.int c)]) rfl ⟨rfl, by decide, rfl, rfl⟩ (st_nx (G := fun y => y = _) h1 (expr_exc h0))
    | ok s =>
      rw [ho] at ht hv
      have ht : F "Telling.tell" [tele c (C, []), .d A] = .ok (.d .non) [some (tele c s), none] := ht
      rw [ht] at h0
      have h2 : Kn.exec tb F [] (nthS fd_told_out_at.body 1) [some (.d A), some (.d (.int C)), some (.d (.int c)), some (tele c (C, []))] = .nx [some (.d A), some (.d (.int C)), some (.d (.int c)), some (tele c s)] := expr_ok (h0.trans (ofIo_ok rfl))
      have hf : (frzE [some (.d A), some (.d (.int C)), some (.d (.int c)), some (tele c s)])[3]? = some (some (.d (teleD c s))) := by
        rw [← frz_tele]
        exact frzE_s rfl
      have c3 : ev tb F (.bor (.cmp .gt (.fld (.var 3) "still") (.int 0))) [some (.d A), some (.d (.int C)), some (.d (.int c)), some (tele c s)] = .ok (.d (.bl (decide (0 < s.1)))) [some (.d A), some (.d (.int C)), some (.d (.int c)), some (tele c s)] :=
        bor_ev (cmp_ev (fld_ev (d := .int s.1) (var_ev hf) rfl) int_ev (cgI _ _)) rfl
      unfold TP
      by_cases hp : 0 < s.1
      · rw [fin_pos hp]
        rw [decide_eq_true hp] at c3
        have h4 : Kn.exec tb F [] (.cons (.raise "NoPiece" (.cons (.var 2) (.cons (.bor (.blt .len (.cons (.fld (.var 3) "trees") .nil))) (.cons (.str [108, 101, 102, 116]) .nil)))) .nil) [some (.d A), some (.d (.int C)), some (.d (.int c)), some (tele c s)] = .exc (NP c (s.2.length, wLeft)) [some (.d A), some (.d (.int C)), some (.d (.int c)), some (tele c s)] :=
          st_to (raise_to rfl (evs_cons (var_ev rfl) (evs_cons (bor_ev (x := .int (s.2.length : Nat)) (blt1_ev (fld_ev (d := .lst s.2) (var_ev hf) rfl) rfl) rfl) (evs_cons str_ev evs_nil))) rfl) rfl
        exact runF_exc (fd := fd_told_out_at) (ss := [.d A, .d (.int C), .d (.int c)]) rfl ⟨rfl, by decide, rfl, rfl⟩ (st_nx (G := fun y => y = _) h1 (st_nx (G := fun y => y = _) h2 (st_to (ite_t c3 h4) rfl)))
      · rw [fin_neg hp]
        rw [decide_eq_false hp] at c3
        exact ⟨_, runF_rt (fd := fd_told_out_at) (ss := [.d A, .d (.int C), .d (.int c)]) ⟨rfl, by decide, rfl, rfl⟩ (st_nx (G := fun y => y = _) h1 (st_nx (G := fun y => y = _) h2 (st_nx (G := fun y => y = _) (ite_f c3 nil_blk) (ret_blk (takef_ev (c := "Telling") (ns := ["still", "course", "trees"]) (xs := [.d (.int s.1), .d (.int c), .lst (s.2.map .d)]) rfl rfl rfl)))))⟩
  rw [show k + 2 * n + 7 = (k + 2 * n + 6) + 1 from rfl, callN_at (k + 2 * n + 6) pt_told_out_at]
  exact key
theorem told_out_ok (n k : Nat) (C : Int) (A : D) (row : List D) (hA : itemsD A = some row) (hr : ∀ y ∈ row, GtP n y) (v : Vd (C, [])) : TP 0 (seqE (tel n) row (C, [])) (callN tb pt (k + 2 * n + 8) "told_out" [.d A, .d (.int C)]) := by
  have h := told_out_at_ok n k 0 C A row hA hr v
  rw [show k + 2 * n + 8 = (k + 2 * n + 7) + 1 from rfl, callN_at (k + 2 * n + 7) pt_told_out]
  generalize callN tb pt (k + 2 * n + 7) = F at h ⊢
  unfold TP at h ⊢
  cases ho : finT (seqE (tel n) row (C, [])) with
  | ok xs =>
    rw [ho] at h
    obtain ⟨o, h⟩ := h
    exact ⟨_, runF_rt (fd := fd_told_out) (ss := [.d A, .d (.int C)]) ⟨rfl, by decide, rfl, rfl⟩ (ret_blk (call_ev rfl (evs_cons (var_ev rfl) (evs_cons (var_ev rfl) (evs_cons int_ev evs_nil))) h))⟩
  | error e =>
    rw [ho] at h
    have h : F "told_out_at" [.d A, .d (.int C), .d (.int 0)] = .exc (NP 0 e) := h
    exact runF_exc (fd := fd_told_out) (ss := [.d A, .d (.int C)]) rfl ⟨rfl, by decide, rfl, rfl⟩ (ret_exc (call_exc rfl (evs_cons (var_ev rfl) (evs_cons (var_ev rfl) (evs_cons int_ev evs_nil))) h))
end Kn

set_option Elab.async false
set_option linter.all false
set_option maxRecDepth 100000
set_option maxHeartbeats 4000000
/-! TG: the law. -/
namespace Kn
open PySem L2
def lwE (a0 a1 a2 a3 a4 a5 a6 a7 a8 a9 a10 a11 : Option SV) : Env := [a0, a1, a2, a3, a4, a5, a6, a7, a8, a9, a10, a11]
theorem bMT (xs : List D) (n : Int) (h : xs.length ≤ 1000) (h2 : n ≤ 1000) (h3 : 0 ≤ n) (h4 : xs ≠ []) : binD .mul (.tup xs) (.int n) = some (.d (.tup (List.replicate n.toNat xs).flatten)) := if_pos ⟨h, h2, by omega, h4⟩
theorem okDs_all {n : Nat} : ∀ {xs : List D}, (∀ d ∈ xs, okD d n = true) → okDs xs n = true
  | [], _ => rfl
  | x :: xs, h => by
    show (okD x n && okDs xs n) = true
    rw [h x List.mem_cons_self, okDs_all fun d hd => h d (List.mem_cons_of_mem _ hd)]
    rfl
theorem class_np (n : Nat) (w : List Nat) (i c : Int) : callN tb pt (n + 1) "_law_class" [.d (.exc "NoPiece" ["why", "stitch", "course", "number"] [.str w, .int i, .int c, .int (-1)])] = .ok (.d (.str [78, 111, 80, 105, 101, 99, 101])) [none] := by
  rw [callN_at n pt__law_class]
  generalize callN tb pt n = F
  rfl
theorem gt_k : GtS (.tup [.str [107]]) := ⟨_, _, _, _, .k⟩
theorem gt_yo : GtS (.tup [.str [121, 111]]) := ⟨_, _, _, _, .yo⟩
theorem gt_cab : GtS (.tup [.str [99, 97, 98, 108, 101], .int 3, .bl true, .int 3]) := ⟨_, _, _, _, .cab 3 3 true (by decide) (by decide) (by decide) (by decide)⟩
theorem gt_rep {n : Nat} (tl : Bool) (m : Int) (row : List D) (h1 : 0 ≤ m) (h2 : m ≤ 20) (h : ∀ y ∈ row, GtP n y) : GtP (n + 1) (.tup [.str (repK tl), .int m, .tup row]) := .inr ⟨tl, m, row, h1, h2, h, rfl⟩
/-- rows of trees -/
structure Rw (b : Nat) (row : List D) (C : Int) : Prop where
  gt : ∀ y ∈ row, GtP 4 y
  len : row.length ≤ b
  lo : 1 ≤ C
  hi : C ≤ 16
theorem Rw.vd {b : Nat} {row : List D} {C : Int} (h : Rw b row C) : Vd (C, []) := ⟨by have := h.lo; show 0 ≤ C; omega, h.hi, Nat.zero_le _, fun d hd => nomatch hd⟩
theorem flat_one (x : D) : ∀ (n : Nat) (y : D), y ∈ (List.replicate n [x]).flatten → y = x := fun n y h => by
  obtain ⟨l, h1, h2⟩ := List.mem_flatten.mp h
  rw [(List.mem_replicate.mp h1).2] at h2
  exact List.mem_singleton.mp h2
theorem flat_len (x : D) : ∀ n : Nat, (List.replicate n [x]).flatten.length = n
  | 0 => rfl
  | n + 1 => by
    rw [List.replicate_succ, List.flatten_cons, List.length_append, flat_len x n, List.length_singleton]
    omega
section
variable {F : String → List SV → Cr}
/-- behind the trees -/
def St (A B : Option SV) (y : Fl) : Prop := ∃ C T row x4 x5, y = .nx (lwE A B (some (.d (.int C))) (some T) x4 x5 none none none none none none) ∧ frz T = .lst row ∧ Rw 15 row C
theorem take_ev1 {A B C x4 x5 a6 a7 a8 a9 a10 a11 : Option SV} {T : SV} {row : List D} (hT : frz T = .lst row) : ev tb F (.slc (.var 3) .emp (.int 1)) (lwE A B C (some T) x4 x5 a6 a7 a8 a9 a10 a11) = .ok (.lst ((row.take 1).map .d)) (lwE A B C (some (.d (.lst row))) x4 x5 a6 a7 a8 a9 a10 a11) :=
  slc_hi (i := 1) rfl (varS_to rfl hT rfl) int_ev rfl (by
    show some (SV.lst ((cutL row none (some ((1 : Nat) : Int))).map .d)) = _
    rw [cut_hi])
theorem law_s3 {A : Option SV} {ds : List Int} {e2 e3 : Int} (i2 : idxD (.lst (ds.map .int)) (.int 2) = some (.int e2)) (i3 : idxD (.lst (ds.map .int)) (.int 3) = some (.int e3)) (p3 : 0 ≤ e3) {C : Int} {T : SV} {row : List D} (hT : frz T = .lst row) (h : Rw 15 row C) :
    St A (some (.d (.lst (ds.map .int)))) (Kn.exec tb F [] (nthS fd_law.body 3) (lwE A (some (.d (.lst (ds.map .int)))) (some (.d (.int C))) (some T) none none none none none none none none)) := by
  have hc := eq_ev (t := tb) (F := F) (ρ := lwE A (some (.d (.lst (ds.map .int)))) (some (.d (.int C))) (some T) none none none none none none none none) (bin_ev (idx_ev (var_ev (i := 1) rfl) int_ev i2) int_ev (bM e2 7 (by decide))) int_ev (eqI (e2 % 7) 1)
  by_cases hp : e2 % 7 = 1
  · rw [decide_eq_true hp] at hc
    obtain ⟨n1, hn1⟩ : ∃ n1, n1 = 1 + e3 / 8 % 3 := ⟨_, rfl⟩
    obtain ⟨n2, hn2⟩ : ∃ n2, n2 = e3 / 24 % 2 := ⟨_, rfl⟩
    obtain ⟨inn, hinn⟩ : ∃ inn, inn = (List.replicate n1.toNat [D.tup [.str [121, 111]]]).flatten ++ (List.replicate n2.toNat [D.tup [.str [107]]]).flatten := ⟨_, rfl⟩
    have l1 := flat_len (D.tup [.str [121, 111]]) n1.toNat
    have l2 := flat_len (D.tup [.str [107]]) n2.toNat
    have g1 : Kn.exec tb F [] (.set 4 (.bin .add (.bin .mul (.tup (.cons (.tup (.cons (.str [121, 111]) .nil)) .nil)) (.bin .add (.int 1) (.bin .mod (.bin .fdiv (.idx (.var 1) (.int 3)) (.int 8)) (.int 3)))) (.bin .mul (.tup (.cons (.tup (.cons (.str [107]) .nil)) .nil)) (.bin .mod (.bin .fdiv (.idx (.var 1) (.int 3)) (.int 24)) (.int 2))))) (lwE A (some (.d (.lst (ds.map .int)))) (some (.d (.int C))) (some T) none none none none none none none none) = .nx (lwE A (some (.d (.lst (ds.map .int)))) (some (.d (.int C))) (some T) (some (.d (.tup inn))) none none none none none none none) := by
      refine set_to (bin_ev (bin_ev (x := .d (.tup [.tup [.str [121, 111]]])) (const_ev rfl) (bin_ev int_ev (bin_ev (bin_ev (idx_ev (var_ev (i := 1) rfl) int_ev i3) int_ev (bF _ _ (by decide) (by decide))) int_ev (bM _ _ (by decide))) (bA _ _)) (bMT _ _ (by simp) (by omega) (by omega) (by simp))) (bin_ev (x := .d (.tup [.tup [.str [107]]])) (const_ev rfl) (bin_ev (bin_ev (idx_ev (var_ev (i := 1) rfl) int_ev i3) int_ev (bF _ _ (by decide) (by decide))) int_ev (bM _ _ (by decide))) (bMT _ _ (by simp) (by omega) (by omega) (by simp))) (v := .d (.tup inn)) ?_) rfl rfl
      rw [← hn1, ← hn2]
      refine (bT _ _ (lim3 (by rw [l1, l2]; omega))).trans ?_
      rw [hinn]
    have hin : ∀ y ∈ inn, GtP 3 y := fun y hy => by
      rw [hinn] at hy
      rcases List.mem_append.mp hy with hy | hy
      · rw [flat_one _ _ y hy]; exact GtP.sm gt_yo 3
      · rw [flat_one _ _ y hy]; exact GtP.sm gt_k 3
    have g2 : Kn.exec tb F [] (.set 3 (.bin .add (.lst (.cons (.tup (.cons (.str [116, 105, 108, 108]) (.cons (.bin .mod (.idx (.var 1) (.int 3)) (.int 8)) (.cons (.var 4) .nil)))) .nil)) (.slc (.var 3) .emp (.int 1)))) (lwE A (some (.d (.lst (ds.map .int)))) (some (.d (.int C))) (some T) (some (.d (.tup inn))) none none none none none none none) = .nx (lwE A (some (.d (.lst (ds.map .int)))) (some (.d (.int C))) (some (.lst ((D.tup [.str (repK true), .int (e3 % 8), .tup inn] :: row.take 1).map .d))) (some (.d (.tup inn))) none none none none none none none) := by
      refine set_to (bin_ev (x := .lst [.d (.tup [.str (repK true), .int (e3 % 8), .tup inn])]) (lst_ev (evs_cons (tup_ev (vs := [.d (.str [116, 105, 108, 108]), .d (.int (e3 % 8)), .d (.tup inn)]) (evs_cons str_ev (evs_cons (bin_ev (idx_ev (var_ev (i := 1) rfl) int_ev i3) int_ev (bM _ _ (by decide))) (evs_cons (var_ev rfl) evs_nil))) (lim3 (by simp))) evs_nil) (lim3 (by simp))) (take_ev1 hT) (v := .lst (([D.tup [.str (repK true), .int (e3 % 8), .tup inn]] ++ row.take 1).map .d)) ?_) rfl rfl
      show binD .add (.lst [.tup [.str (repK true), .int (e3 % 8), .tup inn]]) (.lst (frzs ((row.take 1).map .d))) = _
      rw [frzs_dd]
      have hl := List.length_take_le 1 row
      exact bL _ _ (lim3 (by rw [List.length_singleton]; omega))
    refine ⟨C, _, .tup [.str (repK true), .int (e3 % 8), .tup inn] :: row.take 1, _, _, ite_t hc (st_nx (G := fun y => y = _) g1 (one_nx g2)), by show D.lst (frzs _) = _; rw [frzs_dd], fun y hy => ?_, ?_, h.lo, h.hi⟩
    · rcases List.mem_cons.mp hy with rfl | hy
      · exact gt_rep true _ inn (by omega) (by omega) hin
      · exact h.gt y (List.mem_of_mem_take hy)
    · have hl := List.length_take_le 1 row
      rw [List.length_cons]
      omega
  · rw [decide_eq_false hp] at hc
    exact ⟨C, T, row, none, none, ite_f hc nil_blk, hT, h⟩
theorem law_s4 {A x4 : Option SV} {ds : List Int} {e0 e2 e3 : Int} (i0 : idxD (.lst (ds.map .int)) (.int 0) = some (.int e0)) (i2 : idxD (.lst (ds.map .int)) (.int 2) = some (.int e2)) (i3 : idxD (.lst (ds.map .int)) (.int 3) = some (.int e3)) (p0 : 0 ≤ e0) {C : Int} {T : SV} {row : List D} (x5 : Option SV) (hT : frz T = .lst row) (h : Rw 15 row C) :
    St A (some (.d (.lst (ds.map .int)))) (Kn.exec tb F [] (nthS fd_law.body 4) (lwE A (some (.d (.lst (ds.map .int)))) (some (.d (.int C))) (some T) x4 x5 none none none none none none)) := by
  have hc := eq_ev (t := tb) (F := F) (ρ := lwE A (some (.d (.lst (ds.map .int)))) (some (.d (.int C))) (some T) x4 x5 none none none none none none) (bin_ev (idx_ev (var_ev (i := 1) rfl) int_ev i2) int_ev (bM e2 7 (by decide))) int_ev (eqI (e2 % 7) 2)
  by_cases hp : e2 % 7 = 2
  · rw [decide_eq_true hp] at hc
    obtain ⟨z, hz⟩ : ∃ z, z = 19 + e3 % 2 := ⟨_, rfl⟩
    let m1 : D := .tup [.str (repK false), .int 20, .tup [.tup [.str [121, 111]]]]
    let m2 : D := .tup [.str (repK false), .int z, .tup [.tup [.str [121, 111]]]]
    let cb : D := .tup [.str [99, 97, 98, 108, 101], .int 3, .bl true, .int 3]
    have g1 : Kn.exec tb F [] (.set 5 (.lst (.cons (.tup (.cons (.str [116, 105, 109, 101, 115]) (.cons (.int 20) (.cons (.tup (.cons (.tup (.cons (.str [121, 111]) .nil)) .nil)) .nil)))) (.cons (.tup (.cons (.str [116, 105, 109, 101, 115]) (.cons (.bin .add (.int 19) (.bin .mod (.idx (.var 1) (.int 3)) (.int 2))) (.cons (.tup (.cons (.tup (.cons (.str [121, 111]) .nil)) .nil)) .nil)))) .nil)))) (lwE A (some (.d (.lst (ds.map .int)))) (some (.d (.int C))) (some T) x4 x5 none none none none none none) = .nx (lwE A (some (.d (.lst (ds.map .int)))) (some (.d (.int C))) (some T) x4 (some (.lst [.d m1, .d m2])) none none none none none none) :=
      set_to (lst_ev (vs := [.d m1, .d m2]) (evs_cons (const_ev rfl) (evs_cons (tup_ev (vs := [.d (.str [116, 105, 109, 101, 115]), .d (.int z), .d (.tup [.tup [.str [121, 111]]])]) (evs_cons str_ev (evs_cons (by rw [hz]; exact bin_ev int_ev (bin_ev (idx_ev (var_ev (i := 1) rfl) int_ev i3) int_ev (bM _ _ (by decide))) (bA _ _)) (evs_cons (const_ev rfl) evs_nil))) (lim3 (by simp))) evs_nil)) (lim3 (by simp))) rfl rfl
    have g2 : Kn.exec tb F [] (.set 3 (.bin .add (.bin .add (.var 5) (.slc (.var 3) .emp (.int 1))) (.lst (.cons (.tup (.cons (.str [99, 97, 98, 108, 101]) (.cons (.int 3) (.cons (.bl true) (.cons (.int 3) .nil))))) .nil)))) (lwE A (some (.d (.lst (ds.map .int)))) (some (.d (.int C))) (some T) x4 (some (.lst [.d m1, .d m2])) none none none none none none) = .nx (lwE A (some (.d (.lst (ds.map .int)))) (some (.d (.int C))) (some (.lst ((([m1, m2] ++ row.take 1) ++ [cb]).map .d))) x4 (some (.d (.lst [m1, m2]))) none none none none none none) := by
      have hl := List.length_take_le 1 row
      refine set_to (bin_ev (bin_ev (varS_to (d := .lst [m1, m2]) rfl rfl rfl) (take_ev1 hT) (v := .lst (([m1, m2] ++ row.take 1).map .d)) ?_) (y := .lst [.d cb]) (const_ev rfl) (v := .lst ((([m1, m2] ++ row.take 1) ++ [cb]).map .d)) ?_) rfl rfl
      · show binD .add (.lst [m1, m2]) (.lst (frzs ((row.take 1).map .d))) = _
        rw [frzs_dd]
        exact bL _ _ (lim3 (by simp only [List.length_cons, List.length_nil]; omega))
      · show binD .add (.lst (frzs (([m1, m2] ++ row.take 1).map .d))) (.lst [cb]) = _
        rw [frzs_dd]
        exact bL _ _ (lim3 (by simp only [List.length_append, List.length_cons, List.length_nil]; omega))
    have g3 : Kn.exec tb F [] (.set 2 (.bin .add (.int 1) (.bin .mod (.idx (.var 1) (.int 0)) (.int 3)))) (lwE A (some (.d (.lst (ds.map .int)))) (some (.d (.int C))) (some (.lst ((([m1, m2] ++ row.take 1) ++ [cb]).map .d))) x4 (some (.d (.lst [m1, m2]))) none none none none none none) = .nx (lwE A (some (.d (.lst (ds.map .int)))) (some (.d (.int (1 + e0 % 3)))) (some (.lst ((([m1, m2] ++ row.take 1) ++ [cb]).map .d))) x4 (some (.d (.lst [m1, m2]))) none none none none none none) :=
      set_to (bin_ev int_ev (bin_ev (idx_ev (var_ev (i := 1) rfl) int_ev i0) int_ev (bM _ _ (by decide))) (bA _ _)) rfl rfl
    have hyo : ∀ y ∈ [D.tup [.str [121, 111]]], GtP 3 y := fun y hy => by
      rw [List.mem_singleton.mp hy]
      exact GtP.sm gt_yo 3
    refine ⟨1 + e0 % 3, _, ([m1, m2] ++ row.take 1) ++ [cb], _, _, ite_t hc (st_nx (G := fun y => y = _) g1 (st_nx (G := fun y => y = _) g2 (one_nx g3))), by show D.lst (frzs _) = _; rw [frzs_dd], fun y hy => ?_, ?_, by omega, by omega⟩
    · rcases List.mem_append.mp hy with hy | hy
      · rcases List.mem_append.mp hy with hy | hy
        · rcases List.mem_cons.mp hy with rfl | hy
          · exact gt_rep false 20 _ (by decide) (by decide) hyo
          · rw [List.mem_singleton.mp hy]
            exact gt_rep false z _ (by omega) (by omega) hyo
        · exact h.gt y (List.mem_of_mem_take hy)
      · rw [List.mem_singleton.mp hy]
        exact GtP.sm gt_cab 4
    · have hl := List.length_take_le 1 row
      simp only [List.length_append, List.length_cons, List.length_nil]
      omega
  · rw [decide_eq_false hp] at hc
    exact ⟨C, T, row, x4, x5, ite_f hc nil_blk, hT, h⟩
/-- told by the law -/
def lioE : E := .io "_law_tell" (.cons (.var 3) (.cons (.take 6) (.cons (.take 7) .nil)))
theorem lio_at {A B C x4 x5 f a9 a10 a11 : Option SV} {T : SV} {row : List D} {s : Tst} {o : Tot} (hT : frz T = .lst row) (h : LP o (F "_law_tell" [.d (.lst row), lef s, fou s])) :
    ∃ s', (∀ s1, o = .ok s1 → s' = s1) ∧ ev tb F lioE (lwE A B C (some T) x4 x5 (some (lef s)) (some (fou s)) f a9 a10 a11) = .ok (fvO o) (lwE A B C (some (.d (.lst row))) x4 x5 (some (lef s')) (some (fou s')) f a9 a10 a11) := by
  have h0 := io_is (t := tb) (F := F) (f := "_law_tell") (as := .cons (.var 3) (.cons (.take 6) (.cons (.take 7) .nil))) (ρ := lwE A B C (some T) x4 x5 (some (lef s)) (some (fou s)) f a9 a10 a11) (ρ1 := lwE A B C (some (.d (.lst row))) x4 x5 (some (lef s)) (some (fou s)) f a9 a10 a11) (ds := [.lst row, .non, .non]) (p := ([.d (.lst row), lef s, fou s], lwE A B C (some (.d (.lst row))) x4 x5 none none f a9 a10 a11)) rfl (evr_cons (v := .d (.lst row)) rfl (varS_to rfl hT rfl) (evr_ref (s := lef s) rfl (evr_ref (s := fou s) rfl evr_nil))) rfl
  cases o with
  | ok s' =>
    have h : F "_law_tell" [.d (.lst row), lef s, fou s] = .ok (.d .non) [none, some (lef s'), some (fou s')] := h
    refine ⟨s', fun s1 e => by cases e; rfl, h0.trans ?_⟩
    show ofIo [none, some 6, some 7] (F "_law_tell" [.d (.lst row), lef s, fou s]) _ = _
    rw [h]
    exact ofIo_ok rfl
  | error e =>
    obtain ⟨s', h⟩ := h
    refine ⟨s', fun s1 e => (by cases e), h0.trans ?_⟩
    show ofIo [none, some 6, some 7] (F "_law_tell" [.d (.lst row), lef s, fou s]) _ = _
    rw [h]
    exact ofIo_ok rfl
/-- behind the law's own telling -/
def Pst (b : Nat) (A B : Option SV) (y : Fl) : Prop := ∃ C row x4 x5 s', y = .nx (lwE A B (some (.d (.int C))) (some (.d (.lst row))) x4 x5 (some (lef s')) (some (fou s')) (some (fvO (seqE (tel 4) row (C, [])))) none none none) ∧ Rw b row C ∧ ∀ s1, seqE (tel 4) row (C, []) = .ok s1 → s' = s1
theorem law_tells {b : Nat} {A B x4 x5 a6 a7 a8 : Option SV} {C : Int} {T : SV} {row : List D} (hT : frz T = .lst row) (h : Rw b row C) (HF : ∀ row C, Rw b row C → LP (seqE (tel 4) row (C, [])) (F "_law_tell" [.d (.lst row), lef (C, []), fou (C, [])])) (rest : S) (G : Fl → Prop) (k : ∀ ρ, Pst b A B (.nx ρ) → G (Kn.exec tb F [] rest ρ)) :
    G (Kn.exec tb F [] (.cons (.set 6 (.lst (.cons (.var 2) .nil))) (.cons (.set 7 (.lst .nil)) (.cons (.set 8 lioE) rest))) (lwE A B (some (.d (.int C))) (some T) x4 x5 a6 a7 a8 none none none)) := by
  obtain ⟨s', k1, k2⟩ := lio_at (F := F) (A := A) (B := B) (C := some (.d (.int C))) (x4 := x4) (x5 := x5) (f := a8) (a9 := none) (a10 := none) (a11 := none) hT (HF row C h)
  refine st_nx (G := G) (ρ1 := lwE A B (some (.d (.int C))) (some T) x4 x5 (some (lef (C, []))) a7 a8 none none none) (set_to (lst_ev (evs_cons (var_ev rfl) evs_nil) (lim3 (by simp))) rfl rfl) ?_
  refine st_nx (G := G) (ρ1 := lwE A B (some (.d (.int C))) (some T) x4 x5 (some (lef (C, []))) (some (fou (C, []))) a8 none none none) (set_to (lst_ev evs_nil (lim3 (by simp))) rfl rfl) ?_
  refine st_nx (G := G) (set_to k2 rfl rfl) (k _ ⟨C, row, x4, x5, s', rfl, h, k1⟩)
theorem law_s8 {A : Option SV} {ds : List Int} {e2 : Int} (i2 : idxD (.lst (ds.map .int)) (.int 2) = some (.int e2)) (HF : ∀ row C, Rw 16 row C → LP (seqE (tel 4) row (C, [])) (F "_law_tell" [.d (.lst row), lef (C, []), fou (C, [])])) {C : Int} {row : List D} {x4 x5 : Option SV} {s' : Tst} (h : Rw 15 row C) (hs : ∀ s1, seqE (tel 4) row (C, []) = .ok s1 → s' = s1) :
    Pst 16 A (some (.d (.lst (ds.map .int)))) (Kn.exec tb F [] (nthS fd_law.body 8) (lwE A (some (.d (.lst (ds.map .int)))) (some (.d (.int C))) (some (.d (.lst row))) x4 x5 (some (lef s')) (some (fou s')) (some (fvO (seqE (tel 4) row (C, [])))) none none none)) := by
  have hc1 := eq_ev (t := tb) (F := F) (ρ := lwE A (some (.d (.lst (ds.map .int)))) (some (.d (.int C))) (some (.d (.lst row))) x4 x5 (some (lef s')) (some (fou s')) (some (fvO (seqE (tel 4) row (C, [])))) none none none) (bin_ev (bin_ev (idx_ev (var_ev (i := 1) rfl) int_ev i2) int_ev (bF e2 7 (by decide) (by decide))) int_ev (bM _ 2 (by decide))) int_ev (eqI (e2 / 7 % 2) 1)
  have hv := row_vd h.gt h.vd
  cases ho : seqE (tel 4) row (C, []) with
  | error e =>
    rw [ho] at hc1
    refine ⟨C, row, x4, x5, s', ?_, ⟨h.gt, by have := h.len; omega, h.lo, h.hi⟩, hs⟩
    rw [ho]
    have hc := and_ev (q := false) hc1 fun _ => is_ev (t := tb) (F := F) (ρ := lwE A (some (.d (.lst (ds.map .int)))) (some (.d (.int C))) (some (.d (.lst row))) x4 x5 (some (lef s')) (some (fou s')) (some (fvO (.error e))) none none none) (a := .var 8) (r := false) (var_ev (x := .tup [.int (e.1 : Nat), .str e.2]) rfl) rfl
    rw [Bool.and_false] at hc
    exact ite_f hc nil_blk
  | ok s1 =>
    have e1 := hs s1 ho
    subst e1
    rw [ho] at hv hc1
    by_cases hp : e2 / 7 % 2 = 1
    · rw [decide_eq_true hp] at hc1
      let nt : D := .tup [.str (repK false), .int s'.1, .tup [.tup [.str [107]]]]
      have hc := and_ev (p := true) (q := true) hc1 fun _ => is_ev (t := tb) (F := F) (ρ := lwE A (some (.d (.lst (ds.map .int)))) (some (.d (.int C))) (some (.d (.lst row))) x4 x5 (some (lef s')) (some (fou s')) (some (fvO (.ok s'))) none none none) (a := .var 8) (var_ev rfl) rfl
      have v1 := hv.1
      have hrw : Rw 16 (row ++ [nt]) C := ⟨fun y hy => by
        rcases List.mem_append.mp hy with hy | hy
        · exact h.gt y hy
        · rw [List.mem_singleton.mp hy]
          exact gt_rep false s'.1 _ v1.lo (by have := v1.hi; omega) fun y hy => by
            rw [List.mem_singleton.mp hy]
            exact GtP.sm gt_k 3, by have := h.len; rw [List.length_append, List.length_singleton]; omega, h.lo, h.hi⟩
      have g1 : Kn.exec tb F [] (.set 3 (.bin .add (.var 3) (.lst (.cons (.tup (.cons (.str [116, 105, 109, 101, 115]) (.cons (.idv 6 (.int 0)) (.cons (.tup (.cons (.tup (.cons (.str [107]) .nil)) .nil)) .nil)))) .nil)))) (lwE A (some (.d (.lst (ds.map .int)))) (some (.d (.int C))) (some (.d (.lst row))) x4 x5 (some (lef s')) (some (fou s')) (some (fvO (.ok s'))) none none none) = .nx (lwE A (some (.d (.lst (ds.map .int)))) (some (.d (.int C))) (some (.lst ((row ++ [nt]).map .d))) x4 x5 (some (lef s')) (some (fou s')) (some (fvO (.ok s'))) none none none) :=
        set_to (bin_ev (var_ev rfl) (lst_ev (vs := [.d nt]) (evs_cons (tup_ev (vs := [.d (.str [116, 105, 109, 101, 115]), .d (.int s'.1), .d (.tup [.tup [.str [107]]])]) (evs_cons str_ev (evs_cons (idv_ev (s0 := lef s') (s := lef s') rfl int_ev rfl rfl) (evs_cons (const_ev rfl) evs_nil))) (lim3 (by simp))) evs_nil) (lim3 (by simp))) (bL row [nt] (lim3 (by have := h.len; rw [List.length_singleton]; omega)))) rfl rfl
      show Pst 16 A _ (Kn.exec tb F [] (nthS fd_law.body 8) (lwE A (some (.d (.lst (ds.map .int)))) (some (.d (.int C))) (some (.d (.lst row))) x4 x5 (some (lef s')) (some (fou s')) (some (fvO (.ok s'))) none none none))
      rw [show Kn.exec tb F [] (nthS fd_law.body 8) (lwE A (some (.d (.lst (ds.map .int)))) (some (.d (.int C))) (some (.d (.lst row))) x4 x5 (some (lef s')) (some (fou s')) (some (fvO (.ok s'))) none none none) = _ from ite_t hc rfl]
      refine st_nx (G := fun y => Pst 16 A (some (.d (.lst (ds.map .int)))) y) g1 ?_
      exact law_tells (by show D.lst (frzs _) = _; rw [frzs_dd]) hrw HF .nil (fun y => Pst 16 A (some (.d (.lst (ds.map .int)))) y) fun ρ hρ => by rw [nil_blk]; exact hρ
    · rw [decide_eq_false hp] at hc1
      refine ⟨C, row, x4, x5, s', ?_, ⟨h.gt, by have := h.len; omega, h.lo, h.hi⟩, hs⟩
      rw [ho]
      exact ite_f (and_ev (p := false) (q := false) hc1 fun h => nomatch h) nil_blk
end
end Kn

set_option Elab.async false
set_option linter.all false
set_option maxRecDepth 100000
set_option maxHeartbeats 4000000
/-! TH: the law, its end. -/
namespace Kn
open PySem L2
def fT : Except (Nat × List Nat) (List D) → SV
  | .ok _ => .d .non
  | .error e => fv e
theorem ews_ok : ∀ w ∈ eWs, okD (.str w) 49 = true := by
  intro w hw
  simp only [eWs, List.mem_cons, List.not_mem_nil, or_false] at hw
  rcases hw with rfl | rfl | rfl | rfl <;> rfl
section
variable {F : String → List SV → Cr}
theorem law_end {A B x4 x5 : Option SV} {C : Int} {row : List D} {s' : Tst} {o : Tot} (hs : ∀ s1, o = .ok s1 → s' = s1) (hv : VdO (C, []) o) (HT : TP 0 o (F "told_out" [.d (.tup row), .d (.int C)]))
    (HC : ∀ (w : List Nat) (i c : Int), F "_law_class" [.d (.exc "NoPiece" ["why", "stitch", "course", "number"] [.str w, .int i, .int c, .int (-1)])] = .ok (.d (.str [78, 111, 80, 105, 101, 99, 101])) [none]) :
    GB (Kn.exec tb F [] (.cons (nthS fd_law.body 9) (.cons (nthS fd_law.body 10) (.cons (nthS fd_law.body 11) (.cons (nthS fd_law.body 12) (.cons (nthS fd_law.body 13) (.cons (nthS fd_law.body 14) (.cons (nthS fd_law.body 15) (.cons (nthS fd_law.body 16) .nil))))))))
      (lwE A B (some (.d (.int C))) (some (.d (.lst row))) x4 x5 (some (lef s')) (some (fou s')) (some (fvO o)) none none none)) := by
  -- the fault
  have h9 : Kn.exec tb F [] (nthS fd_law.body 9) (lwE A B (some (.d (.int C))) (some (.d (.lst row))) x4 x5 (some (lef s')) (some (fou s')) (some (fvO o)) none none none) = .nx (lwE A B (some (.d (.int C))) (some (.d (.lst row))) x4 x5 (some (lef s')) (some (fou s')) (some (fT (finT o))) none none none) := by
    cases ho : o with
    | error e => exact ite_f (and_ev (p := false) (q := false) (is_ev (a := .var 8) (r := false) (var_ev (x := .tup [.int (e.1 : Nat), .str e.2]) rfl) rfl) fun h => nomatch h) nil_blk
    | ok s1 =>
      have e1 := hs s1 ho
      subst e1
      have hc := and_ev (p := true) (q := decide (0 < s'.1)) (is_ev (t := tb) (F := F) (ρ := lwE A B (some (.d (.int C))) (some (.d (.lst row))) x4 x5 (some (lef s')) (some (fou s')) (some (.d .non)) none none none) (a := .var 8) (r := true) (var_ev rfl) rfl) fun _ => cmp_ev (idv_ev (i := 6) (e := .int 0) (s0 := lef s') (s := lef s') (d := .int s'.1) rfl int_ev rfl rfl) (int_ev (i := 0)) (cgI _ _)
      rw [Bool.true_and] at hc
      by_cases hp : 0 < s'.1
      · rw [decide_eq_true hp] at hc
        rw [fin_pos hp]
        exact ite_t hc (one_nx (set_to (tup_ev (vs := [.d (.int (s'.2.length : Nat)), .d (.str wLeft)]) (evs_cons (len_own (xs := s'.2) rfl) (evs_cons str_ev evs_nil)) (lim3 (by simp))) rfl rfl))
      · rw [decide_eq_false hp] at hc
        rw [fin_neg hp]
        exact ite_f hc nil_blk
  refine st_nx h9 ?_
  refine st_nx (ρ1 := lwE A B (some (.d (.int C))) (some (.d (.lst row))) x4 x5 (some (lef s')) (some (fou s')) (some (fT (finT o))) (some (.d .non)) none none) (set_to (const_ev rfl) rfl rfl) ?_
  refine st_nx (ρ1 := lwE A B (some (.d (.int C))) (some (.d (.lst row))) x4 x5 (some (lef s')) (some (fou s')) (some (fT (finT o))) (some (.d .non)) (some (.d .non)) none) (set_to (const_ev rfl) rfl rfl) ?_
  have harg : ∀ (a b c d e f : Option SV), evs tb F (.cons (.blt .tuple (.cons (.var 3) .nil)) (.cons (.var 2) .nil)) (lwE A B (some (.d (.int C))) (some (.d (.lst row))) x4 x5 a b c d e f) = .ok [.d (.tup row), .d (.int C)] (lwE A B (some (.d (.int C))) (some (.d (.lst row))) x4 x5 a b c d e f) := fun a b c d e f =>
    evs_cons (blt1_ev (var_ev rfl) rfl) (evs_cons (var_ev rfl) evs_nil)
  unfold TP at HT
  cases hf : finT o with
  | error e =>
    rw [hf] at HT
    have HT : F "told_out" [.d (.tup row), .d (.int C)] = .exc (NP 0 e) := HT
    have hw : e.2 ∈ eWs := by
      cases o with
      | error e' =>
        cases hf
        exact hv.1
      | ok s1 =>
        by_cases hp : 0 < s1.1
        · rw [fin_pos hp] at hf
          cases hf
          simp [eWs]
        · rw [fin_neg hp] at hf
          cases hf
    refine st_nx (ρ1 := lwE A B (some (.d (.int C))) (some (.d (.lst row))) x4 x5 (some (lef s')) (some (fou s')) (some (fv e)) (some (.d (.exc "NoPiece" ["why", "stitch", "course", "number"] [.str e.2, .int (e.1 : Nat), .int 0, .int (-1)]))) (some (.d .non)) none) (try_exc (x := NP 0 e) (set_exc (call_exc rfl (harg _ _ _ _ _ _) HT)) rfl rfl rfl) ?_
    have hret : ev tb F (.cmp .eq (.tup (.cons (.fld (.var 9) "stitch") (.cons (.fld (.var 9) "why") .nil))) (.var 8)) (lwE A B (some (.d (.int C))) (some (.d (.lst row))) x4 x5 (some (lef s')) (some (fou s')) (some (fv e)) (some (.d (.exc "NoPiece" ["why", "stitch", "course", "number"] [.str e.2, .int (e.1 : Nat), .int 0, .int (-1)]))) (some (.d .non)) none) = .ok (.d (.bl true)) (lwE A B (some (.d (.int C))) (some (.d (.lst row))) x4 x5 (some (lef s')) (some (fou s')) (some (fv e)) (some (.d (.exc "NoPiece" ["why", "stitch", "course", "number"] [.str e.2, .int (e.1 : Nat), .int 0, .int (-1)]))) (some (.d .non)) none) :=
      eq_ev (tup_ev (vs := [.d (.int (e.1 : Nat)), .d (.str e.2)]) (evs_cons (fld_ev (d := .int (e.1 : Nat)) (var_ev rfl) rfl) (evs_cons (fld_ev (d := .str e.2) (var_ev rfl) rfl) evs_nil)) (lim3 (by simp))) (var_ev (x := .tup [.int (e.1 : Nat), .str e.2]) rfl) (eq_self (x := .tup [.int (e.1 : Nat), .str e.2]) (by
        show (okD (.int (e.1 : Nat)) 49 && (okD (.str e.2) 49 && true)) = true
        rw [ews_ok _ hw]
        rfl))
    exact st_rt (ite_t (isnot_ev (r := false) (var_ev (x := .exc "NoPiece" ["why", "stitch", "course", "number"] [.str e.2, .int (e.1 : Nat), .int 0, .int (-1)]) rfl) rfl)
      (st_nx (G := fun y => y = _) (ite_f (or_ev (p := false) (q := false) (ne_ev (r := true) (call_ev rfl (evs_cons (var_ev (x := .exc "NoPiece" ["why", "stitch", "course", "number"] [.str e.2, .int (e.1 : Nat), .int 0, .int (-1)]) rfl) evs_nil) (HC e.2 (e.1 : Nat) 0)) str_ev (eqS _)) fun _ => ne_ev (r := true) (fld_ev (d := .int 0) (var_ev (x := .exc "NoPiece" ["why", "stitch", "course", "number"] [.str e.2, .int (e.1 : Nat), .int 0, .int (-1)]) rfl) rfl) int_ev rfl) nil_blk) (ret_blk hret))) ⟨_, rfl⟩
  | ok xs =>
    rw [hf] at HT
    obtain ⟨outs, HT⟩ := HT
    have hxs : xs = s'.2 ∧ ∀ d ∈ s'.2, okD d 49 = true := by
      cases o with
      | error e' => cases hf
      | ok s1 =>
        rw [hs s1 rfl]
        by_cases hp : 0 < s1.1
        · rw [fin_pos hp] at hf
          cases hf
        · rw [fin_neg hp] at hf
          cases hf
          exact ⟨rfl, hv.1.ok⟩
    obtain ⟨rfl, hok⟩ := hxs
    have hself : eqD (.lst s'.2) (.lst s'.2) = some true := eq_self (x := .lst s'.2) (by
      show okDs s'.2 49 = true
      exact okDs_all hok)
    refine st_nx (ρ1 := lwE A B (some (.d (.int C))) (some (.d (.lst row))) x4 x5 (some (lef s')) (some (fou s')) (some (.d .non)) (some (.d .non)) (some (.lst (s'.2.map .d))) none) (try_nx (one_nx (set_to (call_ev rfl (harg _ _ _ _ _ _) HT) rfl rfl)) rfl rfl) ?_
    refine st_nx (ρ1 := lwE A B (some (.d (.int C))) (some (.d (.lst row))) x4 x5 (some (lef s')) (some (fou s')) (some (.d .non)) (some (.d .non)) (some (.lst (s'.2.map .d))) none) (ite_f (isnot_ev (r := true) (var_ev rfl) rfl) nil_blk) ?_
    refine st_nx (ρ1 := lwE A B (some (.d (.int C))) (some (.d (.lst row))) x4 x5 (some (lef s')) (some (fou s')) (some (.d .non)) (some (.d .non)) (some (.lst (s'.2.map .d))) none) (ite_f (bor_ev (x := .bl false) (or_ev (p := false) (q := false) (isnot_ev (r := true) (var_ev (frzE_d rfl)) rfl) fun _ => or_ev (p := false) (q := false) (not_ev (p := true) (blt_ev (evs_cons (var_ev (frzE_at (xs := s'.2) rfl)) (evs_cons tyn_ev evs_nil)) rfl)) fun _ => ne_ev (r := true) (var_ev (frzE_at (xs := s'.2) rfl)) (var_ev (frzE_at (xs := s'.2) rfl)) hself) rfl) nil_blk) ?_
    have hlen : s'.2.length ≤ 40 := by
      cases o with
      | error e' => cases hf
      | ok s1 =>
        rw [hs s1 rfl]
        exact hv.1.len
    refine st_nx (ρ1 := lwE A B (some (.d (.int C))) (some (.d (.lst row))) x4 x5 (some (lef s')) (some (fou s')) (some (.d .non)) (some (.d .non)) (some (.lst (s'.2.map .d ++ [.d (.str [120])]))) none) (app_ok (xs0 := s'.2.map .d) (xs := s'.2.map .d) rfl str_ev rfl (by rw [List.length_map]; have : lim = 1000000 := rfl; omega)) ?_
    have h2 : evs tb F (.cons (.blt .tuple (.cons (.var 3) .nil)) (.cons (.var 2) .nil)) (frzE (lwE A B (some (.d (.int C))) (some (.d (.lst row))) x4 x5 (some (lef s')) (some (fou s')) (some (.d .non)) (some (.d .non)) (some (.lst (s'.2.map .d ++ [.d (.str [120])]))) none)) = .ok [.d (.tup row), .d (.int C)] (frzE (lwE A B (some (.d (.int C))) (some (.d (.lst row))) x4 x5 (some (lef s')) (some (fou s')) (some (.d .non)) (some (.d .non)) (some (.lst (s'.2.map .d ++ [.d (.str [120])]))) none)) :=
      evs_cons (blt1_ev (var_ev (frzE_d (i := 3) rfl)) rfl) (evs_cons (var_ev (frzE_d (i := 2) rfl)) evs_nil)
    have hret := eq_ev (call_ev (f := "told_out") (t := tb) rfl h2 HT) (var_ev (frzE_at (i := 7) (xs := s'.2) rfl)) (r := true) (by
      show eqD (.lst (frzs (s'.2.map .d))) (.lst s'.2) = some true
      rw [frzs_dd]
      exact hself)
    exact ⟨_, ret_blk (bor_ev hret rfl)⟩
end
theorem law_true : ∀ ns : List Int, ns.length ≤ 63 → ∃ outs, callN tb pt 20 "law" [.d (.arg ns)] = .ok (.d (.bl true)) outs := by
  intro ns hns
  have key : GB (Kn.exec tb (callN tb pt 19) [] fd_law.body ([SV.d (.arg ns)].map some ++ List.replicate (fd_law.n - fd_law.np) none)) := by
    obtain ⟨ds, hl, hp, o, hd⟩ := draws 18 ns 20 (by decide)
    have hix : ∀ i : Nat, i < 20 → ∃ z, 0 ≤ z ∧ idxD (.lst (ds.map .int)) (.int (i : Int)) = some (.int z) := fun i hi => by
      have h2 : i < ds.length := by omega
      refine ⟨ds[i], hp _ (List.getElem_mem h2), ?_⟩
      exact atI_nat (j := i) (by rw [List.getElem?_map, List.getElem?_eq_getElem h2]; rfl)
    obtain ⟨e0, he0, i0⟩ := hix 0 (by decide)
    obtain ⟨e1, he1, i1⟩ := hix 1 (by decide)
    obtain ⟨e2, he2, i2⟩ := hix 2 (by decide)
    obtain ⟨e3, he3, i3⟩ := hix 3 (by decide)
    have i0 : idxD (.lst (ds.map .int)) (.int 0) = some (.int e0) := i0
    have i1 : idxD (.lst (ds.map .int)) (.int 1) = some (.int e1) := i1
    have i2 : idxD (.lst (ds.map .int)) (.int 2) = some (.int e2) := i2
    have i3 : idxD (.lst (ds.map .int)) (.int 3) = some (.int e3) := i3
    obtain ⟨m, hm, hm5⟩ : ∃ m : Nat, 1 + e1 % 5 = m ∧ m ≤ 5 := ⟨(1 + e1 % 5).toNat, by omega, by omega⟩
    obtain ⟨ps, hps, hps2, o2, htr⟩ := law_trees_at 4 12 (ds.drop 4) m (fun z hz => hp z (List.mem_of_mem_drop hz)) (by rw [List.length_drop]; omega) (by omega)
    have htr : callN tb pt 19 "_law_trees" [.d (.lst ((ds.drop 4).map .int)), .d (.int m), .d (.int 4)] = .ok (.d (.lst (ps.map fun p : Tp => p.1))) o2 := htr
    have HF : ∀ b row C, Rw b row C → LP (seqE (tel 4) row (C, [])) (callN tb pt 19 "_law_tell" [.d (.lst row), lef (C, []), fou (C, [])]) := fun b row C h => law_tell_at 4 13 (.lst row) row rfl h.gt h.vd
    have HT : ∀ b row C, Rw b row C → TP 0 (seqE (tel 4) row (C, [])) (callN tb pt 19 "told_out" [.d (.tup row), .d (.int C)]) := fun b row C h => told_out_ok 4 3 C (.tup row) row rfl h.gt h.vd
    have HC := class_np 18
    have HC : ∀ (w : List Nat) (i c : Int), callN tb pt 19 "_law_class" [.d (.exc "NoPiece" ["why", "stitch", "course", "number"] [.str w, .int i, .int c, .int (-1)])] = .ok (.d (.str [78, 111, 80, 105, 101, 99, 101])) [none] := HC
    have hd : callN tb pt 19 "_law_draws" [.d (.arg ns), .d (.int 20)] = .ok (.d (.lst (ds.map .int))) o := hd
    have hrw : Rw 15 (ps.map fun p : Tp => p.1) (1 + e0 % 16) := ⟨fun y hy => by
      obtain ⟨p, hp', rfl⟩ := List.mem_map.mp hy
      exact GtP.of (hps2 p hp'), by rw [List.length_map]; omega, by omega, by omega⟩
    generalize callN tb pt 19 = F at *
    obtain ⟨A, hA⟩ : ∃ A, A = some (SV.d (.arg ns)) := ⟨_, rfl⟩
    refine st_nx (ρ1 := lwE A (some (.d (.lst (ds.map .int)))) none none none none none none none none none none) (set_to (call_ev rfl (evs_cons (var_ev rfl) (evs_cons int_ev evs_nil)) hd) rfl (by rw [hA]; rfl)) ?_
    refine st_nx (ρ1 := lwE A (some (.d (.lst (ds.map .int)))) (some (.d (.int (1 + e0 % 16)))) none none none none none none none none none) (set_to (bin_ev int_ev (bin_ev (idx_ev (var_ev (i := 1) rfl) int_ev i0) int_ev (bM _ _ (by decide))) (bA _ _)) rfl rfl) ?_
    have hsl : ev tb F (.slc (.var 1) (.int 4) .emp) (lwE A (some (.d (.lst (ds.map .int)))) (some (.d (.int (1 + e0 % 16)))) none none none none none none none none none) = .ok (.lst (((ds.drop 4).map D.int).map .d)) (lwE A (some (.d (.lst (ds.map .int)))) (some (.d (.int (1 + e0 % 16)))) none none none none none none none none none) :=
      slc_lo (i := 4) rfl (var_ev rfl) int_ev rfl (by
        show some (SV.lst ((cutL (ds.map D.int) (some ((4 : Nat) : Int)) none).map .d)) = _
        simp only [cut_lo, List.map_drop])
    refine st_nx (ρ1 := lwE A (some (.d (.lst (ds.map .int)))) (some (.d (.int (1 + e0 % 16)))) (some (.d (.lst (ps.map fun p : Tp => p.1)))) none none none none none none none none) (set_to (call_ev rfl (evs_cons hsl (evs_cons (bin_ev int_ev (bin_ev (idx_ev (var_ev (i := 1) rfl) int_ev i1) int_ev (bM _ _ (by decide))) (v := .d (.int m)) (by rw [← hm]; rfl)) (evs_cons int_ev evs_nil))) (by
      show F "_law_trees" [.d (.lst (frzs (((ds.drop 4).map D.int).map .d))), .d (.int m), .d (.int 4)] = _
      rw [frzs_dd]
      exact htr)) rfl rfl) ?_
    obtain ⟨C3, T3, row3, x4, x5, q3, hT3, hrw3⟩ := law_s3 (F := F) (A := A) i2 i3 he3 (C := 1 + e0 % 16) (T := .d (.lst (ps.map fun p : Tp => p.1))) rfl hrw
    refine st_nx q3 ?_
    obtain ⟨C4, T4, row4, y4, y5, q4, hT4, hrw4⟩ := law_s4 (F := F) (A := A) (x4 := x4) i0 i2 i3 he0 (C := C3) (T := T3) (row := row3) x5 hT3 hrw3
    refine st_nx q4 ?_
    refine law_tells (F := F) (b := 15) hT4 hrw4 (HF 15) _ GB fun ρ hρ => ?_
    obtain ⟨C, row, x4, x5, s', eρ, hr, hs⟩ := hρ
    cases eρ
    obtain ⟨C, row, x4, x5, s', q8, hr, hs⟩ := law_s8 (F := F) (A := A) (x4 := x4) (x5 := x5) i2 (HF 16) hr hs
    refine st_nx q8 ?_
    exact law_end hs (row_vd hr.gt hr.vd) (HT 16 row C hr) HC
  obtain ⟨ρ', h⟩ := key
  exact run_rt 19 pt_law ⟨rfl, by decide, rfl, rfl⟩ h
end Kn

set_option Elab.async false
set_option linter.all false
/-! the end -/
open PySem PySem.W PyProof.Rows
set_option maxRecDepth 100000 in
set_option maxHeartbeats 0 in
theorem PySem.Challenge.cw_loopmill_k54_told_out_holds : PySem.Challenge.rw_loopmill_k54_told_out.Holds := by
  w_on; o_law; k_head; (case hw => w_witness2)
  k_fill
  refine L2.walk_of (l := PySem.Challenge.rw_loopmill_k54_told_out) (n := 63) (k := 50) (x := "_law_script") (CX := fun w => L2.CX PySem.Challenge.pw_loopmill_k54_told_out w) (sp := fun w => Kn.spLaw _) rfl (by decide) rfl ⟨rfl, by decide, by decide⟩ (fun w h Y => PySem.W.kIn_of Y) ?F (fun _ _ a ns hl _ hS => ⟨a, ns, rfl, hS, hl, fun _ => rfl⟩) (fun _ _ _ _ _ h => Kn.cx_false h)
  case F =>
    intro w mg fa h KX G hmg
    refine' Kn.all_mk KX G hmg ?aC0 ?aC1 ?aC2 ?aC3 ?aC4 ?aC5 ?aC6 ?aC7 ?aC8 ?aC9 ?aC10 ?aC11 ?aC12 ?aC13 ?aC14 ?aC15 ?aC16 ?aC17 ?aC18 ?aC19 ?aC20 ?a0 ?a1 ?a2 ?a3 ?a4 ?a5 ?a6 ?a7 ?a8 ?a13 ?a14 ?a15 ?a16 ?a17 ?a18 ?a21 ?m0 ?m1 ?m2 ?m3 ?m4 ?m5 ?m6 ?m7 ?m8 ?m9 ?m10 ?n0 ?n1 ?n2 ?n3 ?l0 ?c0 ?k0 ?l1 ?c1 ?k1 ?l2 ?c2 ?k2 ?l3 ?c3 ?k3 ?l4 ?c4 ?k4 ?l5 ?c5 ?k5 ?l6 ?c6 ?k6 ?l7 ?c7 ?k7 ?l8 ?c8 ?k8 ?l9 ?c9 ?k9 ?i9 ?l10 ?c10 ?k10 ?i10 ?l11 ?c11 ?k11 ?i11 ?l12 ?c12 ?k12 ?i12 ?l13 ?c13 ?k13 ?l14 ?c14 ?k14 ?l15 ?c15 ?k15 ?l16 ?c16 ?k16 ?l17 ?c17 ?k17 ?l18 ?c18 ?k18 ?l19 ?c19 ?k19 ?i19 ?l20 ?c20 ?k20 ?i20 ?l21 ?c21 ?k21 ?l22 ?c22 ?k22 ?i22 ?l23 ?c23 ?k23 ?i23 ?l24 ?c24 ?k24 ?i24 ?l25 ?c25 ?k25 ?i25 ?l26 ?c26 ?k26 ?i26 ?l27 ?c27 ?k27 ?i27 ?pg0 ?hd0 ?po0 ?sa0 ?mk0 ?kc0 ?nf0_first ?nf0_front ?nf0_second ?pg1 ?hd1 ?po1 ?sa1 ?mk1 ?kc1 ?in1 ?xo1 ?pg12 ?hd12 ?po12 ?sa12 ?mk12 ?kc12 ?in12 ?xo12 ?pg13 ?hd13 ?po13 ?sa13 ?mk13 ?kc13 ?in13 ?xo13 ?pg14 ?hd14 ?po14 ?sa14 ?mk14 ?kc14 ?in14 ?xo14 ?pg15 ?hd15 ?po15 ?sa15 ?mk15 ?kc15 ?in15 ?xo15 ?pg16 ?hd16 ?po16 ?sa16 ?mk16 ?kc16 ?nf16_still ?nf16_course ?nf16_trees ?pg17 ?hd17 ?po17 ?sa17 ?mk17 ?kc17 ?nf17_times_told ?nf17_row ?pg18 ?hd18 ?po18 ?sa18 ?mk18 ?kc18 ?nf18_times_told ?nf18_row ?xl7 ?xsa7 ?xkc7 ?xga7 ?xgg7 ?xha7 ?xhm7 ?xve7 ?xin7 ?xnf7 ?xnf7why ?xnf7stitch ?xnf7course ?xl9 ?xsa9 ?xkc9 ?xga9 ?xgg9 ?xha9 ?xhm9 ?xve9 ?xin9 ?xnf9 ?xnf9line ?bR ?bG ?bF ?lXT ?cXT ?kXT ?dXT ?tXT ?lXP ?cXP ?kXP ?tXP ?lX ?cX ?kX ?dX ?tX ?vX ?xbe2 ?xty2 ?xhd2 ?xic2 ?xbe3 ?xty3 ?xhd3 ?xic3 ?xbe4 ?xty4 ?xhd4 ?xic4 ?xbe5 ?xty5 ?xhd5 ?xic5 ?xbe6 ?xty6 ?xhd6 ?xic6 ?xbe7 ?xty7 ?xhd7 ?xic7 ?xbe8 ?xty8 ?xhd8 ?xic8 ?xbe9 ?xty9 ?xhd9 ?xic9 ?xbe10 ?xty10 ?xhd10 ?xic10 ?xbe11 ?xty11 ?xhd11 ?xic11 ?xbe19 ?xty19 ?xhd19 ?xic19 ?xbe20 ?xty20 ?xhd20 ?xic20 ?xp0 ?xp1 ?xne1 ?xp2 ?xne2 ?xp3 ?xne3 ?xp4 ?xne4 ?xp5 ?xp6 ?xne6 ?xp7 ?xne7 ?xp8 ?xne8 ?xp9 ?xne9 ?xp10 ?xne10 ?xp11 ?xne11 ?xp12 ?xp13 ?xne13 ?xp14 ?xne14 ?xp15 ?xne15 ?xp16 ?xne16 ?xp17 ?xne17 ?xp18 ?xne18 ?xp19 ?xp20 ?xne20 ?xp21 ?xne21 ?xp22 ?xne22 ?xp23 ?xne23 ?xg ?xt ?g11 ?g12 ?g13 ?g14 ?z_len ?z_str ?z_int ?z_abs ?z_max ?z_min ?z_all ?z_any ?z_list ?z_tuple ?z_isinstance ?z_bool ?z_ValueError ?z_range ?z_enumerate ?z_zip Kn.law_true
    (case aC0 => k_is)
    (case aC1 => k_is)
    (case aC2 => k_is)
    (case aC3 => k_is)
    (case aC4 => k_is)
    (case aC5 => k_is)
    (case aC6 => k_is)
    (case aC7 => k_is)
    (case aC8 => k_is)
    (case aC9 => k_is)
    (case aC10 => k_is)
    (case aC11 => k_is)
    (case aC12 => k_is)
    (case aC13 => k_is)
    (case aC14 => k_is)
    (case aC15 => k_is)
    (case aC16 => k_is)
    (case aC17 => k_is)
    (case aC18 => k_is)
    (case aC19 => k_is)
    (case aC20 => k_is)
    (case a0 => k_is)
    (case a1 => k_is)
    (case a2 => k_is)
    (case a3 => k_is)
    (case a4 => k_is)
    (case a5 => k_is)
    (case a6 => k_is)
    (case a7 => k_is)
    (case a8 => k_is)
    (case a13 => k_is)
    (case a14 => k_is)
    (case a15 => k_is)
    (case a16 => k_is)
    (case a17 => k_is)
    (case a18 => k_is)
    (case a21 => k_is)
    (case m0 => k_is)
    (case m1 => k_is)
    (case m2 => k_is)
    (case m3 => k_is)
    (case m4 => k_is)
    (case m5 => k_is)
    (case m6 => k_is)
    (case m7 => k_is)
    (case m8 => k_is)
    (case m9 => k_is)
    (case m10 => k_is)
    (case n0 => k_is)
    (case n1 => k_is)
    (case n2 => k_is)
    (case n3 => k_is)
    (case l0 => k_is)
    (case c0 => k_is)
    (case k0 => k_is)
    (case l1 => k_is)
    (case c1 => k_is)
    (case k1 => k_is)
    (case l2 => k_is)
    (case c2 => k_is)
    (case k2 => k_is)
    (case l3 => k_is)
    (case c3 => k_is)
    (case k3 => k_is)
    (case l4 => k_is)
    (case c4 => k_is)
    (case k4 => k_is)
    (case l5 => k_is)
    (case c5 => k_is)
    (case k5 => k_is)
    (case l6 => k_is)
    (case c6 => k_is)
    (case k6 => k_is)
    (case l7 => k_is)
    (case c7 => k_is)
    (case k7 => k_is)
    (case l8 => k_is)
    (case c8 => k_is)
    (case k8 => k_is)
    (case l9 => k_is)
    (case c9 => k_is)
    (case k9 => k_is)
    (case i9 => k_is)
    (case l10 => k_is)
    (case c10 => k_is)
    (case k10 => k_is)
    (case i10 => k_is)
    (case l11 => k_is)
    (case c11 => k_is)
    (case k11 => k_is)
    (case i11 => k_is)
    (case l12 => k_is)
    (case c12 => k_is)
    (case k12 => k_is)
    (case i12 => k_is)
    (case l13 => k_is)
    (case c13 => k_is)
    (case k13 => k_is)
    (case l14 => k_is)
    (case c14 => k_is)
    (case k14 => k_is)
    (case l15 => k_is)
    (case c15 => k_is)
    (case k15 => k_is)
    (case l16 => k_is)
    (case c16 => k_is)
    (case k16 => k_is)
    (case l17 => k_is)
    (case c17 => k_is)
    (case k17 => k_is)
    (case l18 => k_is)
    (case c18 => k_is)
    (case k18 => k_is)
    (case l19 => k_is)
    (case c19 => k_is)
    (case k19 => k_is)
    (case i19 => k_is)
    (case l20 => k_is)
    (case c20 => k_is)
    (case k20 => k_is)
    (case i20 => k_is)
    (case l21 => k_is)
    (case c21 => k_is)
    (case k21 => k_is)
    (case l22 => k_is)
    (case c22 => k_is)
    (case k22 => k_is)
    (case i22 => k_is)
    (case l23 => k_is)
    (case c23 => k_is)
    (case k23 => k_is)
    (case i23 => k_is)
    (case l24 => k_is)
    (case c24 => k_is)
    (case k24 => k_is)
    (case i24 => k_is)
    (case l25 => k_is)
    (case c25 => k_is)
    (case k25 => k_is)
    (case i25 => k_is)
    (case l26 => k_is)
    (case c26 => k_is)
    (case k26 => k_is)
    (case i26 => k_is)
    (case l27 => k_is)
    (case c27 => k_is)
    (case k27 => k_is)
    (case i27 => k_is)
    (case pg0 => k_is)
    (case hd0 => k_is)
    (case po0 => k_is)
    (case sa0 => k_is)
    (case mk0 => k_is)
    (case kc0 => k_is)
    (case nf0_first => k_is)
    (case nf0_front => k_is)
    (case nf0_second => k_is)
    (case pg1 => k_is)
    (case hd1 => k_is)
    (case po1 => k_is)
    (case sa1 => k_is)
    (case mk1 => k_is)
    (case kc1 => k_is)
    (case in1 => k_is)
    (case xo1 => k_is)
    (case pg12 => k_is)
    (case hd12 => k_is)
    (case po12 => k_is)
    (case sa12 => k_is)
    (case mk12 => k_is)
    (case kc12 => k_is)
    (case in12 => k_is)
    (case xo12 => k_is)
    (case pg13 => k_is)
    (case hd13 => k_is)
    (case po13 => k_is)
    (case sa13 => k_is)
    (case mk13 => k_is)
    (case kc13 => k_is)
    (case in13 => k_is)
    (case xo13 => k_is)
    (case pg14 => k_is)
    (case hd14 => k_is)
    (case po14 => k_is)
    (case sa14 => k_is)
    (case mk14 => k_is)
    (case kc14 => k_is)
    (case in14 => k_is)
    (case xo14 => k_is)
    (case pg15 => k_is)
    (case hd15 => k_is)
    (case po15 => k_is)
    (case sa15 => k_is)
    (case mk15 => k_is)
    (case kc15 => k_is)
    (case in15 => k_is)
    (case xo15 => k_is)
    (case pg16 => k_is)
    (case hd16 => k_is)
    (case po16 => k_is)
    (case sa16 => k_is)
    (case mk16 => k_is)
    (case kc16 => k_is)
    (case nf16_still => k_is)
    (case nf16_course => k_is)
    (case nf16_trees => k_is)
    (case pg17 => k_is)
    (case hd17 => k_is)
    (case po17 => k_is)
    (case sa17 => k_is)
    (case mk17 => k_is)
    (case kc17 => k_is)
    (case nf17_times_told => k_is)
    (case nf17_row => k_is)
    (case pg18 => k_is)
    (case hd18 => k_is)
    (case po18 => k_is)
    (case sa18 => k_is)
    (case mk18 => k_is)
    (case kc18 => k_is)
    (case nf18_times_told => k_is)
    (case nf18_row => k_is)
    (case xl7 => k_is)
    (case xsa7 => k_is)
    (case xkc7 => k_is)
    (case xga7 => k_is)
    (case xgg7 => k_is)
    (case xha7 => k_is)
    (case xhm7 => k_is)
    (case xve7 => k_is)
    (case xin7 => k_is)
    (case xnf7 => k_is)
    (case xnf7why => k_is)
    (case xnf7stitch => k_is)
    (case xnf7course => k_is)
    (case xl9 => k_is)
    (case xsa9 => k_is)
    (case xkc9 => k_is)
    (case xga9 => k_is)
    (case xgg9 => k_is)
    (case xha9 => k_is)
    (case xhm9 => k_is)
    (case xve9 => k_is)
    (case xin9 => k_is)
    (case xnf9 => k_is)
    (case xnf9line => k_is)
    (case bR => k_is)
    (case bG => k_is)
    (case bF => k_is)
    (case lXT => k_is)
    (case cXT => k_is)
    (case kXT => k_is)
    (case dXT => k_is)
    (case tXT => k_is)
    (case lXP => k_is)
    (case cXP => k_is)
    (case kXP => k_is)
    (case tXP => k_is)
    (case lX => k_is)
    (case cX => k_is)
    (case kX => k_is)
    (case dX => k_is)
    (case tX => k_is)
    (case vX => first | k_is | rfl | decide +kernel)
    (case xbe2 => k_is)
    (case xty2 => k_is)
    (case xhd2 => k_is)
    (case xic2 => k_is)
    (case xbe3 => k_is)
    (case xty3 => k_is)
    (case xhd3 => k_is)
    (case xic3 => k_is)
    (case xbe4 => k_is)
    (case xty4 => k_is)
    (case xhd4 => k_is)
    (case xic4 => k_is)
    (case xbe5 => k_is)
    (case xty5 => k_is)
    (case xhd5 => k_is)
    (case xic5 => k_is)
    (case xbe6 => k_is)
    (case xty6 => k_is)
    (case xhd6 => k_is)
    (case xic6 => k_is)
    (case xbe7 => k_is)
    (case xty7 => k_is)
    (case xhd7 => k_is)
    (case xic7 => k_is)
    (case xbe8 => k_is)
    (case xty8 => k_is)
    (case xhd8 => k_is)
    (case xic8 => k_is)
    (case xbe9 => k_is)
    (case xty9 => k_is)
    (case xhd9 => k_is)
    (case xic9 => k_is)
    (case xbe10 => k_is)
    (case xty10 => k_is)
    (case xhd10 => k_is)
    (case xic10 => k_is)
    (case xbe11 => k_is)
    (case xty11 => k_is)
    (case xhd11 => k_is)
    (case xic11 => k_is)
    (case xbe19 => k_is)
    (case xty19 => k_is)
    (case xhd19 => k_is)
    (case xic19 => k_is)
    (case xbe20 => k_is)
    (case xty20 => k_is)
    (case xhd20 => k_is)
    (case xic20 => k_is)
    (case xp0 => k_is)
    (case xp1 => k_is)
    (case xne1 => rfl)
    (case xp2 => k_is)
    (case xne2 => rfl)
    (case xp3 => k_is)
    (case xne3 => rfl)
    (case xp4 => k_is)
    (case xne4 => rfl)
    (case xp5 => k_is)
    (case xp6 => k_is)
    (case xne6 => rfl)
    (case xp7 => k_is)
    (case xne7 => rfl)
    (case xp8 => k_is)
    (case xne8 => rfl)
    (case xp9 => k_is)
    (case xne9 => rfl)
    (case xp10 => k_is)
    (case xne10 => rfl)
    (case xp11 => k_is)
    (case xne11 => rfl)
    (case xp12 => k_is)
    (case xp13 => k_is)
    (case xne13 => rfl)
    (case xp14 => k_is)
    (case xne14 => rfl)
    (case xp15 => k_is)
    (case xne15 => rfl)
    (case xp16 => k_is)
    (case xne16 => rfl)
    (case xp17 => k_is)
    (case xne17 => rfl)
    (case xp18 => k_is)
    (case xne18 => rfl)
    (case xp19 => k_is)
    (case xp20 => k_is)
    (case xne20 => rfl)
    (case xp21 => k_is)
    (case xne21 => rfl)
    (case xp22 => k_is)
    (case xne22 => rfl)
    (case xp23 => k_is)
    (case xne23 => rfl)
    (case xg => k_is)
    (case xt => k_is)
    (case g11 => k_is)
    (case g12 => k_is)
    (case g13 => k_is)
    (case g14 => k_is)
    (case z_len => k_is)
    (case z_str => k_is)
    (case z_int => k_is)
    (case z_abs => k_is)
    (case z_max => k_is)
    (case z_min => k_is)
    (case z_all => k_is)
    (case z_any => k_is)
    (case z_list => k_is)
    (case z_tuple => k_is)
    (case z_isinstance => k_is)
    (case z_bool => k_is)
    (case z_ValueError => k_is)
    (case z_range => k_is)
    (case z_enumerate => k_is)
    (case z_zip => k_is)

