import PyProof.Rows.All
import Wide.All
import OpenK.AllK
import Wide.FinOn
import HandS.ForMost
import HandS.ForExc
import HandS.WordsExc
import HandS.Codes
import HandS.TupAny
import HandS.RaiseMore
import HandS.IsInst
import HandS.Deep
import HandS.CallSlots
import HandS.ExcField
import HandS.ExcInit
import HandS.SetFor
import KE.KExcIs
import HandS.ExcValue
import HandS.Defaults
import HandS.Style
import HandS.ClsMeth
import KE.IntTextLaws
import PySem.Challenge.RW_loopmill_k03_deeds_in_texts
set_option Elab.async false
set_option linter.all false
set_option maxRecDepth 100000
set_option maxHeartbeats 4000000
/-! Ev: a core language, its values, its evaluator. -/
namespace Kn
open PySem L2

/-- a key: a number, a text -/
inductive Kx where
  | i (n : Int) | s (l : List Nat)
deriving DecidableEq
/-- data that nobody changes any more -/
inductive D where
  | non | bl (b : Bool) | int (i : Int) | str (s : List Nat) | ty (n : String) | cls (c : String)
  | arg (ns : List Int) | tup (xs : List D) | lst (xs : List D) | ins (c : String) (ns : List String) (xs : List D)
  | exc (c : String) (ns : List String) (xs : List D) | dk (ks : List Kx) (xs : List D)
/-- what a slot owns -/
inductive SV where
  | d (x : D) | lst (xs : List SV) | ins (c : String) (ns : List String) (xs : List SV) | dk (ks : List Kx) (xs : List SV)
mutual
def frz : SV → D
  | .d x => x
  | .lst xs => .lst (frzs xs)
  | .ins c ns xs => .ins c ns (frzs xs)
  | .dk ks xs => .dk ks (frzs xs)
def frzs : List SV → List D
  | [] => []
  | x :: xs => frz x :: frzs xs
end
abbrev Env := List (Option SV)
structure Xc where
  c : String
  ns : List String
  xs : List D
inductive R (α : Type) where
  | ok (a : α) (ρ : Env) | exc (x : Xc) (ρ : Env) | no
def R.bind {α β : Type} (r : R α) (f : α → Env → R β) : R β := match r with
  | .ok a ρ => f a ρ
  | .exc x ρ => .exc x ρ
  | .no => .no
def R.of {α : Type} (o : Option α) (ρ : Env) : R α := match o with
  | some a => .ok a ρ
  | none => .no
inductive Cr where
  | ok (r : SV) (outs : List (Option SV)) | exc (x : Xc) | no
inductive Fl where
  | nx (ρ : Env) | rt (r : SV) (ρ : Env) | bk (ρ : Env) | ct (ρ : Env) | exc (x : Xc) (ρ : Env) | no

inductive BOp where | add | sub | mul | fdiv | mod
inductive COp where | eq | ne | lt | le | gt | ge | is_ | isnot | in_ | notin
inductive Bf where | len | str | int | abs | max | min | all | any | list | tuple | isinstance
inductive Bm where | join | upper | count | index | split | startswith
inductive Tg where | nm (i : Nat) | tp (is : List Nat)

/-- expressions; nil and cons are lists of expressions -/
inductive E where
  | var (i : Nat) | non | bl (b : Bool) | int (i : Int) | str (s : List Nat) | glb (x : String) | tyn (n : String)
  | tup (es : E) | lst (es : E) | nil | cons (e es : E)
  | bin (o : BOp) (a b : E) | neg (a : E) | not (a : E) | and (a b : E) | or (a b : E)
  | cmp (o : COp) (a b : E) | chn (o p : COp) (a b c : E) | ife (c a b : E)
  | idx (a i : E) | slc (a lo hi : E) | stp (a k : E) | emp
  | fld (a : E) (f : String)
  | call (f : String) (as : E) | mk (c : String) (as : E) | blt (b : Bf) (as : E)
  | meth (m : String) (a as : E) | bm (m : Bm) (a as : E)
  | comp (t : Tg) (it el : E) | cmpi (t : Tg) (it cnd el : E)
  | rng (a : E) | rng2 (a b : E)
  | edk
  | disp (ks : List Kx) (vs : E) | dget (a k d : E) | enu (a : E)
  | idv (i : Nat) (e : E)
  | bor (e : E) | take (i : Nat)
  | bad
def lenE : E → Nat
  | .cons _ es => lenE es + 1
  | _ => 0
inductive S where
  | nil | cons (s r : S)
  | set (i : Nat) (e : E) | setf (i : Nat) (f : String) (e : E) | app (i : Nat) (e : E)
  | expr (e : E) | ret (e : E) | retn
  | ite (c : E) (a b : S) | for_ (t : Tg) (it : E) (b : S) | whl (c : E) (b : S)
  | pass | doc | brk | cnt | bad
  | raise (c : String) (as : E) | tryk (b : S) (c : String) (i j : Nat)
  | unp (is : List Nat) (e : E) | ext (i : Nat) (e : E)

/-! ### operators on data -/
def lim : Nat := 1000000
def flat : D → Bool
  | .non => true
  | .bl _ => true
  | .int _ => true
  | .str _ => true
  | _ => false
mutual
def eqvD : D → D → Bool
  | .non, .non => true
  | .bl a, .bl b => a == b
  | .bl a, .int j => (if a then 1 else 0) == j
  | .int i, .bl b => i == (if b then 1 else 0)
  | .int i, .int j => i == j
  | .str x, .str y => x == y
  | .lst xs, .lst ys => eqvDs xs ys
  | .tup xs, .tup ys => eqvDs xs ys
  | _, _ => false
def eqvDs : List D → List D → Bool
  | [], [] => true
  | x :: xs, y :: ys => eqvD x y && eqvDs xs ys
  | _, _ => false
end
mutual
/-- data that == serves: depth n at most -/
def okD : D → Nat → Bool
  | .non, _ => true
  | .bl _, _ => true
  | .int _, _ => true
  | .str s, _ => s.all fun c => decide (c < 1114112)
  | .tup _, 0 => false
  | .lst _, 0 => false
  | .tup xs, n + 1 => okDs xs n
  | .lst xs, n + 1 => okDs xs n
  | _, _ => false
def okDs : List D → Nat → Bool
  | [], _ => true
  | x :: xs, n => okD x n && okDs xs n
end
def eqD (a b : D) : Option Bool := if (flat a && flat b) || (okD a 50 && okD b 50) then some (eqvD a b) else none
def inD (x c : D) : Option Bool := match c with
  | .str l => (match x with
    | .str [k] => some (decide (k ∈ l))
    | _ => none)
  | .lst ds => if okD x 50 && okDs ds 50 then some (ds.any fun y => eqvD y x) else none
  | .tup ds => if flat x && ds.all flat then some (ds.any fun y => eqvD y x) else none
  | _ => none
def isN : D → Bool
  | .non => true
  | _ => false
def cmpD : COp → D → D → Option Bool
  | .eq, a, b => eqD a b
  | .ne, a, b => (eqD a b).map (!·)
  | .lt, .int i, .int j => some (decide (i < j))
  | .le, .int i, .int j => some (decide (i ≤ j))
  | .gt, .int i, .int j => some (decide (j < i))
  | .ge, .int i, .int j => some (decide (j ≤ i))
  | .is_, a, .non => some (isN a)
  | .isnot, a, .non => some (!isN a)
  | .in_, a, b => inD a b
  | .notin, a, b => (inD a b).map (!·)
  | _, _, _ => none
def reps (n : Nat) (s : List Nat) : List Nat := (List.replicate n s).flatten
def binD : BOp → D → D → Option SV
  | .add, .int i, .int j => some (.d (.int (i + j)))
  | .add, .str s, .str t => if s.length + t.length ≤ lim then some (.d (.str (s ++ t))) else none
  | .add, .lst xs, .lst ys => if xs.length + ys.length ≤ lim then some (.lst ((xs ++ ys).map .d)) else none
  | .add, .tup xs, .tup ys => if xs.length + ys.length ≤ lim then some (.d (.tup (xs ++ ys))) else none
  | .sub, .int i, .int j => some (.d (.int (i - j)))
  | .mul, .int i, .int j => if (-18446744073709551616 < i ∧ i < 18446744073709551616) ∨ (-18446744073709551616 < j ∧ j < 18446744073709551616) then some (.d (.int (i * j))) else none
  | .mul, .str s, .int n => if s.length ≤ 1000 ∧ n ≤ 1000 ∧ -1000 ≤ n then some (.d (.str (reps n.toNat s))) else none
  | .fdiv, .int i, .int j => if 0 < j ∧ j < 1073741824 then some (.d (.int (i / j))) else none
  | .mod, .int i, .int j => if 0 < j then some (.d (.int (i % j))) else none
  | _, _, _ => none
/-- the value at a key -/
def kxD : D → Option Kx
  | .int i => some (.i i)
  | .str s => some (.s s)
  | _ => none
def atK {α : Type} (k : Kx) : List Kx → List α → Option α
  | j :: ks, x :: xs => if j = k then some x else atK k ks xs
  | _, _ => none
def idxD : D → D → Option D
  | .dk ks xs, k => (kxD k).bind fun j => atK j ks xs
  | .lst xs, .int i => atI xs i
  | .tup xs, .int i => atI xs i
  | .str s, .int i => if s.length ≤ lim then (atI s i).map fun c => .str [c] else none
  | .arg ns, .int i => (atI ns i).map .int
  | _, _ => none
def cutL {α : Type} (xs : List α) (lo hi : Option Int) : List α := (xs.drop (HT.sIx xs.length 0 lo)).take (HT.sIx xs.length xs.length hi - HT.sIx xs.length 0 lo)
def slcD : D → Option Int → Option Int → Option SV
  | .lst xs, lo, hi => some (.lst ((cutL xs lo hi).map .d))
  | .tup xs, lo, hi => some (.d (.tup (cutL xs lo hi)))
  | .str s, lo, hi => if s.length ≤ lim then some (.d (.str (cutL s lo hi))) else none
  | _, _, _ => none
def stpD : D → D → Option SV
  | .lst xs, .int k => if k = 1 then some (.lst (xs.map .d)) else if k = -1 then some (.lst (xs.reverse.map .d)) else none
  | _, _ => none

/-- an item of a list that stays owned -/
def svIdx : SV → D → Option D
  | .lst xs, .int k => (match atI xs k with
    | some (.d d) => some d
    | _ => none)
  | .d x, y => idxD x y
  | _, _ => none
/-! ### the table of a program -/
structure T where
  /-- a module's constants -/
  glob : String → Option D
  /-- a class's method, by the name under which the def stands -/
  meth : String → String → Option String
  /-- a class's __init__ -/
  init : String → Option String
  /-- is an instance of the one an instance of the other -/
  isa : String → String → Option Bool
  /-- the module's own defs -/
  isFn : String → Bool
  /-- a class's fields -/
  fld : String → String → Bool
  /-- what an exception class makes of its arguments -/
  xc : String → List D → Option Xc
  /-- may it be made of so many -/
  xn : String → Nat → Bool
  /-- is an exception of the one an exception of the other -/
  isx : String → String → Option Bool
  /-- may it be named by an except clause -/
  exn : String → Bool
  /-- an exception class's fields -/
  fldx : String → String → Bool
def kind : D → Option String
  | .non => some "NoneType"
  | .bl _ => some "bool"
  | .int _ => some "int"
  | .str _ => some "str"
  | .tup _ => some "tuple"
  | .lst _ => some "list"
  | .dk _ _ => some "dict"
  | _ => none
def bts : List String := ["int", "str", "bool", "tuple", "list"]
def tys : List String := ["int", "str", "bool", "tuple", "list", "ValueError"]
def isaD (t : T) (x c : D) : Option Bool := match c with
  | .ty n => (match x with
    | .exc c' _ _ => if n = "ValueError" then (t.isx c' c').map fun _ => true else none
    | _ => if bts.contains n then (kind x).map fun k => k == n || (k == "bool" && n == "int") else none)
  | .cls C => (match x with
    | .ins c' _ _ => t.isa c' C
    | .exc c' _ _ => t.isx c' C
    | _ => none)
  | _ => none
def istr (i : Int) : List Nat := (Str.ofString (toString i)).cps.toList
def strs? : List D → Option (List (List Nat))
  | [] => some []
  | .str s :: r => (strs? r).map (s :: ·)
  | _ :: _ => none
def bls? : List D → Option (List Bool)
  | [] => some []
  | .bl b :: r => (bls? r).map (b :: ·)
  | _ :: _ => none
def bltD (t : T) : Bf → List D → Option SV
  | .len, [.lst xs] => some (.d (.int xs.length))
  | .len, [.tup xs] => some (.d (.int xs.length))
  | .len, [.str s] => if s.length ≤ lim then some (.d (.int s.length)) else none
  | .len, [.arg ns] => some (.d (.int ns.length))
  | .str, [.int i] => if i.natAbs < 1000000000000000000 then some (.d (.str (istr i))) else none
  | .str, [.str s] => some (.d (.str s))
  | .int, [.bl b] => some (.d (.int (if b then 1 else 0)))
  | .int, [.int i] => some (.d (.int i))
  | .int, [.str s] => if s.length ≤ 640 then (PySem.intText? ⟨s.toArray⟩).map fun i => .d (.int i) else none
  | .abs, [.int i] => some (.d (.int (if i < 0 then -i else i)))
  | .max, [.int i, .int j] => some (.d (.int (if j > i then j else i)))
  | .min, [.int i, .int j] => some (.d (.int (if j < i then j else i)))
  | .all, [.lst xs] => (bls? xs).map fun bs => .d (.bl (bs.all id))
  | .any, [.lst xs] => (bls? xs).map fun bs => .d (.bl (bs.any id))
  | .list, [.lst xs] => some (.lst (xs.map .d))
  | .list, [.tup xs] => some (.lst (xs.map .d))
  | .tuple, [.lst xs] => some (.d (.tup xs))
  | .tuple, [.tup xs] => some (.d (.tup xs))
  | .isinstance, [x, c] => (isaD t x c).map fun b => .d (.bl b)
  | _, _ => none
def ssum : List (List Nat) → Nat
  | [] => 0
  | s :: r => s.length + ssum r
/-- the receivers of a method -/
def okRec : Bm → D → Bool
  | .join, .str _ => true
  | .upper, .str _ => true
  | .count, .lst _ => true
  | .index, .lst _ => true
  | .split, .str _ => true
  | .startswith, .str _ => true
  | _, _ => false
def upS (s : List Nat) : List Nat := s.map fun c => if 97 ≤ c ∧ c ≤ 122 then c - 32 else c
def joinD : D → List D → Option SV
  | .str sep, [.lst xs] => (strs? xs).bind fun ss => if ssum ss + sep.length * ss.length ≤ lim then some (.d (.str (TL.joinL sep ss))) else none
  | .str sep, [.tup xs] => (strs? xs).bind fun ss => if ssum ss + sep.length * ss.length ≤ lim then some (.d (.str (TL.joinL sep ss))) else none
  | _, _ => none
def upperD : D → List D → Option SV
  | .str s, [] => if s.length ≤ 1000 ∧ s.all (fun c => decide (c < 128)) = true then some (.d (.str (upS s))) else none
  | _, _ => none
def countD : D → List D → Option SV
  | .lst xs, [y] => if flat y && xs.all flat then some (.d (.int (xs.countP fun x => eqvD x y : Nat))) else none
  | _, _ => none
def idxOf (y : D) : List D → Nat → Option Nat
  | [], _ => none
  | x :: xs, k => if eqvD x y = true then some k else idxOf y xs (k + 1)
def indexD : D → List D → Option SV
  | .lst xs, [y] => if flat y && xs.all flat then (idxOf y xs 0).map fun k => .d (.int (k : Nat)) else none
  | _, _ => none
def splitD : D → List D → Option SV
  | .str s, [.str [c]] => if s.length ≤ lim ∧ c < 256 then some (.lst ((TL.spl [c] 0 [] s).map fun z => .d (.str z))) else none
  | _, _ => none
def startsD : D → List D → Option SV
  | .str s, [.str p] => some (.d (.bl (decide (s.take p.length = p))))
  | _, _ => none
def bmD : Bm → D → List D → Option SV
  | .join => joinD
  | .upper => upperD
  | .count => countD
  | .index => indexD
  | .split => splitD
  | .startswith => startsD
def bindT : Tg → D → Env → Option Env
  | .nm i, x, ρ => some (ρ.set i (some (.d x)))
  | .tp is, .tup xs, ρ => if is.length = xs.length then some ((is.zip xs).foldl (fun ρ p => ρ.set p.1 (some (.d p.2))) ρ) else none
  | .tp _, _, _ => none
def slotsT : Tg → List Nat
  | .nm i => [i]
  | .tp is => is
def fieldD : List String → List D → String → Option D
  | n :: ns, x :: xs, f => if n = f then some x else fieldD ns xs f
  | _, _, _ => none
def fldD (t : T) : D → String → Option D
  | .ins c ns xs, f => if t.fld c f then fieldD ns xs f else none
  | .exc c ns xs, f => if t.fldx c f then fieldD ns xs f else none
  | _, _ => none
def putN (f : String) (v : SV) : List String → List SV → List String × List SV
  | n :: ns, x :: xs => if n = f then (n :: ns, v :: xs) else let r := putN f v ns xs; (n :: r.1, x :: r.2)
  | ns, xs => (ns ++ [f], xs ++ [v])
/-- may the slots be a comprehension's own: nothing that is owned stands there -/
def freeAt (ρ : Env) : List Nat → Bool
  | [] => true
  | i :: is => (match ρ[i]? with
    | some none => true
    | some (some (.d _)) => true
    | _ => false) && freeAt ρ is
def wipeE (ρ : Env) : List Nat → Env
  | [] => ρ
  | v :: vs => (wipeE ρ vs).set v none
def backE (ρ₀ ρ : Env) : List Nat → Env
  | [] => ρ
  | v :: vs => (backE ρ₀ ρ vs).set v ((ρ₀[v]?).getD none)
/-- a comprehension's turns -/
def compL (step : D → Env → R (Option SV)) : List D → Env → List SV → R (List SV)
  | [], ρ, acc => .ok acc ρ
  | x :: xs, ρ, acc => match step x ρ with
    | .ok (some v) ρ' => if acc.length < lim then compL step xs ρ' (acc ++ [v]) else .no
    | .ok none ρ' => compL step xs ρ' acc
    | .exc _ _ => .no
    | .no => .no
def itemsD : D → Option (List D)
  | .lst xs => some xs
  | .tup xs => some xs
  | .str s => some (s.map fun c => .str [c])
  | _ => none
def rngD (lo hi : Int) : List D := (List.range (hi - lo).toNat).map fun k => .int (lo + (k : Nat))
def enuL : List D → Nat → List D
  | [], _ => []
  | x :: xs, k => .tup [.int (k : Nat), x] :: enuL xs (k + 1)
def optI : D → Option (Option Int)
  | .int i => some (some i)
  | _ => none
def isEmp : E → Bool
  | .emp => true
  | _ => false
def allD : List SV → Option (List D)
  | [] => some []
  | .d x :: r => (allD r).map (x :: ·)
  | _ :: _ => none
/-- an outcome of an own def, in the frame ρ -/
def ofCr (r : Cr) (ρ : Env) : R SV := match r with
  | .ok v _ => .ok v ρ
  | .exc x => .exc x ρ
  | .no => .no
/-- a new instance -/
def ofMk (r : Cr) (ρ : Env) : R SV := match r with
  | .ok (.d .non) (some v :: _) => .ok v ρ
  | .ok _ _ => .no
  | .exc x => .exc x ρ
  | .no => .no
section
variable (t : T) (F : String → List SV → Cr)
mutual
def ev : E → Env → R SV
  | .var i, ρ => (match ρ[i]? with
    | some (some (.d x)) => .ok (.d x) ρ
    | some (some s) => .ok (.d (frz s)) (ρ.set i (some (.d (frz s))))
    | _ => .no)
  | .non, ρ => .ok (.d .non) ρ
  | .bl b, ρ => .ok (.d (.bl b)) ρ
  | .int i, ρ => .ok (.d (.int i)) ρ
  | .str s, ρ => .ok (.d (.str s)) ρ
  | .glb x, ρ => (match t.glob x with
    | some d => .ok (.d d) ρ
    | none => .no)
  | .tyn n, ρ => .ok (.d (.ty n)) ρ
  | .tup es, ρ => (evs es ρ).bind fun vs ρ => if vs.length ≤ lim then .ok (.d (.tup (frzs vs))) ρ else .no
  | .lst es, ρ => (evs es ρ).bind fun vs ρ => if vs.length ≤ lim then .ok (.lst vs) ρ else .no
  | .bin o a b, ρ => (ev a ρ).bind fun x ρ => (ev b ρ).bind fun y ρ => R.of (binD o (frz x) (frz y)) ρ
  | .neg a, ρ => (ev a ρ).bind fun x ρ => (match frz x with
    | .int i => .ok (.d (.int (-i))) ρ
    | _ => .no)
  | .not a, ρ => (ev a ρ).bind fun x ρ => (match x with
    | .d (.bl b) => .ok (.d (.bl (!b))) ρ
    | _ => .no)
  | .and a b, ρ => (ev a ρ).bind fun x ρ => (match x with
    | .d (.bl true) => ev b ρ
    | .d (.bl false) => .ok (.d (.bl false)) ρ
    | _ => .no)
  | .or a b, ρ => (ev a ρ).bind fun x ρ => (match x with
    | .d (.bl true) => .ok (.d (.bl true)) ρ
    | .d (.bl false) => ev b ρ
    | _ => .no)
  | .cmp o a b, ρ => (ev a ρ).bind fun x ρ => (ev b ρ).bind fun y ρ => (match cmpD o (frz x) (frz y) with
    | some r => .ok (.d (.bl r)) ρ
    | none => .no)
  | .chn o p a b c, ρ => (ev a ρ).bind fun x ρ => (ev b ρ).bind fun y ρ => (match cmpD o (frz x) (frz y) with
    | some true => (ev c ρ).bind fun z ρ => (match cmpD p (frz y) (frz z) with
      | some r => .ok (.d (.bl r)) ρ
      | none => .no)
    | some false => .ok (.d (.bl false)) ρ
    | none => .no)
  | .ife c a b, ρ => (ev c ρ).bind fun x ρ => (match x with
    | .d (.bl true) => ev a ρ
    | .d (.bl false) => ev b ρ
    | _ => .no)
  | .idx a i, ρ => (ev a ρ).bind fun x ρ => (ev i ρ).bind fun y ρ => (match idxD (frz x) (frz y) with
    | some d => .ok (.d d) ρ
    | none => .no)
  | .slc a lo hi, ρ => (ev a ρ).bind fun x ρ => (match lo, hi with
    | .emp, .emp => R.of (slcD (frz x) none none) ρ
    | .emp, hi => (ev hi ρ).bind fun h ρ => (match frz h with
      | .int j => R.of (slcD (frz x) none (some j)) ρ
      | _ => .no)
    | lo, .emp => (ev lo ρ).bind fun l ρ => (match frz l with
      | .int i => R.of (slcD (frz x) (some i) none) ρ
      | _ => .no)
    | lo, hi => (ev lo ρ).bind fun l ρ => (match frz l with
      | .int i => (ev hi ρ).bind fun h ρ => (match frz h with
        | .int j => R.of (slcD (frz x) (some i) (some j)) ρ
        | _ => .no)
      | _ => .no))
  | .stp a k, ρ => (ev a ρ).bind fun x ρ => (ev k ρ).bind fun y ρ => R.of (stpD (frz x) (frz y)) ρ
  | .fld a f, ρ => (ev a ρ).bind fun x ρ => (match fldD t (frz x) f with
    | some d => .ok (.d d) ρ
    | none => .no)
  | .call f as, ρ => if t.isFn f then (evs as ρ).bind fun vs ρ => ofCr (F f ((frzs vs).map .d)) ρ else .no
  | .mk c as, ρ => (match t.init c with
    | some q => (evs as ρ).bind fun vs ρ => ofMk (F q (.ins c [] [] :: (frzs vs).map .d)) ρ
    | none => .no)
  | .blt b as, ρ => (evs as ρ).bind fun vs ρ => R.of (bltD t b (frzs vs)) ρ
  | .meth m a as, ρ => (ev a ρ).bind fun x ρ => (match frz x with
    | .ins c ns xs => (match t.meth c m with
      | some q => if ns.contains m then .no else (evs as ρ).bind fun vs ρ => ofCr (F q (.d (.ins c ns xs) :: (frzs vs).map .d)) ρ
      | none => .no)
    | _ => .no)
  | .bm m a as, ρ => (ev a ρ).bind fun x ρ => if okRec m (frz x) then (evs as ρ).bind fun vs ρ => R.of (bmD m (frz x) (frzs vs)) ρ else .no
  | .edk, ρ => .ok (.dk [] []) ρ
  | .disp ks es, ρ => if ks.Nodup ∧ ks.length ≤ 15 ∧ ks ≠ [] ∧ lenE es = ks.length then (evs es ρ).bind fun vs ρ => .ok (.dk ks ((frzs vs).map .d)) ρ else .no
  | .dget a k d, ρ => (ev a ρ).bind fun x ρ => (match frz x with
    | .dk ks xs => (ev k ρ).bind fun y ρ => (ev d ρ).bind fun z ρ => (match kxD (frz y) with
      | some j => .ok (.d ((atK j ks xs).getD (frz z))) ρ
      | none => .no)
    | _ => .no)
  | .idv i e, ρ => (match ρ[i]? with
    | some (some _) => (ev e ρ).bind fun y ρ => (match ρ[i]? with
      | some (some s) => (match svIdx s (frz y) with
        | some d => .ok (.d d) ρ
        | none => .no)
      | _ => .no)
    | _ => .no)
  | .bor e, ρ => (match ev e ρ with
    | .ok (.d x) _ => if flat x then .ok (.d x) ρ else .no
    | .ok _ _ => .no
    | .exc x ρ' => .exc x ρ'
    | .no => .no)
  | .take i, ρ => (match ρ[i]? with
    | some (some s) => .ok s (ρ.set i none)
    | _ => .no)
  | .enu a, ρ => (ev a ρ).bind fun x ρ => (match frz x with
    | .lst xs => .ok (.d (.lst (enuL xs 0))) ρ
    | _ => .no)
  | .comp tg it el, ρ => ((ev it ρ).bind fun x ρ => R.of (itemsD (frz x)) ρ).bind fun ds ρ => if freeAt ρ (slotsT tg) then
      (compL (fun d ρ' => match bindT tg d (wipeE ρ' (slotsT tg)) with
        | some ρ₂ => (ev el ρ₂).bind fun v ρ => .ok (some v) ρ
        | none => .no) ds ρ []).bind fun vs ρ' => .ok (.lst vs) (backE ρ (wipeE ρ' (slotsT tg)) (slotsT tg))
    else .no
  | .cmpi tg it c el, ρ => ((ev it ρ).bind fun x ρ => R.of (itemsD (frz x)) ρ).bind fun ds ρ => if freeAt ρ (slotsT tg) then
      (compL (fun d ρ' => match bindT tg d (wipeE ρ' (slotsT tg)) with
        | some ρ₂ => (ev c ρ₂).bind fun b ρ => (match b with
          | .d (.bl true) => (ev el ρ).bind fun v ρ => .ok (some v) ρ
          | .d (.bl false) => .ok none ρ
          | _ => .no)
        | none => .no) ds ρ []).bind fun vs ρ' => .ok (.lst vs) (backE ρ (wipeE ρ' (slotsT tg)) (slotsT tg))
    else .no
  | .nil, _ => .no
  | .cons _ _, _ => .no
  | .emp, _ => .no
  | .rng a, ρ => (ev a ρ).bind fun x ρ => (match frz x with
    | .int j => if -1000000000000 < j ∧ j < 1000000000000 then .ok (.d (.lst (rngD 0 j))) ρ else .no
    | _ => .no)
  | .rng2 a b, ρ => (ev a ρ).bind fun x ρ => (ev b ρ).bind fun y ρ => (match frz x, frz y with
    | .int i, .int j => if (-1000000000000 < i ∧ i < 1000000000000) ∧ (-1000000000000 < j ∧ j < 1000000000000) then .ok (.d (.lst (rngD i j))) ρ else .no
    | _, _ => .no)
  | .bad, _ => .no
/-- a list of expressions -/
def evs : E → Env → R (List SV)
  | .nil, ρ => .ok [] ρ
  | .cons e es, ρ => (ev e ρ).bind fun v ρ => (evs es ρ).bind fun vs ρ => .ok (v :: vs) ρ
  | _, _ => .no
end
/-- what is walked -/
def evi (e : E) (ρ : Env) : R (List D) := (ev t F e ρ).bind fun x ρ => R.of (itemsD (frz x)) ρ
end

/-- a list's items -/
def svl : SV → Option (List SV)
  | .lst ys => some ys
  | .d (.lst ys) => some (ys.map .d)
  | _ => none
/-! ### statements -/
def loopF (step : D → Env → Fl) : List D → Env → Fl
  | [], ρ => .nx ρ
  | x :: xs, ρ => match step x ρ with
    | .nx ρ' => loopF step xs ρ'
    | .ct ρ' => loopF step xs ρ'
    | .bk ρ' => .nx ρ'
    | r => r
def loopW (c : Env → R SV) (b : Env → Fl) : Nat → Env → Fl
  | 0, _ => .no
  | n + 1, ρ => match c ρ with
    | .ok (.d (.bl true)) ρ₁ => (match b ρ₁ with
      | .nx ρ' => loopW c b n ρ'
      | .ct ρ' => loopW c b n ρ'
      | .bk ρ' => .nx ρ'
      | r => r)
    | .ok (.d (.bl false)) ρ₁ => .nx ρ₁
    | .ok _ _ => .no
    | .exc x ρ => .exc x ρ
    | .no => .no
def fuel : Nat := 100000
/-- the rest of a statement behind an expression -/
def thenF {α : Type} (r : R α) (f : α → Env → Fl) : Fl := match r with
  | .ok a ρ => f a ρ
  | .exc x ρ => .exc x ρ
  | .no => .no
section
variable (t : T) (F : String → List SV → Cr) (ro : List Nat)
def exec : S → Env → Fl
  | .nil, ρ => .nx ρ
  | .cons s r, ρ => (match exec s ρ with
    | .nx ρ' => exec r ρ'
    | x => x)
  | .set i e, ρ => thenF (ev t F e ρ) fun v ρ => if ro.contains i then .no else .nx (ρ.set i (some v))
  | .setf i f e, ρ => thenF (ev t F e ρ) fun v ρ => (match ρ[i]? with
    | some (some (.ins c ns xs)) => if ns.length < 900 ∧ ns.length = xs.length ∧ t.fld c f = true then let r := putN f v ns xs; .nx (ρ.set i (some (.ins c r.1 r.2))) else .no
    | _ => .no)
  | .app i e, ρ => (match ρ[i]? with
    | some (some (.lst _)) => thenF (ev t F e ρ) fun v ρ => (match ρ[i]? with
      | some (some (.lst xs)) => if xs.length < lim then .nx (ρ.set i (some (.lst (xs ++ [v])))) else .no
      | _ => .no)
    | _ => .no)
  | .expr e, ρ => thenF (ev t F e ρ) fun _ ρ => .nx ρ
  | .ret e, ρ => thenF (ev t F e ρ) fun v ρ => .rt v ρ
  | .retn, ρ => .rt (.d .non) ρ
  | .ite c a b, ρ => thenF (ev t F c ρ) fun v ρ => (match v with
    | .d (.bl true) => exec a ρ
    | .d (.bl false) => exec b ρ
    | _ => .no)
  | .for_ tg it b, ρ => thenF (evi t F it ρ) fun ds ρ => if (slotsT tg).all (fun i => !ro.contains i) then loopF (fun d ρ => match bindT tg d ρ with
      | some ρ' => exec b ρ'
      | none => .no) ds ρ else .no
  | .whl c b, ρ => loopW (ev t F c) (exec b) fuel ρ
  | .pass, ρ => .nx ρ
  | .doc, ρ => .nx ρ
  | .brk, ρ => .bk ρ
  | .cnt, ρ => .ct ρ
  | .raise c as, ρ => if t.xn c (lenE as) then thenF (evs t F as ρ) fun vs ρ => (match t.xc c (frzs vs) with
    | some x => .exc x ρ
    | none => .no) else .no
  | .tryk b c i j, ρ => if (ro.contains i || ro.contains j) || !t.exn c then .no else (match exec b ρ with
    | .exc x ρ' => (match t.isx x.c c with
      | some true => .nx ((ρ'.set i none).set j (some (.d (.exc x.c x.ns x.xs))))
      | some false => .exc x ρ'
      | none => .no)
    | r => r)
  | .unp is e, ρ => thenF (ev t F e ρ) fun v ρ => (match bindT (.tp is) (frz v) ρ with
    | some ρ' => if is.all (fun i => !ro.contains i) then .nx ρ' else .no
    | none => .no)
  | .ext i e, ρ => (match ρ[i]? with
    | some (some (.lst _)) => thenF (ev t F e ρ) fun v ρ => (match ρ[i]? with
      | some (some (.lst xs)) => (match svl v with
        | some ys => if xs.length + ys.length ≤ lim then .nx (ρ.set i (some (.lst (xs ++ ys)))) else .no
        | none => .no)
      | _ => .no)
    | _ => .no)
  | .bad, _ => .no
end
/-- a def: how many parameters, how many names, which parameters are handed back -/
structure FD where
  np : Nat
  n : Nat
  io : List Bool
  body : S
def modesOk : List Bool → List SV → Bool
  | [], [] => true
  | true :: ms, _ :: ss => modesOk ms ss
  | false :: ms, .d _ :: ss => modesOk ms ss
  | _, _ => false
def roOf : List Bool → Nat → List Nat
  | [], _ => []
  | true :: ms, k => k :: roOf ms (k + 1)
  | false :: ms, k => roOf ms (k + 1)
def outsOf : List Bool → Env → List (Option SV)
  | true :: ms, s :: ρ => s :: outsOf ms ρ
  | false :: ms, _ :: ρ => none :: outsOf ms ρ
  | false :: ms, [] => none :: outsOf ms []
  | _, _ => []
def runF (t : T) (F : String → List SV → Cr) (fd : FD) (ss : List SV) : Cr :=
  if ss.length = fd.np ∧ fd.np ≤ fd.n ∧ fd.io.length = fd.np ∧ modesOk fd.io ss = true then (match exec t F (roOf fd.io 0) fd.body (ss.map some ++ List.replicate (fd.n - fd.np) none) with
    | .nx ρ => .ok (.d .non) (outsOf fd.io ρ)
    | .rt v ρ => .ok v (outsOf fd.io ρ)
    | .exc x _ => .exc x
    | _ => .no)
  else .no
def callN (t : T) (P : String → Option FD) : Nat → String → List SV → Cr
  | 0, _, _ => .no
  | n + 1, q, ss => match P q with
    | some fd => runF t (callN t P n) fd ss
    | none => .no
end Kn

set_option Elab.async false
set_option linter.all false
set_option maxRecDepth 100000
set_option maxHeartbeats 4000000
/-! Rel: what core data, slots and temporaries stand for in the abstract heap. -/
namespace Kn
open PySem L2

def mkS (l : List Nat) : Str := ⟨l.toArray⟩
theorem mkS_list (s : Str) : mkS s.cps.toList = s := by cases s; simp [mkS]
def kx : Kx → Key
  | .i n => .inl n
  | .s l => .inr (mkS l)
def zipK (ks : List Kx) (ws : List V) : List (Key × V) := (ks.map kx).zip ws
/-- an exception's object, kept -/
def ExX (C dd a : Addr) : HO := .ext fun h => ∃ oe vs, h.get? a = some oe ∧ oe.cls = .ref C ∧ oe.dict = some dd ∧ oe.data = .fields vs
def zipS (ns : List String) (ws : List V) : List (Str × V) := (ns.map Str.ofString).zip ws

section
variable (K : PySem.W.Frag) (cl : String → Option Addr)
mutual
/-- the data x is the value v; A: addresses that may be changed by somebody -/
def VR (A : Addr → Prop) (H : Hp) : D → V → Prop
  | .non, v => v = .non
  | .bl b, v => v = .bl b
  | .int i, v => v = .int i
  | .str s, v => v = .str (mkS s)
  | .ty n, v => v = .ty n
  | .cls c, v => ∃ C, cl c = some C ∧ v = .ref C
  | .arg ns, v => ∃ a, v = .ref a ∧ (SqL K (fun _ => none) a (ns.map V.int) ∨ (Rd H a (.lst (ns.map V.int)) ∧ ¬ A a))
  | .tup xs, v => ∃ a ws, v = .ref a ∧ H a = some (.tup ws) ∧ ¬ A a ∧ VRs A H xs ws
  | .lst xs, v => ∃ a ws, v = .ref a ∧ H a = some (.lst ws) ∧ ¬ A a ∧ VRs A H xs ws
  | .ins c ns xs, v => ∃ a C dx ws, v = .ref a ∧ cl c = some C ∧ H a = some (.ins C dx (zipS ns ws)) ∧ ¬ A a ∧ ns.length = ws.length ∧ VRs A H xs ws
  | .exc c ns xs, v => ∃ a C dd fs ws, v = .ref a ∧ cl c = some C ∧ H a = some (ExX C dd a) ∧ ¬ A a ∧ H dd = some (.xd fs) ∧ ¬ A dd ∧ ns.length = ws.length ∧ VRs A H xs ws ∧ ∀ n, fs.lookup n = (zipS ns ws).lookup n
  | .dk ks xs, v => ∃ a ws, v = .ref a ∧ H a = some (.dK (zipK ks ws)) ∧ ¬ A a ∧ ks.length = ws.length ∧ VRs A H xs ws
def VRs (A : Addr → Prop) (H : Hp) : List D → List V → Prop
  | [], ws => ws = []
  | x :: xs, ws => ∃ w ws', ws = w :: ws' ∧ VR A H x w ∧ VRs A H xs ws'
end
mutual
/-- the owned thing s is the value v; f: the addresses that it owns -/
def OR (A : Addr → Prop) (H : Hp) : SV → V → List Addr → Prop
  | .d x, v, f => VR K cl A H x v ∧ f = []
  | .lst xs, v, f => ∃ a ws f', v = .ref a ∧ H a = some (.lst ws) ∧ f = a :: f' ∧ ORs A H xs ws f'
  | .ins c ns xs, v, f => ∃ a C dx ws f', v = .ref a ∧ cl c = some C ∧ H a = some (.ins C dx (zipS ns ws)) ∧ ns.length = ws.length ∧ f = a :: f' ∧ ORs A H xs ws f'
  | .dk ks xs, v, f => ∃ a ws f', v = .ref a ∧ H a = some (.dK (zipK ks ws)) ∧ ks.length = ws.length ∧ f = a :: f' ∧ ORs A H xs ws f'
def ORs (A : Addr → Prop) (H : Hp) : List SV → List V → List Addr → Prop
  | [], ws, f => ws = [] ∧ f = []
  | x :: xs, ws, f => ∃ w ws' f1 f2, ws = w :: ws' ∧ f = f1 ++ f2 ∧ OR A H x w f1 ∧ ORs A H xs ws' f2
end
/-- one slot -/
def O1 (A : Addr → Prop) (H : Hp) (s : Option SV) (v : Option V) (f : List Addr) : Prop := match s with
  | none => f = []
  | some s => ∃ w, v = some w ∧ OR K cl A H s w f
def OE (A : Addr → Prop) (H : Hp) : Env → St → List Addr → Prop
  | [], σ, f => σ = [] ∧ f = []
  | s :: ρ, σ, f => ∃ v σ' f1 f2, σ = v :: σ' ∧ f = f1 ++ f2 ∧ O1 K cl A H s v f1 ∧ OE A H ρ σ' f2
end

/-- what A lets stand stays -/
def Stp (A : Addr → Prop) (H : Hp) (A' : Addr → Prop) (H' : Hp) : Prop := ∀ a o, H a = some o → ¬ A a → H' a = some o ∧ ¬ A' a
theorem Stp.refl (A : Addr → Prop) (H : Hp) : Stp A H A H := fun _ _ h n => ⟨h, n⟩
section
variable {K : PySem.W.Frag} {cl : String → Option Addr} {A A' : Addr → Prop} {H H' : Hp}
mutual
theorem VR.stp (h : Stp A H A' H') : ∀ (x : D) (v : V), VR K cl A H x v → VR K cl A' H' x v
  | .non, _, r => r
  | .bl _, _, r => r
  | .int _, _, r => r
  | .str _, _, r => r
  | .ty _, _, r => r
  | .cls _, _, r => r
  | .arg ns, v, r => by
    unfold VR at r ⊢
    obtain ⟨a, e, q⟩ := r
    refine ⟨a, e, ?_⟩
    rcases q with q | ⟨q, n⟩
    · exact .inl q
    · rcases q with q | ⟨o, q⟩
      · exact .inr ⟨.inl (h a _ q n).1, (h a _ q n).2⟩
      · exact .inr ⟨.inr ⟨o, (h a _ q n).1⟩, (h a _ q n).2⟩
  | .tup xs, v, r => by
    unfold VR at r ⊢
    obtain ⟨a, ws, e, q, n, m⟩ := r
    exact ⟨a, ws, e, (h a _ q n).1, (h a _ q n).2, VRs.stp h xs ws m⟩
  | .lst xs, v, r => by
    unfold VR at r ⊢
    obtain ⟨a, ws, e, q, n, m⟩ := r
    exact ⟨a, ws, e, (h a _ q n).1, (h a _ q n).2, VRs.stp h xs ws m⟩
  | .ins c ns xs, v, r => by
    unfold VR at r ⊢
    obtain ⟨a, C, dx, ws, e, ec, q, n, l, m⟩ := r
    exact ⟨a, C, dx, ws, e, ec, (h a _ q n).1, (h a _ q n).2, l, VRs.stp h xs ws m⟩
  | .exc c ns xs, v, r => by
    unfold VR at r ⊢
    obtain ⟨a, C, dd, fs, ws, e, ec, q, n, q2, n2, l, m, z⟩ := r
    exact ⟨a, C, dd, fs, ws, e, ec, (h a _ q n).1, (h a _ q n).2, (h dd _ q2 n2).1, (h dd _ q2 n2).2, l, VRs.stp h xs ws m, z⟩
  | .dk ks xs, v, r => by
    unfold VR at r ⊢
    obtain ⟨a, ws, e, q, n, l, m⟩ := r
    exact ⟨a, ws, e, (h a _ q n).1, (h a _ q n).2, l, VRs.stp h xs ws m⟩
theorem VRs.stp (h : Stp A H A' H') : ∀ (xs : List D) (ws : List V), VRs K cl A H xs ws → VRs K cl A' H' xs ws
  | [], _, r => r
  | x :: xs, ws, r => by
    unfold VRs at r ⊢
    obtain ⟨w, ws', e, q, m⟩ := r
    exact ⟨w, ws', e, VR.stp h x w q, VRs.stp h xs ws' m⟩
end
mutual
theorem OR.stp (h : Stp A H A' H') : ∀ (s : SV) (v : V) (f : List Addr), (∀ a ∈ f, H' a = H a) → OR K cl A H s v f → OR K cl A' H' s v f
  | .d x, v, f, _, r => by
    unfold OR at r ⊢
    exact ⟨VR.stp h x v r.1, r.2⟩
  | .lst xs, v, f, k, r => by
    unfold OR at r ⊢
    obtain ⟨a, ws, f', e, q, ef, m⟩ := r
    exact ⟨a, ws, f', e, (k a (by rw [ef]; exact List.mem_cons_self)).trans q, ef, ORs.stp h xs ws f' (fun b hb => k b (by rw [ef]; exact List.mem_cons_of_mem _ hb)) m⟩
  | .ins c ns xs, v, f, k, r => by
    unfold OR at r ⊢
    obtain ⟨a, C, dx, ws, f', e, ec, q, l, ef, m⟩ := r
    exact ⟨a, C, dx, ws, f', e, ec, (k a (by rw [ef]; exact List.mem_cons_self)).trans q, l, ef, ORs.stp h xs ws f' (fun b hb => k b (by rw [ef]; exact List.mem_cons_of_mem _ hb)) m⟩
  | .dk ks xs, v, f, k, r => by
    unfold OR at r ⊢
    obtain ⟨a, ws, f', e, q, l, ef, m⟩ := r
    exact ⟨a, ws, f', e, (k a (by rw [ef]; exact List.mem_cons_self)).trans q, l, ef, ORs.stp h xs ws f' (fun b hb => k b (by rw [ef]; exact List.mem_cons_of_mem _ hb)) m⟩
theorem ORs.stp (h : Stp A H A' H') : ∀ (xs : List SV) (ws : List V) (f : List Addr), (∀ a ∈ f, H' a = H a) → ORs K cl A H xs ws f → ORs K cl A' H' xs ws f
  | [], _, _, _, r => r
  | x :: xs, ws, f, k, r => by
    unfold ORs at r ⊢
    obtain ⟨w, ws', f1, f2, e, ef, q, m⟩ := r
    exact ⟨w, ws', f1, f2, e, ef, OR.stp h x w f1 (fun b hb => k b (by rw [ef]; exact List.mem_append_left _ hb)) q, ORs.stp h xs ws' f2 (fun b hb => k b (by rw [ef]; exact List.mem_append_right _ hb)) m⟩
end
theorem O1.stp (h : Stp A H A' H') {s : Option SV} {v : Option V} {f : List Addr} (k : ∀ a ∈ f, H' a = H a) (r : O1 K cl A H s v f) : O1 K cl A' H' s v f := by
  cases s with
  | none => exact r
  | some s =>
    obtain ⟨w, e, q⟩ := r
    exact ⟨w, e, OR.stp h s w f k q⟩
theorem OE.stp (h : Stp A H A' H') : ∀ (ρ : Env) (σ : St) (f : List Addr), (∀ a ∈ f, H' a = H a) → OE K cl A H ρ σ f → OE K cl A' H' ρ σ f
  | [], _, _, _, r => r
  | s :: ρ, σ, f, k, r => by
    unfold OE at r ⊢
    obtain ⟨v, σ', f1, f2, e, ef, q, m⟩ := r
    exact ⟨v, σ', f1, f2, e, ef, O1.stp h (fun b hb => k b (by rw [ef]; exact List.mem_append_left _ hb)) q, OE.stp h ρ σ' f2 (fun b hb => k b (by rw [ef]; exact List.mem_append_right _ hb)) m⟩
mutual
/-- frozen: nobody may change it from now on -/
theorem OR.frz (hA : ∀ a, ¬ A a → ¬ A' a) : ∀ (s : SV) (v : V) (f : List Addr), (∀ a ∈ f, ¬ A' a) → OR K cl A H s v f → VR K cl A' H (frz s) v
  | .d x, v, f, _, r => by
    unfold OR at r
    exact VR.stp (fun a o q n => ⟨q, hA a n⟩) x v r.1
  | .lst xs, v, f, k, r => by
    unfold OR at r
    unfold Kn.frz VR
    obtain ⟨a, ws, f', e, q, ef, m⟩ := r
    exact ⟨a, ws, e, q, k a (by rw [ef]; exact List.mem_cons_self), ORs.frz hA xs ws f' (fun b hb => k b (by rw [ef]; exact List.mem_cons_of_mem _ hb)) m⟩
  | .ins c ns xs, v, f, k, r => by
    unfold OR at r
    unfold Kn.frz VR
    obtain ⟨a, C, dx, ws, f', e, ec, q, l, ef, m⟩ := r
    exact ⟨a, C, dx, ws, e, ec, q, k a (by rw [ef]; exact List.mem_cons_self), l, ORs.frz hA xs ws f' (fun b hb => k b (by rw [ef]; exact List.mem_cons_of_mem _ hb)) m⟩
  | .dk ks xs, v, f, k, r => by
    unfold OR at r
    unfold Kn.frz VR
    obtain ⟨a, ws, f', e, q, l, ef, m⟩ := r
    exact ⟨a, ws, e, q, k a (by rw [ef]; exact List.mem_cons_self), l, ORs.frz hA xs ws f' (fun b hb => k b (by rw [ef]; exact List.mem_cons_of_mem _ hb)) m⟩
theorem ORs.frz (hA : ∀ a, ¬ A a → ¬ A' a) : ∀ (xs : List SV) (ws : List V) (f : List Addr), (∀ a ∈ f, ¬ A' a) → ORs K cl A H xs ws f → VRs K cl A' H (frzs xs) ws
  | [], _, _, _, r => by
    unfold ORs at r
    unfold frzs VRs
    exact r.1
  | x :: xs, ws, f, k, r => by
    unfold ORs at r
    unfold frzs VRs
    obtain ⟨w, ws', f1, f2, e, ef, q, m⟩ := r
    exact ⟨w, ws', e, OR.frz hA x w f1 (fun b hb => k b (by rw [ef]; exact List.mem_append_left _ hb)) q, ORs.frz hA xs ws' f2 (fun b hb => k b (by rw [ef]; exact List.mem_append_right _ hb)) m⟩
end
theorem VRs.len : ∀ {xs : List D} {ws : List V}, VRs K cl A H xs ws → xs.length = ws.length
  | [], ws, r => by
    unfold VRs at r
    rw [r]
    rfl
  | x :: xs, ws, r => by
    unfold VRs at r
    obtain ⟨w, ws', e, _, m⟩ := r
    rw [e, List.length_cons, List.length_cons, VRs.len m]
theorem ORs.len : ∀ {xs : List SV} {ws : List V} {f : List Addr}, ORs K cl A H xs ws f → xs.length = ws.length
  | [], ws, _, r => by
    unfold ORs at r
    rw [r.1]
    rfl
  | x :: xs, ws, f, r => by
    unfold ORs at r
    obtain ⟨w, ws', f1, f2, e, _, _, m⟩ := r
    rw [e, List.length_cons, List.length_cons, ORs.len m]
theorem VRs.get : ∀ {xs : List D} {ws : List V} {i : Nat} {x : D}, VRs K cl A H xs ws → xs[i]? = some x → ∃ w, ws[i]? = some w ∧ VR K cl A H x w
  | [], _, _, _, _, e => by simp at e
  | y :: xs, ws, 0, x, r, e => by
    unfold VRs at r
    obtain ⟨w, ws', e', q, m⟩ := r
    simp at e
    subst e
    exact ⟨w, by rw [e']; rfl, q⟩
  | y :: xs, ws, i + 1, x, r, e => by
    unfold VRs at r
    obtain ⟨w, ws', e', q, m⟩ := r
    obtain ⟨z, h1, h2⟩ := VRs.get (i := i) (x := x) m (by simpa using e)
    exact ⟨z, by rw [e']; simpa using h1, h2⟩
theorem VRs.app : ∀ {xs ys : List D} {ws zs : List V}, VRs K cl A H xs ws → VRs K cl A H ys zs → VRs K cl A H (xs ++ ys) (ws ++ zs)
  | [], ys, ws, zs, r, q => by
    unfold VRs at r
    rw [r]
    exact q
  | x :: xs, ys, ws, zs, r, q => by
    unfold VRs at r
    obtain ⟨w, ws', e, h, m⟩ := r
    rw [e, List.cons_append, List.cons_append]
    unfold VRs
    exact ⟨w, _, rfl, h, VRs.app m q⟩
theorem VRs.take : ∀ {xs : List D} {ws : List V} (n : Nat), VRs K cl A H xs ws → VRs K cl A H (xs.take n) (ws.take n)
  | _, _, 0, _ => by
    rw [List.take_zero, List.take_zero]
    unfold VRs
    rfl
  | [], ws, n + 1, r => by
    unfold VRs at r
    rw [r]
    unfold VRs
    rfl
  | x :: xs, ws, n + 1, r => by
    unfold VRs at r
    obtain ⟨w, ws', e, h, m⟩ := r
    rw [e, List.take_succ_cons, List.take_succ_cons]
    unfold VRs
    exact ⟨w, _, rfl, h, VRs.take n m⟩
theorem VRs.drop : ∀ {xs : List D} {ws : List V} (n : Nat), VRs K cl A H xs ws → VRs K cl A H (xs.drop n) (ws.drop n)
  | _, _, 0, r => r
  | [], ws, n + 1, r => by
    unfold VRs at r
    rw [r]
    unfold VRs
    rfl
  | x :: xs, ws, n + 1, r => by
    unfold VRs at r
    obtain ⟨w, ws', e, h, m⟩ := r
    rw [e, List.drop_succ_cons, List.drop_succ_cons]
    exact VRs.drop n m
theorem VRs.nil : VRs K cl A H [] [] := by
  unfold VRs
  rfl
theorem VRs.cons {x : D} {w : V} {xs : List D} {ws : List V} (h : VR K cl A H x w) (t : VRs K cl A H xs ws) : VRs K cl A H (x :: xs) (w :: ws) := by
  unfold VRs
  exact ⟨w, ws, rfl, h, t⟩
theorem VRs.rev : ∀ {xs : List D} {ws : List V}, VRs K cl A H xs ws → VRs K cl A H xs.reverse ws.reverse
  | [], ws, r => by
    unfold VRs at r
    rw [r]
    exact VRs.nil
  | x :: xs, ws, r => by
    unfold VRs at r
    obtain ⟨w, ws', e, h, m⟩ := r
    rw [e, List.reverse_cons, List.reverse_cons]
    exact VRs.app (VRs.rev m) (VRs.cons h VRs.nil)
/-- plain data as owned things -/
theorem ORs.ofD : ∀ {xs : List D} {ws : List V}, VRs K cl A H xs ws → ORs K cl A H (xs.map .d) ws []
  | [], ws, r => by
    unfold VRs at r
    unfold List.map ORs
    exact ⟨r, rfl⟩
  | x :: xs, ws, r => by
    unfold VRs at r
    obtain ⟨w, ws', e, h, m⟩ := r
    rw [List.map_cons]
    unfold ORs
    refine ⟨w, ws', [], [], e, rfl, ?_, ORs.ofD m⟩
    unfold OR
    exact ⟨h, rfl⟩
end
theorem frzs_d (xs : List D) : frzs (xs.map .d) = xs := by
  induction xs with
  | nil => rfl
  | cons x xs ih =>
    rw [List.map_cons]
    unfold frzs frz
    rw [ih]
theorem frzs_len (xs : List SV) : (frzs xs).length = xs.length := by
  induction xs with
  | nil => rfl
  | cons x xs ih =>
    unfold frzs
    rw [List.length_cons, List.length_cons, ih]

/-! ### a frame's state -/
def Av (O : Addr → Prop) (f : List Addr) : Addr → Prop := fun a => O a ∨ a ∈ f
/-- between two states of a frame: f, f': what it owned, owns; what is owned may change -/
def ExW (f : List Addr) (H : Hp) (f' : List Addr) (H' : Hp) : Prop := (∀ a o, H a = some o → a ∉ f → H' a = some o) ∧ ∀ a ∈ f', a ∈ f ∨ H a = none
theorem ExW.refl (f : List Addr) (H : Hp) : ExW f H f H := ⟨fun _ _ h _ => h, fun _ h => .inl h⟩
theorem ExW.trans {f f' f'' : List Addr} {H H' H'' : Hp} (x : ExW f H f' H') (y : ExW f' H' f'' H'') : ExW f H f'' H'' := by
  refine ⟨fun a o h n => ?_, fun a h => ?_⟩
  · refine y.1 a o (x.1 a o h n) fun m => ?_
    rcases x.2 a m with z | z
    · exact n z
    · rw [h] at z; cases z
  · rcases y.2 a h with z | z
    · exact x.2 a z
    · by_cases m : a ∈ f
      · exact .inl m
      · right
        cases q : H a with
        | none => rfl
        | some o =>
          have := x.1 a o q m
          rw [z] at this; cases this
/-- the same, where nothing changes that is there -/
def Ext (f : List Addr) (H : Hp) (f' : List Addr) (H' : Hp) : Prop := (∀ a o, H a = some o → H' a = some o) ∧ ∀ a ∈ f', a ∈ f ∨ H a = none
theorem Ext.refl (f : List Addr) (H : Hp) : Ext f H f H := ⟨fun _ _ h => h, fun _ h => .inl h⟩
theorem Ext.w {f f' : List Addr} {H H' : Hp} (x : Ext f H f' H') : ExW f H f' H' := ⟨fun a o h _ => x.1 a o h, x.2⟩
theorem ExW.s {f' : List Addr} {H H' : Hp} (x : ExW [] H f' H') : Ext [] H f' H' := ⟨fun a o h => x.1 a o h (fun z => (nomatch z)), x.2⟩
theorem Ext.trans {f f' f'' : List Addr} {H H' H'' : Hp} (x : Ext f H f' H') (y : Ext f' H' f'' H'') : Ext f H f'' H'' := by
  refine ⟨fun a o h => y.1 a o (x.1 a o h), fun a h => ?_⟩
  rcases y.2 a h with z | z
  · exact x.2 a z
  · right
    cases q : H a with
    | none => rfl
    | some o =>
      have := x.1 a o q
      rw [z] at this; cases this
theorem Ext.upd {f f' f'' : List Addr} {H H' : Hp} {p : Addr} {o : HO} (x : Ext f H f' H') (n : H p = none) (y : ExW f' H' f'' (upd H' p o)) : Ext f H f'' (upd H' p o) := by
  refine ⟨fun a u h => ?_, fun a h => ?_⟩
  · rw [upd_ne fun z => by rw [z, n] at h; cases h]
    exact x.1 a u h
  · rcases y.2 a h with z | z
    · exact x.2 a z
    · right
      cases q : H a with
      | none => rfl
      | some u =>
        have := x.1 a u q
        rw [z] at this; cases this
theorem Ext.sub {f f' : List Addr} (H : Hp) (h : ∀ a ∈ f', a ∈ f) : Ext f H f' H := ⟨fun _ _ q => q, fun a m => .inl (h a m)⟩
section
variable (K : PySem.W.Frag) (cl : String → Option Addr) (O : Addr → Prop) (ro : List (Nat × V))
/-- ρ: the slots; ts: temporaries, ws: their values; f: all that is owned -/
def Rel (ρ : Env) (ts : List SV) (σ : St) (ws : List V) (f : List Addr) (H : Hp) : Prop :=
  ∃ fe ft, f = fe ++ ft ∧ (∀ a, f.count a ≤ 1) ∧ (∀ a ∈ f, ¬ O a) ∧ (∀ a, O a → H a ≠ none) ∧ OE K cl (Av O f) H ρ σ fe ∧ ORs K cl (Av O f) H ts ws ft ∧ ∀ p ∈ ro, σ[p.1]? = some (some p.2)
end
theorem mem_of_count {f : List Addr} {a : Addr} : a ∈ f ↔ 0 < f.count a := List.count_pos_iff.symm
section
variable {K : PySem.W.Frag} {cl : String → Option Addr} {O : Addr → Prop} {ro : List (Nat × V)} {ρ : Env} {ts : List SV} {σ : St} {ws : List V} {f f' : List Addr} {H H' : Hp} {s s' : SV} {v v' : V} {x : D}
/-- what stands outside of f stays -/
theorem Stp.extW {g g' : List Addr} (e : ExW g H g' H') (hs : ∀ a ∈ g, a ∈ f) (hs' : ∀ a ∈ f', a ∈ g' ∨ a ∈ f) : Stp (Av O f) H (Av O f') H' := fun a o h n => by
  have n1 : ¬ O a := fun z => n (.inl z)
  have n2 : a ∉ f := fun z => n (.inr z)
  refine ⟨e.1 a o h fun z => n2 (hs a z), fun z => ?_⟩
  rcases z with z | z
  · exact n1 z
  · rcases hs' a z with z | z
    · rcases e.2 a z with z | z
      · exact n2 (hs a z)
      · rw [h] at z; cases z
    · exact n2 z
theorem Stp.ext {g g' : List Addr} (e : Ext g H g' H') (hs : ∀ a ∈ g, a ∈ f) (hs' : ∀ a ∈ f', a ∈ g' ∨ a ∈ f) : Stp (Av O f) H (Av O f') H' := Stp.extW e.w hs hs'
/-- an answer in data -/
theorem Rel.top (r : Rel K cl O ro ρ (.d x :: ts) σ (v :: ws) f H) : VR K cl (Av O f) H x v := by
  obtain ⟨fe, ft, _, _, _, _, _, h, _⟩ := r
  unfold ORs at h
  obtain ⟨w, ws', f1, f2, e, _, q, _⟩ := h
  cases e
  unfold OR at q
  exact q.1
theorem Rel.shape (r : Rel K cl O ro ρ (s :: ts) σ ws f H) : ∃ w ws', ws = w :: ws' := by
  obtain ⟨fe, ft, _, _, _, _, _, h, _⟩ := r
  unfold ORs at h
  obtain ⟨w, ws', f1, f2, e, _⟩ := h
  exact ⟨w, ws', e⟩
/-- data put upon the temporaries -/
theorem Rel.push (r : Rel K cl O ro ρ ts σ ws f H) (h : VR K cl (Av O f) H x v) : Rel K cl O ro ρ (.d x :: ts) σ (v :: ws) f H := by
  obtain ⟨fe, ft, e, c, d, o, p, q, z⟩ := r
  refine ⟨fe, ft, e, c, d, o, p, ?_, z⟩
  unfold ORs
  refine ⟨v, ws, [], ft, rfl, rfl, ?_, q⟩
  unfold OR
  exact ⟨h, rfl⟩
/-- fewer owned addresses, no change of the heap -/
theorem Rel.less {fe ft : List Addr} {fe' ft' : List Addr} {ρ' : Env} {ts' : List SV} {σ' : St} {ws' : List V} (c : ∀ a, (fe ++ ft).count a ≤ 1) (d : ∀ a ∈ fe ++ ft, ¬ O a) (o : ∀ a, O a → H a ≠ none)
    (hc : ∀ a, (fe' ++ ft').count a ≤ (fe ++ ft).count a)
    (p : OE K cl (Av O (fe' ++ ft')) H ρ' σ' fe') (q : ORs K cl (Av O (fe' ++ ft')) H ts' ws' ft') (z : ∀ p ∈ ro, σ'[p.1]? = some (some p.2)) :
    Ext (fe ++ ft) H (fe' ++ ft') H ∧ Rel K cl O ro ρ' ts' σ' ws' (fe' ++ ft') H := by
  have sub : ∀ a ∈ fe' ++ ft', a ∈ fe ++ ft := fun a h => by
    rw [mem_of_count] at h ⊢
    exact Nat.lt_of_lt_of_le h (hc a)
  exact ⟨Ext.sub H sub, fe', ft', rfl, fun a => Nat.le_trans (hc a) (c a), fun a h => d a (sub a h), o, p, q, z⟩
theorem Stp.less (h : ∀ a ∈ f', a ∈ f) : Stp (Av O f) H (Av O f') H := fun a o q n => ⟨q, fun z => n (z.imp id (h a))⟩
/-- the last temporary is let go -/
theorem Rel.pop (r : Rel K cl O ro ρ (s :: ts) σ (v :: ws) f H) : ∃ f', Ext f H f' H ∧ Rel K cl O ro ρ ts σ ws f' H := by
  obtain ⟨fe, ft, e, c, d, o, p, q, z⟩ := r
  subst e
  unfold ORs at q
  obtain ⟨w, ws', f1, f2, e, ef, q1, q2⟩ := q
  cases e
  subst ef
  have hc : ∀ a, (fe ++ f2).count a ≤ (fe ++ (f1 ++ f2)).count a := fun a => by simp only [List.count_append]; omega
  have st : Stp (Av O (fe ++ (f1 ++ f2))) H (Av O (fe ++ f2)) H := Stp.less fun a h => by
    simp only [List.mem_append] at h ⊢
    rcases h with h | h
    · exact .inl h
    · exact .inr (.inr h)
  exact ⟨_, Rel.less c d o hc (OE.stp st _ _ _ (fun _ _ => rfl) p) (ORs.stp st _ _ _ (fun _ _ => rfl) q2) z⟩
/-- the last temporary is frozen -/
theorem Rel.freeze (r : Rel K cl O ro ρ (s :: ts) σ (v :: ws) f H) : ∃ f', Ext f H f' H ∧ Rel K cl O ro ρ (.d (frz s) :: ts) σ (v :: ws) f' H := by
  obtain ⟨fe, ft, e, c, d, o, p, q, z⟩ := r
  subst e
  unfold ORs at q
  obtain ⟨w, ws', f1, f2, e, ef, q1, q2⟩ := q
  cases e
  subst ef
  have hc : ∀ a, (fe ++ f2).count a ≤ (fe ++ (f1 ++ f2)).count a := fun a => by simp only [List.count_append]; omega
  have st : Stp (Av O (fe ++ (f1 ++ f2))) H (Av O (fe ++ f2)) H := Stp.less fun a h => by
    simp only [List.mem_append] at h ⊢
    rcases h with h | h
    · exact .inl h
    · exact .inr (.inr h)
  have hA : ∀ a, ¬ Av O (fe ++ (f1 ++ f2)) a → ¬ Av O (fe ++ f2) a := fun a n m => n (by
    rcases m with m | m
    · exact .inl m
    · right
      simp only [List.mem_append] at m ⊢
      rcases m with m | m
      · exact .inl m
      · exact .inr (.inr m))
  have hF : ∀ a ∈ f1, ¬ Av O (fe ++ f2) a := fun a h m => by
    rcases m with m | m
    · exact d a (by simp only [List.mem_append]; exact .inr (.inl h)) m
    · have := c a
      simp only [List.count_append] at this
      rw [mem_of_count] at h m
      simp only [List.count_append] at m
      omega
  have fz : VR K cl (Av O (fe ++ f2)) H (frz s) v := OR.frz hA s v f1 hF q1
  obtain ⟨x, y⟩ := Rel.less c d o hc (OE.stp st _ _ _ (fun _ _ => rfl) p) (ORs.stp st _ _ _ (fun _ _ => rfl) q2) z
  exact ⟨_, x, y.push fz⟩
/-- the two last temporaries change places -/
theorem Rel.swap (r : Rel K cl O ro ρ (s :: s' :: ts) σ (v :: v' :: ws) f H) : ∃ f', Ext f H f' H ∧ Rel K cl O ro ρ (s' :: s :: ts) σ (v' :: v :: ws) f' H := by
  obtain ⟨fe, ft, e, c, d, o, p, q, z⟩ := r
  subst e
  unfold ORs at q
  obtain ⟨w, ws', f1, f2, e, ef, q1, q2⟩ := q
  cases e
  subst ef
  unfold ORs at q2
  obtain ⟨w2, ws2, f3, f4, e, ef, q3, q4⟩ := q2
  cases e
  subst ef
  have hc : ∀ a, (fe ++ (f3 ++ (f1 ++ f4))).count a ≤ (fe ++ (f1 ++ (f3 ++ f4))).count a := fun a => by simp only [List.count_append]; omega
  have st : Stp (Av O (fe ++ (f1 ++ (f3 ++ f4)))) H (Av O (fe ++ (f3 ++ (f1 ++ f4)))) H := Stp.less fun a h => by
    simp only [List.mem_append] at h ⊢
    rcases h with h | h | h | h
    · exact .inl h
    · exact .inr (.inr (.inl h))
    · exact .inr (.inl h)
    · exact .inr (.inr (.inr h))
  refine ⟨_, Rel.less c d o hc (OE.stp st _ _ _ (fun _ _ => rfl) p) ?_ z⟩
  unfold ORs
  refine ⟨v', v :: ws, f3, f1 ++ f4, rfl, rfl, OR.stp st _ _ _ (fun _ _ => rfl) q3, ?_⟩
  unfold ORs
  exact ⟨v, ws, f1, f4, rfl, rfl, OR.stp st _ _ _ (fun _ _ => rfl) q1, ORs.stp st _ _ _ (fun _ _ => rfl) q4⟩
end
end Kn

set_option Elab.async false
set_option linter.all false
set_option maxRecDepth 100000
set_option maxHeartbeats 4000000
/-! Rel2: steps of a frame's state. -/
namespace Kn
open PySem L2
section
variable {K : PySem.W.Frag} {cl : String → Option Addr} {O : Addr → Prop} {ro : List (Nat × V)} {ρ : Env} {ts : List SV} {σ : St} {ws : List V} {f f' : List Addr} {H H' : Hp} {s s' : SV} {v v' : V} {x : D} {A A' : Addr → Prop}
theorem ORs.split : ∀ {xs ys : List SV} {ws : List V} {f : List Addr}, ORs K cl A H (xs ++ ys) ws f → ∃ w1 w2 f1 f2, ws = w1 ++ w2 ∧ f = f1 ++ f2 ∧ ORs K cl A H xs w1 f1 ∧ ORs K cl A H ys w2 f2
  | [], ys, ws, f, r => ⟨[], ws, [], f, rfl, rfl, by unfold ORs; exact ⟨rfl, rfl⟩, r⟩
  | x :: xs, ys, ws, f, r => by
    rw [List.cons_append] at r
    unfold ORs at r
    obtain ⟨w, ws', f1, f2, e, ef, q, m⟩ := r
    obtain ⟨w1, w2, g1, g2, e2, ef2, q2, m2⟩ := ORs.split m
    refine ⟨w :: w1, w2, f1 ++ g1, g2, by rw [e, e2]; rfl, by rw [ef, ef2, List.append_assoc], ?_, m2⟩
    unfold ORs
    exact ⟨w, w1, f1, g1, rfl, rfl, q, q2⟩
theorem ORs.join : ∀ {xs ys : List SV} {w1 w2 : List V} {f1 f2 : List Addr}, ORs K cl A H xs w1 f1 → ORs K cl A H ys w2 f2 → ORs K cl A H (xs ++ ys) (w1 ++ w2) (f1 ++ f2)
  | [], ys, w1, w2, f1, f2, r, q => by
    unfold ORs at r
    rw [r.1, r.2]
    exact q
  | x :: xs, ys, w1, w2, f1, f2, r, q => by
    unfold ORs at r
    obtain ⟨w, ws', g1, g2, e, ef, h, m⟩ := r
    rw [e, ef, List.cons_append, List.cons_append, List.append_assoc]
    unfold ORs
    exact ⟨w, ws' ++ w2, g1, g2 ++ f2, rfl, rfl, h, ORs.join m q⟩
theorem ORs.nil : ORs K cl A H [] [] [] := by
  unfold ORs
  exact ⟨rfl, rfl⟩
theorem ORs.one (h : OR K cl A H s v f) : ORs K cl A H [s] [v] f := by
  unfold ORs
  exact ⟨v, [], f, [], rfl, by simp, h, ORs.nil⟩
theorem ORs.cons {w1 : V} {f1 f2 : List Addr} (h : OR K cl A H s w1 f1) (t : ORs K cl A H ts ws f2) : ORs K cl A H (s :: ts) (w1 :: ws) (f1 ++ f2) := by
  unfold ORs
  exact ⟨w1, ws, f1, f2, rfl, rfl, h, t⟩
/-- one slot, and what stands instead -/
theorem OE.at : ∀ {ρ : Env} {σ : St} {f : List Addr} {i : Nat} {s : Option SV}, OE K cl A H ρ σ f → ρ[i]? = some s → ∃ v f1 f2 f3, σ[i]? = some v ∧ f = f1 ++ (f2 ++ f3) ∧ O1 K cl A H s v f2 ∧
    ∀ {A' : Addr → Prop} {H' : Hp} {s' : Option SV} {v' : Option V} {g : List Addr}, Stp A H A' H' → (∀ a ∈ f1, H' a = H a) → (∀ a ∈ f3, H' a = H a) → O1 K cl A' H' s' v' g → OE K cl A' H' (ρ.set i s') (σ.set i v') (f1 ++ (g ++ f3))
  | [], _, _, _, _, _, e => by simp at e
  | s₀ :: ρ, σ, f, 0, s, r, e => by
    simp at e
    subst e
    unfold OE at r
    obtain ⟨v, σ', f1, f2, e, ef, q, m⟩ := r
    subst e
    subst ef
    refine ⟨v, [], f1, f2, rfl, rfl, q, fun {A' H' s' v' g} st k1 k3 o => ?_⟩
    show OE K cl A' H' (s' :: ρ) (v' :: σ') (g ++ f2)
    unfold OE
    exact ⟨v', σ', g, f2, rfl, rfl, o, OE.stp st _ _ _ k3 m⟩
  | s₀ :: ρ, σ, f, i + 1, s, r, e => by
    unfold OE at r
    obtain ⟨v, σ', f1, f2, e', ef, q, m⟩ := r
    subst e'
    subst ef
    obtain ⟨v1, g1, g2, g3, e1, e2, o1, up⟩ := OE.at (i := i) (s := s) m (by simpa using e)
    subst e2
    refine ⟨v1, f1 ++ g1, g2, g3, by simpa using e1, by rw [List.append_assoc], o1, fun {A' H' s' v' g} st k1 k3 o => ?_⟩
    rw [List.set_cons_succ, List.set_cons_succ, List.append_assoc]
    unfold OE
    exact ⟨v, σ'.set i v', f1, g1 ++ (g ++ g3), rfl, rfl, O1.stp st (fun a h => k1 a (List.mem_append_left _ h)) q, up st (fun a h => k1 a (List.mem_append_right _ h)) k3 o⟩
theorem OE.len : ∀ {ρ : Env} {σ : St} {f : List Addr}, OE K cl A H ρ σ f → ρ.length = σ.length
  | [], σ, f, r => by
    unfold OE at r
    rw [r.1]
    rfl
  | s :: ρ, σ, f, r => by
    unfold OE at r
    obtain ⟨v, σ', f1, f2, e, _, _, m⟩ := r
    rw [e, List.length_cons, List.length_cons, OE.len m]
theorem Rel.len (r : Rel K cl O ro ρ ts σ ws f H) : ρ.length = σ.length := by
  obtain ⟨fe, ft, e, c, d, o, p, q, z⟩ := r
  exact OE.len p
/-- the last temporary goes into a slot -/
theorem Rel.set {i : Nat} (r : Rel K cl O ro ρ (s :: ts) σ (v :: ws) f H) (hi : i < ρ.length) (hr : ∀ p ∈ ro, p.1 ≠ i) : ∃ f', Ext f H f' H ∧ Rel K cl O ro (ρ.set i (some s)) ts (σ.set i (some v)) ws f' H := by
  obtain ⟨fe, ft, e, c, d, o, p, q, z⟩ := r
  subst e
  unfold ORs at q
  obtain ⟨w, ws', f1, f2, e, ef, q1, q2⟩ := q
  cases e
  subst ef
  obtain ⟨v0, g1, g2, g3, e1, e2, o1, up⟩ := OE.at p (List.getElem?_eq_getElem hi)
  subst e2
  have hc : ∀ a, ((g1 ++ (f1 ++ g3)) ++ f2).count a ≤ ((g1 ++ (g2 ++ g3)) ++ (f1 ++ f2)).count a := fun a => by simp only [List.count_append]; omega
  have st : Stp (Av O ((g1 ++ (g2 ++ g3)) ++ (f1 ++ f2))) H (Av O ((g1 ++ (f1 ++ g3)) ++ f2)) H := Stp.less fun a h => by
    rw [mem_of_count] at h ⊢
    exact Nat.lt_of_lt_of_le h (hc a)
  refine ⟨_, Rel.less c d o hc (up st (fun _ _ => rfl) (fun _ _ => rfl) ⟨v, rfl, OR.stp st _ _ _ (fun _ _ => rfl) q1⟩) (ORs.stp st _ _ _ (fun _ _ => rfl) q2) fun p hp => ?_⟩
  rw [List.getElem?_set_ne (Ne.symm (hr p hp))]
  exact z p hp
/-- data in a slot -/
theorem Rel.getD {i : Nat} (r : Rel K cl O ro ρ ts σ ws f H) (e : ρ[i]? = some (some (.d x))) : ∃ v, σ[i]? = some (some v) ∧ VR K cl (Av O f) H x v := by
  obtain ⟨fe, ft, _, c, d, o, p, q, z⟩ := r
  obtain ⟨v0, g1, g2, g3, e1, e2, o1, up⟩ := OE.at p e
  obtain ⟨w, ew, h⟩ := o1
  subst ew
  unfold OR at h
  exact ⟨w, e1, h.1⟩
/-- a slot frozen and read -/
theorem Rel.getF {i : Nat} (r : Rel K cl O ro ρ ts σ ws f H) (e : ρ[i]? = some (some s)) : ∃ v f', σ[i]? = some (some v) ∧ Ext f H f' H ∧ Rel K cl O ro (ρ.set i (some (.d (frz s)))) (.d (frz s) :: ts) σ (v :: ws) f' H := by
  obtain ⟨fe, ft, ef, c, d, o, p, q, z⟩ := r
  subst ef
  obtain ⟨v0, g1, g2, g3, e1, e2, o1, up⟩ := OE.at p e
  subst e2
  obtain ⟨w, ew, h⟩ := o1
  subst ew
  have hc : ∀ a, ((g1 ++ ([] ++ g3)) ++ ft).count a ≤ ((g1 ++ (g2 ++ g3)) ++ ft).count a := fun a => by simp only [List.count_append, List.count_nil]; omega
  have sub : ∀ a ∈ (g1 ++ ([] ++ g3)) ++ ft, a ∈ (g1 ++ (g2 ++ g3)) ++ ft := fun a h => by
    rw [mem_of_count] at h ⊢
    exact Nat.lt_of_lt_of_le h (hc a)
  have st : Stp (Av O ((g1 ++ (g2 ++ g3)) ++ ft)) H (Av O ((g1 ++ ([] ++ g3)) ++ ft)) H := Stp.less sub
  have fz : VR K cl (Av O ((g1 ++ ([] ++ g3)) ++ ft)) H (frz s) w := by
    refine OR.frz (fun a n m => n (m.imp id (sub a))) s w g2 (fun a h m => ?_) h
    rcases m with m | m
    · exact d a (by simp only [List.mem_append]; exact .inl (.inr (.inl h))) m
    · have := c a
      simp only [List.count_append] at this
      rw [mem_of_count] at h m
      simp only [List.count_append, List.count_nil] at m
      omega
  have hσ : σ.set i (some w) = σ := by
    apply List.ext_getElem?
    intro j
    by_cases hj : i = j
    · subst hj
      have hl : i < σ.length := (List.getElem?_eq_some_iff.mp e1).1
      rw [List.getElem?_set_self hl, e1]
    · rw [List.getElem?_set_ne hj]
  have od : O1 K cl (Av O ((g1 ++ ([] ++ g3)) ++ ft)) H (some (.d (frz s))) (some w) [] := ⟨w, rfl, by unfold OR; exact ⟨fz, rfl⟩⟩
  have oe := up st (fun _ _ => rfl) (fun _ _ => rfl) od
  rw [hσ] at oe
  obtain ⟨x, y⟩ := Rel.less (ro := ro) c d o hc oe (ORs.stp st _ _ _ (fun _ _ => rfl) q) z
  exact ⟨w, _, e1, x, y.push fz⟩
/-- what is owned is there -/
theorem Rel.has (r : Rel K cl O ro ρ ts σ ws f H) : ∀ a ∈ f, H a ≠ none := by
    obtain ⟨fe, ft, e, c, d, oo, pp, q, z⟩ := r
    intro a h
    have key : ∀ (A : Addr → Prop), (∀ (s : SV) (v : V) (f : List Addr), OR K cl A H s v f → ∀ a ∈ f, H a ≠ none) ∧ (∀ (xs : List SV) (ws : List V) (f : List Addr), ORs K cl A H xs ws f → ∀ a ∈ f, H a ≠ none) := by
      intro A
      have both : ∀ n : Nat, (∀ (s : SV) (v : V) (f : List Addr), sizeOf s ≤ n → OR K cl A H s v f → ∀ a ∈ f, H a ≠ none) ∧ (∀ (xs : List SV) (ws : List V) (f : List Addr), sizeOf xs ≤ n → ORs K cl A H xs ws f → ∀ a ∈ f, H a ≠ none) := by
        intro n
        induction n with
        | zero =>
          refine ⟨fun s v f hs => ?_, fun xs ws f hs => ?_⟩
          · cases s <;> simp at hs
          · cases xs <;> simp at hs
        | succ n ih =>
          refine ⟨fun s v f hs r a ha => ?_, fun xs ws f hs r a ha => ?_⟩
          · cases s with
            | d x =>
              unfold OR at r
              rw [r.2] at ha
              cases ha
            | lst xs =>
              unfold OR at r
              obtain ⟨b, ws, f', e, q, ef, m⟩ := r
              rw [ef] at ha
              rcases List.mem_cons.mp ha with rfl | ha
              · rw [q]; exact fun z => nomatch z
              · exact ih.2 xs ws f' (by simp at hs; omega) m a ha
            | ins c ns xs =>
              unfold OR at r
              obtain ⟨b, C, dx, ws, f', e, ec, q, l, ef, m⟩ := r
              rw [ef] at ha
              rcases List.mem_cons.mp ha with rfl | ha
              · rw [q]; exact fun z => nomatch z
              · exact ih.2 xs ws f' (by simp at hs; omega) m a ha
            | dk ks xs =>
              unfold OR at r
              obtain ⟨b, ws, f', e, q, l, ef, m⟩ := r
              rw [ef] at ha
              rcases List.mem_cons.mp ha with rfl | ha
              · rw [q]; exact fun z => nomatch z
              · exact ih.2 xs ws f' (by simp at hs; omega) m a ha
          · cases xs with
            | nil =>
              unfold ORs at r
              rw [r.2] at ha
              cases ha
            | cons x xs =>
              unfold ORs at r
              obtain ⟨w, ws', f1, f2, e, ef, q, m⟩ := r
              rw [ef] at ha
              rcases List.mem_append.mp ha with ha | ha
              · exact ih.1 x w f1 (by simp at hs; omega) q a ha
              · exact ih.2 xs ws' f2 (by simp at hs; omega) m a ha
      exact ⟨fun s v f r => (both _).1 s v f (Nat.le_refl _) r, fun xs ws f r => (both _).2 xs ws f (Nat.le_refl _) r⟩
    have keyE : ∀ (A : Addr → Prop) (ρ : Env) (σ : St) (f : List Addr), OE K cl A H ρ σ f → ∀ a ∈ f, H a ≠ none := by
      intro A ρ
      induction ρ with
      | nil =>
        intro σ f r a ha
        unfold OE at r
        rw [r.2] at ha
        cases ha
      | cons s ρ ih =>
        intro σ f r a ha
        unfold OE at r
        obtain ⟨v, σ', f1, f2, e, ef, q, m⟩ := r
        rw [ef] at ha
        rcases List.mem_append.mp ha with ha | ha
        · cases s with
          | none =>
            have q' : f1 = [] := q
            rw [q'] at ha
            cases ha
          | some s =>
            obtain ⟨w, _, q⟩ := q
            exact (key A).1 s w f1 q a ha
        · exact ih σ' f2 m a ha
    have hn : H a ≠ none := by
      rw [e] at h
      rcases List.mem_append.mp h with h | h
      · exact keyE _ ρ σ fe pp a h
      · exact (key _).2 ts ws ft q a h
    exact hn
/-- a new thing that nobody owns -/
theorem Rel.alloc {p : Addr} {o : HO} (r : Rel K cl O ro ρ ts σ ws f H) (n : H p = none) : Ext f H f (upd H p o) ∧ Rel K cl O ro ρ ts σ ws f (upd H p o) ∧ ¬ Av O f p ∧ Stp (Av O f) H (Av O f) (upd H p o) := by
  have keep : ∀ a u, H a = some u → upd H p o a = some u := fun a u q => by rw [upd_ne (ne_of_none q n)]; exact q
  have hf : ∀ a ∈ f, (upd H p o) a = H a := by
    intro a h
    have hn := r.has a h
    exact upd_ne fun z => hn (by rw [z]; exact n)
  have st : Stp (Av O f) H (Av O f) (upd H p o) := fun a u q m => ⟨keep a u q, m⟩
  have np : ¬ Av O f p := by
    intro h
    obtain ⟨fe, ft, e, c, d, oo, pp, q, z⟩ := r
    rcases h with h | h
    · exact oo p h n
    · have := hf p h
      rw [upd_same, n] at this
      cases this
  refine ⟨⟨keep, fun a h => .inl h⟩, ?_, np, st⟩
  obtain ⟨fe, ft, e, c, d, oo, pp, q, z⟩ := r
  refine ⟨fe, ft, e, c, d, fun a h => ?_, OE.stp st _ _ _ (fun a h => hf a (by rw [e]; exact List.mem_append_left _ h)) pp, ORs.stp st _ _ _ (fun a h => hf a (by rw [e]; exact List.mem_append_right _ h)) q, z⟩
  cases w : H a with
  | none => exact absurd w (oo a h)
  | some u =>
    rw [keep a u w]
    exact fun z => nomatch z
/-- several temporaries frozen -/
theorem Rel.unsplit {ss : List SV} {vs : List V} (hl : ss.length = vs.length) (r : Rel K cl O ro ρ (ss ++ ts) σ (vs ++ ws) f H) :
    ∃ fe fs ft, f = fe ++ (fs ++ ft) ∧ (∀ a, f.count a ≤ 1) ∧ (∀ a ∈ f, ¬ O a) ∧ (∀ a, O a → H a ≠ none) ∧ OE K cl (Av O f) H ρ σ fe ∧ ORs K cl (Av O f) H ss vs fs ∧ ORs K cl (Av O f) H ts ws ft ∧ ∀ p ∈ ro, σ[p.1]? = some (some p.2) := by
  obtain ⟨fe, ft, e, c, d, o, p, q, z⟩ := r
  obtain ⟨w1, w2, f1, f2, e1, e2, q1, q2⟩ := ORs.split q
  have l1 := q1.len
  obtain ⟨rfl, rfl⟩ := List.append_inj e1 (by omega)
  exact ⟨fe, f1, f2, by rw [e, e2], c, d, o, p, q1, q2, z⟩
theorem Rel.freezes {ss : List SV} {vs : List V} (hl : ss.length = vs.length) (r : Rel K cl O ro ρ (ss ++ ts) σ (vs ++ ws) f H) :
    ∃ f', Ext f H f' H ∧ Rel K cl O ro ρ ts σ ws f' H ∧ VRs K cl (Av O f') H (frzs ss) vs := by
  obtain ⟨fe, fs, ft, e, c, d, o, p, q1, q2, z⟩ := Rel.unsplit hl r
  subst e
  have hc : ∀ a, (fe ++ ft).count a ≤ (fe ++ (fs ++ ft)).count a := fun a => by simp only [List.count_append]; omega
  have sub : ∀ a ∈ fe ++ ft, a ∈ fe ++ (fs ++ ft) := fun a h => by
    rw [mem_of_count] at h ⊢
    exact Nat.lt_of_lt_of_le h (hc a)
  have st : Stp (Av O (fe ++ (fs ++ ft))) H (Av O (fe ++ ft)) H := Stp.less sub
  have fz : VRs K cl (Av O (fe ++ ft)) H (frzs ss) vs := by
    refine ORs.frz (fun a n m => n (m.imp id (sub a))) ss vs fs (fun a h m => ?_) q1
    rcases m with m | m
    · exact d a (by simp only [List.mem_append]; exact .inr (.inl h)) m
    · have := c a
      simp only [List.count_append] at this
      rw [mem_of_count] at h m
      simp only [List.count_append] at m
      omega
  obtain ⟨x, y⟩ := Rel.less (ro := ro) c d o hc (OE.stp st _ _ _ (fun _ _ => rfl) p) (ORs.stp st _ _ _ (fun _ _ => rfl) q2) z
  exact ⟨_, x, y, fz⟩
theorem ORs.app {xs ys : List SV} {us vs : List V} {f1 f2 : List Addr} (h : ORs K cl A H xs us f1) (g : ORs K cl A H ys vs f2) : ORs K cl A H (xs ++ ys) (us ++ vs) (f1 ++ f2) := ORs.join h g
/-- the last item evaluated goes behind the others -/
theorem Rel.rot {ss : List SV} {vs : List V} (hl : ss.length = vs.length) (r : Rel K cl O ro ρ (ss ++ s :: ts) σ (vs ++ v :: ws) f H) : ∃ f', Ext f H f' H ∧ Rel K cl O ro ρ ((s :: ss) ++ ts) σ ((v :: vs) ++ ws) f' H := by
  obtain ⟨fe, fs, ft, e, c, d, o, p, q1, q2, z⟩ := Rel.unsplit hl r
  subst e
  unfold ORs at q2
  obtain ⟨w, ws', f1, f2, e, ef, q3, q4⟩ := q2
  cases e
  subst ef
  have hc : ∀ a, (fe ++ (f1 ++ (fs ++ f2))).count a ≤ (fe ++ (fs ++ (f1 ++ f2))).count a := fun a => by simp only [List.count_append]; omega
  have st : Stp (Av O (fe ++ (fs ++ (f1 ++ f2)))) H (Av O (fe ++ (f1 ++ (fs ++ f2)))) H := Stp.less fun a h => by
    rw [mem_of_count] at h ⊢
    exact Nat.lt_of_lt_of_le h (hc a)
  refine ⟨_, Rel.less c d o hc (OE.stp st _ _ _ (fun _ _ => rfl) p) ?_ z⟩
  rw [List.cons_append, List.cons_append]
  unfold ORs
  exact ⟨v, vs ++ ws, f1, fs ++ f2, rfl, rfl, OR.stp st _ _ _ (fun _ _ => rfl) q3, ORs.join (ORs.stp st _ _ _ (fun _ _ => rfl) q1) (ORs.stp st _ _ _ (fun _ _ => rfl) q4)⟩
/-- a new object that is owned, made of the last temporaries -/
theorem Rel.newO {ss : List SV} {vs : List V} {p : Addr} {ob : HO} {S1 : SV} (hl : ss.length = vs.length) (r : Rel K cl O ro ρ (ss ++ ts) σ (vs ++ ws) f H) (n : H p = none)
    (mk : ∀ A' H' fs, H' p = some ob → ORs K cl A' H' ss vs fs → OR K cl A' H' S1 (.ref p) (p :: fs)) :
    ∃ f', Ext f H f' (upd H p ob) ∧ Rel K cl O ro ρ (S1 :: ts) σ (.ref p :: ws) f' (upd H p ob) := by
  obtain ⟨e1, r1, np, _⟩ := r.alloc (o := ob) n
  obtain ⟨fe, fs, ft, e, c, d, o, pp, q1, q2, z⟩ := Rel.unsplit hl r1
  subst e
  have pn : p ∉ fe ++ (fs ++ ft) := fun h => np (.inr h)
  have st : Stp (Av O (fe ++ (fs ++ ft))) H (Av O (fe ++ ((p :: fs) ++ ft))) (upd H p ob) := fun a u q m => by
    refine ⟨e1.1 a u q, fun h => ?_⟩
    rcases h with h | h
    · exact m (.inl h)
    · simp only [List.mem_append, List.mem_cons] at h
      rcases h with h | (h | h) | h
      · exact m (.inr (by simp only [List.mem_append]; exact .inl h))
      · subst h; rw [n] at q; cases q
      · exact m (.inr (by simp only [List.mem_append]; exact .inr (.inl h)))
      · exact m (.inr (by simp only [List.mem_append]; exact .inr (.inr h)))
  obtain ⟨fe0, fs0, ft0, e0, c0, d0, o0, pp0, q10, q20, z0⟩ := Rel.unsplit hl r
  have same : ∀ a ∈ fe0 ++ (fs0 ++ ft0), (upd H p ob) a = H a := fun a h => upd_ne fun z => pn (by rw [← z, e0]; exact h)
  rw [e0] at pp0 q10 q20
  have st0 : Stp (Av O (fe0 ++ (fs0 ++ ft0))) H (Av O (fe0 ++ ((p :: fs0) ++ ft0))) (upd H p ob) := fun a u q m => by
    refine ⟨e1.1 a u q, fun h => ?_⟩
    rcases h with h | h
    · exact m (.inl h)
    · simp only [List.mem_append, List.mem_cons] at h
      rcases h with h | (h | h) | h
      · exact m (.inr (by simp only [List.mem_append]; exact .inl h))
      · subst h; rw [n] at q; cases q
      · exact m (.inr (by simp only [List.mem_append]; exact .inr (.inl h)))
      · exact m (.inr (by simp only [List.mem_append]; exact .inr (.inr h)))
  refine ⟨fe0 ++ ((p :: fs0) ++ ft0), ⟨e1.1, fun a h => ?_⟩, fe0, (p :: fs0) ++ ft0, rfl, fun a => ?_, fun a h => ?_, o, OE.stp st0 _ _ _ (fun a h => same a (by simp only [List.mem_append]; exact .inl h)) pp0, ?_, z0⟩
  · rw [e0]
    simp only [List.mem_append, List.mem_cons] at h ⊢
    rcases h with h | (h | h) | h
    · exact .inl (.inl h)
    · right; rw [h]; exact n
    · exact .inl (.inr (.inl h))
    · exact .inl (.inr (.inr h))
  · have h1 := c0 a
    rw [e0] at h1
    simp only [List.count_append, List.count_cons] at h1 ⊢
    by_cases ha : p = a
    · subst ha
      have : (fe ++ (fs ++ ft)).count p = 0 := List.count_eq_zero.mpr pn
      rw [e0] at this
      simp only [List.count_append] at this
      simp
      omega
    · have : (p == a) = false := by simpa using ha
      rw [this]
      simp
      omega
  · simp only [List.mem_append, List.mem_cons] at h
    rcases h with h | (h | h) | h
    · exact d0 a (by rw [e0]; simp only [List.mem_append]; exact .inl h)
    · rw [h]; exact fun z => np (.inl z)
    · exact d0 a (by rw [e0]; simp only [List.mem_append]; exact .inr (.inl h))
    · exact d0 a (by rw [e0]; simp only [List.mem_append]; exact .inr (.inr h))
  · refine ORs.cons ?_ (ORs.stp st0 _ _ _ (fun a h => same a (by simp only [List.mem_append]; exact .inr (.inr h))) q20)
    exact mk _ _ fs0 upd_same (ORs.stp st0 _ _ _ (fun a h => same a (by simp only [List.mem_append]; exact .inr (.inl h))) q10)
/-- a new list that is owned -/
theorem Rel.newLst {ss : List SV} {vs : List V} {p : Addr} (hl : ss.length = vs.length) (r : Rel K cl O ro ρ (ss ++ ts) σ (vs ++ ws) f H) (n : H p = none) :
    ∃ f', Ext f H f' (upd H p (.lst vs)) ∧ Rel K cl O ro ρ (.lst ss :: ts) σ (.ref p :: ws) f' (upd H p (.lst vs)) :=
  Rel.newO hl r n fun A' H' fs e q => by
    unfold OR
    exact ⟨p, vs, fs, rfl, e, rfl, q⟩
/-- the empty dict on top is filled -/
theorem Rel.fillDk {ks : List Kx} {xs : List D} {vs : List V} {p : Addr} (hk : ks.length = vs.length) (r : Rel K cl O ro ρ (.dk [] [] :: ts) σ (.ref p :: ws) f H) (m : VRs K cl (Av O f) H xs vs) :
    H p = some (.dK []) ∧ ExW f H f (upd H p (.dK (zipK ks vs))) ∧ Rel K cl O ro ρ (.dk ks (xs.map .d) :: ts) σ (.ref p :: ws) f (upd H p (.dK (zipK ks vs))) := by
  obtain ⟨fe, ft, e, c, d, o, pp, q, z⟩ := r
  unfold ORs at q
  obtain ⟨w, ws', f1, f2, e0, ef, q1, q2⟩ := q
  cases e0
  subst ef
  unfold OR at q1
  obtain ⟨a, zs, fa, ea, hH, hl, ef, q3⟩ := q1
  cases ea
  unfold ORs at q3
  obtain ⟨rfl, rfl⟩ := q3
  subst ef
  subst e
  have hH : H p = some (.dK []) := hH
  have cp := c p
  simp only [List.count_append, List.count_cons_self] at cp
  have np : p ∉ fe ∧ p ∉ f2 := by
    refine ⟨?_, ?_⟩ <;> (intro h; rw [mem_of_count] at h; omega)
  have inp : p ∈ fe ++ ([p] ++ f2) := by simp
  have st : Stp (Av O (fe ++ ([p] ++ f2))) H (Av O (fe ++ ([p] ++ f2))) (upd H p (.dK (zipK ks vs))) := fun b u h n => by
    refine ⟨?_, n⟩
    rw [upd_ne fun z => n (.inr (by rw [z]; exact inp))]
    exact h
  have same : ∀ {g : List Addr}, p ∉ g → ∀ b ∈ g, upd H p (.dK (zipK ks vs)) b = H b := fun hg b h => upd_ne fun z => hg (by rw [← z]; exact h)
  refine ⟨hH, ⟨fun b u h n => ?_, fun b h => .inl h⟩, fe, [p] ++ f2, rfl, c, d, fun b h => ?_, OE.stp st _ _ _ (same np.1) pp, ORs.cons ?_ (ORs.stp st _ _ _ (same np.2) q2), z⟩
  · rw [upd_ne fun z => n (by rw [z]; exact inp)]
    exact h
  · by_cases e : b = p
    · rw [e, upd_same]; exact fun z => nomatch z
    · rw [upd_ne e]; exact o b h
  · unfold OR
    exact ⟨p, vs, [], rfl, upd_same, hk, rfl, ORs.stp st _ _ _ (fun b h => by cases h) (ORs.ofD m)⟩
/-- a new dict that is owned -/
theorem Rel.newDk {ks : List Kx} {ss : List SV} {vs : List V} {p : Addr} (hl : ss.length = vs.length) (hk : ks.length = vs.length) (r : Rel K cl O ro ρ (ss ++ ts) σ (vs ++ ws) f H) (n : H p = none) :
    ∃ f', Ext f H f' (upd H p (.dK (zipK ks vs))) ∧ Rel K cl O ro ρ (.dk ks ss :: ts) σ (.ref p :: ws) f' (upd H p (.dK (zipK ks vs))) :=
  Rel.newO hl r n fun A' H' fs e q => by
    unfold OR
    exact ⟨p, vs, fs, rfl, e, hk, rfl, q⟩
end
end Kn

set_option Elab.async false
set_option linter.all false
set_option maxRecDepth 100000
set_option maxHeartbeats 4000000
/-! Ops: an outcome's promise; operators of data are the model's. -/
namespace Kn
open PySem L2

section
variable (K : PySem.W.Frag) (cl : String → Option Addr) (O : Addr → Prop) (ro : List (Nat × V)) (W : WX)
/-- an exception as data -/
def XR (A : Addr → Prop) (H : Hp) (x : Xc) (c : Value) (d : Option Addr) : Prop :=
  ∃ C dd fs ws, cl x.c = some C ∧ c = .ref C ∧ d = some dd ∧ H dd = some (.xd fs) ∧ ¬ A dd ∧ x.ns.length = ws.length ∧ VRs K cl A H x.xs ws ∧ ∀ n, fs.lookup n = (zipS x.ns ws).lookup n
/-- what an outcome promises, upon the temporaries ts -/
def GE (ts : List SV) (σ : St) (ws : List V) (f : List Addr) (H : Hp) (r : R SV) (Q : VK) : Prop := match r with
  | .ok s ρ' => ∀ v H' f', Ext f H f' H' → Rel K cl O ro ρ' (s :: ts) σ (v :: ws) f' H' → Q v H'
  | .exc x ρ' => ∀ c d H' f', Ext f H f' H' → Rel K cl O ro ρ' ts σ ws f' H' → XR K cl (Av O f') H' x c d → W c d σ H'
  | .no => False
def tE (g : Env → R SV) : TE := fun σ H Q => ∃ ρ ts ws f, Rel K cl O ro ρ ts σ ws f H ∧ GE K cl O ro W ts σ ws f H (g ρ) Q
/-- behind one value, two, three -/
def tK1 (h : SV → Env → R SV) (v : V) (σ : St) (H : Hp) (Q : VK) : Prop := ∃ s ρ ts ws f, Rel K cl O ro ρ (s :: ts) σ (v :: ws) f H ∧ GE K cl O ro W ts σ ws f H (h s ρ) Q
def tK2 (h : SV → SV → Env → R SV) (v u : V) (σ : St) (H : Hp) (Q : VK) : Prop := ∃ s s' ρ ts ws f, Rel K cl O ro ρ (s' :: s :: ts) σ (u :: v :: ws) f H ∧ GE K cl O ro W ts σ ws f H (h s s' ρ) Q
def tK3 (h : SV → SV → SV → Env → R SV) (v u w : V) (σ : St) (H : Hp) (Q : VK) : Prop := ∃ s s' s'' ρ ts ws f, Rel K cl O ro ρ (s'' :: s' :: s :: ts) σ (w :: u :: v :: ws) f H ∧ GE K cl O ro W ts σ ws f H (h s s' s'' ρ) Q
end
section
variable {K : PySem.W.Frag} {cl : String → Option Addr} {O : Addr → Prop} {ro : List (Nat × V)} {W : WX} {ρ : Env} {ts : List SV} {σ : St} {ws : List V} {f f' : List Addr} {H H' : Hp} {s s' : SV} {v u : V} {x : D} {A A' : Addr → Prop} {r : R SV} {Q : VK}
theorem GE.ext (e : Ext f H f' H') (h : GE K cl O ro W ts σ ws f H r Q) : GE K cl O ro W ts σ ws f' H' r Q := by
  cases r with
  | ok s ρ' => exact fun v H2 f2 e2 r2 => h v H2 f2 (e.trans e2) r2
  | exc x ρ' => exact fun c d H2 f2 e2 r2 => h c d H2 f2 (e.trans e2) r2
  | no => exact h
theorem tE.bind {g : Env → R SV} {h : SV → Env → R SV} (q : tE K cl O ro W (fun ρ => (g ρ).bind h) σ H Q) : tE K cl O ro W g σ H fun v H1 => tK1 K cl O ro W h v σ H1 Q := by
  obtain ⟨ρ, ts, ws, f, r, q⟩ := q
  dsimp only at q
  refine ⟨ρ, ts, ws, f, r, ?_⟩
  cases e : g ρ with
  | ok s ρ1 =>
    rw [e] at q
    exact fun v H1 f1 e1 r1 => ⟨s, ρ1, ts, ws, f1, r1, GE.ext e1 q⟩
  | exc x ρ1 =>
    rw [e] at q
    exact q
  | no =>
    rw [e] at q
    exact q
theorem tK1.bind {g : Env → R SV} {h : SV → SV → Env → R SV} (q : tK1 K cl O ro W (fun x ρ => (g ρ).bind (h x)) v σ H Q) : tE K cl O ro W g σ H fun u H1 => tK2 K cl O ro W h v u σ H1 Q := by
  obtain ⟨s, ρ, ts, ws, f, r, q⟩ := q
  dsimp only at q
  refine ⟨ρ, s :: ts, v :: ws, f, r, ?_⟩
  cases e : g ρ with
  | ok s1 ρ1 =>
    rw [e] at q
    exact fun u H1 f1 e1 r1 => ⟨s, s1, ρ1, ts, ws, f1, r1, GE.ext e1 q⟩
  | exc x ρ1 =>
    rw [e] at q
    intro c d H' f' e1 r1 xr
    obtain ⟨f2, e2, r2⟩ := r1.pop
    have q' : ∀ c d H' f', Ext f H f' H' → Rel K cl O ro ρ1 ts σ ws f' H' → XR K cl (Av O f') H' x c d → W c d σ H' := q
    refine q' c d H' f2 (e1.trans e2) r2 ?_
    obtain ⟨C, dd, fs, zs, a1, a2, a3, a4, a0, a5, a6, a7⟩ := xr
    refine ⟨C, dd, fs, zs, a1, a2, a3, a4, ((Stp.ext e2 (fun _ h => h) (fun a h => .inl h)) dd _ a4 a0).2, a5, VRs.stp (Stp.ext e2 (fun _ h => h) (fun a h => .inl h)) _ _ a6, a7⟩
  | no =>
    rw [e] at q
    exact q
theorem tK2.bind {g : Env → R SV} {h : SV → SV → SV → Env → R SV} (q : tK2 K cl O ro W (fun x y ρ => (g ρ).bind (h x y)) v u σ H Q) : tE K cl O ro W g σ H fun w H1 => tK3 K cl O ro W h v u w σ H1 Q := by
  obtain ⟨s, s2, ρ, ts, ws, f, r, q⟩ := q
  dsimp only at q
  refine ⟨ρ, s2 :: s :: ts, u :: v :: ws, f, r, ?_⟩
  cases e : g ρ with
  | ok s1 ρ1 =>
    rw [e] at q
    exact fun u H1 f1 e1 r1 => ⟨s, s2, s1, ρ1, ts, ws, f1, r1, GE.ext e1 q⟩
  | exc x ρ1 =>
    rw [e] at q
    intro c d H' f' e1 r1 xr
    obtain ⟨f2, e2, r2⟩ := r1.pop
    obtain ⟨f3, e3, r3⟩ := r2.pop
    have q' : ∀ c d H' f', Ext f H f' H' → Rel K cl O ro ρ1 ts σ ws f' H' → XR K cl (Av O f') H' x c d → W c d σ H' := q
    refine q' c d H' f3 ((e1.trans e2).trans e3) r3 ?_
    obtain ⟨C, dd, fs, zs, a1, a2, a3, a4, a0, a5, a6, a7⟩ := xr
    refine ⟨C, dd, fs, zs, a1, a2, a3, a4, ((Stp.ext (e2.trans e3) (fun _ h => h) (fun a h => .inl h)) dd _ a4 a0).2, a5, VRs.stp (Stp.ext (e2.trans e3) (fun _ h => h) (fun a h => .inl h)) _ _ a6, a7⟩
  | no =>
    rw [e] at q
    exact q
/-- the values as data -/
theorem tK1.frz {h : SV → Env → R SV} (q : tK1 K cl O ro W h v σ H Q) : ∃ s ρ ts ws f, VR K cl (Av O f) H (frz s) v ∧ Rel K cl O ro ρ ts σ ws f H ∧ GE K cl O ro W ts σ ws f H (h s ρ) Q := by
  obtain ⟨s, ρ, ts, ws, f, r, q⟩ := q
  obtain ⟨f1, e1, r1⟩ := r.freeze
  have t1 := r1.top
  obtain ⟨f2, e2, r2⟩ := r1.pop
  exact ⟨s, ρ, ts, ws, f2, VR.stp (Stp.ext e2 (fun _ h => h) fun a h => .inl h) _ _ t1, r2, GE.ext (e1.trans e2) q⟩
theorem tK2.frz {h : SV → SV → Env → R SV} (q : tK2 K cl O ro W h v u σ H Q) :
    ∃ s s' ρ ts ws f, VR K cl (Av O f) H (frz s) v ∧ VR K cl (Av O f) H (frz s') u ∧ Rel K cl O ro ρ ts σ ws f H ∧ GE K cl O ro W ts σ ws f H (h s s' ρ) Q := by
  obtain ⟨s, s', ρ, ts, ws, f, r, q⟩ := q
  obtain ⟨f1, e1, r1, z⟩ := Rel.freezes (ss := [s', s]) (vs := [u, v]) rfl r
  simp only [frzs, VRs] at z
  obtain ⟨w, ws', ee, h1, w2, ws2, ee2, h3, _⟩ := z
  cases ee
  cases ee2
  exact ⟨s, s', ρ, ts, ws, f1, h3, h1, r1, GE.ext e1 q⟩
theorem tK3.frz {h : SV → SV → SV → Env → R SV} {w : V} (q : tK3 K cl O ro W h v u w σ H Q) :
    ∃ s s' s'' ρ ts ws f, VR K cl (Av O f) H (frz s) v ∧ VR K cl (Av O f) H (frz s') u ∧ VR K cl (Av O f) H (frz s'') w ∧ Rel K cl O ro ρ ts σ ws f H ∧ GE K cl O ro W ts σ ws f H (h s s' s'' ρ) Q := by
  obtain ⟨s, s', s'', ρ, ts, ws, f, r, q⟩ := q
  obtain ⟨f1, e1, r1, z⟩ := Rel.freezes (ss := [s'', s', s]) (vs := [w, u, v]) rfl r
  simp only [frzs, VRs] at z
  obtain ⟨w, ws', ee, h1, w2, ws2, ee2, h3, w3, ws3, ee3, h5, _⟩ := z
  cases ee
  cases ee2
  cases ee3
  exact ⟨s, s', s'', ρ, ts, ws, f1, h5, h3, h1, r1, GE.ext e1 q⟩
/-! ### ends -/
theorem fin_d (r : Rel K cl O ro ρ ts σ ws f H) (h : VR K cl (Av O f) H x v) (g : GE K cl O ro W ts σ ws f H (.ok (.d x) ρ) Q) : Q v H := g v H f (Ext.refl f H) (r.push h)
theorem fin_tup {xs : List D} {vs : List V} {p : Addr} (r : Rel K cl O ro ρ ts σ ws f H) (h : VRs K cl (Av O f) H xs vs) (n : H p = none) (g : GE K cl O ro W ts σ ws f H (.ok (.d (.tup xs)) ρ) Q) : Q (.ref p) (upd H p (.tup vs)) := by
  obtain ⟨e, r1, np, st⟩ := r.alloc (o := .tup vs) n
  refine g _ _ f e (r1.push ?_)
  unfold VR
  exact ⟨p, vs, rfl, upd_same, np, VRs.stp st _ _ h⟩
theorem fin_lst {xs : List D} {vs : List V} {p : Addr} (r : Rel K cl O ro ρ ts σ ws f H) (h : VRs K cl (Av O f) H xs vs) (n : H p = none) (g : GE K cl O ro W ts σ ws f H (.ok (.lst (xs.map .d)) ρ) Q) : Q (.ref p) (upd H p (.lst vs)) := by
  have hl : (xs.map SV.d).length = vs.length := by rw [List.length_map]; exact h.len
  have r1 : Rel K cl O ro ρ (xs.map .d ++ ts) σ (vs ++ ws) f H := by
    obtain ⟨fe, ft, e, c, d, o, p, q, z⟩ := r
    refine ⟨fe, ft, e, c, d, o, p, ?_, z⟩
    have := ORs.join (ORs.ofD h) q
    rwa [List.nil_append] at this
  obtain ⟨f1, e1, r2⟩ := Rel.newLst hl r1 n
  exact g _ _ f1 e1 r2

/-! ### shapes of data -/
theorem VR.intE {i : Int} (h : VR K cl A H (.int i) v) : v = .int i := by unfold VR at h; exact h
theorem VR.blE {i : Bool} (h : VR K cl A H (.bl i) v) : v = .bl i := by unfold VR at h; exact h
theorem VR.nonE (h : VR K cl A H .non v) : v = .non := by unfold VR at h; exact h
theorem VR.strE {i : List Nat} (h : VR K cl A H (.str i) v) : v = .str (mkS i) := by unfold VR at h; exact h
theorem VR.lstE {xs : List D} (h : VR K cl A H (.lst xs) v) : ∃ a ws, v = .ref a ∧ H a = some (.lst ws) ∧ ¬ A a ∧ VRs K cl A H xs ws := by unfold VR at h; exact h
theorem VR.tupE {xs : List D} (h : VR K cl A H (.tup xs) v) : ∃ a ws, v = .ref a ∧ H a = some (.tup ws) ∧ ¬ A a ∧ VRs K cl A H xs ws := by unfold VR at h; exact h
theorem VR.argE {ns : List Int} (h : VR K cl A H (.arg ns) v) : ∃ a, v = .ref a ∧ SqL K H a (ns.map V.int) := by
  unfold VR at h
  obtain ⟨a, e, h⟩ := h
  refine ⟨a, e, ?_⟩
  rcases h with h | ⟨h, _⟩
  · rcases h with h | h
    · rcases h with h | ⟨o, h⟩ <;> cases h
    · exact .inr h
  · exact .inl h
theorem VR.insE {c : String} {ns : List String} {xs : List D} (h : VR K cl A H (.ins c ns xs) v) : ∃ a C dx ws, v = .ref a ∧ cl c = some C ∧ H a = some (.ins C dx (zipS ns ws)) ∧ ¬ A a ∧ ns.length = ws.length ∧ VRs K cl A H xs ws := by unfold VR at h; exact h
theorem VR.excE {c : String} {ns : List String} {xs : List D} (h : VR K cl A H (.exc c ns xs) v) : ∃ a C dd fs ws, v = .ref a ∧ cl c = some C ∧ H a = some (ExX C dd a) ∧ ¬ A a ∧ H dd = some (.xd fs) ∧ ¬ A dd ∧ ns.length = ws.length ∧ VRs K cl A H xs ws ∧ ∀ n, fs.lookup n = (zipS ns ws).lookup n := by unfold VR at h; exact h
theorem VR.dkE {ks : List Kx} {xs : List D} (h : VR K cl A H (.dk ks xs) v) : ∃ a ws, v = .ref a ∧ H a = some (.dK (zipK ks ws)) ∧ ¬ A a ∧ ks.length = ws.length ∧ VRs K cl A H xs ws := by unfold VR at h; exact h
theorem VR.int {i : Int} : VR K cl A H (.int i) (.int i) := by unfold VR; rfl
theorem VR.bl {i : Bool} : VR K cl A H (.bl i) (.bl i) := by unfold VR; rfl
theorem VR.non : VR K cl A H .non .non := by unfold VR; rfl
theorem VR.str {i : List Nat} : VR K cl A H (.str i) (.str (mkS i)) := by unfold VR; rfl
theorem VR.strS {z : Str} {i : List Nat} (h : z.cps.toList = i) : VR K cl A H (.str i) (.str z) := by
  unfold VR
  rw [← h, mkS_list]
end
theorem mkS_len (l : List Nat) : (mkS l).length = l.length := by simp [mkS, Str.length]
theorem mkS_app (l m : List Nat) : mkS l ++ mkS m = mkS (l ++ m) := by
  have h : (mkS l ++ mkS m).cps = (mkS (l ++ m)).cps := by
    show (mkS l).cps ++ (mkS m).cps = _
    simp [mkS]
  cases e : (mkS l ++ mkS m)
  rw [e] at h
  cases e2 : mkS (l ++ m)
  rw [e2] at h
  simp at h
  rw [h]
theorem mkS_inj {l m : List Nat} : mkS l = mkS m ↔ l = m := by simp [mkS]
theorem mkS_eq {l m : List Nat} : (mkS l == mkS m) = (l == m) := by
  by_cases h : l = m
  · subst h; simp
  · have : mkS l ≠ mkS m := fun z => h (mkS_inj.mp z)
    rw [beq_eq_false_iff_ne.mpr this, beq_eq_false_iff_ne.mpr h]
theorem lim_le {n : Nat} (h : n ≤ lim) : n ≤ sizeLine := Nat.le_trans h (by decide)
theorem lim_lt {n : Nat} (h : n < lim) : n < sizeLine := Nat.lt_of_lt_of_le h (by decide)

/-! ### + - * // % -/
def opOf : BOp → Operator
  | .add => .Add
  | .sub => .Sub
  | .mul => .Mult
  | .fdiv => .FloorDiv
  | .mod => .Mod
theorem tooLong_small {n : Nat} (h : n ≤ 1000000) : Builtin.Str.tooLong n = false := by
  unfold Builtin.Str.tooLong
  simp only [decide_eq_false_iff_not]
  have : sizeLine = 16777216 := sizeLine_eq
  first
    | omega
    | (rw [this]; omega)
section
variable {X : Cx}
theorem op_mul_str : OpR X (binaryOp .Mult) (fun x y H Q => ∃ z n, x = .str z ∧ y = .int n ∧ MulOk z n ∧ Q (.str (Txt.mul z n)) H) := by
  intro pins s σ H x y v u Q I rx ry h
  obtain ⟨z, n, rfl, rfl, hok, q⟩ := h
  obtain ⟨t, rfl⟩ := rx
  obtain ⟨t', rfl⟩ := ry
  exact PySem.SB.mul hok fun t' k => ⟨.str _, H, I.tok _, ⟨_, rfl⟩, q⟩
def rBin (K : PySem.W.Frag) : BOp → R2
  | .add => fun x y H Q => rI0 (fun i j => .int (i + j)) x y H Q ∨ ((∃ i j, x = .str i ∧ y = .str j ∧ i.length + j.length ≤ sizeLine ∧ Q (.str (i ++ j)) H) ∨ (rCat x y H Q ∨ rCatA K x y H Q))
  | .sub => rI0 fun i j => .int (i - j)
  | .mul => fun x y H Q => rI CMul (fun i j => .int (i * j)) x y H Q ∨ (∃ z n, x = .str z ∧ y = .int n ∧ MulOk z n ∧ Q (.str (Txt.mul z n)) H)
  | .fdiv => rI CDiv fun i j => .int (i / j)
  | .mod => rI (fun _ j => 0 < j) fun i j => .int (i % j)
theorem rBin_ok (o : BOp) : OpR X (binaryOp (opOf o)) (rBin X.K o) := by
  cases o with
  | add => exact op_add.or (op_add_str.or (op_cat.or op_catA))
  | sub => exact op_sub
  | mul => exact op_mul.or op_mul_str
  | fdiv => exact op_fdiv
  | mod => exact op_mod
end
theorem foldl_cat (l : List Nat) : ∀ (n : Nat) (acc : Array Nat), ((List.replicate n l.toArray).foldl (· ++ ·) acc).toList = acc.toList ++ reps n l
  | 0, acc => by simp [reps]
  | n + 1, acc => by
    rw [List.replicate_succ, List.foldl_cons, foldl_cat l n]
    simp [reps, List.replicate_succ]
theorem mul_reps (l : List Nat) (n : Int) : (Txt.mul (mkS l) n).cps.toList = reps n.toNat l := by
  unfold Txt.mul
  by_cases h : n < 1
  · rw [if_pos h, show n.toNat = 0 by omega]
    rfl
  · rw [if_neg h]
    by_cases h2 : (n == 1 || (mkS l).length == 0) = true
    · rw [if_pos h2]
      rw [mkS_len] at h2
      simp only [Bool.or_eq_true, beq_iff_eq, List.length_eq_zero_iff] at h2
      rcases h2 with h2 | h2
      · subst h2
        simp [reps, mkS]
      · subst h2
        have key : ∀ k, reps k [] = [] := fun k => by
          unfold reps
          induction k with
          | zero => rfl
          | succ k ih => rw [List.replicate_succ, List.flatten_cons, ih]; rfl
        rw [key]
        simp [mkS]
    · rw [if_neg h2]
      show (((List.replicate n.toNat l.toArray).foldl (· ++ ·) #[])).toList = _
      rw [foldl_cat]
      simp
theorem mulOk_small {l : List Nat} {n : Int} (h1 : l.length ≤ 1000) (h2 : n ≤ 1000) (h3 : -(2 ^ 63) ≤ n) : MulOk (mkS l) n := by
  refine ⟨?_, fun h _ => ?_, fun h _ => ?_⟩
  · simp only [Bool.or_eq_false_iff, decide_eq_false_iff_not]
    omega
  · rw [mkS_len]
    have hn : 1 ≤ n := by omega
    have h5 : (1000 : Int) ≤ (2 ^ 63 - 1) / n := by
      refine Int.le_trans (show (1000 : Int) ≤ (2 ^ 63 - 1) / 1000 by decide) ?_
      exact Int.le_ediv_of_mul_le (by omega) (by
        have := Int.mul_le_mul_of_nonneg_left h2 (show (0 : Int) ≤ (2 ^ 63 - 1) / 1000 by decide)
        exact Int.le_trans this (by decide))
    omega
  · rw [mkS_len]
    refine tooLong_small ?_
    have : n.toNat ≤ 1000 := by omega
    exact Nat.mul_le_mul h1 this
section
variable {K : PySem.W.Frag} {cl : String → Option Addr} {O : Addr → Prop} {ro : List (Nat × V)} {W : WX} {ρ : Env} {ts : List SV} {σ : St} {ws : List V} {f f' : List Addr} {H H' : Hp} {v u : V} {x y : D} {Q : VK}
theorem bin_ok (o : BOp) (rr : Rel K cl O ro ρ ts σ ws f H) (h1 : VR K cl (Av O f) H x v) (h2 : VR K cl (Av O f) H y u) (g : GE K cl O ro W ts σ ws f H (R.of (binD o x y) ρ) Q) : rBin K o v u H Q := by
  cases o with
  | add =>
    unfold binD at g
    split at g
    all_goals first | cases ‹BOp.add = _› | skip
    · rw [h1.intE, h2.intE]
      exact .inl ⟨_, _, rfl, rfl, fin_d rr VR.int g⟩
    · split at g
      · rename_i hl
        rw [h1.strE, h2.strE]
        refine .inr (.inl ⟨_, _, rfl, rfl, by rw [mkS_len, mkS_len]; exact lim_le hl, ?_⟩)
        rw [mkS_app]
        exact fin_d rr VR.str g
      · exact g.elim
    · split at g
      · rename_i hl
        obtain ⟨a, zs, rfl, e1, n1, r1⟩ := h1.lstE
        obtain ⟨b, us, rfl, e2, n2, r2⟩ := h2.lstE
        refine .inr (.inr (.inl ⟨a, b, zs, us, rfl, rfl, e1, e2, ?_, fun p np => ?_⟩))
        · rw [← r1.len, ← r2.len]; exact lim_le hl
        · exact fin_lst rr (VRs.app r1 r2) np g
      · exact g.elim
    · split at g
      · rename_i hl
        obtain ⟨a, zs, rfl, e1, n1, r1⟩ := h1.tupE
        obtain ⟨b, us, rfl, e2, n2, r2⟩ := h2.tupE
        have hv : ∀ {c : Addr} {ks : List D} {ls : List V}, H c = some (.tup ls) → ¬ Av O f c → VRs K cl (Av O f) H ks ls → VR K cl (Av O f) H (.tup ks) (.ref c) := fun e n r => by
          unfold VR
          exact ⟨_, _, rfl, e, n, r⟩
        refine .inr (.inr (.inr ⟨a, b, zs, us, rfl, rfl, SqT.of e1, SqT.of e2, ?_, fun hz => ?_, fun hz hu => ?_, fun hz hu p np => ?_⟩))
        · rw [← r1.len, ← r2.len]; exact lim_le hl
        · subst hz
          have e0 := r1.len
          simp at e0
          subst e0
          exact fin_d rr (hv e2 n2 r2) g
        · subst hu
          have e0 := r2.len
          simp at e0
          subst e0
          rw [List.append_nil] at g
          exact fin_d rr (hv e1 n1 r1) g
        · exact fin_tup rr (VRs.app r1 r2) np g
      · exact g.elim
    · exact g.elim
  | sub =>
    unfold binD at g
    split at g
    all_goals first | cases ‹BOp.sub = _› | skip
    · rw [h1.intE, h2.intE]
      exact ⟨_, _, rfl, rfl, fin_d rr VR.int g⟩
    · exact g.elim
  | mul =>
    unfold binD at g
    split at g
    all_goals first | cases ‹BOp.mul = _› | skip
    · split at g
      · rename_i hc
        rw [h1.intE, h2.intE]
        exact .inl ⟨_, _, rfl, rfl, hc, fin_d rr VR.int g⟩
      · exact g.elim
    · split at g
      · rename_i hc
        rw [h1.strE, h2.intE]
        exact .inr ⟨_, _, rfl, rfl, mulOk_small hc.1 hc.2.1 (by omega), fin_d rr (VR.strS (mul_reps _ _)) g⟩
      · exact g.elim
    · exact g.elim
  | fdiv =>
    unfold binD at g
    split at g
    all_goals first | cases ‹BOp.fdiv = _› | skip
    · split at g
      · rename_i hc
        rw [h1.intE, h2.intE]
        exact ⟨_, _, rfl, rfl, hc, fin_d rr VR.int g⟩
      · exact g.elim
    · exact g.elim
  | mod =>
    unfold binD at g
    split at g
    all_goals first | cases ‹BOp.mod = _› | skip
    · split at g
      · rename_i hc
        rw [h1.intE, h2.intE]
        exact ⟨_, _, rfl, rfl, hc, fin_d rr VR.int g⟩
      · exact g.elim
    · exact g.elim
end
end Kn

set_option Elab.async false
set_option linter.all false
set_option maxRecDepth 100000
set_option maxHeartbeats 4000000
/-! Ops2: comparisons, items, slices, built-in functions. -/
namespace Kn
open PySem L2

mutual
def py : D → PyData
  | .non => .none
  | .bl b => .bool b
  | .int i => .int i
  | .str s => .str (mkS s)
  | .tup xs => .tuple (pys xs)
  | .lst xs => .list (pys xs)
  | _ => .none
def pys : List D → List PyData
  | [] => []
  | x :: xs => py x :: pys xs
end
section
variable {K : PySem.W.Frag} {cl : String → Option Addr} {A : Addr → Prop} {H : Hp} {v u : V}
mutual
theorem VR.dp : ∀ (x : D) (n : Nat) (v : V), okD x n = true → VR K cl A H x v → Dp K H v (py x) ∧ (py x).canLay0 = true ∧ (py x).depth ≤ n
  | .non, n, v, _, r => by rw [r.nonE]; unfold py; exact ⟨.non, rfl, Nat.zero_le _⟩
  | .bl b, n, v, _, r => by rw [r.blE]; unfold py; exact ⟨.bl b, rfl, Nat.zero_le _⟩
  | .int b, n, v, _, r => by rw [r.intE]; unfold py; exact ⟨.int b, rfl, Nat.zero_le _⟩
  | .str s, n, v, h, r => by
    rw [r.strE]
    unfold py
    refine ⟨.str _, ?_, Nat.zero_le _⟩
    unfold okD at h
    show (mkS s).cps.all (· < 0x110000) = true
    unfold mkS
    simpa using h
  | .tup xs, 0, v, h, r => by unfold okD at h; cases h
  | .lst xs, 0, v, h, r => by unfold okD at h; cases h
  | .tup xs, n + 1, v, h, r => by
    unfold okD at h
    obtain ⟨a, ws, rfl, e, _, m⟩ := r.tupE
    obtain ⟨h1, h2, h3⟩ := VRs.dp xs n ws h m
    unfold py
    exact ⟨.tup (SqT.of e) h1, h2, Nat.succ_le_succ h3⟩
  | .lst xs, n + 1, v, h, r => by
    unfold okD at h
    obtain ⟨a, ws, rfl, e, _, m⟩ := r.lstE
    obtain ⟨h1, h2, h3⟩ := VRs.dp xs n ws h m
    unfold py
    exact ⟨.lst (SqL.of e) h1, h2, Nat.succ_le_succ h3⟩
  | .ty _, n, v, h, r => by cases n <;> (unfold okD at h; cases h)
  | .cls _, n, v, h, r => by cases n <;> (unfold okD at h; cases h)
  | .arg _, n, v, h, r => by cases n <;> (unfold okD at h; cases h)
  | .ins _ _ _, n, v, h, r => by cases n <;> (unfold okD at h; cases h)
theorem VRs.dp : ∀ (xs : List D) (n : Nat) (ws : List V), okDs xs n = true → VRs K cl A H xs ws → DpAll K H ws (pys xs) ∧ PyData.canLayAll0 (pys xs) = true ∧ PyData.depthAll (pys xs) ≤ n
  | [], n, ws, _, r => by
    unfold VRs at r
    rw [r]
    unfold pys
    exact ⟨.nil, rfl, Nat.zero_le _⟩
  | x :: xs, n, ws, h, r => by
    unfold VRs at r
    unfold okDs at h
    rw [Bool.and_eq_true] at h
    obtain ⟨w, ws', rfl, q, m⟩ := r
    obtain ⟨h1, h2, h3⟩ := VR.dp x n w h.1 q
    obtain ⟨g1, g2, g3⟩ := VRs.dp xs n ws' h.2 m
    unfold pys
    refine ⟨.cons h1 g1, ?_, ?_⟩
    · unfold PyData.canLayAll0
      rw [h2, g2]
      rfl
    · unfold PyData.depthAll
      exact Nat.max_le.mpr ⟨h3, g3⟩
end
mutual
theorem eqv_py : ∀ (x y : D) (n : Nat), okD x n = true → okD y n = true → PyData.eqv (py x) (py y) = eqvD x y
  | .tup xs, .tup ys, 0, h, _ => by unfold okD at h; cases h
  | .lst xs, .lst ys, 0, h, _ => by unfold okD at h; cases h
  | .tup xs, .tup ys, n + 1, h, g => by
    unfold okD at h g
    simp only [py, PyData.eqv, eqvD]
    exact eqv_pys xs ys n h g
  | .lst xs, .lst ys, n + 1, h, g => by
    unfold okD at h g
    simp only [py, PyData.eqv, eqvD]
    exact eqv_pys xs ys n h g
  | .str a, .str b, n, _, _ => by
    simp only [py, PyData.eqv, eqvD]
    exact mkS_eq
  | .ty _, y, n, h, _ => by cases n <;> (unfold okD at h; cases h)
  | .cls _, y, n, h, _ => by cases n <;> (unfold okD at h; cases h)
  | .arg _, y, n, h, _ => by cases n <;> (unfold okD at h; cases h)
  | .ins _ _ _, y, n, h, _ => by cases n <;> (unfold okD at h; cases h)
  | x, .ty _, n, _, h => by cases n <;> (unfold okD at h; cases h)
  | x, .cls _, n, _, h => by cases n <;> (unfold okD at h; cases h)
  | x, .arg _, n, _, h => by cases n <;> (unfold okD at h; cases h)
  | x, .ins _ _ _, n, _, h => by cases n <;> (unfold okD at h; cases h)
  | .non, .non, _, _, _ => by simp only [py, PyData.eqv, eqvD]
  | .non, .bl _, _, _, _ => by simp only [py, PyData.eqv, eqvD]
  | .non, .int _, _, _, _ => by simp only [py, PyData.eqv, eqvD]
  | .non, .str _, _, _, _ => by simp only [py, PyData.eqv, eqvD]
  | .non, .tup _, _, _, _ => by simp only [py, PyData.eqv, eqvD]
  | .non, .lst _, _, _, _ => by simp only [py, PyData.eqv, eqvD]
  | .bl _, .non, _, _, _ => by simp only [py, PyData.eqv, eqvD]
  | .bl _, .bl _, _, _, _ => by simp only [py, PyData.eqv, eqvD]
  | .bl _, .int _, _, _, _ => by simp only [py, PyData.eqv, eqvD]
  | .bl _, .str _, _, _, _ => by simp only [py, PyData.eqv, eqvD]
  | .bl _, .tup _, _, _, _ => by simp only [py, PyData.eqv, eqvD]
  | .bl _, .lst _, _, _, _ => by simp only [py, PyData.eqv, eqvD]
  | .int _, .non, _, _, _ => by simp only [py, PyData.eqv, eqvD]
  | .int _, .bl _, _, _, _ => by simp only [py, PyData.eqv, eqvD]
  | .int _, .int _, _, _, _ => by simp only [py, PyData.eqv, eqvD]
  | .int _, .str _, _, _, _ => by simp only [py, PyData.eqv, eqvD]
  | .int _, .tup _, _, _, _ => by simp only [py, PyData.eqv, eqvD]
  | .int _, .lst _, _, _, _ => by simp only [py, PyData.eqv, eqvD]
  | .str _, .non, _, _, _ => by simp only [py, PyData.eqv, eqvD]
  | .str _, .bl _, _, _, _ => by simp only [py, PyData.eqv, eqvD]
  | .str _, .int _, _, _, _ => by simp only [py, PyData.eqv, eqvD]
  | .str _, .tup _, _, _, _ => by simp only [py, PyData.eqv, eqvD]
  | .str _, .lst _, _, _, _ => by simp only [py, PyData.eqv, eqvD]
  | .tup _, .non, _, _, _ => by simp only [py, PyData.eqv, eqvD]
  | .tup _, .bl _, _, _, _ => by simp only [py, PyData.eqv, eqvD]
  | .tup _, .int _, _, _, _ => by simp only [py, PyData.eqv, eqvD]
  | .tup _, .str _, _, _, _ => by simp only [py, PyData.eqv, eqvD]
  | .tup _, .lst _, _, _, _ => by simp only [py, PyData.eqv, eqvD]
  | .lst _, .non, _, _, _ => by simp only [py, PyData.eqv, eqvD]
  | .lst _, .bl _, _, _, _ => by simp only [py, PyData.eqv, eqvD]
  | .lst _, .int _, _, _, _ => by simp only [py, PyData.eqv, eqvD]
  | .lst _, .str _, _, _, _ => by simp only [py, PyData.eqv, eqvD]
  | .lst _, .tup _, _, _, _ => by simp only [py, PyData.eqv, eqvD]
theorem eqv_pys : ∀ (xs ys : List D) (n : Nat), okDs xs n = true → okDs ys n = true → PyData.eqvAll (pys xs) (pys ys) = eqvDs xs ys
  | [], [], _, _, _ => by simp only [pys, PyData.eqvAll, eqvDs]
  | [], _ :: _, _, _, _ => by simp only [pys, PyData.eqvAll, eqvDs]
  | _ :: _, [], _, _, _ => by simp only [pys, PyData.eqvAll, eqvDs]
  | x :: xs, y :: ys, n, h, g => by
    unfold okDs at h g
    rw [Bool.and_eq_true] at h g
    simp only [pys, PyData.eqvAll, eqvDs]
    rw [eqv_py x y n h.1 g.1, eqv_pys xs ys n h.2 g.2]
end
theorem shaped_of {x : D} {v : V} (h : okD x 50 = true) (r : VR K cl A H x v) : SeqAt.shaped (py x) = true := by
  obtain ⟨_, h2, h3⟩ := VR.dp x 50 v h r
  unfold SeqAt.shaped
  rw [h2, decide_eq_true (Nat.le_trans h3 (by decide))]
  rfl
def cOf : COp → CmpOp
  | .eq => .Eq
  | .ne => .NotEq
  | .lt => .Lt
  | .le => .LtE
  | .gt => .Gt
  | .ge => .GtE
  | .is_ => .Is
  | .isnot => .IsNot
  | .in_ => .In
  | .notin => .NotIn
def rSgn (neg : Bool) : R2 := fun x y H Q => ∃ (c : Nat) (z : Str), x = .str ⟨#[c]⟩ ∧ y = .str z ∧ Q (.bl (if neg then !decide (c ∈ z.cps.toList) else decide (c ∈ z.cps.toList))) H
def rCmp (K : PySem.W.Frag) : COp → R2
  | .eq => fun x y H Q => rEq x y H Q ∨ rEqD K x y H Q
  | .ne => fun x y H Q => rNe x y H Q ∨ rNeD K x y H Q
  | .lt => rI0 fun i j => .bl (decide (i < j))
  | .le => rI0 fun i j => .bl (decide (i ≤ j))
  | .gt => rI0 fun i j => .bl (decide (j < i))
  | .ge => rI0 fun i j => .bl (decide (j ≤ i))
  | .is_ => fun x y H Q => y = .non ∧ Q (.bl (decide (x = .non))) H
  | .isnot => fun x y H Q => y = .non ∧ Q (.bl (!decide (x = .non))) H
  | .in_ => fun x y H Q => rSgn false x y H Q ∨ (rIn K false x y H Q ∨ rInD K x y H Q)
  | .notin => fun x y H Q => rSgn true x y H Q ∨ (rIn K true x y H Q ∨ rNotInD K x y H Q)
theorem rCmp_ok {X : Cx} (hu : X.A.units + 70 < cLine) (o : COp) : OpR X (compareOp (cOf o)) (rCmp X.K o) := by
  cases o with
  | eq => exact op_eq.or (op_eqD (by omega))
  | ne => exact op_ne.or (op_neD (by omega))
  | lt => exact op_lt
  | le => exact op_le
  | gt => exact op_gt
  | ge => exact op_ge
  | is_ => exact op_isN
  | isnot => exact op_notN
  | in_ => exact OpR.or op_in_sign (op_in_seq.or (op_inD (by omega)))
  | notin => exact OpR.or op_notIn_sign (op_notIn_seq.or (op_notInD (by omega)))
theorem flat_v {x : D} {v : V} (f : flat x = true) (r : VR K cl A H x v) : flatV v = true := by
  cases x with
  | non => rw [r.nonE]; rfl
  | bl b => rw [r.blE]; rfl
  | int b => rw [r.intE]; rfl
  | str b => rw [r.strE]; rfl
  | _ => cases f
theorem flat_eq {x y : D} {v u : V} (f : flat x = true) (g : flat y = true) (r : VR K cl A H x v) (q : VR K cl A H y u) : eqV v u = eqvD x y := by
  cases x with
  | non => rw [r.nonE]; cases y with
    | non => rw [q.nonE]; simp only [eqV, eqvD]
    | bl b => rw [q.blE]; simp only [eqV, eqvD]
    | int b => rw [q.intE]; simp only [eqV, eqvD]
    | str b => rw [q.strE]; simp only [eqV, eqvD]
    | _ => cases g
  | bl a => rw [r.blE]; cases y with
    | non => rw [q.nonE]; simp only [eqV, eqvD]
    | bl b => rw [q.blE]; simp only [eqV, eqvD]
    | int b => rw [q.intE]; simp only [eqV, eqvD]
    | str b => rw [q.strE]; simp only [eqV, eqvD]
    | _ => cases g
  | int a => rw [r.intE]; cases y with
    | non => rw [q.nonE]; simp only [eqV, eqvD]
    | bl b => rw [q.blE]; simp only [eqV, eqvD]
    | int b => rw [q.intE]; simp only [eqV, eqvD]
    | str b => rw [q.strE]; simp only [eqV, eqvD]
    | _ => cases g
  | str a => rw [r.strE]; cases y with
    | non => rw [q.nonE]; simp only [eqV, eqvD]
    | bl b => rw [q.blE]; simp only [eqV, eqvD]
    | int b => rw [q.intE]; simp only [eqV, eqvD]
    | str b =>
      rw [q.strE]
      simp only [eqV, eqvD]
      exact mkS_eq
    | _ => cases g
  | _ => cases f
theorem eq_ok {x y : D} {b : Bool} {v u : V} (h : eqD x y = some b) (r : VR K cl A H x v) (q : VR K cl A H y u) :
    (scal v u = true ∧ decide (v = u) = b) ∨ ∃ d e, Dp K H v d ∧ Dp K H u e ∧ SeqAt.shaped d = true ∧ SeqAt.shaped e = true ∧ PyData.eqv d e = b := by
  unfold eqD at h
  split at h
  · rename_i hc
    cases h
    rw [Bool.or_eq_true] at hc
    rcases hc with hc | hc
    · rw [Bool.and_eq_true] at hc
      obtain ⟨f, g⟩ := hc
      cases x with
      | non => rw [r.nonE]; cases y with
        | non => rw [q.nonE]; exact .inl ⟨rfl, by simp [eqvD]⟩
        | bl b => rw [q.blE]; exact .inl ⟨rfl, by simp [eqvD]⟩
        | int b => rw [q.intE]; exact .inl ⟨rfl, by simp [eqvD]⟩
        | str b => rw [q.strE]; exact .inl ⟨rfl, by simp [eqvD]⟩
        | _ => cases g
      | bl a => rw [r.blE]; cases y with
        | non => rw [q.nonE]; exact .inl ⟨rfl, by simp [eqvD]⟩
        | bl b => rw [q.blE]; exact .inl ⟨rfl, by rw [dec_bl]; simp [eqvD]⟩
        | int b => rw [q.intE]; exact .inr ⟨_, _, .bl a, .int b, rfl, rfl, by simp [eqvD, PyData.eqv]⟩
        | str b => rw [q.strE]; exact .inl ⟨rfl, by simp [eqvD]⟩
        | _ => cases g
      | int a => rw [r.intE]; cases y with
        | non => rw [q.nonE]; exact .inl ⟨rfl, by simp [eqvD]⟩
        | bl b => rw [q.blE]; exact .inr ⟨_, _, .int a, .bl b, rfl, rfl, by simp [eqvD, PyData.eqv]⟩
        | int b => rw [q.intE]; exact .inl ⟨rfl, by rw [dec_int]; simp [eqvD]⟩
        | str b => rw [q.strE]; exact .inl ⟨rfl, by simp [eqvD]⟩
        | _ => cases g
      | str a => rw [r.strE]; cases y with
        | non => rw [q.nonE]; exact .inl ⟨rfl, by simp [eqvD]⟩
        | bl b => rw [q.blE]; exact .inl ⟨rfl, by simp [eqvD]⟩
        | int b => rw [q.intE]; exact .inl ⟨rfl, by simp [eqvD]⟩
        | str b => rw [q.strE]; exact .inl ⟨rfl, by rw [dec_str, mkS_eq]; simp [eqvD]⟩
        | _ => cases g
      | _ => cases f
    · rw [Bool.and_eq_true] at hc
      exact .inr ⟨_, _, (VR.dp x 50 v hc.1 r).1, (VR.dp y 50 u hc.2 q).1, shaped_of hc.1 r, shaped_of hc.2 q, eqv_py x y 50 hc.1 hc.2⟩
  · cases h
theorem any_pys {x : D} (hx : okD x 50 = true) : ∀ {ds : List D} {n : Nat}, okDs ds 50 = true → (pys ds).any (fun z => PyData.eqv z (py x)) = ds.any fun y => eqvD y x
  | [], _, _ => by unfold pys; rfl
  | d :: ds, n, h => by
    unfold okDs at h
    rw [Bool.and_eq_true] at h
    unfold pys
    rw [List.any_cons, List.any_cons, eqv_py d x 50 h.1 hx, any_pys (n := n) hx h.2]
theorem okDs_up : ∀ {ds : List D} {n : Nat}, okDs ds n = true → okDs ds n = true := fun h => h
theorem flats_ok : ∀ {ds : List D} {ws : List V}, ds.all flat = true → VRs K cl A H ds ws → ws.all flatV = true
  | [], ws, _, r => by
    unfold VRs at r
    rw [r]
    rfl
  | d :: ds, ws, h, r => by
    rw [List.all_cons, Bool.and_eq_true] at h
    unfold VRs at r
    obtain ⟨w, ws', rfl, q, m⟩ := r
    rw [List.all_cons, flat_v h.1 q, flats_ok h.2 m]
    rfl
theorem inV_ok {x : D} {v : V} (fx : flat x = true) (rx : VR K cl A H x v) : ∀ {ds : List D} {ws : List V}, ds.all flat = true → VRs K cl A H ds ws → inV v ws = ds.any fun y => eqvD y x
  | [], ws, _, r => by
    unfold VRs at r
    rw [r]
    rfl
  | d :: ds, ws, h, r => by
    rw [List.all_cons, Bool.and_eq_true] at h
    unfold VRs at r
    obtain ⟨w, ws', rfl, q, m⟩ := r
    have ih := inV_ok fx rx h.2 m
    unfold inV at ih ⊢
    rw [List.any_cons, List.any_cons, flat_eq h.1 fx q rx, ih]
theorem in_ok {x y : D} {b neg : Bool} {v u : V} {Q : VK} (h : inD x y = some b) (r : VR K cl A H x v) (q : VR K cl A H y u) (g : Q (.bl (if neg then !b else b)) H) :
    rSgn neg v u H Q ∨ (rIn K neg v u H Q ∨ ∃ d ds, Dp K H v d ∧ Dp K H u (.list ds) ∧ SeqAt.shaped d = true ∧ SeqAt.shaped (.list ds) = true ∧ (ds.any fun z => PyData.eqv z d) = b) := by
  unfold inD at h
  split at h
  · rename_i l
    split at h
    · cases h
      rename_i k
      rw [r.strE, q.strE]
      refine .inl ⟨k, _, rfl, rfl, ?_⟩
      have e : (mkS l).cps.toList = l := by simp [mkS]
      rw [e]
      exact g
    · cases h
  · split at h
    · rename_i hc
      cases h
      rw [Bool.and_eq_true] at hc
      obtain ⟨a, ws, rfl, e, _, m⟩ := q.lstE
      have hd := VRs.dp _ 50 ws hc.2 m
      refine .inr (.inr ⟨_, _, (VR.dp x 50 v hc.1 r).1, .lst (SqL.of e) hd.1, shaped_of hc.1 r, ?_, any_pys (n := 50) hc.1 hc.2⟩)
      unfold SeqAt.shaped
      rw [show (PyData.list (pys _)).canLay0 = true from hd.2.1, decide_eq_true (show (PyData.list (pys _)).depth ≤ 64 from Nat.le_trans (Nat.succ_le_succ hd.2.2) (by decide))]
      rfl
    · cases h
  · split at h
    · rename_i hc
      cases h
      rw [Bool.and_eq_true] at hc
      obtain ⟨a, ws, rfl, e, _, m⟩ := q.tupE
      refine .inr (.inl ⟨a, ws, rfl, .inr (SqT.of e), flat_v hc.1 r, flats_ok hc.2 m, ?_⟩)
      rw [inV_ok hc.1 r hc.2 m]
      exact g
    · cases h
  · cases h
theorem isN_ok {x : D} {v : V} (r : VR K cl A H x v) : decide (v = .non) = isN x := by
  cases x with
  | non => rw [r.nonE]; rfl
  | bl b => rw [r.blE]; rfl
  | int b => rw [r.intE]; rfl
  | str b => rw [r.strE]; rfl
  | ty n => unfold VR at r; rw [r]; rfl
  | cls n => unfold VR at r; obtain ⟨_, _, rfl⟩ := r; rfl
  | arg n => unfold VR at r; obtain ⟨_, rfl, _⟩ := r; rfl
  | tup n => unfold VR at r; obtain ⟨_, _, rfl, _⟩ := r; rfl
  | lst n => unfold VR at r; obtain ⟨_, _, rfl, _⟩ := r; rfl
  | ins c ns xs => unfold VR at r; obtain ⟨_, _, _, _, rfl, _⟩ := r; rfl
  | exc c ns xs => unfold VR at r; obtain ⟨_, _, _, _, _, rfl, _⟩ := r; rfl
  | dk ks xs => unfold VR at r; obtain ⟨_, _, rfl, _⟩ := r; rfl
theorem cmp_ok {o : COp} {x y : D} {b : Bool} {v u : V} {Q : VK} (h : cmpD o x y = some b) (r : VR K cl A H x v) (q : VR K cl A H y u) (g : Q (.bl b) H) : rCmp K o v u H Q := by
  cases o with
  | eq =>
    rcases eq_ok (show eqD x y = some b from h) r q with ⟨h1, h2⟩ | ⟨d, e, h1, h2, h3, h4, h5⟩
    · exact .inl ⟨h1, by rw [h2]; exact g⟩
    · exact .inr ⟨d, e, h1, h2, h3, h4, by rw [h5]; exact g⟩
  | ne =>
    have h' : (eqD x y).map (!·) = some b := h
    cases e0 : eqD x y with
    | none => rw [e0] at h'; cases h'
    | some b' =>
      rw [e0] at h'
      cases h'
      rcases eq_ok e0 r q with ⟨h1, h2⟩ | ⟨d, e, h1, h2, h3, h4, h5⟩
      · exact .inl ⟨h1, by rw [h2]; exact g⟩
      · exact .inr ⟨d, e, h1, h2, h3, h4, by rw [h5]; exact g⟩
  | is_ =>
    cases y with
    | non =>
      cases (show some (isN x) = some b from h)
      exact ⟨q.nonE, by rw [isN_ok r]; exact g⟩
    | _ => cases h
  | isnot =>
    cases y with
    | non =>
      cases (show some (!isN x) = some b from h)
      exact ⟨q.nonE, by rw [isN_ok r]; exact g⟩
    | _ => cases h
  | in_ =>
    rcases in_ok (neg := false) (Q := Q) (show inD x y = some b from h) r q g with z | z | ⟨d, ds, h1, h2, h3, h4, h5⟩
    · exact .inl z
    · exact .inr (.inl z)
    · exact .inr (.inr ⟨d, ds, h1, h2, h3, h4, by rw [h5]; exact g⟩)
  | notin =>
    have h' : (inD x y).map (!·) = some b := h
    cases e0 : inD x y with
    | none => rw [e0] at h'; cases h'
    | some b' =>
      rw [e0] at h'
      cases h'
      rcases in_ok (neg := true) (Q := Q) e0 r q g with z | z | ⟨d, ds, h1, h2, h3, h4, h5⟩
      · exact .inl z
      · exact .inr (.inl z)
      · exact .inr (.inr ⟨d, ds, h1, h2, h3, h4, by rw [h5]; exact g⟩)
  | lt =>
    unfold cmpD at h
    split at h
    all_goals first | cases ‹COp.lt = _› | skip
    · cases h; rw [r.intE, q.intE]; exact ⟨_, _, rfl, rfl, g⟩
    · cases h
  | le =>
    unfold cmpD at h
    split at h
    all_goals first | cases ‹COp.le = _› | skip
    · cases h; rw [r.intE, q.intE]; exact ⟨_, _, rfl, rfl, g⟩
    · cases h
  | gt =>
    unfold cmpD at h
    split at h
    all_goals first | cases ‹COp.gt = _› | skip
    · cases h; rw [r.intE, q.intE]; exact ⟨_, _, rfl, rfl, g⟩
    · cases h
  | ge =>
    unfold cmpD at h
    split at h
    all_goals first | cases ‹COp.ge = _› | skip
    · cases h; rw [r.intE, q.intE]; exact ⟨_, _, rfl, rfl, g⟩
    · cases h
/-! ### items -/
theorem atI_rel {xs : List D} {ws : List V} {i : Int} {d : D} (m : VRs K cl A H xs ws) (h : atI xs i = some d) : ∃ w, atI ws i = some w ∧ VR K cl A H d w := by
  unfold atI at h ⊢
  rw [m.len] at h
  cases e : ixN ws.length i with
  | none => rw [e] at h; cases h
  | some j =>
    rw [e] at h
    exact VRs.get m h
theorem atI_map {α β : Type} {f : α → β} {xs : List α} {i : Int} : atI (xs.map f) i = (atI xs i).map f := by
  unfold atI
  rw [List.length_map]
  cases ixN xs.length i with
  | none => rfl
  | some j =>
    show (xs.map f)[j]? = (xs[j]?).map f
    rw [List.getElem?_map]
theorem kx_inj {j k : Kx} (h : kx j = kx k) : j = k := by
  cases j <;> cases k <;> simp [kx] at h ⊢
  · exact h
  · exact mkS_inj.mp h
theorem valV_atK {k : Kx} : ∀ {ks : List Kx} {ws : List V}, valV (zipK ks ws) (kx k) = atK k ks ws
  | [], _ => by unfold atK; rfl
  | _ :: _, [] => by unfold atK; rfl
  | j :: ks, w :: ws => by
    have ih := valV_atK (k := k) (ks := ks) (ws := ws)
    have e : zipK (j :: ks) (w :: ws) = (kx j, w) :: zipK ks ws := rfl
    rw [e]
    unfold atK
    by_cases h : j = k
    · subst h
      rw [if_pos rfl]
      exact valV_pos rfl
    · rw [if_neg h, ← ih]
      exact valV_neg fun z => h (kx_inj z)
theorem atK_rel {k : Kx} : ∀ {ks : List Kx} {xs : List D} {ws : List V} {d : D}, VRs K cl A H xs ws → atK k ks xs = some d → ∃ w, atK k ks ws = some w ∧ VR K cl A H d w
  | [], _, _, _, _, h => by unfold atK at h; cases h
  | _ :: _, [], _, _, _, h => by unfold atK at h; cases h
  | j :: ks, x :: xs, ws, d, m, h => by
    unfold VRs at m
    obtain ⟨w, ws', rfl, q, m⟩ := m
    unfold atK at h ⊢
    by_cases e : j = k
    · rw [if_pos e] at h ⊢
      cases h
      exact ⟨w, rfl, q⟩
    · rw [if_neg e] at h ⊢
      exact atK_rel m h
theorem atK_rel0 {k : Kx} : ∀ {ks : List Kx} {xs : List D} {ws : List V}, VRs K cl A H xs ws → atK k ks xs = none → atK k ks ws = none
  | [], _, _, _, _ => by unfold atK; rfl
  | _ :: _, [], ws, m, _ => by
    unfold VRs at m
    subst m
    unfold atK
    rfl
  | j :: ks, x :: xs, ws, m, h => by
    unfold VRs at m
    obtain ⟨w, ws', rfl, q, m⟩ := m
    unfold atK at h ⊢
    by_cases e : j = k
    · rw [if_pos e] at h
      cases h
    · rw [if_neg e] at h ⊢
      exact atK_rel0 m h
theorem kxD_rel {y : D} {j : Kx} {u : V} (h : kxD y = some j) (r : VR K cl A H y u) : u = kV (kx j) := by
  unfold kxD at h
  split at h
  · cases h
    exact r.intE
  · cases h
    exact r.strE
  · cases h
/-- d[y] -/
def rIxDk : R2 := fun x y H Q => ∃ a v, x = .ref a ∧ DGet H a y (some v) ∧ Q v H
theorem ix_dk {X : Cx} (hu : X.A.units + 1 < cLine) : IxR X rIxDk := by
  intro value slice pins s σ H x y v u Q I rx ry h hs
  obtain ⟨a, r, rfl, g, q⟩ := h
  obtain rfl : v = Value.ref a := rx
  exact PyProof.Rows.tail_any (dict_typeIs I g) PySem.F.slot_dict_getitem.lookup (d_getItem hu I g ry fun w' s' I' rw' => ⟨r, H, I', rw', q⟩) hs
theorem idx_ok {x y d : D} {v u : V} {Q : VK} (h : idxD x y = some d) (r : VR K cl A H x v) (q : VR K cl A H y u) (g : ∀ w, VR K cl A H d w → Q w H) : rIx K v u H Q ∨ rIxDk v u H Q := by
  unfold idxD at h
  split at h
  · rename_i ks xs _
    obtain ⟨a, ws, rfl, e, _, hl, m⟩ := r.dkE
    obtain ⟨j, hj, h⟩ := Option.bind_eq_some_iff.mp h
    obtain ⟨w, hw, hv⟩ := atK_rel m h
    have hu := kxD_rel hj q
    subst hu
    refine .inr ⟨a, w, rfl, ?_, g w hv⟩
    have := DGet.k (k := kx j) e
    rw [valV_atK, hw] at this
    exact this
  · left
    obtain ⟨a, ws, rfl, e, _, m⟩ := r.lstE
    obtain ⟨w, h1, h2⟩ := atI_rel m h
    rw [q.intE]
    exact .inl ⟨a, ws, _, w, rfl, rfl, SqL.of e, h1, g w h2⟩
  · left
    obtain ⟨a, ws, rfl, e, _, m⟩ := r.tupE
    obtain ⟨w, h1, h2⟩ := atI_rel m h
    rw [q.intE]
    exact .inr (.inl ⟨a, ws, _, w, rfl, rfl, SqT.of e, h1, g w h2⟩)
  · left
    split at h
    · rename_i hl
      rw [r.strE, q.intE]
      obtain ⟨c, hc, rfl⟩ := Option.map_eq_some_iff.mp h
      rename_i s i
      refine .inr (.inr ⟨mkS s, i, c, rfl, rfl, by rw [mkS_len]; exact lim_le hl, by simpa [mkS] using hc, g _ ?_⟩)
      exact VR.strS rfl
    · cases h
  · left
    obtain ⟨a, rfl, hs⟩ := r.argE
    obtain ⟨c, hc, rfl⟩ := Option.map_eq_some_iff.mp h
    rw [q.intE]
    exact .inl ⟨a, _, _, .int c, rfl, rfl, hs, by rw [atI_map, hc]; rfl, g _ VR.int⟩
  · cases h
end
end Kn

set_option Elab.async false
set_option linter.all false
set_option maxRecDepth 100000
set_option maxHeartbeats 4000000
/-! Exk: an exception that is kept as a value: isinstance of it, its fields; the clause that keeps it; counting flat things. -/
namespace Kn
open PySem L2 PySem.Spec PyProof.Rows
/-- what the written part says of an own exception class -/
structure XcK (K : PySem.W.Frag) (C : Addr) : Prop where
  ga : PySem.W.findIn K (.ref C) "__getattribute__" = some (some (.builtin "BaseException.__getattribute__"))
  gg : PySem.W.findIn K (.ref C) "__getattr__" = some none
  exC : PySem.W.subIn K (.ref C) (.type "BaseException") = some true
  hdC : PySem.W.hasDictIn K C = true
  ha : PySem.W.findIn K (.ref C) "__class__" = some (some (.builtin "object.__class__"))
  hn : PySem.W.specialIn K (.builtin "object.__class__") "__get__" = some (some (.builtin "getset_descriptor.__get__"))
  ht : PySem.W.takesIn K (.builtin "object.__class__") = some true
  hm : PySem.W.mroIn K C (.type "object") = some true
  cls : (PySem.W.clsIn K C).isSome = true
section
variable {X : Cx} {pins : List (Addr × Obj)} {σ : L2.St} {H : Hp} {s : Shared}
theorem exX_at {a C dd : Addr} {fs : List (Str × V)} (I : Inv X pins σ H s) (e : H a = some (ExX C dd a)) (ed : H dd = some (.xd fs)) :
    ∃ oe od mA, PySem.W.InstAt s.heap a oe C (some od) ∧ s.heap.get? dd = some od ∧ s.heap.Ns1 dd mA ∧ ∀ f, RelO (fs.lookup f) (mA f) := by
  have hx : ObjOk X.prog X.w H s.heap a (ExX C dd a) := I.hok a _ e
  unfold ExX at hx
  obtain ⟨⟨oe, vs, h1, h2, h3, h4⟩, _, _⟩ := hx
  have hd : ObjOk X.prog X.w H s.heap dd (.xd fs) := I.hok dd _ ed
  obtain ⟨mA, hns, hr⟩ := hd
  obtain ⟨od, es, ep, ho, hz⟩ := id hns
  exact ⟨oe, od, mA, ⟨h1, h2, by unfold PySem.W.notCls; rw [h4] <;> rfl, by rw [h3]; exact ho⟩, ho, hns, hr⟩
/-- isinstance(e, c), e a kept exception -/
def rIsX (K : PySem.W.Frag) : List V → Hp → VK → Prop := fun xs H Q => ∃ (a C dd : Addr) (fs : List (Str × V)) (c : V) (cv : Value) (b : Bool), xs = [.ref a, c] ∧ H a = some (ExX C dd a) ∧ H dd = some (.xd fs) ∧ XcK K C ∧ (∀ u, RelV c u → u = cv) ∧
  PySem.W.kitOne K (.ref C) cv = some b ∧ Q (.bl b) H
theorem call_isX : CallR X (.builtin "isinstance") (rIsX X.K) := by
  intro pins s σ H xs us Q I r h
  obtain ⟨a, C, dd, fs, c, cv, b, rfl, e, ed, T, hc, hk, q⟩ := h
  obtain ⟨u1, u2, rfl, r1, r2⟩ := vals2 r
  cases (show u1 = Value.ref a from r1)
  cases hc _ r2
  obtain ⟨oe, od, mA, J, _⟩ := exX_at I e ed
  exact PySem.W.kia_one (PySem.W.kitx_exc T.cls T.ga T.gg T.exC T.ha T.hn T.ht T.hm) I.kIn J hk (fun z => nomatch z) fun tk => ⟨.bl b, H, I.tok tk, rfl, q⟩
/-- o.f of an own instance or of a kept exception -/
def tFldX (K : PySem.W.Frag) (te : TE) (f : Str) : TE := fun σ H Q => te σ H fun x H1 =>
  (∃ a C dx fs v, x = .ref a ∧ H1 a = some (.ins C dx fs) ∧ Cls K C ∧ NoAttr K C f ∧ fs.lookup f = some v ∧ Q v H1) ∨
  ∃ a C dd fs v, x = .ref a ∧ H1 a = some (ExX C dd a) ∧ H1 dd = some (.xd fs) ∧ XcK K C ∧ PySem.W.findIn K (.ref C) f = some none ∧ fs.lookup f = some v ∧ Q v H1
theorem pe_fldX {e : Expr} {te : TE} {f : Str} {pos : Pos} (he : PE X e te) (hb : attributeBase e f X.env (eval e X.env) = eval e X.env) : PE X (.Attribute e f pos) (tFldX X.K te f) := by
  refine ⟨fun pins s σ H Q I h => attr_of hb (thn (he.run pins s σ H _ I h) fun u s1 hh => ?_)⟩
  obtain ⟨x, H1, I1, rx, hh⟩ := hh
  rcases hh with ⟨a, C, dx, fs, v, rfl, ea, c, n, l, q⟩ | ⟨a, C, dd, fs, v, rfl, ea, ed, T, hno, l, q⟩
  · cases (show u = Value.ref a from rx)
    exact getattr_ok I1 ea c n l fun u' s2 I2 ru => ⟨v, H1, I2, ru, q⟩
  · cases (show u = Value.ref a from rx)
    obtain ⟨oe, od, mA, J, ho, hns, hr⟩ := exX_at I1 ea ed
    obtain ⟨od', ho', hl⟩ := lookIn_ns hns
    rw [ho] at ho'
    cases ho'
    obtain ⟨u, hu, ru⟩ := RelO.some_of (v := v) (o := mA f) (by rw [← l]; exact hr f)
    exact HandSPX.exc_get I1.kIn J T.ga T.gg T.exC (PySem.W.findObj_own T.hdC hno rfl (by rw [hl, hu])) (handed_of ru) ⟨v, H1, I1.tok _, ru, q⟩
/-- xs.count(y), flat things -/
def rCntF (K : PySem.W.Frag) : V → List V → Hp → VK → Prop := fun x xs H Q => ∃ (a : Addr) (ys : List V) (y : V), x = V.ref a ∧ xs = [y] ∧ SqL K H a ys ∧ flatV y = true ∧ ys.all flatV = true ∧ Q (.int (ys.countP (fun z => eqV z y) : Nat)) H
theorem cntF {y : V} : ∀ {its : List Value} {ys : List V}, Vals ys its → ys.all flatV = true → its.countP (eqU y) = ys.countP fun z => eqV z y
  | _, _, .nil, _ => rfl
  | _, _, .cons (a := z) (b := u) r t, f => by
    rw [List.all_cons, Bool.and_eq_true] at f
    rw [List.countP_cons, List.countP_cons, cntF t f.2, eqU_of r f.1]
theorem mt_countF : MtR X "list.count" (rCntF X.K) := by
  intro pins s σ H x xs v us Q I rx rxs h
  obtain ⟨a, ys, y, rfl, rfl, hs, fy, fys, q⟩ := h
  cases rx
  obtain ⟨uy, rfl, ry⟩ := rxs.one
  obtain ⟨its, rv, ⟨⟨cls, dd, data, sl⟩, n, ho, hc, hdn, hd⟩, hlen⟩ := I.list hs
  simp only at hc hd
  subst hc hd
  refine call_meets PySem.F.slot_list_count ⟨_, ho, rfl⟩ PySem.F.entry_list_count (PySem.F.args_list_count_2 _ _) (SeqAt.list_countAt a its.toArray n dd sl uy (eqU y)) ⟨ho, fun u' hu' => mem_eqAt ry fy rv fys u' (by simpa using hu'), ?_⟩
  refine ⟨.int (ys.countP (fun z => eqV z y) : Nat), H, I.tok _, ⟨s.toks, ?_⟩, q⟩
  rw [← cntF rv fys]
end
end Kn

set_option Elab.async false
set_option linter.all false
set_option maxRecDepth 100000
set_option maxHeartbeats 4000000
/-! Try: try: .. except C as n: m = n; the exception stays in m's slot, tracked. -/
namespace Kn
open PySem L2 PySem.Spec PyProof.Rows
theorem exX_ok {P : Program} {w : World} {H : Hp} {h : Heap} {a C dd : Addr} {oe : Obj} {vs : Array Value} (e : h.get? a = some oe) (z : Zc (.ref C) (some dd) oe) (d : oe.data = .fields vs) : ObjOk P w H h a (ExX C dd a) :=
  ⟨⟨oe, vs, e, z.1, z.2, d⟩, ⟨oe, e⟩, fun h1 h2 hh k => by
    obtain ⟨o, v, q1, q2⟩ := hh
    exact ⟨o, v, k _ q1, q2⟩⟩
/-- a pinned exception, new in this frame, is tracked from now on -/
theorem Inv.keepX {X : Cx} {pins : List (Addr × Obj)} {σ : L2.St} {H : Hp} {s : Shared} {a C dd : Addr} {oe : Obj} {vs : Array Value} (I : Inv X ((a, oe) :: pins) σ H s) (n0 : X.s_0.heap.get? a = none) (hp : ∀ p ∈ X.pn ++ pins, p.1 ≠ a)
    (z : Zc (.ref C) (some dd) oe) (d : oe.data = .fields vs) : Inv X pins σ (upd H a (ExX C dd a)) s := by
  obtain ⟨ha, hn, hL, hF, hc⟩ := I.pin (a, oe) (List.mem_append_right _ List.mem_cons_self)
  have ne : ∀ {b : Addr} {u : HO}, H b = some u → b ≠ a := fun {b u} q e => by rw [e, hn] at q; cases q
  refine ⟨I.ok, I.os, I.bare, ⟨I.base.keep, I.base.slot, fun b o q n hx => ?_, I.base.there, fun b xs q => ?_, fun b o u q => ?_, fun b ps q => ?_⟩, I.loc, I.cell, ?_, fun x c e => ?_, fun p hp' => ?_, ?_, I.len⟩
  · rw [upd_ne fun e => by rw [e, n0] at q; cases q]
    exact I.base.free b o q n hx
  · have q2 := I.base.tups b xs q
    rw [upd_ne (ne q2)]
    exact q2
  · have q2 := I.base.frzs b o u q
    rw [upd_ne (ne q2)]
    exact q2
  · obtain ⟨more, q2⟩ := I.base.tbls b ps q
    exact ⟨more, by rw [upd_ne (ne q2)]; exact q2⟩
  · rw [upd_ne fun e => hL e.symm]
    exact I.free
  · obtain ⟨v, o, ho, hd⟩ := I.cell x c e
    rw [upd_ne fun e2 => by rw [e2] at ho; rw [ha] at ho; cases ho; exact hc v hd]
    exact I.freeC x c e
  · obtain ⟨q1, q2, q3, q4, q5⟩ := I.pin p (by
      rcases List.mem_append.mp hp' with h | h
      · exact List.mem_append_left _ h
      · exact List.mem_append_right _ (List.mem_cons_of_mem _ h))
    exact ⟨q1, by rw [upd_ne (hp p hp')]; exact q2, q3, q4, q5⟩
  · exact I.hok.laidN (fun _ _ q => q) hn (exX_ok ha z d)
/-- what the clause wishes of an exception of the body -/
def wKeep (K : PySem.W.Frag) (c : Value) (i j : Nat) (Wout : WX) (D : Ends) : WX := fun cls d σ H =>
  ∃ b, PySem.W.exmOne K cls c = some b ∧ (b = true → ∀ a, H a = none → ∃ C dd, cls = .ref C ∧ d = some dd ∧ D.nx ((σ.set i none).set j (some (.ref a))) (upd H a (ExX C dd a))) ∧ (b = false → Wout cls d σ H)
theorem sets_swap {α : Type} {l : List α} {i j : Nat} (h : i ≠ j) (x y z : α) : (((l.set i x).set j y).set i z) = ((l.set i z).set j y) := by
  apply List.ext_getElem?
  intro k
  simp only [List.getElem?_set, List.length_set]
  by_cases h1 : i = k
  · subst h1
    have h2 : ¬ j = i := fun e => h e.symm
    by_cases h3 : i < l.length <;> simp [h2, h3]
  · by_cases h2 : j = k
    · subst h2
      simp [h1, h]
    · simp [h1, h2]
section
variable {X : Cx} {x n m : Str} {c : Value} {i j : Nat} {body : List Stmt} {np np2 mp ap pos pos' : Pos} {tb : WX → TS} {Wout : WX}
theorem ps_try_keep (hex : X.ex = []) (hs : X.stack = X.env :: X.outer) (hf : X.env.frame = some X.env.locals) (hN : X.N.Nodup) (hi : X.N[i]? = some n) (hln : X.env.kindOf n = some .local) (hj : X.N[j]? = some m) (hlm : X.env.kindOf m = some .local) (hij : i ≠ j)
    (hnb : (n == ("__debug__" : Str)) = false) (hnc : (n == ("__classdict__" : Str)) = false) (hc : Names X x c) (tk : Takes X Wout)
    (hb : ∀ (W : WX) (pn : List (Addr × Obj)) (xe : Value → Shared → Prop), Takes (X.tr pn xe) W → PassesOwn (model X.prog X.w) X.A X.env xe → PSs (X.tr pn xe) body (tb W)) :
    PS X (.Try body [.ExceptHandler (some (.Name x np)) (some n) [.Assign [.Name m mp] (.Name n np2) ap] pos'] [] [] pos) (fun D σ H => tb (wKeep X.K c i j Wout D) D σ H) := by
  refine ⟨fun pins s σ H D I h => wpAny_Try_except (wpAny_mono ((hb (wKeep X.K c i j Wout D) (X.pn ++ pins) _ (fun u s' xx => ?_) PassesOwn.looking).run [] s σ H D (I.toTry _) h) (fun f s1 hsp => ?_) fun e s1 he => he)⟩
  · have ok := I.ok
    obtain ⟨a, B, sI, pins', σ', H', cls, d, rfl, J0, nb, up, sky, na, os, ag, b, hb1, hyes, hno⟩ := xx
    have J : Inv X pins σ' H' sI := J0.ofTry ok
    have hfr : X.A.frames = some (X.env :: X.outer) := by rw [ok.frames, hs]
    refine Sky.land Zc.steady hfr hf (by rw [← hs]; exact sky) fun h3 fl3 up3 => ?_
    have J3 : Inv X pins σ' H' { s' with heap := h3 } := J.landed nb fl3.1 (up.trans up3) os ag
    obtain ⟨oe3, vs3, he3, hz3, hd3⟩ := fl3.there
    have nfr : a ∉ frs (X.env :: X.outer) := fun hm => by
      obtain ⟨_, o', e', hnf⟩ := fl3.2.2.1.mem hm
      rw [he3] at e'
      cases e'
      exact hnf _ hd3
    have nL : a ≠ X.env.locals := fun z => nfr (List.mem_filterMap.mpr ⟨X.env, List.mem_cons_self, by rw [hf, z]⟩)
    have nF : a ∉ X.fs := fun hm => by
      obtain ⟨e, he, q⟩ := List.mem_filterMap.mp hm
      exact nfr (List.mem_filterMap.mpr ⟨e, List.mem_cons_of_mem _ he, q⟩)
    -- it stood nowhere ahead of its making
    have nI : sI.heap.get? a = none := by
      cases q : sI.heap.get? a with
      | none => rfl
      | some o =>
        have z := nb a o q (by rw [hs]; exact nfr)
        rw [fl3.2.1] at z
        cases z
    have n0 : X.s_0.heap.get? a = none := by
      cases q : X.s_0.heap.get? a with
      | none => rfl
      | some o =>
        obtain ⟨o', z⟩ := J.base.there a o q (by rw [hex]; simp)
        rw [nI] at z
        cases z
    have npn : ∀ p ∈ X.pn ++ pins, p.1 ≠ a := fun p hp e => by
      obtain ⟨q1, _⟩ := J.pin p hp
      rw [e, nI] at q1
      cases q1
    have S3 := J3.suite he3 hd3 na nL nF
    refine wpAny_handleBy_cons (codeAny_handlers_test ?_) (by intro q; cases q)
    have LM := PySem.W.exm_one (M := model X.prog X.w) J3.kIn (fun A Q E s k q => wpAny_typeOf_ref (k _ _ he3) (by rw [hz3.1]; exact q) : PySem.W.Looks (model X.prog X.w) h3 (typeOf (.ref a)) cls) hb1
    have test : ∀ {Q : Value → Shared → Prop} {E : Value → Shared → Prop}, Q c { s' with heap := h3 } → wpAny (model X.prog X.w) (X.A.mark (some (.ref a))) (eval (.Name x np) X.env) Q E { s' with heap := h3 } := fun {Q E} q => by
      obtain ⟨hg, hdbg, hm | ⟨hm, hv, hnn⟩⟩ := hc
      · exact ld_glob (X := X.suite a ((a, oe3) :: (X.pn ++ pins))) S3 hg hm q hdbg
      · exact ld_blt (X := X.suite a ((a, oe3) :: (X.pn ++ pins))) S3 hg hm hv q hnn hdbg
    refine test (LM.here ?_)
    cases b with
    | true =>
      obtain ⟨C, dd, rfl, rfl, hfin⟩ := hyes rfl a na
      refine codeAny_handlers_suite_as (HandSPX.lands_againZ fl3 fun h4 fl4 up4 => ?_)
      have J4 : Inv X pins σ' H' { s' with heap := h4 } := J.landed nb fl4.1 ((up.trans up3).trans up4) os ag
      obtain ⟨oe4, vs4, he4, hz4, hd4⟩ := fl4.there
      have S4 := J4.suite he4 hd4 na nL nF
      refine store_ok (X := X.suite a ((a, oe4) :: (X.pn ++ pins))) (v := .ref a) S4 hN hi (.inl hln) rfl (fun s5 S5 => ?_) (.inr hln)
      have hlt : i < σ'.length := by rw [J.len]; exact (List.getElem?_eq_some_iff.mp hi).1
      have P : PSs (X.suite a ((a, oe4) :: (X.pn ++ pins))) [.Assign [.Name m mp] (.Name n np2) ap] (tAsg (tVar i) (gName j)) :=
        pss_one (ps_set (X := X.suite a ((a, oe4) :: (X.pn ++ pins))) hN hj (.inl hlm) (pe_var (X := X.suite a ((a, oe4) :: (X.pn ++ pins))) hi (.inl hln) hnb hnc) rfl (.inr hlm))
      refine wpAny_mono (P.run [] s5 _ H' { nx := fun σ6 H6 => σ6 = (σ'.set i (some (.ref a))).set j (some (.ref a)) ∧ H6 = H', rt := fun _ _ => False } S5 ⟨.ref a, by rw [List.getElem?_set_self hlt], rfl, rfl⟩) (fun f s6 hsp => ?_) (fun _ _ z => False.elim z)
      cases f with
      | next =>
        obtain ⟨σ6, H6, S6, rfl, rfl⟩ := hsp
        have S7 : Inv X ((a, oe4) :: pins) ((σ'.set i (some (.ref a))).set j (some (.ref a))) H6 s6 := ⟨ok, S6.os, S6.bare, S6.base, S6.loc, S6.cell, S6.free, S6.freeC, fun p hp => S6.pin p (by
          rw [List.append_nil]
          rcases List.mem_append.mp hp with h | h
          · exact List.mem_cons_of_mem _ (List.mem_append_left _ h)
          · rcases List.mem_cons.mp h with h | h
            · rw [h]; exact List.mem_cons_self
            · exact List.mem_cons_of_mem _ (List.mem_append_right _ h)), S6.hok, S6.len⟩
        refine gone_ok S7 hN hi hln fun s7 J7 => ⟨_, _, Inv.keepX J7 n0 npn hz4 hd4, ?_⟩
        rw [sets_swap hij]
        exact hfin
      | brk =>
        obtain ⟨σ6, H6, S6, q6⟩ := hsp
        exact q6.elim
      | cont =>
        obtain ⟨σ6, H6, S6, q6⟩ := hsp
        exact q6.elim
      | ret u =>
        obtain ⟨v6, σ6, H6, S6, r6, q6⟩ := hsp
        exact q6.elim
    | false =>
      show wpAny _ X.A (handleBy (.ref a) X.env []) _ _ _
      refine wpAny_handleBy_nil ?_
      obtain ⟨k1, k2, k3, oe, vs, T, oT, ts', he, hz, hd, h1, hr⟩ := id fl3
      unfold PySem.passOn
      refine wpAny_bind (wpAny_field he hd h1 ?_)
      rw [if_neg (show ¬ ((Value.ref T == Value.none) = true) from by simp)]
      have fin : wpAny (model X.prog X.w) X.A (setFlight (.ref a) X.env.frame) (fun _ s4 => wpAny (model X.prog X.w) X.A (throw (.ref a) : Sem Flow) (SP X pins D) X.xe s4) X.xe { s' with heap := h3 } := by
        rw [hf]
        refine HandSPX.setFlight_upZ fl3 fun h4 hh4 up4 => wpAny_throw (tk _ _ ?_)
        exact ⟨a, B, sI, pins, σ', H', cls, d, rfl, J, nb, (up.trans up3).trans up4, .inr (.inr (by rw [hs]; exact hh4)), na, os, ag, hno rfl⟩
      first
        | exact wpAny_bind (wpAny_pure (wpAny_bind fin))
        | exact wpAny_bind fin
  · cases f with
    | next =>
      obtain ⟨σ', H', J', q⟩ := hsp
      exact wpAny_execs_nil ⟨σ', H', J'.ofTry I.ok, q⟩
    | brk =>
      obtain ⟨σ', H', J', q⟩ := hsp
      exact ⟨σ', H', J'.ofTry I.ok, q⟩
    | cont =>
      obtain ⟨σ', H', J', q⟩ := hsp
      exact ⟨σ', H', J'.ofTry I.ok, q⟩
    | ret u =>
      obtain ⟨v, σ', H', J', r, q⟩ := hsp
      exact ⟨v, σ', H', J'.ofTry I.ok, r, q⟩
end
end Kn

set_option Elab.async false
set_option linter.all false
set_option maxRecDepth 100000
set_option maxHeartbeats 4000000
/-! Ops3: slices, built-in functions. -/
namespace Kn
open PySem L2
section
variable {K : PySem.W.Frag} {cl : String → Option Addr} {O : Addr → Prop} {ro : List (Nat × V)} {W : WX} {ρ : Env} {ts : List SV} {σ : St} {ws : List V} {f f' : List Addr} {H H' : Hp} {v u : V} {x y : D} {Q : VK} {A : Addr → Prop}
theorem GE.of {sv : Option SV} {s : SV} (h : sv = some s) (g : GE K cl O ro W ts σ ws f H (R.of sv ρ) Q) : GE K cl O ro W ts σ ws f H (.ok s ρ) Q := by
  rw [h] at g
  exact g
theorem VRs.cut {xs : List D} {zs : List V} (m : VRs K cl A H xs zs) (lo hi : Option Int) : VRs K cl A H (cutL xs lo hi) (cutV zs lo hi) := by
  unfold cutL cutV
  rw [m.len]
  exact VRs.take _ (VRs.drop _ m)
theorem cut_whole {α : Type} {xs : List α} {lo hi : Option Int} (h1 : HT.sIx xs.length 0 lo = 0) (h2 : HT.sIx xs.length xs.length hi = xs.length) : cutL xs lo hi = xs := by
  unfold cutL
  rw [h1, h2]
  simp
def rSlc (K : PySem.W.Frag) : V → Option Int → Option Int → Hp → VK → Prop := fun x lo hi H Q => rSlL K x lo hi H Q ∨ (rSlA K x lo hi H Q ∨ rSlS x lo hi H Q)
theorem rSlc_ok {X : Cx} : SlR X (rSlc X.K) := sl_list.or (sl_tupA.or sl_str)
theorem slc_ok {lo hi : Option Int} (rr : Rel K cl O ro ρ ts σ ws f H) (h1 : VR K cl (Av O f) H x v) (g : GE K cl O ro W ts σ ws f H (R.of (slcD x lo hi) ρ) Q) : rSlc K v lo hi H Q := by
  cases x with
  | lst xs =>
    obtain ⟨a, zs, rfl, e, n, m⟩ := h1.lstE
    exact .inl ⟨a, zs, rfl, SqL.of e, fun p np => fin_lst rr (m.cut lo hi) np g⟩
  | tup xs =>
    have h1' := h1
    obtain ⟨a, zs, rfl, e, n, m⟩ := h1.tupE
    refine .inr (.inl ⟨a, zs, rfl, SqT.of e, fun hw => ?_, fun hw p np => fin_tup rr (m.cut lo hi) np g⟩)
    rw [← m.len] at hw
    have g' : GE K cl O ro W ts σ ws f H (.ok (.d (.tup (cutL xs lo hi))) ρ) Q := g
    rw [cut_whole hw.1 hw.2] at g'
    exact fin_d rr h1' g'
  | str s =>
    unfold slcD at g
    dsimp only at g
    split at g
    · rename_i hl
      rw [h1.strE]
      refine .inr (.inr ⟨mkS s, rfl, by rw [mkS_len]; exact lim_le hl, fin_d rr (VR.strS ?_) g⟩)
      unfold cutS cutL
      rw [mkS_len]
      simp [mkS]
    · exact g.elim
  | _ => exact g.elim
theorem pick_one (items : Array Value) : slicePick items none none (some 1) = slicePick items none none none := by
  unfold slicePick
  rfl
/-- xs[::k], k 1 or -1 -/
def tStp (K : PySem.W.Frag) (te tk : TE) : TE := fun σ H Q => te σ H fun x H1 => tk σ H1 fun y H2 => ∃ a xs k, x = .ref a ∧ SqL K H2 a xs ∧ y = .int k ∧ ((k = 1 ∧ ∀ p, H2 p = none → Q (.ref p) (upd H2 p (.lst xs))) ∨ (k = -1 ∧ ∀ p, H2 p = none → Q (.ref p) (upd H2 p (.lst xs.reverse))))
theorem pe_stp {X : Cx} {e s : Expr} {te tk : TE} {p3 pos : Pos} (he : PE X e te) (hk : PE X s tk) (hs : ∀ o i, subscripted (.Slice none none (some s) p3) false o i = operate [o, i] (getItem o i)) :
    PE X (.Subscript e (.Slice none none (some s) p3) pos) (tStp X.K te tk) := by
  refine ⟨fun pins s0 σ H Q I h => ?_⟩
  refine PyProof.Rows.Subscript_ (thn (he.run pins s0 σ H _ I h) fun v s1 ⟨x, H1, I1, r1, q1⟩ => ?_)
  refine PySem.wpAny_Slice (thn (po_none.run pins s1 σ H1 (fun o H2 => o = none ∧ H2 = H1) I1 ⟨rfl, rfl⟩) fun vl s2 ⟨l, H2, I2, pl, el, e2⟩ => ?_)
  subst el e2
  refine thn (po_none.run pins s2 σ H2 (fun o H3 => o = none ∧ H3 = H2) I2 ⟨rfl, rfl⟩) fun vu s3 ⟨u, H3, I3, pu, eu, e3⟩ => ?_
  subst eu e3
  rw [evalPart_some]
  refine thn (hk.run pins s3 σ H3 _ I3 q1) fun vs s4 ⟨y, H4, I4, r4, q4⟩ => ?_
  obtain ⟨a, xs, k, ex, hx, ey, q⟩ := q4
  subst ex ey
  cases r1
  obtain ⟨tk, rfl⟩ := r4
  have I5 : Inv X pins σ H4 { s4 with heap := s4.heap.push { cls := .type "slice", data := .fields #[vl, vu, .int k tk] } } := I4.kept (t' := s4.toks) fun b ob q => Heap.get?_push_of_some _ q
  obtain ⟨its, r, ht, hz⟩ := I5.list hx
  have hlen := r.length
  show wpAny (model X.prog X.w) X.A (PyProof.Rows.subscriptTail e (.Slice none none (some s) p3) (.ref a) (.ref s4.heap.objs.size)) (EP X pins σ Q) X.xe { s4 with heap := s4.heap.push { cls := .type "slice", data := .fields #[vl, vu, .int k tk] } }
  refine PyProof.Rows.tail_any (ops := [.ref a, .ref s4.heap.objs.size]) ht.isList.typeIs (PySem.slot_list_getitem.lookup) ?_ (hs _ _)
  rcases q with ⟨rfl, q⟩ | ⟨rfl, q⟩
  · refine wpAny_getItem_list_slice ht.isList (Heap.IsSliceOf.new _ vl vu _) pl pu (.int 1 tk) (by decide) ?_ (by rw [List.size_toArray]; omega)
    rw [pick_one, slicePick_cut]
    have e0 : (its.drop (HT.sIx its.length 0 none)).take (HT.sIx its.length its.length none - HT.sIx its.length 0 none) = its := by
      rw [HT.sIx_none, HT.sIx_none]
      simp
    refine ⟨.ref _, _, I5.laid (t' := s4.toks) (o := .lst xs) (fun b ob q => Heap.get?_push_of_some _ q) (Nat.le_refl _) ?_, rfl, q _ (I5.hok.fresh (Nat.le_refl _))⟩
    refine ⟨hz, its, 0, r, ?_⟩
    rw [e0]
    exact Heap.get?_push_size _ rfl
  · refine wpAny_getItem_list_slice ht.isList (Heap.IsSliceOf.new _ vl vu _) pl pu (.int (-1) tk) (by decide) ?_ (by rw [List.size_toArray]; omega)
    rw [PySem.W.krv_pick]
    refine ⟨.ref _, _, I5.laid (t' := s4.toks) (o := .lst xs.reverse) (fun b ob q => Heap.get?_push_of_some _ q) (Nat.le_refl _) ?_, rfl, q _ (I5.hok.fresh (Nat.le_refl _))⟩
    exact ⟨by rw [List.length_reverse]; exact hz, _, 0, r.reverse, Heap.get?_push_size _ rfl⟩
theorem stp_ok {X : Cx} (hK : X.K = K) {te tk : TE} (rr : Rel K cl O ro ρ ts σ ws f H) (h1 : VR K cl (Av O f) H x v) (h2 : VR K cl (Av O f) H y u) (g : GE K cl O ro W ts σ ws f H (R.of (stpD x y) ρ) Q) :
    ∃ a xs k, v = .ref a ∧ SqL X.K H a xs ∧ u = .int k ∧ ((k = 1 ∧ ∀ p, H p = none → Q (.ref p) (upd H p (.lst xs))) ∨ (k = -1 ∧ ∀ p, H p = none → Q (.ref p) (upd H p (.lst xs.reverse)))) := by
  cases x with
  | lst xs =>
    cases y with
    | int k =>
      obtain ⟨a, zs, rfl, e, n, m⟩ := h1.lstE
      rw [h2.intE]
      unfold stpD at g
      dsimp only at g
      by_cases hk : k = 1
      · rw [if_pos hk] at g
        exact ⟨a, zs, k, rfl, SqL.of e, rfl, .inl ⟨hk, fun p np => fin_lst rr m np g⟩⟩
      · rw [if_neg hk] at g
        by_cases hk2 : k = -1
        · rw [if_pos hk2] at g
          exact ⟨a, zs, k, rfl, SqL.of e, rfl, .inr ⟨hk2, fun p np => fin_lst rr m.rev np g⟩⟩
        · rw [if_neg hk2] at g
          exact g.elim
    | _ => exact g.elim
  | _ => exact g.elim

/-! ### built-in functions -/
theorem CallR.or {X : Cx} {fv : Value} {r r' : List V → Hp → VK → Prop} (h : CallR X fv r) (h' : CallR X fv r') : CallR X fv (fun xs H Q => r xs H Q ∨ r' xs H Q) := by
  intro pins s σ H xs us Q I rx q
  rcases q with q | q
  · exact h pins s σ H xs us Q I rx q
  · exact h' pins s σ H xs us Q I rx q
/-- what the written part says of exception classes -/
structure IsxOk (K : PySem.W.Frag) (cl : String → Option Addr) (t : T) : Prop where
  isx : ∀ c C b a A, t.isx c C = some b → cl c = some a → cl C = some A → PySem.W.kitOne K (.ref a) (.ref A) = some b ∧ PySem.W.exmOne K (.ref a) (.ref A) = some b
  cls : ∀ c C b a, t.isx c C = some b → cl c = some a → XcK K a ∧ PySem.W.kitOne K (.ref a) (.type "ValueError") = some true
  fldx : ∀ c f a, t.fldx c f = true → cl c = some a → XcK K a ∧ PySem.W.findIn K (.ref a) (Str.ofString f) = some none
/-- what isinstance knows of own classes -/
structure IsaOk (K : PySem.W.Frag) (cl : String → Option Addr) (t : T) : Prop where
  kit : ∀ c C b a A, t.isa c C = some b → cl c = some a → cl C = some A → PySem.W.kitOne K (.ref a) (.ref A) = some b
  cls : ∀ c C b a, t.isa c C = some b → cl c = some a → Cls K a ∧ PySem.W.findIn K (.ref a) "__class__" = some (some (.builtin "object.__class__")) ∧
    PySem.W.specialIn K (.builtin "object.__class__") "__get__" = some (some (.builtin "getset_descriptor.__get__")) ∧ PySem.W.takesIn K (.builtin "object.__class__") = some true ∧ PySem.W.mroIn K a (.type "object") = some true
def bfV : Bf → Value
  | .len => .builtin "len"
  | .str => .type "str"
  | .int => .type "int"
  | .abs => .builtin "abs"
  | .max => .builtin "max"
  | .min => .builtin "min"
  | .all => .builtin "all"
  | .any => .builtin "any"
  | .list => .type "list"
  | .tuple => .type "tuple"
  | .isinstance => .builtin "isinstance"
def bfN : Bf → String
  | .len => "len"
  | .str => "str"
  | .int => "int"
  | .abs => "abs"
  | .max => "max"
  | .min => "min"
  | .all => "all"
  | .any => "any"
  | .list => "list"
  | .tuple => "tuple"
  | .isinstance => "isinstance"
def rBlt (K : PySem.W.Frag) : Bf → List V → Hp → VK → Prop
  | .len => fun xs H Q => (∃ p ys, xs = [.ref p] ∧ (SqL K H p ys ∨ SqT K H p ys) ∧ Q (.int ys.length) H) ∨ ∃ z, xs = [.str z] ∧ z.length ≤ sizeLine ∧ Q (.int z.length) H
  | .str => fun xs H Q => (∃ i : Int, xs = [.int i] ∧ i.natAbs.log2 < 1920 ∧ Q (.str (toString i)) H) ∨ ∃ a, xs = [.str a] ∧ Q (.str a) H
  | .int => fun xs H Q => ((∃ i, xs = [.int i] ∧ Q (.int i) H) ∨ ∃ k, xs = [.bl k] ∧ Q (.int (if k then 1 else 0)) H) ∨ ∃ a n, xs = [.str a] ∧ PySem.intText? a = some n ∧ a.length ≤ 640 ∧ Q (.int n) H
  | .abs => fun xs H Q => ∃ i, xs = [.int i] ∧ Q (.int (if i < 0 then -i else i)) H
  | .max => fun xs H Q => ∃ i j, xs = [.int i, .int j] ∧ Q (.int (if j > i then j else i)) H
  | .min => fun xs H Q => ∃ i j, xs = [.int i, .int j] ∧ Q (.int (if j < i then j else i)) H
  | .all => rAll K
  | .any => rAny K
  | .list => fun xs H Q => ∃ p ys, xs = [.ref p] ∧ (SqL K H p ys ∨ SqT K H p ys) ∧ ∀ l, H l = none → Q (.ref l) (upd H l (.lst ys))
  | .tuple => fun xs H Q => ∃ p ys, xs = [.ref p] ∧ ((SqL K H p ys ∧ ∀ l, H l = none → Q (.ref l) (upd H l (.tup ys))) ∨ (SqT K H p ys ∧ Q (.ref p) H))
  | .isinstance => fun xs H Q => rIsi K xs H Q ∨ rIsX K xs H Q
theorem rBlt_ok {X : Cx} (hc : X.calm = true) (b : Bf) : CallR X (bfV b) (rBlt X.K b) := by
  cases b with
  | len => exact CallR.or call_len_seq call_len_str
  | str => exact CallR.or call_str_int SkE.call_str_str
  | int => exact CallR.or call_int1 call_int_str
  | abs => exact call_abs
  | max => exact call_max2 hc
  | min => exact call_min2 hc
  | all => exact cr_all hc
  | any => exact cr_any hc
  | list => exact call_list_of
  | tuple => exact call_tuple_of
  | isinstance => exact CallR.or call_isi call_isX
theorem bls_rel : ∀ {xs : List D} {bs : List Bool} {zs : List V}, bls? xs = some bs → VRs K cl A H xs zs → zs = bs.map V.bl
  | [], bs, zs, h, r => by
    cases (show some [] = some bs from h)
    unfold VRs at r
    exact r
  | x :: xs, bs, zs, h, r => by
    cases x with
    | bl b =>
      obtain ⟨bs', h1, h2⟩ := Option.map_eq_some_iff.mp (show (bls? xs).map (b :: ·) = some bs from h)
      unfold VRs at r
      obtain ⟨w, ws', rfl, q, m⟩ := r
      rw [← h2, bls_rel h1 m, q.blE]
      rfl
    | _ => cases h
theorem strs_rel : ∀ {xs : List D} {ss : List (List Nat)} {zs : List V}, strs? xs = some ss → VRs K cl A H xs zs → zs = (ss.map mkS).map V.str
  | [], bs, zs, h, r => by
    cases (show some [] = some bs from h)
    unfold VRs at r
    exact r
  | x :: xs, bs, zs, h, r => by
    cases x with
    | str b =>
      obtain ⟨bs', h1, h2⟩ := Option.map_eq_some_iff.mp (show (strs? xs).map (b :: ·) = some bs from h)
      unfold VRs at r
      obtain ⟨w, ws', rfl, q, m⟩ := r
      rw [← h2, strs_rel h1 m, q.strE]
      rfl
    | _ => cases h
theorem log_small {i : Int} (h : i.natAbs < 1000000000000000000) : i.natAbs.log2 < 1920 := by
  by_cases h0 : i.natAbs = 0
  · rw [h0]; decide
  · have := (Nat.log2_lt h0 (k := 64)).mpr (Nat.lt_trans h (by decide))
    omega
theorem kindTy {x : D} {k : String} {v : V} (h : kind x = some k) (r : VR K cl A H x v) : TyX K H v (.type k) := by
  cases x with
  | non => cases h; rw [r.nonE]; exact .base .non
  | bl b => cases h; rw [r.blE]; exact .base (.bl b)
  | int b => cases h; rw [r.intE]; exact .base (.int b)
  | str b => cases h; rw [r.strE]; exact .base (.str _)
  | tup xs => cases h; obtain ⟨a, zs, rfl, e, _⟩ := r.tupE; exact .base (.tup e)
  | lst xs => cases h; obtain ⟨a, zs, rfl, e, _⟩ := r.lstE; exact .base (.lst e)
  | dk ks xs => cases h; obtain ⟨a, zs, rfl, e, _⟩ := r.dkE; exact .base (.dK e)
  | _ => cases h
theorem kind_kit {x : D} {k n : String} (h : kind x = some k) (hn : bts.contains n = true) : PySem.W.kitOne K (.type k) (.type n) = some (k == n || (k == "bool" && n == "int")) := by
  refine kit_ty ?_
  have hn' : n = "int" ∨ n = "str" ∨ n = "bool" ∨ n = "tuple" ∨ n = "list" := by simpa [bts] using hn
  have hk : k = "NoneType" ∨ k = "bool" ∨ k = "int" ∨ k = "str" ∨ k = "tuple" ∨ k = "list" ∨ k = "dict" := by
    cases x <;> cases h <;> simp
  rcases hk with rfl | rfl | rfl | rfl | rfl | rfl | rfl <;> rcases hn' with rfl | rfl | rfl | rfl | rfl <;> decide +kernel
theorem blt_ok {t : T} (Z : IsaOk K cl t) (ZX : IsxOk K cl t) (b : Bf) {xs : List D} {vs : List V} (rr : Rel K cl O ro ρ ts σ ws f H) (m : VRs K cl (Av O f) H xs vs) (g : GE K cl O ro W ts σ ws f H (R.of (bltD t b xs) ρ) Q) : rBlt K b vs H Q := by
  have one : ∀ {x : D} {vs : List V}, VRs K cl (Av O f) H [x] vs → ∃ v, vs = [v] ∧ VR K cl (Av O f) H x v := fun {x vs} m => by
    unfold VRs at m
    obtain ⟨w, ws', rfl, q, m⟩ := m
    unfold VRs at m
    subst m
    exact ⟨w, rfl, q⟩
  have two : ∀ {x y : D} {vs : List V}, VRs K cl (Av O f) H [x, y] vs → ∃ v u, vs = [v, u] ∧ VR K cl (Av O f) H x v ∧ VR K cl (Av O f) H y u := fun {x y vs} m => by
    unfold VRs at m
    obtain ⟨w, ws', rfl, q, m⟩ := m
    obtain ⟨v, rfl, q2⟩ := one m
    exact ⟨w, v, rfl, q, q2⟩
  unfold bltD at g
  split at g
  · obtain ⟨v, rfl, q⟩ := one m
    obtain ⟨a, zs, rfl, e, _, mm⟩ := q.lstE
    refine .inl ⟨a, zs, rfl, .inl (SqL.of e), ?_⟩
    rw [← mm.len]
    exact fin_d rr VR.int g
  · obtain ⟨v, rfl, q⟩ := one m
    obtain ⟨a, zs, rfl, e, _, mm⟩ := q.tupE
    refine .inl ⟨a, zs, rfl, .inr (SqT.of e), ?_⟩
    rw [← mm.len]
    exact fin_d rr VR.int g
  · split at g
    · rename_i hl
      obtain ⟨v, rfl, q⟩ := one m
      rw [q.strE]
      refine .inr ⟨_, rfl, by rw [mkS_len]; exact lim_le hl, ?_⟩
      rw [mkS_len]
      exact fin_d rr VR.int g
    · exact g.elim
  · obtain ⟨v, rfl, q⟩ := one m
    obtain ⟨a, rfl, hs⟩ := q.argE
    refine .inl ⟨a, _, rfl, .inl hs, ?_⟩
    rw [List.length_map]
    exact fin_d rr VR.int g
  · split at g
    · rename_i hl
      obtain ⟨v, rfl, q⟩ := one m
      rw [q.intE]
      exact .inl ⟨_, rfl, log_small hl, fin_d rr (VR.strS rfl) g⟩
    · exact g.elim
  · obtain ⟨v, rfl, q⟩ := one m
    rw [q.strE]
    exact .inr ⟨_, rfl, fin_d rr VR.str g⟩
  · obtain ⟨v, rfl, q⟩ := one m
    rw [q.blE]
    exact .inl (.inr ⟨_, rfl, fin_d rr VR.int g⟩)
  · obtain ⟨v, rfl, q⟩ := one m
    rw [q.intE]
    exact .inl (.inl ⟨_, rfl, fin_d rr VR.int g⟩)
  · split at g
    · rename_i s hl
      obtain ⟨v, rfl, q⟩ := one m
      rw [q.strE]
      cases hi : PySem.intText? (mkS s) with
      | none =>
        have g : GE K cl O ro W ts σ ws f H (R.of ((PySem.intText? (mkS s)).map fun i => SV.d (.int i)) ρ) Q := g
        rw [hi] at g
        exact g.elim
      | some i =>
        have g : GE K cl O ro W ts σ ws f H (R.of ((PySem.intText? (mkS s)).map fun i => SV.d (.int i)) ρ) Q := g
        rw [hi] at g
        exact .inr ⟨_, i, rfl, hi, by rw [mkS_len]; exact hl, fin_d rr VR.int g⟩
    · exact g.elim
  · obtain ⟨v, rfl, q⟩ := one m
    rw [q.intE]
    exact ⟨_, rfl, fin_d rr VR.int g⟩
  · obtain ⟨v, u, rfl, q, q2⟩ := two m
    rw [q.intE, q2.intE]
    exact ⟨_, _, rfl, fin_d rr VR.int g⟩
  · obtain ⟨v, u, rfl, q, q2⟩ := two m
    rw [q.intE, q2.intE]
    exact ⟨_, _, rfl, fin_d rr VR.int g⟩
  · rename_i xs
    obtain ⟨v, rfl, q⟩ := one m
    obtain ⟨a, zs, rfl, e, _, mm⟩ := q.lstE
    cases hb : bls? xs with
    | none => rw [hb] at g; exact g.elim
    | some bs =>
      rw [hb] at g
      rw [bls_rel hb mm] at e
      exact ⟨a, bs, rfl, SqL.of e, fin_d rr VR.bl g⟩
  · rename_i xs
    obtain ⟨v, rfl, q⟩ := one m
    obtain ⟨a, zs, rfl, e, _, mm⟩ := q.lstE
    cases hb : bls? xs with
    | none => rw [hb] at g; exact g.elim
    | some bs =>
      rw [hb] at g
      rw [bls_rel hb mm] at e
      exact ⟨a, bs, rfl, SqL.of e, fin_d rr VR.bl g⟩
  · obtain ⟨v, rfl, q⟩ := one m
    obtain ⟨a, zs, rfl, e, _, mm⟩ := q.lstE
    exact ⟨a, zs, rfl, .inl (SqL.of e), fun p np => fin_lst rr mm np g⟩
  · obtain ⟨v, rfl, q⟩ := one m
    obtain ⟨a, zs, rfl, e, _, mm⟩ := q.tupE
    exact ⟨a, zs, rfl, .inr (SqT.of e), fun p np => fin_lst rr mm np g⟩
  · obtain ⟨v, rfl, q⟩ := one m
    obtain ⟨a, zs, rfl, e, _, mm⟩ := q.lstE
    exact ⟨a, zs, rfl, .inl ⟨SqL.of e, fun p np => fin_tup rr mm np g⟩⟩
  · obtain ⟨v, rfl, q⟩ := one m
    have q' := q
    obtain ⟨a, zs, rfl, e, _, mm⟩ := q.tupE
    exact ⟨a, zs, rfl, .inr ⟨SqT.of e, fin_d rr q' g⟩⟩
  · rename_i x c
    obtain ⟨v, u, rfl, q, q2⟩ := two m
    cases c with
    | ty n =>
      unfold isaD at g
      dsimp only at g
      have q2' : u = .ty n := by unfold VR at q2; exact q2
      rw [q2']
      split at g
      · rename_i c' ns xs
        by_cases hn : n = "ValueError"
        · subst hn
          rw [if_pos rfl] at g
          cases hi : t.isx c' c' with
          | none => rw [hi] at g; exact g.elim
          | some b =>
            rw [hi] at g
            obtain ⟨a, C, dd, fs, ws, rfl, hc, e, _, ed, _, _, _, _⟩ := q.excE
            obtain ⟨T, k1⟩ := ZX.cls c' c' b C hi hc
            exact .inr ⟨a, C, dd, fs, .ty "ValueError", .type "ValueError", true, rfl, e, ed, T, fun u h => h, k1, fin_d rr VR.bl g⟩
        · rw [if_neg hn] at g
          exact g.elim
      · by_cases hn : bts.contains n = true
        · rw [if_pos hn] at g
          cases hk : kind x with
          | none => rw [hk] at g; exact g.elim
          | some k =>
            rw [hk] at g
            exact .inl ⟨v, .ty n, .type k, .type n, _, rfl, .ty n, kindTy hk q, kind_kit hk hn, fin_d rr VR.bl g⟩
        · rw [if_neg hn] at g
          exact g.elim
    | cls C =>
      unfold isaD at g
      cases x with
      | ins c' ns xs =>
        dsimp only at g
        cases hi : t.isa c' C with
        | none => rw [hi] at g; exact g.elim
        | some b =>
          rw [hi] at g
          obtain ⟨a, Ca, dx, zs, rfl, hc, e, _, hl, mm⟩ := q.insE
          have q2' : ∃ C', cl C = some C' ∧ u = .ref C' := by unfold VR at q2; exact q2
          obtain ⟨CA, hC, rfl⟩ := q2'
          obtain ⟨k1, k2, k3, k4, k5⟩ := Z.cls c' C b Ca hi hc
          exact .inl ⟨_, _, .ref Ca, .ref CA, b, rfl, .own CA, .base (.ins e k1 k2 k3 k4 k5), Z.kit c' C b Ca CA hi hc hC, fin_d rr VR.bl g⟩
      | exc c' ns xs =>
        dsimp only at g
        cases hi : t.isx c' C with
        | none => rw [hi] at g; exact g.elim
        | some b =>
          rw [hi] at g
          obtain ⟨a, Ca, dd, fs, ws, rfl, hc, e, _, ed, _, _, _, _⟩ := q.excE
          have q2' : ∃ C', cl C = some C' ∧ u = .ref C' := by unfold VR at q2; exact q2
          obtain ⟨CA, hC, rfl⟩ := q2'
          obtain ⟨T, _⟩ := ZX.cls c' C b Ca hi hc
          exact .inr ⟨a, Ca, dd, fs, .ref CA, .ref CA, b, rfl, e, ed, T, fun u h => h, (ZX.isx c' C b Ca CA hi hc hC).1, fin_d rr VR.bl g⟩
      | _ => exact g.elim
    | _ => exact g.elim
  · exact g.elim
theorem ssum_map : ∀ ss : List (List Nat), ((ss.map mkS).map (·.length)).sum = ssum ss
  | [] => rfl
  | s :: ss => by
    rw [List.map_cons, List.map_cons, List.sum_cons, ssum_map ss, mkS_len]
    rfl
theorem join_list (sep : List Nat) (ss : List (List Nat)) : (Txt.join (mkS sep) (ss.map mkS)).cps.toList = TL.joinL sep ss := by
  have h := TL.tl_join (mkS sep) (ss.map mkS)
  rw [← TL.join_eq] at h
  have e : ∀ l, TL.tl (mkS l) = l := fun l => by simp [TL.tl, mkS]
  have e2 : (ss.map mkS).map TL.tl = ss := by
    rw [List.map_map]
    conv => rhs; rw [← List.map_id ss]
    refine List.map_congr_left fun l _ => ?_
    exact e l
  rw [e, e2] at h
  exact h
theorem join_ok {x : D} {xs : List D} {vs : List V} (rr : Rel K cl O ro ρ ts σ ws f H) (h1 : VR K cl (Av O f) H x v) (m : VRs K cl (Av O f) H xs vs) (g : GE K cl O ro W ts σ ws f H (R.of (joinD x xs) ρ) Q) :
    (∃ a, v = .str a) ∧ ∃ y, vs = [y] ∧ ∃ a p, ∃ ys : List Str, v = .str a ∧ [y] = [.ref p] ∧ (SqL K H p (ys.map V.str) ∨ SqT K H p (ys.map V.str)) ∧ (ys.map (·.length)).sum + ys.length * a.length ≤ 16777216 ∧ Q (.str (Txt.join a ys)) H := by
  have one : ∀ {x : D} {vs : List V}, VRs K cl (Av O f) H [x] vs → ∃ v, vs = [v] ∧ VR K cl (Av O f) H x v := fun {x vs} m => by
    unfold VRs at m
    obtain ⟨w, ws', rfl, q, m⟩ := m
    unfold VRs at m
    subst m
    exact ⟨w, rfl, q⟩
  unfold joinD at g
  split at g
  · rename_i sep zs
    obtain ⟨y, rfl, q⟩ := one m
    obtain ⟨a, ks, rfl, e, _, mm⟩ := q.lstE
    cases hs : strs? zs with
    | none => rw [hs] at g; exact g.elim
    | some ss =>
      rw [hs] at g
      dsimp only [Option.bind] at g
      split at g
      · rename_i hl
        rw [strs_rel hs mm] at e
        rw [h1.strE]
        refine ⟨⟨_, rfl⟩, _, rfl, _, a, ss.map mkS, rfl, rfl, .inl (SqL.of e), ?_, fin_d rr (VR.strS (join_list _ _)) g⟩
        rw [ssum_map, List.length_map, mkS_len, Nat.mul_comm]
        exact Nat.le_trans hl (by decide)
      · exact g.elim
  · rename_i sep zs
    obtain ⟨y, rfl, q⟩ := one m
    obtain ⟨a, ks, rfl, e, _, mm⟩ := q.tupE
    cases hs : strs? zs with
    | none => rw [hs] at g; exact g.elim
    | some ss =>
      rw [hs] at g
      dsimp only [Option.bind] at g
      split at g
      · rename_i hl
        rw [strs_rel hs mm] at e
        rw [h1.strE]
        refine ⟨⟨_, rfl⟩, _, rfl, _, a, ss.map mkS, rfl, rfl, .inr (SqT.of e), ?_, fin_d rr (VR.strS (join_list _ _)) g⟩
        rw [ssum_map, List.length_map, mkS_len, Nat.mul_comm]
        exact Nat.le_trans hl (by decide)
      · exact g.elim
  · exact g.elim
theorem up_ascii : ∀ c, c < 128 → Unicode.upperOf c = [if 97 ≤ c ∧ c ≤ 122 then c - 32 else c] := by decide +kernel
theorem up_txt (s : List Nat) (h : s.all (fun c => decide (c < 128)) = true) : Txt.upper (mkS s) = mkS (upS s) := by
  have e1 : ∀ g : Nat → Array Nat, s.toArray.mapIdx (fun _ c => g c) = s.toArray.map g := fun g => by
    apply Array.ext
    · simp
    · intro i h1 h2
      simp
  unfold Txt.upper placed mkS upS
  congr 1
  rw [e1 fun c => (Unicode.upperOf c).toArray]
  apply Array.ext'
  simp only [Array.toList_flatten, List.map_toArray, List.map_map]
  induction s with
  | nil => rfl
  | cons c s ih =>
    rw [List.all_cons, Bool.and_eq_true] at h
    have hc := up_ascii c (of_decide_eq_true h.1)
    have ih := ih h.2 (fun g => by
      apply Array.ext
      · simp
      · intro i h1 h2
        simp)
    simp only [List.map_cons, List.flatten_cons, Function.comp] at ih ⊢
    rw [hc, ih]
    rfl
def rBm (K : PySem.W.Frag) : Bm → V → List V → Hp → VK → Prop
  | .join => fun x xs H Q => ∃ (a : Str) (p : Addr) (ys : List Str), x = .str a ∧ xs = [.ref p] ∧ (SqL K H p (ys.map V.str) ∨ SqT K H p (ys.map V.str)) ∧ (ys.map (·.length)).sum + ys.length * a.length ≤ 16777216 ∧ Q (.str (Txt.join a ys)) H
  | .upper => fun x xs H Q => ∃ a, x = .str a ∧ xs = [] ∧ a.length ≤ 5592405 ∧ Q (.str (Txt.upper a)) H
  | .count => rCntF K
  | .index => rIndex K
  | .split => fun x xs H Q => ∃ a b, x = .str a ∧ xs = [.str b] ∧ (b.length == 0) = false ∧ a.length + 2 ≤ sizeLine ∧ rNewStrs (Txt.split a b) H Q
  | .startswith => fun x xs H Q => ∃ a b, x = .str a ∧ xs = [.str b] ∧ Q (.bl (Txt.startswith a b)) H
def bmT : Bm → String
  | .join => "str"
  | .upper => "str"
  | .count => "list"
  | .index => "list"
  | .split => "str"
  | .startswith => "str"
def bmN : Bm → String
  | .join => "join"
  | .upper => "upper"
  | .count => "count"
  | .index => "index"
  | .split => "split"
  | .startswith => "startswith"
def bmI : Bm → String
  | .join => "str.join"
  | .upper => "str.upper"
  | .count => "list.count"
  | .index => "list.index"
  | .split => "str.split"
  | .startswith => "str.startswith"
theorem rBm_ok {X : Cx} (m : Bm) : MtR X (bmI m) (rBm X.K m) := by
  cases m with
  | join => exact mt_join
  | upper => exact mt_upper
  | count => exact mt_countF
  | index => exact mt_index
  | split => exact mt_split
  | startswith => exact mt_startswith
theorem bm_ty {m : Bm} {x : D} {v : V} (h : okRec m x = true) (r : VR K cl A H x v) : tyV K (bmT m) v H := by
  cases m <;> cases x <;> first
    | (cases h; done)
    | (rw [r.strE]; rfl)
    | (obtain ⟨a, zs, rfl, e, _, _⟩ := r.lstE; exact .inl ⟨rfl, _, SqL.of e⟩)
theorem flats_all {ds : List D} {zs : List V} (h : ds.all flat = true) (m : VRs K cl A H ds zs) : zs.all flatV = true := flats_ok h m
theorem cnt_rel {y : D} {v : V} (fy : flat y = true) (ry : VR K cl A H y v) : ∀ {ds : List D} {zs : List V}, ds.all flat = true → VRs K cl A H ds zs → zs.countP (fun z => eqV z v) = ds.countP fun x => eqvD x y
  | [], zs, _, m => by
    unfold VRs at m
    rw [m]
    rfl
  | d :: ds, zs, h, m => by
    unfold VRs at m
    obtain ⟨w, ws', rfl, q, m⟩ := m
    rw [List.all_cons, Bool.and_eq_true] at h
    rw [List.countP_cons, List.countP_cons, cnt_rel fy ry h.2 m, flat_eq h.1 fy q ry]
theorem idx_rel {y : D} {v : V} (fy : flat y = true) (ry : VR K cl A H y v) : ∀ {ds : List D} {zs : List V} {k j : Nat}, ds.all flat = true → VRs K cl A H ds zs → idxOf y ds k = some j →
    ∃ n z, j = k + n ∧ zs[n]? = some z ∧ eqV z v = true ∧ ∀ (m : Nat) (z' : V), m < n → zs[m]? = some z' → eqV z' v = false
  | [], zs, k, j, _, _, e => by cases e
  | d :: ds, zs, k, j, h, m, e => by
    unfold VRs at m
    obtain ⟨w, ws', rfl, q, m⟩ := m
    rw [List.all_cons, Bool.and_eq_true] at h
    have e0 := flat_eq h.1 fy q ry
    unfold idxOf at e
    by_cases hd : eqvD d y = true
    · rw [if_pos hd] at e
      cases e
      exact ⟨0, w, rfl, rfl, by rw [e0, hd], fun m z' hm => absurd hm (Nat.not_lt_zero _)⟩
    · rw [if_neg hd] at e
      obtain ⟨n, z, rfl, h1, h2, h3⟩ := idx_rel fy ry h.2 m e
      refine ⟨n + 1, z, by omega, by simpa using h1, h2, fun m z' hm hz => ?_⟩
      cases m with
      | zero =>
        have hz' : w = z' := by simpa using hz
        rw [← hz', e0]
        simpa using hd
      | succ m => exact h3 m z' (by omega) (by simpa using hz)
theorem split_rel (s : List Nat) {c : Nat} (h : c < 256) : Txt.split (mkS s) (mkS [c]) = (TL.spl [c] 0 [] s).map mkS := by
  have e : ∀ l, TL.tl (mkS l) = l := fun l => by simp [TL.tl, mkS]
  refine TL.map_tl_inj ?_
  rw [TL.split_spl (mkS s) (mkS [c]) (by rw [e]; simp) (TL.kind_ok (by simp [mkS, h])), e, e, List.map_map]
  symm
  conv => rhs; rw [← List.map_id (TL.spl [c] 0 [] s)]
  exact List.map_congr_left fun l _ => e l
theorem starts_rel (s p : List Nat) : Txt.startswith (mkS s) (mkS p) = decide (s.take p.length = p) := by
  unfold Txt.startswith Builtin.Str.subAt
  rw [mkS_len, mkS_len]
  have e : ((mkS s).cps.extract 0 (0 + p.length) == (mkS p).cps) = decide (s.take p.length = p) := by
    unfold mkS
    rw [Bool.eq_iff_iff]
    simp only [beq_iff_eq, decide_eq_true_eq]
    constructor
    · intro h
      have := congrArg Array.toList h
      simpa using this
    · intro h
      apply Array.ext'
      simpa using h
  rw [e]
  by_cases h : s.take p.length = p
  · rw [decide_eq_true h, Bool.and_true]
    have : p.length ≤ s.length := by
      have := congrArg List.length h
      rw [List.length_take] at this
      omega
    exact decide_eq_true (by omega)
  · rw [decide_eq_false h, Bool.and_false]
theorem lst_new {xs : List D} {zs : List V} {p : Addr} (r : Rel K cl O ro ρ ts σ ws f H) (m : VRs K cl (Av O f) H xs zs) (n : H p = none) (g : GE K cl O ro W ts σ ws f H (.ok (.lst (xs.map .d)) ρ) Q) : Q (.ref p) (upd H p (.lst zs)) := fin_lst r m n g
theorem strs_vr : ∀ (l : List (List Nat)), VRs K cl A H (l.map .str) ((l.map mkS).map V.str)
  | [] => VRs.nil
  | x :: l => VRs.cons VR.str (strs_vr l)
theorem bm_ok (m : Bm) {x : D} {xs : List D} {vs : List V} (rr : Rel K cl O ro ρ ts σ ws f H) (h1 : VR K cl (Av O f) H x v) (mm : VRs K cl (Av O f) H xs vs) (g : GE K cl O ro W ts σ ws f H (R.of (bmD m x xs) ρ) Q) : rBm K m v vs H Q := by
  have one : ∀ {x : D} {vs : List V}, VRs K cl (Av O f) H [x] vs → ∃ v, vs = [v] ∧ VR K cl (Av O f) H x v := fun {x vs} m => by
    unfold VRs at m
    obtain ⟨w, ws', rfl, q, m⟩ := m
    unfold VRs at m
    subst m
    exact ⟨w, rfl, q⟩
  cases m with
  | join =>
    obtain ⟨_, y, rfl, a, p, ys, k1, k2, k3⟩ := join_ok rr h1 mm g
    exact ⟨a, p, ys, k1, k2, k3⟩
  | upper =>
    have g : GE K cl O ro W ts σ ws f H (R.of (upperD x xs) ρ) Q := g
    unfold upperD at g
    split at g
    · split at g
      · rename_i hl
        unfold VRs at mm
        rw [h1.strE, mm]
        refine ⟨_, rfl, rfl, by rw [mkS_len]; omega, ?_⟩
        rw [up_txt _ hl.2]
        exact fin_d rr VR.str g
      · exact g.elim
    · exact g.elim
  | count =>
    have g : GE K cl O ro W ts σ ws f H (R.of (countD x xs) ρ) Q := g
    unfold countD at g
    split at g
    · split at g
      · rename_i hf
        rw [Bool.and_eq_true] at hf
        obtain ⟨u, rfl, q⟩ := one mm
        obtain ⟨a, zs, rfl, e, _, m2⟩ := h1.lstE
        refine ⟨a, zs, u, rfl, rfl, SqL.of e, flat_v hf.1 q, flats_ok hf.2 m2, ?_⟩
        rw [cnt_rel hf.1 q hf.2 m2]
        exact fin_d rr VR.int g
      · exact g.elim
    · exact g.elim
  | index =>
    have g : GE K cl O ro W ts σ ws f H (R.of (indexD x xs) ρ) Q := g
    unfold indexD at g
    split at g
    · rename_i ds y _
      split at g
      · rename_i hf
        rw [Bool.and_eq_true] at hf
        obtain ⟨u, rfl, q⟩ := one mm
        obtain ⟨a, zs, rfl, e, _, m2⟩ := h1.lstE
        cases hi : idxOf y ds 0 with
        | none => rw [hi] at g; exact g.elim
        | some j =>
          rw [hi] at g
          obtain ⟨n, z, hj, k1, k2, k3⟩ := idx_rel hf.1 q hf.2 m2 hi
          rw [Nat.zero_add] at hj
          subst hj
          exact ⟨a, zs, u, j, z, rfl, rfl, SqL.of e, flat_v hf.1 q, flats_ok hf.2 m2, k1, k2, k3, fin_d rr VR.int g⟩
      · exact g.elim
    · exact g.elim
  | split =>
    have g : GE K cl O ro W ts σ ws f H (R.of (splitD x xs) ρ) Q := g
    unfold splitD at g
    split at g
    · rename_i s c _
      split at g
      · rename_i hl
        obtain ⟨u, rfl, q⟩ := one mm
        rw [h1.strE, q.strE]
        refine ⟨mkS s, mkS [c], rfl, rfl, by rw [mkS_len]; rfl, by rw [mkS_len, sizeLine_eq]; have := hl.1; unfold lim at this; omega, fun p np => ?_⟩
        rw [split_rel s hl.2]
        refine fin_lst (W := W) rr (strs_vr _) np ?_
        rw [List.map_map]
        exact g
      · exact g.elim
    · exact g.elim
  | startswith =>
    have g : GE K cl O ro W ts σ ws f H (R.of (startsD x xs) ρ) Q := g
    unfold startsD at g
    split at g
    · rename_i s p _
      obtain ⟨u, rfl, q⟩ := one mm
      rw [h1.strE, q.strE]
      refine ⟨mkS s, mkS p, rfl, rfl, ?_⟩
      rw [starts_rel]
      exact fin_d rr VR.bl g
    · exact g.elim
end
end Kn

set_option Elab.async false
set_option linter.all false
set_option maxRecDepth 100000
set_option maxHeartbeats 4000000
/-! Snd0: lists of expressions, calls' promises. -/
namespace Kn
open PySem L2
def stOf (x : String) : Str := Str.ofString x
section
variable (K : PySem.W.Frag) (cl : String → Option Addr) (O : Addr → Prop) (ro : List (Nat × V)) (W : WX)
def GEs (ts : List SV) (σ : St) (ws : List V) (f : List Addr) (H : Hp) (r : R (List SV)) (Q : List V → Hp → Prop) : Prop := match r with
  | .ok ss ρ' => ∀ vs H' f', ss.length = vs.length → Ext f H f' H' → Rel K cl O ro ρ' (ss ++ ts) σ (vs ++ ws) f' H' → Q vs H'
  | .exc x ρ' => ∀ c d H' f', Ext f H f' H' → Rel K cl O ro ρ' ts σ ws f' H' → XR K cl (Av O f') H' x c d → W c d σ H'
  | .no => False
def tEs (g : Env → R (List SV)) : TA := fun σ H Q => ∃ ρ ts ws f, Rel K cl O ro ρ ts σ ws f H ∧ GEs K cl O ro W ts σ ws f H (g ρ) Q
def tKs (h : List SV → Env → R SV) (vs : List V) (σ : St) (H : Hp) (Q : VK) : Prop := ∃ ss ρ ts ws f, ss.length = vs.length ∧ Rel K cl O ro ρ (ss ++ ts) σ (vs ++ ws) f H ∧ GE K cl O ro W ts σ ws f H (h ss ρ) Q
def tK1s (h : SV → List SV → Env → R SV) (v : V) (vs : List V) (σ : St) (H : Hp) (Q : VK) : Prop := ∃ s ss ρ ts ws f, ss.length = vs.length ∧ Rel K cl O ro ρ (ss ++ s :: ts) σ (vs ++ v :: ws) f H ∧ GE K cl O ro W ts σ ws f H (h s ss ρ) Q
end
section
variable {K : PySem.W.Frag} {cl : String → Option Addr} {O : Addr → Prop} {ro : List (Nat × V)} {W : WX} {ρ : Env} {ts : List SV} {σ : St} {ws : List V} {f f' : List Addr} {H H' : Hp} {s s' : SV} {v u : V} {x : D} {A A' : Addr → Prop} {r : R SV} {Q : VK} {Ql : List V → Hp → Prop}
theorem XR.stp {x : Xc} {c : Value} {d : Option Addr} (st : Stp A H A' H) (h : XR K cl A H x c d) : XR K cl A' H x c d := by
  obtain ⟨C, dd, fs, zs, a1, a2, a3, a4, a0, a5, a6, a7⟩ := h
  exact ⟨C, dd, fs, zs, a1, a2, a3, a4, (st _ _ a4 a0).2, a5, VRs.stp st _ _ a6, a7⟩
theorem GEs.ext {r : R (List SV)} (e : Ext f H f' H') (h : GEs K cl O ro W ts σ ws f H r Ql) : GEs K cl O ro W ts σ ws f' H' r Ql := by
  cases r with
  | ok s ρ' => exact fun v H2 f2 l e2 r2 => h v H2 f2 l (e.trans e2) r2
  | exc x ρ' => exact fun c d H2 f2 e2 r2 => h c d H2 f2 (e.trans e2) r2
  | no => exact h
/-- an exception above one more temporary -/
theorem exc_pop {Φ : Prop} {x : Xc} {ρ : Env} {c : Value} {d : Option Addr} (q : ∀ c d H' f', Ext f H f' H' → Rel K cl O ro ρ ts σ ws f' H' → XR K cl (Av O f') H' x c d → W c d σ H')
    (e1 : Ext f H f' H') (r1 : Rel K cl O ro ρ (s :: ts) σ (v :: ws) f' H') (xr : XR K cl (Av O f') H' x c d) : W c d σ H' := by
  obtain ⟨f2, e2, r2⟩ := r1.pop
  exact q c d H' f2 (e1.trans e2) r2 (xr.stp (Stp.ext e2 (fun _ h => h) fun a h => .inl h))
theorem tEs.nil (q : tEs K cl O ro W (fun ρ => .ok [] ρ) σ H Ql) : Ql [] H := by
  obtain ⟨ρ, ts, ws, f, r, q⟩ := q
  exact q [] H f rfl (Ext.refl f H) r
theorem tEs.cons {g : Env → R SV} {h : Env → R (List SV)} (q : tEs K cl O ro W (fun ρ => (g ρ).bind fun v ρ => (h ρ).bind fun vs ρ => .ok (v :: vs) ρ) σ H Ql) :
    tE K cl O ro W g σ H fun x H1 => tEs K cl O ro W h σ H1 fun xs H2 => Ql (x :: xs) H2 := by
  obtain ⟨ρ, ts, ws, f, r, q⟩ := q
  dsimp only at q
  refine ⟨ρ, ts, ws, f, r, ?_⟩
  cases e : g ρ with
  | ok s ρ1 =>
    rw [e] at q
    refine fun v H1 f1 e1 r1 => ⟨ρ1, s :: ts, v :: ws, f1, r1, ?_⟩
    have q : GEs K cl O ro W ts σ ws f H ((h ρ1).bind fun vs ρ => .ok (s :: vs) ρ) Ql := q
    cases e' : h ρ1 with
    | ok ss ρ2 =>
      rw [e'] at q
      refine fun vs H2 f2 l e2 r2 => ?_
      obtain ⟨f3, e3, r3⟩ := Rel.rot l r2
      exact q (v :: vs) H2 f3 (by rw [List.length_cons, List.length_cons, l]) ((e1.trans e2).trans e3) r3
    | exc x ρ2 =>
      rw [e'] at q
      intro c d H' f' e2 r2 xr
      exact exc_pop (Φ := True) q (e1.trans e2) r2 xr
    | no =>
      rw [e'] at q
      exact q
  | exc x ρ1 =>
    rw [e] at q
    exact q
  | no =>
    rw [e] at q
    exact q
theorem tEs.bind {g : Env → R (List SV)} {h : List SV → Env → R SV} (q : tE K cl O ro W (fun ρ => (g ρ).bind h) σ H Q) : tEs K cl O ro W g σ H fun vs H1 => tKs K cl O ro W h vs σ H1 Q := by
  obtain ⟨ρ, ts, ws, f, r, q⟩ := q
  dsimp only at q
  refine ⟨ρ, ts, ws, f, r, ?_⟩
  cases e : g ρ with
  | ok ss ρ1 =>
    rw [e] at q
    exact fun vs H1 f1 l e1 r1 => ⟨ss, ρ1, ts, ws, f1, l, r1, GE.ext e1 q⟩
  | exc x ρ1 =>
    rw [e] at q
    exact q
  | no =>
    rw [e] at q
    exact q
theorem tK1.binds {g : Env → R (List SV)} {h : SV → List SV → Env → R SV} (q : tK1 K cl O ro W (fun x ρ => (g ρ).bind (h x)) v σ H Q) : tEs K cl O ro W g σ H fun vs H1 => tK1s K cl O ro W h v vs σ H1 Q := by
  obtain ⟨s, ρ, ts, ws, f, r, q⟩ := q
  dsimp only at q
  refine ⟨ρ, s :: ts, v :: ws, f, r, ?_⟩
  cases e : g ρ with
  | ok ss ρ1 =>
    rw [e] at q
    exact fun vs H1 f1 l e1 r1 => ⟨s, ss, ρ1, ts, ws, f1, l, r1, GE.ext e1 q⟩
  | exc x ρ1 =>
    rw [e] at q
    intro c d H' f' e1 r1 xr
    exact exc_pop (Φ := True) q e1 r1 xr
  | no =>
    rw [e] at q
    exact q
theorem tKs.frz {h : List SV → Env → R SV} {vs : List V} (q : tKs K cl O ro W h vs σ H Q) : ∃ ss ρ ts ws f, ss.length = vs.length ∧ VRs K cl (Av O f) H (frzs ss) vs ∧ Rel K cl O ro ρ ts σ ws f H ∧ GE K cl O ro W ts σ ws f H (h ss ρ) Q := by
  obtain ⟨ss, ρ, ts, ws, f, l, r, q⟩ := q
  obtain ⟨f1, e1, r1, m⟩ := Rel.freezes l r
  exact ⟨ss, ρ, ts, ws, f1, l, m, r1, GE.ext e1 q⟩
theorem tK1s.frz {h : SV → List SV → Env → R SV} {vs : List V} (q : tK1s K cl O ro W h v vs σ H Q) : ∃ s ss ρ ts ws f, ss.length = vs.length ∧ VR K cl (Av O f) H (Kn.frz s) v ∧ VRs K cl (Av O f) H (frzs ss) vs ∧ Rel K cl O ro ρ ts σ ws f H ∧ GE K cl O ro W ts σ ws f H (h s ss ρ) Q := by
  obtain ⟨s, ss, ρ, ts, ws, f, l, r, q⟩ := q
  have r' : Rel K cl O ro ρ ((ss ++ [s]) ++ ts) σ ((vs ++ [v]) ++ ws) f H := by
    rw [List.append_assoc, List.append_assoc]
    exact r
  obtain ⟨f1, e1, r1, m⟩ := Rel.freezes (by rw [List.length_append, List.length_append, l]; rfl) r'
  have key : ∀ (ss : List SV) (vs : List V), ss.length = vs.length → VRs K cl (Av O f1) H (frzs (ss ++ [s])) (vs ++ [v]) → VRs K cl (Av O f1) H (frzs ss) vs ∧ VR K cl (Av O f1) H (Kn.frz s) v := by
    intro ss
    induction ss with
    | nil =>
      intro vs l m
      cases vs with
      | nil =>
        simp only [List.nil_append, frzs, VRs] at m
        obtain ⟨w, ws', e, q, _⟩ := m
        cases e
        exact ⟨VRs.nil, q⟩
      | cons _ _ => cases l
    | cons z ss ih =>
      intro vs l m
      cases vs with
      | nil => cases l
      | cons w vs =>
        simp only [List.cons_append, frzs, VRs] at m
        obtain ⟨w', ws', e, q, m⟩ := m
        cases e
        obtain ⟨h1, h2⟩ := ih vs (by simpa using l) m
        exact ⟨VRs.cons q h1, h2⟩
  obtain ⟨m1, m2⟩ := key ss vs l m
  exact ⟨s, ss, ρ, ts, ws, f1, l, m2, m1, r1, GE.ext e1 q⟩
end
/-- a def's promise: it does what F tells -/
def spF (K : PySem.W.Frag) (cl : String → Option Addr) (F : String → List SV → Cr) (q : String) : Sp := fun vs H Q E => ∃ O ss f, Rel K cl O [] (ss.map some) [] (vs.map some) [] f H ∧ (match F q ss with
  | .ok s outs => ∀ v H' f', ExW f H f' H' → Rel K cl O [] outs [s] (vs.map some) [v] f' H' → Q v H'
  | .exc x => ∀ c d H', ExW f H [] H' → XR K cl O H' x c d → E c d H'
  | .no => False)
def CallOk (X : Cx) (cl : String → Option Addr) (F : String → List SV → Cr) (q : String) (a : Addr) : Prop :=
  ∃ fd ps k, FnOk X.prog X.w X.K X.mg X.base (L2.CX X.prog X.w) k a fd ps (spF X.K cl F q) ∧ Room (k + 1) X.A ∧ Binds X.K fd ps []
/-- the fields that an exception's __init__ leaves -/
def spEff (K : PySem.W.Frag) (eff : List V → Option (List (Str × V))) : Sp := fun vs H Q _ => ∃ (a C : Addr) (args : List V) (fs : List (Str × V)), vs = .ref a :: args ∧ OexC K C ∧ H a = some (exo a C none) ∧ eff args = some fs ∧
  (∀ f ∈ fs.map (·.1), PySem.W.findIn K (.ref C) f = some none) ∧ ∀ d, H d = none → d ≠ a → Q .non (upd (upd H d (exd d fs)) a (exo a C (some d)))
/-- an exception of the class c may be made of n things -/
def XMk (P : Program) (w : World) (K : PySem.W.Frag) (mg : Str → Option Value) (base : Heap) (cl : String → Option Addr) (xc : String → List D → Option Xc) (c : String) (n : Nat) : Prop :=
  ∃ (C fI : Addr) (fd : FuncData) (ps : List Str) (ds : List Value) (dvs : List V) (eff : List V → Option (List (Str × V))), cl c = some C ∧ mg (stOf c) = some (.ref C) ∧ OexC K C ∧ PySem.W.findIn K (.ref C) "__init__" = some (some (.ref fI)) ∧
    PySem.W.typeIn K (.ref fI) = some (.type "function") ∧ FnOk P w K mg base (L2.CX P w) 10 fI fd ps (spEff K eff) ∧ Binds K fd ps ds ∧ Vals dvs ds ∧ n ≤ 100 ∧
    ∀ xs x, xs.length = n → xc c xs = some x → x.c = c ∧ ∀ A H vs, VRs K cl A H xs vs → ∃ fs ws, eff (vs ++ dvs) = some fs ∧ (∀ f ∈ fs.map (·.1), PySem.W.findIn K (.ref C) f = some none) ∧ x.ns.length = ws.length ∧ VRs K cl A H x.xs ws ∧ ∀ n, fs.lookup n = (zipS x.ns ws).lookup n
/-- what a body may lean on -/
structure Sd (X : Cx) (t : T) (F : String → List SV → Cr) (cl : String → Option Addr) (W : WX) : Prop where
  calm : X.calm = true
  nd : X.N.Nodup
  hu : X.A.units + 70 < cLine
  glob : ∀ x d, t.glob x = some d → ∃ u v, X.mg (stOf x) = some u ∧ RelV v u ∧ ∀ A H, VR X.K cl A H d v
  blt : ∀ b : Bf, X.mg (stOf (bfN b)) = none
  tyn : ∀ n, tys.contains n = true → X.mg (stOf n) = none
  isx : IsxOk X.K cl t
  xcl : ∀ c, t.exn c = true → ∃ A, cl c = some A ∧ X.mg (stOf c) = some (.ref A)
  xmk : ∀ c n, t.xn c n = true → XMk X.prog X.w X.K X.mg X.base cl t.xc c n
  xroom : Room 11 X.A
  takes : Takes X W
  rng : X.mg "range" = none
  enm : X.mg "enumerate" = none
  isa : IsaOk X.K cl t
  fn : ∀ f, t.isFn f = true → ∃ a, X.mg (stOf f) = some (.ref a) ∧ PySem.W.keepIn X.K (.ref a) = true ∧ CallOk X cl F f a
  meth : ∀ c m q C, t.meth c m = some q → cl c = some C → Cls X.K C ∧ ∃ a, Meth X.K C (stOf m) a ∧ CallOk X cl F q a
  init : ∀ c q, t.init c = some q → ∃ C a, cl c = some C ∧ X.mg (stOf c) = some (.ref C) ∧ Mk X.K C a ∧ CallOk X cl F q a
  fld : ∀ c f C, t.fld c f = true → cl c = some C → Cls X.K C ∧ NoAttr X.K C (stOf f)
  pass : ∀ σ, PassesAt (L2.CX X.prog X.w) X σ (fun c d H => W c d σ H)
section
variable {K : PySem.W.Frag} {cl : String → Option Addr} {O : Addr → Prop} {ro : List (Nat × V)} {W : WX} {ρ : Env} {ts : List SV} {σ : St} {ws : List V} {f f' : List Addr} {H H' : Hp} {s s' : SV} {v u : V} {x : D} {A A' : Addr → Prop} {r : R SV} {Q : VK}
mutual
theorem OR.dom : ∀ (s : SV) (v : V) (f : List Addr), OR K cl A H s v f → ∀ a ∈ f, H a ≠ none
  | .d x, v, f, r => by
    unfold OR at r
    rw [r.2]
    intro a h
    cases h
  | .lst xs, v, f, r => by
    unfold OR at r
    obtain ⟨b, ws, f', e, q, ef, m⟩ := r
    intro a h
    rw [ef] at h
    rcases List.mem_cons.mp h with rfl | h
    · rw [q]; exact fun z => nomatch z
    · exact ORs.dom xs ws f' m a h
  | .ins c ns xs, v, f, r => by
    unfold OR at r
    obtain ⟨b, C, dx, ws, f', e, ec, q, l, ef, m⟩ := r
    intro a h
    rw [ef] at h
    rcases List.mem_cons.mp h with rfl | h
    · rw [q]; exact fun z => nomatch z
    · exact ORs.dom xs ws f' m a h
  | .dk ks xs, v, f, r => by
    unfold OR at r
    obtain ⟨b, ws, f', e, q, l, ef, m⟩ := r
    intro a h
    rw [ef] at h
    rcases List.mem_cons.mp h with rfl | h
    · rw [q]; exact fun z => nomatch z
    · exact ORs.dom xs ws f' m a h
theorem ORs.dom : ∀ (xs : List SV) (ws : List V) (f : List Addr), ORs K cl A H xs ws f → ∀ a ∈ f, H a ≠ none
  | [], _, _, r => by
    unfold ORs at r
    rw [r.2]
    intro a h
    cases h
  | x :: xs, ws, f, r => by
    unfold ORs at r
    obtain ⟨w, ws', f1, f2, e, ef, q, m⟩ := r
    intro a h
    rw [ef] at h
    rcases List.mem_append.mp h with h | h
    · exact OR.dom x w f1 q a h
    · exact ORs.dom xs ws' f2 m a h
end
theorem OE.dom : ∀ {ρ : Env} {σ : St} {f : List Addr}, OE K cl A H ρ σ f → ∀ a ∈ f, H a ≠ none
  | [], _, _, r => by
    unfold OE at r
    rw [r.2]
    intro a h
    cases h
  | s :: ρ, σ, f, r => by
    unfold OE at r
    obtain ⟨v, σ', f1, f2, e, ef, q, m⟩ := r
    intro a h
    rw [ef] at h
    rcases List.mem_append.mp h with h | h
    · cases s with
      | none =>
        have q' : f1 = [] := q
        rw [q'] at h
        cases h
      | some s =>
        obtain ⟨w, _, q⟩ := q
        exact OR.dom s w f1 q a h
    · exact OE.dom m a h
theorem Rel.dom (r : Rel K cl O ro ρ ts σ ws f H) : ∀ a, Av O f a → H a ≠ none := by
  obtain ⟨fe, ft, e, c, d, o, p, q, z⟩ := r
  intro a h
  rcases h with h | h
  · exact o a h
  · rw [e] at h
    rcases List.mem_append.mp h with h | h
    · exact OE.dom p a h
    · exact ORs.dom _ _ _ q a h
/-- data handed in -/
theorem OE.ofD : ∀ {xs : List D} {vs : List V}, VRs K cl A H xs vs → OE K cl A H ((xs.map SV.d).map some) (vs.map some) []
  | [], vs, r => by
    unfold VRs at r
    rw [r]
    unfold List.map OE
    exact ⟨rfl, rfl⟩
  | x :: xs, vs, r => by
    unfold VRs at r
    obtain ⟨w, ws', rfl, q, m⟩ := r
    rw [List.map_cons, List.map_cons, List.map_cons]
    unfold OE
    refine ⟨some w, ws'.map some, [], [], rfl, rfl, ⟨w, rfl, ?_⟩, OE.ofD m⟩
    unfold OR
    exact ⟨q, rfl⟩
theorem Rel.enter {xs : List D} {vs : List V} (r : Rel K cl O ro ρ ts σ ws f H) (m : VRs K cl (Av O f) H xs vs) : Rel K cl (Av O f) [] ((xs.map SV.d).map some) [] (vs.map some) [] [] H := by
  have e : Av (Av O f) [] = Av O f := by
    funext a
    simp [Av]
  refine ⟨[], [], rfl, fun a => (by simp), fun a h => (by cases h), r.dom, ?_, ORs.nil, fun p h => (by cases h)⟩
  rw [e]
  exact OE.ofD m
/-- behind a call: what it made stands above the caller's -/
theorem Rel.back {g g1 : List Addr} (r : Rel K cl O ro ρ ts σ ws f H) (e : ExW [] H g H') (hs : ∀ a, g1.count a ≤ g.count a) (hc : ∀ a, g.count a ≤ 1) (q : OR K cl (Av (Av O f) g) H' s v g1) :
    ∃ f'', Ext f H f'' H' ∧ Rel K cl O ro ρ (s :: ts) σ (v :: ws) f'' H' := by
  have dm := r.dom
  obtain ⟨fe, ft, ef, c, d, o, p, q2, z⟩ := r
  subst ef
  have keep : ∀ a o, H a = some o → H' a = some o := fun a o h => e.1 a o h fun m => by cases m
  have g1g : ∀ a ∈ g1, a ∈ g := fun a h => by
    rw [mem_of_count] at h ⊢
    exact Nat.lt_of_lt_of_le h (hs a)
  have new : ∀ a ∈ g1, H a = none := fun a h => (e.2 a (g1g a h)).elim (fun z => by cases z) id
  have same : ∀ a ∈ fe ++ ft, H' a = H a := fun a h => by
    cases q : H a with
    | none => exact absurd q (dm a (.inr h))
    | some o => exact keep a o q
  have st : Stp (Av O (fe ++ ft)) H (Av O (fe ++ (g1 ++ ft))) H' := fun a u h n => by
    refine ⟨keep a u h, fun m => ?_⟩
    rcases m with m | m
    · exact n (.inl m)
    · simp only [List.mem_append] at m
      rcases m with m | m | m
      · exact n (.inr (by simp only [List.mem_append]; exact .inl m))
      · rw [new a m] at h; cases h
      · exact n (.inr (by simp only [List.mem_append]; exact .inr m))
  have st2 : Stp (Av (Av O (fe ++ ft)) g) H' (Av O (fe ++ (g1 ++ ft))) H' := fun a u h n => by
    refine ⟨h, fun m => n ?_⟩
    rcases m with m | m
    · exact .inl (.inl m)
    · simp only [List.mem_append] at m
      rcases m with m | m | m
      · exact .inl (.inr (by simp only [List.mem_append]; exact .inl m))
      · exact .inr (g1g a m)
      · exact .inl (.inr (by simp only [List.mem_append]; exact .inr m))
  refine ⟨fe ++ (g1 ++ ft), ⟨keep, fun a h => ?_⟩, fe, g1 ++ ft, rfl, fun a => ?_, fun a h => ?_, fun a h => ?_, OE.stp st _ _ _ (fun a h => same a (List.mem_append_left _ h)) p,
    ORs.cons (OR.stp st2 _ _ _ (fun _ _ => rfl) q) (ORs.stp st _ _ _ (fun a h => same a (List.mem_append_right _ h)) q2), z⟩
  · simp only [List.mem_append] at h ⊢
    rcases h with h | h | h
    · exact .inl (.inl h)
    · exact .inr (new a h)
    · exact .inl (.inr h)
  · have h1 := c a
    have h2 := hc a
    have h3 := hs a
    simp only [List.count_append] at h1 ⊢
    by_cases hg : a ∈ g1
    · have h4 : (fe ++ ft).count a = 0 := List.count_eq_zero.mpr fun m => dm a (.inr m) (new a hg)
      simp only [List.count_append] at h4
      omega
    · have h4 : g1.count a = 0 := List.count_eq_zero.mpr hg
      omega
  · simp only [List.mem_append] at h
    rcases h with h | h | h
    · exact d a (List.mem_append_left _ h)
    · exact fun z => o a z (new a h)
    · exact d a (List.mem_append_right _ h)
  · cases w : H a with
    | none => exact absurd w (o a h)
    | some u =>
      rw [keep a u w]
      exact fun z => nomatch z
/-- an own def called with data -/
theorem call_ok {F : String → List SV → Cr} {q : String} {xs : List D} {vs : List V} {E : XK} (hE : E = fun c d H => W c d σ H) (rr : Rel K cl O ro ρ ts σ ws f H) (m : VRs K cl (Av O f) H xs vs)
    (g : GE K cl O ro W ts σ ws f H (ofCr (F q (xs.map .d)) ρ) Q) : spF K cl F q vs H Q E := by
  subst hE
  refine ⟨Av O f, xs.map .d, [], rr.enter m, ?_⟩
  cases e : F q (xs.map .d) with
  | ok s outs =>
    rw [e] at g
    intro v H' g' ex r'
    obtain ⟨fe, ft, e0, c, d, o, p, q2, z⟩ := r'
    have q3 : OR K cl (Av (Av O f) g') H' s v ft := by
      unfold ORs at q2
      obtain ⟨w, ws', f1, f2, e1, e2, h1, h2⟩ := q2
      unfold ORs at h2
      cases e1
      rw [e2, h2.2, List.append_nil]
      exact h1
    obtain ⟨f'', e'', r''⟩ := Rel.back rr ex (g1 := ft) (fun a => by rw [e0, List.count_append]; omega) c q3
    exact g v H' f'' e'' r''
  | exc x =>
    rw [e] at g
    intro c d H' ex xr
    have keep : ∀ a o, H a = some o → H' a = some o := fun a o h => ex.1 a o h fun m => by cases m
    have dm := rr.dom
    obtain ⟨fe, ft, ef, cc, dd, o, p, q2, z⟩ := rr
    have same : ∀ a ∈ f, H' a = H a := fun a h => by
      cases q : H a with
      | none => exact absurd q (dm a (.inr h))
      | some o => exact keep a o q
    have st : Stp (Av O f) H (Av O f) H' := fun a u h n => ⟨keep a u h, n⟩
    refine g c d H' f ⟨keep, fun a h => .inl h⟩ ⟨fe, ft, ef, cc, dd, fun a h => ?_, OE.stp st _ _ _ (fun a h => same a (by rw [ef]; exact List.mem_append_left _ h)) p, ORs.stp st _ _ _ (fun a h => same a (by rw [ef]; exact List.mem_append_right _ h)) q2, z⟩ xr
    cases w : H a with
    | none => exact absurd w (o a h)
    | some u =>
      rw [keep a u w]
      exact fun z => nomatch z
  | no =>
    rw [e] at g
    exact g
/-- an own class's instance made with data -/
theorem mk_ok {F : String → List SV → Cr} {q c : String} {C : Addr} {xs : List D} {vs : List V} {E : XK} {a dx : Addr} (hE : E = fun c d H => W c d σ H) (hC : cl c = some C) (rr : Rel K cl O ro ρ ts σ ws f H) (m : VRs K cl (Av O f) H xs vs)
    (g : GE K cl O ro W ts σ ws f H (ofMk (F q (.ins c [] [] :: xs.map .d)) ρ) Q) (na : H a = none) (nd : H dx = none) (ne : dx ≠ a) :
    spF K cl F q (.ref a :: vs) (upd (upd H dx (.own a)) a (.ins C dx [])) (fun v H2 => v = .non ∧ Q (.ref a) H2) E := by
  subst hE
  obtain ⟨e1, r1, np1, st1⟩ := rr.alloc (o := .own a) nd
  have na1 : (upd H dx (.own a)) a = none := by rw [upd_ne (Ne.symm ne)]; exact na
  obtain ⟨e2, r2, np2, st2⟩ := r1.alloc (o := .ins C dx []) na1
  have nfa : ¬ Av O f a := np2
  have m2 : VRs K cl (Av (Av O f) [a]) (upd (upd H dx (.own a)) a (.ins C dx [])) xs vs := by
    refine VRs.stp (A := Av O f) (fun b u h n => ?_) _ _ m
    have hb : b ≠ a := fun z => by rw [z, na] at h; cases h
    have hb2 : b ≠ dx := fun z => by rw [z, nd] at h; cases h
    refine ⟨by rw [upd_ne hb, upd_ne hb2]; exact h, fun z => ?_⟩
    rcases z with z | z
    · exact n z
    · exact hb (by simpa using z)
  have ent : Rel K cl (Av O f) [] ((SV.ins c [] [] :: xs.map SV.d).map some) [] ((V.ref a :: vs).map some) [] [a] (upd (upd H dx (.own a)) a (.ins C dx [])) := by
    refine ⟨[a], [], rfl, fun b => (by simp only [List.append_nil, List.count_cons, List.count_nil]; split <;> omega), fun b h => ?_, r2.dom, ?_, ORs.nil, fun p h => (by cases h)⟩
    · rw [show b = a by simpa using h]
      exact nfa
    · rw [List.map_cons, List.map_cons]
      unfold OE
      refine ⟨some (.ref a), vs.map some, [a], [], rfl, rfl, ⟨.ref a, rfl, ?_⟩, OE.ofD m2⟩
      unfold OR
      exact ⟨a, C, dx, [], [], rfl, hC, upd_same, rfl, rfl, ORs.nil⟩
  refine ⟨Av O f, .ins c [] [] :: xs.map .d, [a], ent, ?_⟩
  have keep : ∀ {g' : List Addr} {H' : Hp}, ExW [a] (upd (upd H dx (.own a)) a (.ins C dx [])) g' H' → ExW [] H g' H' := fun {g' H'} ex => by
    refine ⟨fun b u h _ => ?_, fun b h => ?_⟩
    · have hb : b ≠ a := fun z => by rw [z, na] at h; cases h
      have hb2 : b ≠ dx := fun z => by rw [z, nd] at h; cases h
      exact ex.1 b u (by rw [upd_ne hb, upd_ne hb2]; exact h) fun m => hb (by simpa using m)
    · right
      rcases ex.2 b h with z | z
      · rw [show b = a by simpa using z]; exact na
      · by_cases hb : b = a
        · rw [hb]; exact na
        · rw [upd_ne hb] at z
          by_cases hb2 : b = dx
          · rw [hb2]; exact nd
          · rw [upd_ne hb2] at z; exact z
  cases e : F q (.ins c [] [] :: xs.map .d) with
  | ok s outs =>
    rw [e] at g
    intro v H' g' ex r'
    obtain ⟨fe, ft, e0, cc, d, o, p, q2, z⟩ := r'
    unfold ofMk at g
    split at g
    · rename_i heq
      cases heq
      have hv : v = .non := by
        unfold ORs at q2
        obtain ⟨w', ws', f1, f2, e1, e2, h1, h2⟩ := q2
        cases e1
        unfold OR at h1
        exact h1.1.nonE
      refine ⟨hv, ?_⟩
      rw [List.map_cons] at p
      unfold OE at p
      obtain ⟨v0, σ', f1, f2, e1, e2, h1, h2⟩ := p
      cases e1
      obtain ⟨w0, e3, h3⟩ := h1
      cases e3
      obtain ⟨f'', e'', r''⟩ := Rel.back rr (keep ex) (g1 := f1) (fun b => by rw [e0, e2, List.count_append, List.count_append]; omega) cc h3
      exact g (.ref a) H' f'' e'' r''
    · exact g.elim
    · cases ‹Cr.ok _ _ = _›
    · cases ‹Cr.ok _ _ = _›
  | exc x =>
    rw [e] at g
    intro c' d' H' ex xr
    have ex0 := keep ex
    have kp : ∀ a o, H a = some o → H' a = some o := fun a o h => ex0.1 a o h fun m => by cases m
    have dm := rr.dom
    obtain ⟨fe, ft, ef, cc, dd, o, p, q2, z⟩ := rr
    have same : ∀ a ∈ f, H' a = H a := fun a h => by
      cases q : H a with
      | none => exact absurd q (dm a (.inr h))
      | some o => exact kp a o q
    have st : Stp (Av O f) H (Av O f) H' := fun a u h n => ⟨kp a u h, n⟩
    refine g c' d' H' f ⟨kp, fun a h => .inl h⟩ ⟨fe, ft, ef, cc, dd, fun a h => ?_, OE.stp st _ _ _ (fun a h => same a (by rw [ef]; exact List.mem_append_left _ h)) p, ORs.stp st _ _ _ (fun a h => same a (by rw [ef]; exact List.mem_append_right _ h)) q2, z⟩ xr
    cases w : H a with
    | none => exact absurd w (o a h)
    | some u =>
      rw [kp a u w]
      exact fun z => nomatch z
  | no =>
    rw [e] at g
    exact g
end
end Kn

set_option Elab.async false
set_option linter.all false
set_option maxRecDepth 100000
set_option maxHeartbeats 4000000
/-! Syn: what the model's syntax asks besides; the look at core text and text. -/
open PySem L2
namespace Kn
def noSt : Expr → Bool
  | .Starred _ _ => false
  | _ => true
theorem star_cons {x : Expr} {xs : List Expr} {env : PySem.Env} (h : noSt x = true) : starEach (x :: xs) env = (false, eval x env) :: starEach xs env := by
  cases x <;> first | rfl | cases h
theorem star_any {pos : Pos} {env : PySem.Env} : ∀ {xs : List Expr}, xs.all noSt = true → (backTo pos (starEach xs env)).any (·.1) = false
  | [], _ => rfl
  | x :: xs, h => by
    rw [List.all_cons, Bool.and_eq_true] at h
    rw [star_cons h.1]
    have ih := star_any (pos := pos) (env := env) h.2
    cases xs with
    | nil => rfl
    | cons y ys =>
      rw [List.all_cons, Bool.and_eq_true] at h
      rw [star_cons h.2.1] at ih ⊢
      exact ih
end Kn
namespace Kn
def noSl : Expr → Bool
  | .Slice _ _ _ _ => false
  | _ => true
theorem plainIx {b : Expr} (h : noSl b = true) : PlainIx b := by
  intro o i
  cases b <;> first | rfl | cases h
theorem stepIx {s : Expr} {p : Pos} : ∀ o i, PySem.subscripted (.Slice none none (some s) p) false o i = operate [o, i] (getItem o i) := fun _ _ => rfl
def noSup : Expr → Bool
  | .Call (.Name id _) [] [] _ => !(id == Str.ofString "super")
  | _ => true
theorem attr_base {o : Expr} {f : Str} {env : PySem.Env} (h : noSup o = true) : attributeBase o f env (eval o env) = eval o env := by
  cases o with
  | Call fn args kws pos =>
    cases fn with
    | Name id p =>
      cases args with
      | nil =>
        cases kws with
        | nil =>
          have h' : (id != Str.ofString "super") = true := h
          unfold attributeBase
          simp only [h', Bool.true_or, if_true]
        | cons _ _ => rfl
      | cons _ _ => rfl
    | _ => rfl
  | _ => rfl
def noLc : Expr → Bool
  | .ListComp _ _ _ _ => false
  | .SetComp _ _ _ _ => false
  | .DictComp _ _ _ _ _ => false
  | _ => true
theorem swaps_no {e : Expr} {t : Option Expr} {l : Nat} {env : PySem.Env} (h : noLc e = true) : swapsWith e t l env = pure false := by
  cases e <;> first | rfl | cases h
def noSet : Expr → Bool
  | .Set _ _ _ => false
  | _ => true
theorem fold_no {e : Expr} {env : PySem.Env} (h : noSet e = true) : ∀ x, foldedSetIterable e env x = pure x := by
  intro x
  cases e <;> first | rfl | cases h
theorem mark_no {e : Expr} {op : CmpOp} (h : noSet e = true) : behindInMarks op e = false := by
  cases e <;> first | rfl | cases h
theorem marks_no {e e2 : Expr} {op op2 : CmpOp} (h : noSet e2 = true) : lastMarks [op, op2] [e, e2] = false := by
  show behindInMarks op2 e2 = false
  exact mark_no h
def plT : Expr → Bool
  | .Name _ _ => true
  | .Call _ _ _ _ => true
  | .Attribute _ _ _ => true
  | .Subscript _ _ _ => true
  | _ => false
theorem plain_test {e : Expr} {env : PySem.Env} (h : plT e = true) : ∀ whole, isTrue e env whole = (do let v ← whole; standAt e.pos; holding [v] (truthy v)) := by
  intro whole
  cases e <;> first | rfl | cases h
theorem star_all {pos : Pos} {env : PySem.Env} : ∀ {xs : List Expr}, xs.all noSt = true → (backTo pos (starEach xs env)).all (fun x => !x.1) = true
  | [], _ => rfl
  | x :: xs, h => by
    rw [List.all_cons, Bool.and_eq_true] at h
    rw [star_cons h.1]
    exact star_all (pos := pos) (env := env) h.2
theorem few_ok {pos : Pos} {env : PySem.Env} {xs : List Expr} (h : xs.all noSt = true) (hn : xs.length < 30) : methodCallForm (xs.length + ([] : List Keyword).length) (backTo pos (starEach xs env)) (backToKw pos (keywordEach [] env)) = true := by
  unfold methodCallForm
  rw [star_all h]
  show (true && true && decide (xs.length + 0 + 0 < 30)) = true
  rw [decide_eq_true (by omega)]
  rfl
theorem meth_eval {o : Expr} {m : Str} {apos pos : Pos} {args : List Expr} {env : PySem.Env} (h : noSup o = true) (ha : args.all noSt = true) (hn : args.length < 30) (hl : (apos.endLine == pos.line) = true) :
    eval (.Call (.Attribute o m apos) args [] pos) env = (do
      let ov ← eval o env
      standAt apos.atName
      let (f, first) ← holding [ov] (getMethod ov m (do return (← importBound o env).getD true))
      callWith pos f first (backTo pos (starEach args env)) (backToKw pos (keywordEach [] env))) := by
  show (do
    let ov ← attributeBase o m env (eval o env)
    standAt apos.atName
    methodCall o m apos pos env ov (args.length + ([] : List Keyword).length) (backTo pos (starEach args env)) (backToKw pos (keywordEach [] env))) = _
  rw [attr_base h]
  unfold methodCall calleeOf methodCallPos
  rw [few_ok ha hn, hl]
  rfl
end Kn
namespace Kn
open PySem L2
def visB (sc : Scope) (x : Str) : Bool := match sc.names.lookup x with
  | some .local => true
  | some .cell => true
  | some .free => true
  | _ => false
def locB (sc : Scope) (x : Str) : Bool := match sc.names.lookup x with
  | some .local => true
  | some .cell => true
  | _ => false
def glB (sc : Scope) (x : Str) : Bool := match sc.names.lookup x with
  | some .globalImplicit => true
  | _ => false
def nmB (x : Str) : Bool := !(x == ("__debug__" : Str)) && (!(x == ("__classdict__" : Str)) && decide (x ≠ ("__name__" : Str)))
theorem visB_ok {sc : Scope} {x : Str} (h : visB sc x = true) : Vis sc x := by
  unfold visB at h
  unfold Vis
  split at h
  · exact .inl ‹_›
  · exact .inr (.inl ‹_›)
  · exact .inr (.inr ‹_›)
  · cases h
theorem locB_ok {sc : Scope} {x : Str} (h : locB sc x = true) : L2.Loc sc x := by
  unfold locB at h
  unfold L2.Loc
  split at h
  · exact .inl ‹_›
  · exact .inr ‹_›
  · cases h
theorem glB_ok {X : Cx} {x : Str} (h : glB X.env.scope x = true) : Gl X x := by
  unfold glB at h
  unfold Gl Env.kindOf
  split at h
  · assumption
  · cases h
theorem nmB_ok {x : Str} (h : nmB x = true) : (x == ("__debug__" : Str)) = false ∧ (x == ("__classdict__" : Str)) = false ∧ x ≠ ("__name__" : Str) := by
  unfold nmB at h
  simp only [Bool.and_eq_true, Bool.not_eq_true', decide_eq_true_eq] at h
  exact ⟨h.1, h.2.1, h.2.2⟩
/-- a name of the module -/
def gnB (sc : Scope) (x y : Str) : Bool := decide (x = y) && (glB sc x && nmB x)
def opB : BOp → Operator → Bool
  | .add, .Add => true
  | .sub, .Sub => true
  | .mul, .Mult => true
  | .fdiv, .FloorDiv => true
  | .mod, .Mod => true
  | _, _ => false
theorem opB_ok {o : BOp} {op : Operator} (h : opB o op = true) : op = opOf o := by
  cases o <;> cases op <;> first | rfl | cases h
def copB : COp → CmpOp → Bool
  | .eq, .Eq => true
  | .ne, .NotEq => true
  | .lt, .Lt => true
  | .le, .LtE => true
  | .gt, .Gt => true
  | .ge, .GtE => true
  | .is_, .Is => true
  | .isnot, .IsNot => true
  | .in_, .In => true
  | .notin, .NotIn => true
  | _, _ => false
theorem copB_ok {o : COp} {op : CmpOp} (h : copB o op = true) : op = cOf o := by
  cases o <;> cases op <;> first | rfl | cases h
def ownT (N : List Str) (tg : Tg) : List (Str × Nat) := (slotsT tg).map fun i => ((N[i]?).getD Str.empty, i)
/-- a target's names -/
def ckN (N : List Str) (sc : Scope) : List Nat → List Expr → Bool
  | [], [] => true
  | i :: is, .Name x _ :: xs => decide (N[i]? = some x) && (locB sc x && ckN N sc is xs)
  | _, _ => false
def ckG (N : List Str) (sc : Scope) : Tg → Expr → Bool
  | .nm i, .Name x _ => decide (N[i]? = some x) && locB sc x
  | .tp is, .Tuple xs _ _ => ckN N sc is xs && decide (is.Nodup)
  | _, _ => false
/-- enumerate is walked into a tuple of names only -/
def enuOk (it : E) (g : Expr) : Bool := match it with
  | .enu _ => (match g with
    | .Tuple _ _ _ => true
    | _ => false)
  | _ => true
/-- a display's keys -/
def ckK1 (k : Kx) (e : Option Expr) : Bool := match k with
  | .i n => (match e with
    | some (.Constant (.int c) _ _) => decide (n = c)
    | _ => false)
  | .s l => (match e with
    | some (.Constant (.str c) _ _) => decide (c = mkS l)
    | _ => false)
def ckK : List Kx → List (Option Expr) → Bool
  | [], [] => true
  | k :: ks, e :: es => ckK1 k e && ckK ks es
  | _, _ => false
def isCmp : E → Bool
  | .cmp _ _ _ => true
  | .chn _ _ _ _ _ => true
  | .bor e => isCmp e
  | _ => false
mutual
/-- is the text what the core text says (b: a thing that is walked) -/
def ck (N : List Str) : E → Bool → Scope → Expr → Bool
  | .var i, _, sc, x => (match x with
    | .Name y _ => decide (N[i]? = some y) && (visB sc y && nmB y)
    | _ => false)
  | .non, _, _, x => (match x with
    | .Constant .none _ _ => true
    | _ => false)
  | .bl b, _, _, x => (match x with
    | .Constant (.bool c) _ _ => decide (b = c)
    | _ => false)
  | .int i, _, _, x => (match x with
    | .Constant (.int c) _ _ => decide (i = c)
    | _ => false)
  | .str s, _, _, x => (match x with
    | .Constant (.str c) _ _ => decide (c = mkS s)
    | _ => false)
  | .glb g, _, sc, x => (match x with
    | .Name y _ => gnB sc y (stOf g)
    | _ => false)
  | .tyn g, _, sc, x => (match x with
    | .Name y _ => gnB sc y (stOf g) && tys.contains g
    | _ => false)
  | .tup es, _, sc, x => (match x with
    | .Tuple xs _ _ => cks N es sc xs
    | _ => false)
  | .lst es, _, sc, x => (match x with
    | .List xs _ => cks N es sc xs
    | _ => false)
  | .bin o a b, _, sc, x => (match x with
    | .BinOp y op z _ => opB o op && (ck N a false sc y && ck N b false sc z)
    | _ => false)
  | .neg a, _, sc, x => (match x with
    | .UnaryOp .USub y _ => ck N a false sc y
    | _ => false)
  | .not a, _, sc, x => (match x with
    | .UnaryOp .Not y _ => ck N a false sc y
    | _ => false)
  | .and a b, _, sc, x => (match x with
    | .BoolOp .And [y, z] _ => ck N a false sc y && ck N b false sc z
    | .BoolOp .And (y :: z :: u :: r) p => ck N a false sc y && ck N b false sc (.BoolOp .And (z :: u :: r) p)
    | _ => false)
  | .or a b, _, sc, x => (match x with
    | .BoolOp .Or [y, z] _ => ck N a false sc y && ck N b false sc z
    | .BoolOp .Or (y :: z :: u :: r) p => ck N a false sc y && ck N b false sc (.BoolOp .Or (z :: u :: r) p)
    | _ => false)
  | .cmp o a b, _, sc, x => (match x with
    | .Compare y [op] [z] _ => copB o op && (ck N a false sc y && (ck N b false sc z && noSet z))
    | _ => false)
  | .chn o p a b c, _, sc, x => (match x with
    | .Compare y [op, oq] [z, u] _ => copB o op && (copB p oq && (ck N a false sc y && (ck N b false sc z && (ck N c false sc u && noSet u))))
    | _ => false)
  | .ife c a b, _, sc, x => (match x with
    | .IfExp y p q _ => (ck N c false sc y && (plT y || isCmp c)) && (ck N a false sc p && ck N b false sc q)
    | _ => false)
  | .idx a i, _, sc, x => (match x with
    | .Subscript y z _ => ck N a false sc y && (ck N i false sc z && noSl z)
    | _ => false)
  | .slc a lo hi, _, sc, x => (match x with
    | .Subscript y (.Slice none none none _) _ => ck N a false sc y && (isEmp lo && isEmp hi)
    | .Subscript y (.Slice none (some h) none _) _ => ck N a false sc y && (isEmp lo && (ck N hi false sc h && !isEmp hi))
    | .Subscript y (.Slice (some l) none none _) _ => ck N a false sc y && (ck N lo false sc l && (isEmp hi && !isEmp lo))
    | .Subscript y (.Slice (some l) (some h) none _) _ => ck N a false sc y && (ck N lo false sc l && (ck N hi false sc h && (!isEmp lo && !isEmp hi)))
    | _ => false)
  | .stp a k, _, sc, x => (match x with
    | .Subscript y (.Slice none none (some z) _) _ => ck N a false sc y && ck N k false sc z
    | _ => false)
  | .fld a g, _, sc, x => (match x with
    | .Attribute y z _ => decide (z = stOf g) && (ck N a false sc y && noSup y)
    | _ => false)
  | .call g as, _, sc, x => (match x with
    | .Call (.Name y _) es [] _ => gnB sc y (stOf g) && cks N as sc es
    | _ => false)
  | .mk g as, _, sc, x => (match x with
    | .Call (.Name y _) es [] _ => gnB sc y (stOf g) && cks N as sc es
    | _ => false)
  | .blt b as, _, sc, x => (match x with
    | .Call (.Name y _) (e :: es) [] _ => gnB sc y (stOf (bfN b)) && cks N as sc (e :: es)
    | _ => false)
  | .meth m a as, _, sc, x => (match x with
    | .Call (.Attribute y z ap) es [] p => decide (z = stOf m) && (ck N a false sc y && (noSup y && (cks N as sc es && (decide (es.length < 30) && (ap.endLine == p.line)))))
    | _ => false)
  | .bm m a as, _, sc, x => (match x with
    | .Call (.Attribute y z ap) es [] p => decide (z = stOf (bmN m)) && (ck N a false sc y && (noSup y && (cks N as sc es && (decide (es.length < 29) && (ap.endLine == p.line)))))
    | _ => false)
  | .edk, _, _, x => (match x with
    | .Dict [] [] _ => true
    | _ => false)
  | .disp ks es, _, sc, x => (match x with
    | .Dict kes ves _ => ckK ks kes && (ves.all noSt && cks N es sc ves)
    | _ => false)
  | .dget a k d, _, sc, x => (match x with
    | .Call (.Attribute y z ap) [u, w] [] p => decide (z = ("get" : Str)) && (ck N a false sc y && (noSup y && ((ck N k false sc u && noSt u) && ((ck N d false sc w && noSt w) && (ap.endLine == p.line)))))
    | _ => false)
  | .idv i e, _, sc, x => (match x with
    | .Subscript (.Name y _) z _ => decide (N[i]? = some y) && ((visB sc y && nmB y) && (ck N e false sc z && noSl z))
    | _ => false)
  | .bor e, _, sc, x => noLc x && ck N e false sc x
  | .take i, _, sc, x => (match x with
    | .Name y _ => decide (N[i]? = some y) && (visB sc y && nmB y)
    | _ => false)
  | .enu a, true, sc, x => (match x with
    | .Call (.Name y _) [z] [] _ => gnB sc y "enumerate" && (ck N a false sc z && noSt z)
    | _ => false)
  | .enu _, false, _, _ => false
  | .comp tg it el, _, sc, x => (match x with
    | .ListComp e [⟨g, i, [], 0⟩] scope _ => ck N it true sc i && ((noSet i && enuOk it g) && (blkC N sc scope (ownT N tg) && (ckG N scope tg g && ck N el false (relS scope sc) e)))
    | _ => false)
  | .cmpi tg it c el, _, sc, x => (match x with
    | .ListComp e [⟨g, i, [y], 0⟩] scope _ => ck N it true sc i && ((noSet i && enuOk it g) && (blkC N sc scope (ownT N tg) && (ckG N scope tg g && ((ck N c false (relS scope sc) y && (plT y || isCmp c)) && ck N el false (relS scope sc) e))))
    | _ => false)
  | .rng a, true, sc, x => (match x with
    | .Call (.Name y _) [z] [] _ => gnB sc y "range" && (ck N a false sc z && noSt z)
    | _ => false)
  | .rng2 a b, true, sc, x => (match x with
    | .Call (.Name y _) [z, u] [] _ => gnB sc y "range" && (ck N a false sc z && (noSt z && (ck N b false sc u && noSt u)))
    | _ => false)
  | .rng _, false, _, _ => false
  | .rng2 _ _, false, _, _ => false
  | .nil, _, _, _ => false
  | .cons _ _, _, _, _ => false
  | .emp, _, _, _ => false
  | .bad, _, _, _ => true
def cks (N : List Str) : E → Scope → List Expr → Bool
  | .nil, _, xs => (match xs with
    | [] => true
    | _ => false)
  | .cons e es, sc, xs => (match xs with
    | x :: xs => ck N e false sc x && (noSt x && cks N es sc xs)
    | _ => false)
  | _, _, _ => false
end
/-- the same of a test -/
def ckt (N : List Str) : E → Scope → Expr → Bool
  | .and a b, sc, x => (match x with
    | .BoolOp .And [y, z] _ => ckt N a sc y && ckt N b sc z
    | .BoolOp .And (y :: z :: u :: r) p => ckt N a sc y && ckt N b sc (.BoolOp .And (z :: u :: r) p)
    | _ => false)
  | .or a b, sc, x => (match x with
    | .BoolOp .Or [y, z] _ => ckt N a sc y && ckt N b sc z
    | .BoolOp .Or (y :: z :: u :: r) p => ckt N a sc y && ckt N b sc (.BoolOp .Or (z :: u :: r) p)
    | _ => false)
  | .not a, sc, x => (match x with
    | .UnaryOp .Not y _ => ckt N a sc y
    | _ => false)
  | .bor e, sc, x => ckt N e sc x
  | .cmp o a b, sc, x => ck N (.cmp o a b) false sc x
  | .chn o p a b c, sc, x => ck N (.chn o p a b c) false sc x
  | e, sc, x => ck N e false sc x && plT x
def isBor : E → Bool
  | .bor _ => true
  | _ => false
theorem ckt_of1 {N : List Str} {c : E} {sc : Scope} {y : Expr} (h : ck N c false sc y = true) (h2 : (plT y || isCmp c) = true) (hb : isBor c = false) : ckt N c sc y = true := by
  rw [Bool.or_eq_true] at h2
  rcases h2 with h2 | h2
  · have key : (ck N c false sc y && plT y) = true := by rw [h, h2]; rfl
    cases c with
    | and a b => unfold ck at h; cases y <;> first | (cases h2; done) | (simp at h; done)
    | or a b => unfold ck at h; cases y <;> first | (cases h2; done) | (simp at h; done)
    | not a => unfold ck at h; cases y <;> first | (cases h2; done) | (simp at h; done)
    | cmp o a b => exact h
    | chn o p a b c => exact h
    | bor e => cases hb
    | _ => exact key
  · cases c with
    | cmp o a b => exact h
    | chn o p a b c => exact h
    | bor e => cases hb
    | _ => cases h2
theorem ckt_of {N : List Str} {sc : Scope} {y : Expr} : ∀ {c : E}, ck N c false sc y = true → (plT y || isCmp c) = true → ckt N c sc y = true := by
  intro c
  induction c with
  | bor e ih =>
    intro h h2
    unfold ck at h
    rw [Bool.and_eq_true] at h
    exact ih h.2 h2
  | _ => exact fun h h2 => ckt_of1 h h2 rfl
end Kn

set_option Elab.async false
set_option linter.all false
set_option maxRecDepth 100000
set_option maxHeartbeats 4000000
/-! Snd1: expressions, one construct after another. -/
namespace Kn
open PySem L2
section
variable (t : T) (F : String → List SV → Cr) (cl : String → Option Addr)
/-- a test's outcome -/
def GT (K : PySem.W.Frag) (O : Addr → Prop) (ro : List (Nat × V)) (W : WX) (ts : List SV) (σ : L2.St) (ws : List V) (f : List Addr) (H : Hp) (r : R SV) (Q : Bool → Hp → Prop) : Prop := match r with
  | .ok (.d (.bl b)) ρ' => ∀ H' f', Ext f H f' H' → Rel K cl O ro ρ' ts σ ws f' H' → Q b H'
  | .ok _ _ => False
  | .exc x ρ' => ∀ c d H' f', Ext f H f' H' → Rel K cl O ro ρ' ts σ ws f' H' → XR K cl (Av O f') H' x c d → W c d σ H'
  | .no => False
def tT (K : PySem.W.Frag) (O : Addr → Prop) (ro : List (Nat × V)) (W : WX) (g : Env → R SV) : TT := fun σ H Q => ∃ ρ ts ws f, Rel K cl O ro ρ ts σ ws f H ∧ GT cl K O ro W ts σ ws f H (g ρ) Q
def PEp (e : E) : Prop := ∀ (X : Cx) (W : WX) (O : Addr → Prop) (ro : List (Nat × V)) (x : Expr), Sd X t F cl W → ck X.N e false X.env.scope x = true → PE X x (tE X.K cl O ro W (ev t F e))
def PTp (e : E) : Prop := ∀ (X : Cx) (W : WX) (O : Addr → Prop) (ro : List (Nat × V)) (x : Expr), Sd X t F cl W → ckt X.N e X.env.scope x = true → PT X x (tT cl X.K O ro W (ev t F e))
def PWp (e : E) : Prop := ∀ (X : Cx) (W : WX) (O : Addr → Prop) (ro : List (Nat × V)) (o : BoolOp) (xs : List Expr) (p : Pos), Sd X t F cl W → ckt X.N e X.env.scope (.BoolOp o xs p) = true → PW X (.BoolOp o xs p) (tT cl X.K O ro W (ev t F e))
def PKp (e : E) : Prop := ∀ (X : Cx) (W : WX) (O : Addr → Prop) (ro : List (Nat × V)) (ks : List Kx) (kes : List (Option Expr)) (xs : List Expr) (pos : Pos), Sd X t F cl W → ckK ks kes = true → lenE e = ks.length → cks X.N e X.env.scope xs = true →
  ∃ trs, PPs X pos kes xs trs ∧ ∀ σ H (Q : List (V × V) → Hp → Prop), tEs X.K cl O ro W (evs t F e) σ H (fun vs H' => Q ((ks.map fun k => kV (kx k)).zip vs) H') → tPairs trs σ H Q
def PAp (e : E) : Prop := ∀ (X : Cx) (W : WX) (O : Addr → Prop) (ro : List (Nat × V)) (xs : List Expr), Sd X t F cl W → cks X.N e X.env.scope xs = true → PA X xs (tEs X.K cl O ro W (evs t F e))
end
section
variable {t : T} {F : String → List SV → Cr} {cl : String → Option Addr} {X : Cx} {W : WX} {O : Addr → Prop} {ro : List (Nat × V)} {x : Expr}
theorem PE.imp {u u' : TE} (h : PE X x u) (k : ∀ σ H Q, u' σ H Q → u σ H Q) : PE X x u' := ⟨fun pins s σ H Q I q => h.run pins s σ H Q I (k σ H Q q)⟩
theorem PT.imp {u u' : TT} (h : PT X x u) (k : ∀ σ H Q, u' σ H Q → u σ H Q) : PT X x u' := ⟨fun pins s σ H Q I q => h.run pins s σ H Q I (k σ H Q q)⟩
theorem PW.imp {u u' : TT} (h : PW X x u) (k : ∀ σ H Q, u' σ H Q → u σ H Q) : PW X x u' := ⟨fun wh pins s σ H Q I q => h.run wh pins s σ H Q I (k σ H Q q)⟩
theorem PA.imp {xs : List Expr} {u u' : TA} (h : PA X xs u) (k : ∀ σ H Q, u' σ H Q → u σ H Q) : PA X xs u' := ⟨fun pos pins s σ H Q I q => h.run pos pins s σ H Q I (k σ H Q q)⟩
theorem bf_split {a b : Bool} (h : (a && b) = true) : a = true ∧ b = true := by rw [Bool.and_eq_true] at h; exact h
theorem tE.mono {K : PySem.W.Frag} {g : Env → R SV} {σ : L2.St} {H : Hp} {Q Q' : VK} (h : tE K cl O ro W g σ H Q) (k : ∀ v H', Q v H' → Q' v H') : tE K cl O ro W g σ H Q' := by
  obtain ⟨ρ, ts, ws, f, r, q⟩ := h
  refine ⟨ρ, ts, ws, f, r, ?_⟩
  cases e : g ρ with
  | ok s ρ' => rw [e] at q; exact fun v H' f' e' r' => k v H' (q v H' f' e' r')
  | exc x ρ' => rw [e] at q; exact q
  | no => rw [e] at q; exact q
/-- an answer at once -/
theorem tE.now {K : PySem.W.Frag} {d : D} {v : V} {σ : L2.St} {H : Hp} {Q : VK} (h : tE K cl O ro W (fun ρ => .ok (.d d) ρ) σ H Q) (hv : ∀ A, VR K cl A H d v) : Q v H := by
  obtain ⟨ρ, ts, ws, f, r, q⟩ := h
  exact fin_d r (hv _) q
theorem s_const (e : E) (d : D) (v : V) (he : ∀ ρ, ev t F e ρ = .ok (.d d) ρ) (hv : ∀ A H, VR X.K cl A H d v) (h : PE X x (tC v)) : PE X x (tE X.K cl O ro W (ev t F e)) := by
  refine PE.imp h fun σ H Q q => ?_
  have e0 : ev t F e = fun ρ => .ok (.d d) ρ := funext he
  rw [e0] at q
  exact tE.now q fun A => hv A H
theorem s_var (i : Nat) : PEp t F cl (.var i) := by
  intro X W O ro x S h
  unfold ck at h
  split at h
  · obtain ⟨h1, h2⟩ := bf_split h
    obtain ⟨h2, h3⟩ := bf_split h2
    obtain ⟨h4, h5, _⟩ := nmB_ok h3
    refine PE.imp (pe_var (of_decide_eq_true h1) (visB_ok h2) h4 h5) fun σ H Q q => ?_
    obtain ⟨ρ, ts, ws, f, r, q⟩ := q
    unfold ev at q
    cases e : ρ[i]? with
    | none => rw [e] at q; exact q.elim
    | some o =>
      cases o with
      | none => rw [e] at q; exact q.elim
      | some s =>
        cases s with
        | d y =>
          rw [e] at q
          obtain ⟨v, e1, hv⟩ := r.getD e
          exact ⟨v, e1, fin_d r hv q⟩
        | lst xs =>
          rw [e] at q
          obtain ⟨v, f', e1, ex, r'⟩ := r.getF e
          exact ⟨v, e1, q v H f' ex r'⟩
        | ins c ns xs =>
          rw [e] at q
          obtain ⟨v, f', e1, ex, r'⟩ := r.getF e
          exact ⟨v, e1, q v H f' ex r'⟩
        | dk ks xs =>
          rw [e] at q
          obtain ⟨v, f', e1, ex, r'⟩ := r.getF e
          exact ⟨v, e1, q v H f' ex r'⟩
  · cases h
theorem s_glb (g : String) : PEp t F cl (.glb g) := by
  intro X W O ro x S h
  unfold ck at h
  split at h
  · unfold gnB at h
    obtain ⟨h1, h2⟩ := bf_split h
    obtain ⟨h2, h3⟩ := bf_split h2
    have h1 := of_decide_eq_true h1
    subst h1
    obtain ⟨h4, _, _⟩ := nmB_ok h3
    cases e : t.glob g with
    | none =>
      refine ⟨fun pins s σ H Q I q => ?_⟩
      obtain ⟨ρ, ts, ws, f, r, q⟩ := q
      unfold ev at q
      rw [e] at q
      exact q.elim
    | some d =>
      obtain ⟨u, v, hm, rv, hv⟩ := S.glob g d e
      refine s_const _ d v (fun ρ => by simp only [ev, e]) hv (pe_glob (glB_ok h2) hm rv h4)
  · cases h
theorem boot_ty : ∀ n, tys.contains n = true → bootBuiltins (stOf n) = some (.type n) := by
  intro n hn
  have hn' : n = "int" ∨ n = "str" ∨ n = "bool" ∨ n = "tuple" ∨ n = "list" ∨ n = "ValueError" := by simpa [tys] using hn
  rcases hn' with rfl | rfl | rfl | rfl | rfl | rfl <;> decide +kernel
theorem boot_bf : ∀ b : Bf, bootBuiltins (stOf (bfN b)) = some (bfV b) := by
  intro b
  cases b <;> decide +kernel
theorem s_tyn (g : String) : PEp t F cl (.tyn g) := by
  intro X W O ro x S h
  unfold ck at h
  split at h
  · obtain ⟨h, hb⟩ := bf_split h
    unfold gnB at h
    obtain ⟨h1, h2⟩ := bf_split h
    obtain ⟨h2, h3⟩ := bf_split h2
    have h1 := of_decide_eq_true h1
    subst h1
    obtain ⟨h4, _, h5⟩ := nmB_ok h3
    refine s_const _ (.ty g) (.ty g) (fun ρ => by simp only [ev]) (fun A H => by unfold VR; rfl) (pe_bltn (glB_ok h2) (S.tyn g hb) (boot_ty g hb) rfl h5 h4)
  · cases h
theorem s_non : PEp t F cl .non := by
  intro X W O ro x S h
  unfold ck at h
  split at h
  · exact s_const _ .non .non (fun ρ => by simp only [ev]) (fun A H => VR.non) pe_non
  · cases h
theorem s_bl (b : Bool) : PEp t F cl (.bl b) := by
  intro X W O ro x S h
  unfold ck at h
  split at h
  · have h := of_decide_eq_true h
    subst h
    exact s_const _ (.bl b) (.bl b) (fun ρ => by simp only [ev]) (fun A H => VR.bl) pe_bl
  · cases h
theorem s_int (b : Int) : PEp t F cl (.int b) := by
  intro X W O ro x S h
  unfold ck at h
  split at h
  · have h := of_decide_eq_true h
    subst h
    exact s_const _ (.int b) (.int b) (fun ρ => by simp only [ev]) (fun A H => VR.int) pe_int
  · cases h
theorem s_str (b : List Nat) : PEp t F cl (.str b) := by
  intro X W O ro x S h
  unfold ck at h
  split at h
  · have h := of_decide_eq_true h
    subst h
    exact s_const _ (.str b) (.str (mkS b)) (fun ρ => by simp only [ev]) (fun A H => VR.str) pe_str
  · cases h
theorem s_bin (o : BOp) {a b : E} (ha : PEp t F cl a) (hb : PEp t F cl b) : PEp t F cl (.bin o a b) := by
  intro X W O ro x S h
  unfold ck at h
  split at h
  · obtain ⟨h1, h2⟩ := bf_split h
    obtain ⟨h2, h3⟩ := bf_split h2
    rw [opB_ok h1]
    refine PE.imp (pe_op (rBin_ok o) (ha X W O ro _ S h2) (hb X W O ro _ S h3)) fun σ H Q q => ?_
    have q' : tE X.K cl O ro W (fun ρ => (ev t F a ρ).bind fun x ρ => (ev t F b ρ).bind fun y ρ => R.of (binD o (frz x) (frz y)) ρ) σ H Q := by
      have e : ev t F (.bin o a b) = fun ρ => (ev t F a ρ).bind fun x ρ => (ev t F b ρ).bind fun y ρ => R.of (binD o (frz x) (frz y)) ρ := by (funext ρ; first | (simp only [ev]; done) | (simp only [ev]; rfl))
      rw [e] at q
      exact q
    refine tE.mono q'.bind fun v H1 q1 => tE.mono q1.bind fun u H2 q2 => ?_
    obtain ⟨s, s', ρ, ts, ws, f, h1, h2, r, g⟩ := q2.frz
    exact bin_ok o r h1 h2 g
  · cases h
theorem s_neg {a : E} (ha : PEp t F cl a) : PEp t F cl (.neg a) := by
  intro X W O ro x S h
  unfold ck at h
  split at h
  · refine PE.imp (pe_un un_neg (ha X W O ro _ S h)) fun σ H Q q => ?_
    have e : ev t F (.neg a) = fun ρ => (ev t F a ρ).bind fun x ρ => (match frz x with | .int i => .ok (.d (.int (-i))) ρ | _ => .no) := by (funext ρ; first | (simp only [ev]; done) | (simp only [ev]; rfl))
    rw [e] at q
    refine tE.mono q.bind fun v H1 q1 => ?_
    obtain ⟨s, ρ, ts, ws, f, h1, r, g⟩ := q1.frz
    split at g
    · rename_i i ei
      rw [ei] at h1
      rw [h1.intE]
      exact ⟨i, rfl, fin_d r VR.int g⟩
    · exact g.elim
  · cases h
theorem ev_cmp {o : COp} {a b : E} : ev t F (.cmp o a b) = fun ρ => (ev t F a ρ).bind fun x ρ => (ev t F b ρ).bind fun y ρ => (match cmpD o (frz x) (frz y) with
    | some r => .ok (.d (.bl r)) ρ
    | none => .no) := by (funext ρ; first | (simp only [ev]; done) | (simp only [ev]; rfl))
theorem cmp_end {K : PySem.W.Frag} {o : COp} {v u : V} {σ : L2.St} {H : Hp} {Q : VK} (q : tK2 K cl O ro W (fun x y ρ => (match cmpD o (frz x) (frz y) with
    | some r => .ok (.d (.bl r)) ρ
    | none => .no)) v u σ H Q) : rCmp K o v u H Q := by
  obtain ⟨s, s', ρ, ts, ws, f, h1, h2, r, g⟩ := q.frz
  cases hc : cmpD o (frz s) (frz s') with
  | none => simp only [hc] at g; exact g.elim
  | some b =>
    simp only [hc] at g
    exact cmp_ok hc h1 h2 (fin_d r VR.bl g)
theorem s_cmp (o : COp) {a b : E} (ha : PEp t F cl a) (hb : PEp t F cl b) : PEp t F cl (.cmp o a b) := by
  intro X W O ro x S h
  unfold ck at h
  split at h
  · obtain ⟨h1, h2⟩ := bf_split h
    obtain ⟨h2, h3⟩ := bf_split h2
    obtain ⟨h3, h4⟩ := bf_split h3
    rw [copB_ok h1]
    refine PE.imp (pe_cmpR (rCmp_ok S.hu o) (ha X W O ro _ S h2) (hb X W O ro _ S h3) (mark_no h4)) fun σ H Q q => ?_
    rw [ev_cmp] at q
    exact tE.mono q.bind fun v H1 q1 => tE.mono q1.bind fun u H2 q2 => cmp_end q2
  · cases h
/-- what a test wants of the value -/
theorem tE.test {K : PySem.W.Frag} {g : Env → R SV} {σ : L2.St} {H : Hp} {Q : Bool → Hp → Prop} (q : tT cl K O ro W g σ H Q) : tE K cl O ro W g σ H fun v H' => ∃ b, v = .bl b ∧ Q b H' := by
  obtain ⟨ρ, ts, ws, f, r, q⟩ := q
  refine ⟨ρ, ts, ws, f, r, ?_⟩
  cases e : g ρ with
  | ok s ρ' =>
    rw [e] at q
    unfold GT at q
    split at q
    · rename_i b ρ'' h
      cases h
      intro v H' f' e' r'
      obtain ⟨f2, e2, r2⟩ := r'.pop
      exact ⟨b, (r'.top).blE, q H' f2 (e'.trans e2) r2⟩
    · exact q.elim
    · cases ‹R.ok _ _ = _›
    · cases ‹R.ok _ _ = _›
  | exc x ρ' => rw [e] at q; exact q
  | no => rw [e] at q; exact q
theorem t_plain {e : E} (he : PEp t F cl e) : ∀ (X : Cx) (W : WX) (O : Addr → Prop) (ro : List (Nat × V)) (x : Expr), Sd X t F cl W → ck X.N e false X.env.scope x = true → plT x = true → PT X x (tT cl X.K O ro W (ev t F e)) := by
  intro X W O ro x S h hp
  exact PT.imp (pt_val (he X W O ro x S h) (plain_test hp)) fun σ H Q q => tE.test q
theorem t_cmp (o : COp) {a b : E} (ha : PEp t F cl a) (hb : PEp t F cl b) : PTp t F cl (.cmp o a b) := by
  intro X W O ro x S h
  unfold ckt ck at h
  split at h
  · obtain ⟨h1, h2⟩ := bf_split h
    obtain ⟨h2, h3⟩ := bf_split h2
    obtain ⟨h3, h4⟩ := bf_split h3
    rw [copB_ok h1]
    refine PT.imp (pt_cmpR (rCmp_ok S.hu o) (ha X W O ro _ S h2) (hb X W O ro _ S h3) (mark_no h4)) fun σ H Q q => ?_
    have q := tE.test q
    rw [ev_cmp] at q
    exact tE.mono q.bind fun v H1 q1 => tE.mono q1.bind fun u H2 q2 => cmp_end q2
  · cases h
theorem ev_chn {o p : COp} {a b c : E} : ev t F (.chn o p a b c) = fun ρ => (ev t F a ρ).bind fun x ρ => (ev t F b ρ).bind fun y ρ => (match cmpD o (frz x) (frz y) with
    | some true => (ev t F c ρ).bind fun z ρ => (match cmpD p (frz y) (frz z) with
      | some r => .ok (.d (.bl r)) ρ
      | none => .no)
    | some false => .ok (.d (.bl false)) ρ
    | none => .no) := by (funext ρ; first | (simp only [ev]; done) | (simp only [ev]; rfl))
theorem chn_end {K : PySem.W.Frag} {o p : COp} {c : E} {v u : V} {σ : L2.St} {H : Hp} {Q : VK} (q : tK2 K cl O ro W (fun x y ρ => (match cmpD o (frz x) (frz y) with
    | some true => (ev t F c ρ).bind fun z ρ => (match cmpD p (frz y) (frz z) with
      | some r => .ok (.d (.bl r)) ρ
      | none => .no)
    | some false => .ok (.d (.bl false)) ρ
    | none => .no)) v u σ H Q) : rCmp K o v u H fun z H3 => ∃ k, z = .bl k ∧ (if k = true then tE K cl O ro W (ev t F c) σ H3 (fun w H4 => rCmp K p u w H4 Q) else Q (.bl false) H3) := by
  obtain ⟨s, s', ρ, ts, ws, f, h1, h2, r, g⟩ := q.frz
  cases hc : cmpD o (frz s) (frz s') with
  | none => simp only [hc] at g; exact g.elim
  | some b =>
    simp only [hc] at g
    refine cmp_ok hc h1 h2 ?_
    cases b with
    | false => exact ⟨false, rfl, fin_d r VR.bl g⟩
    | true =>
      refine ⟨true, rfl, ?_⟩
      rw [if_pos rfl]
      have r1 := r.push h2
      have g' : tK1 K cl O ro W (fun y ρ => (ev t F c ρ).bind fun z ρ => (match cmpD p (frz y) (frz z) with
        | some r => .ok (.d (.bl r)) ρ
        | none => .no)) u σ H Q := ⟨.d (frz s'), ρ, ts, ws, f, r1, by
          have e : frz (.d (frz s')) = frz s' := rfl
          simp only [e]
          exact g⟩
      exact tE.mono g'.bind fun w H4 q2 => cmp_end q2
theorem s_chn (o p : COp) {a b c : E} (ha : PEp t F cl a) (hb : PEp t F cl b) (hc : PEp t F cl c) : PEp t F cl (.chn o p a b c) := by
  intro X W O ro x S h
  unfold ck at h
  split at h
  · obtain ⟨h1, h2⟩ := bf_split h
    obtain ⟨h2, h3⟩ := bf_split h2
    obtain ⟨h3, h4⟩ := bf_split h3
    obtain ⟨h4, h5⟩ := bf_split h4
    obtain ⟨h5, h6⟩ := bf_split h5
    rw [copB_ok h1, copB_ok h2]
    refine PE.imp (pe_chain (rCmp_ok S.hu o) (rCmp_ok S.hu p) (ha X W O ro _ S h3) (hb X W O ro _ S h4) (hc X W O ro _ S h5) (marks_no h6)) fun σ H Q q => ?_
    rw [ev_chn] at q
    exact tE.mono q.bind fun v H1 q1 => tE.mono q1.bind fun u H2 q2 => chn_end q2
  · cases h
theorem t_chn (o p : COp) {a b c : E} (ha : PEp t F cl a) (hb : PEp t F cl b) (hc : PEp t F cl c) : PTp t F cl (.chn o p a b c) := by
  intro X W O ro x S h
  unfold ckt ck at h
  split at h
  · obtain ⟨h1, h2⟩ := bf_split h
    obtain ⟨h2, h3⟩ := bf_split h2
    obtain ⟨h3, h4⟩ := bf_split h3
    obtain ⟨h4, h5⟩ := bf_split h4
    obtain ⟨h5, h6⟩ := bf_split h5
    rw [copB_ok h1, copB_ok h2]
    refine PT.imp (pt_chain (rCmp_ok S.hu o) (rCmp_ok S.hu p) (ha X W O ro _ S h3) (hb X W O ro _ S h4) (hc X W O ro _ S h5) (marks_no h6)) fun σ H Q q => ?_
    have q := tE.test q
    rw [ev_chn] at q
    exact tE.mono q.bind fun v H1 q1 => tE.mono q1.bind fun u H2 q2 => chn_end q2
  · cases h
/-! ### not, and, or -/
theorem s_not {a : E} (ha : PEp t F cl a) : PEp t F cl (.not a) := by
  intro X W O ro x S h
  unfold ck at h
  split at h
  · refine PE.imp (pe_not (ha X W O ro _ S h)) fun σ H Q q => ?_
    have e : ev t F (.not a) = fun ρ => (ev t F a ρ).bind fun x ρ => (match x with | .d (.bl b) => .ok (.d (.bl (!b))) ρ | _ => .no) := by (funext ρ; first | (simp only [ev]; done) | (simp only [ev]; rfl))
    rw [e] at q
    refine tE.mono q.bind fun v H1 q1 => ?_
    obtain ⟨s, ρ, ts, ws, f, r, g⟩ := q1
    dsimp only at g
    split at g
    · rename_i b
      obtain ⟨f2, e2, r2⟩ := r.pop
      exact ⟨b, (r.top).blE, fin_d r2 VR.bl (g.ext e2)⟩
    · exact g.elim
  · cases h
theorem s_and {a b : E} (ha : PEp t F cl a) (hb : PEp t F cl b) : PEp t F cl (.and a b) := by
  intro X W O ro x S h
  have e : ev t F (.and a b) = fun ρ => (ev t F a ρ).bind fun x ρ => (match x with
    | .d (.bl true) => ev t F b ρ
    | .d (.bl false) => .ok (.d (.bl false)) ρ
    | _ => .no) := by (funext ρ; first | (simp only [ev]; done) | (simp only [ev]; rfl))
  have key : ∀ σ H Q, tE X.K cl O ro W (ev t F (.and a b)) σ H Q → tAndV (tE X.K cl O ro W (ev t F a)) (tE X.K cl O ro W (ev t F b)) σ H Q := fun σ H Q q => by
    rw [e] at q
    refine tE.mono q.bind fun v H1 q1 => ?_
    obtain ⟨s, ρ, ts, ws, f, r, g⟩ := q1
    dsimp only at g
    split at g
    · obtain ⟨f2, e2, r2⟩ := r.pop
      refine ⟨true, (r.top).blE, ?_⟩
      rw [if_pos rfl]
      exact ⟨ρ, ts, ws, f2, r2, g.ext e2⟩
    · obtain ⟨f2, e2, r2⟩ := r.pop
      refine ⟨false, (r.top).blE, ?_⟩
      rw [if_neg Bool.false_ne_true]
      exact fin_d r2 VR.bl (g.ext e2)
    · exact g.elim
  unfold ck at h
  split at h
  · obtain ⟨h1, h2⟩ := bf_split h
    exact PE.imp (pe_and (ha X W O ro _ S h1) (pe_one (hb X W O ro _ S h2))) key
  · obtain ⟨h1, h2⟩ := bf_split h
    exact PE.imp (pe_and (ha X W O ro _ S h1) (hb X W O ro _ S h2)) key
  · cases h
theorem s_or {a b : E} (ha : PEp t F cl a) (hb : PEp t F cl b) : PEp t F cl (.or a b) := by
  intro X W O ro x S h
  have e : ev t F (.or a b) = fun ρ => (ev t F a ρ).bind fun x ρ => (match x with
    | .d (.bl true) => .ok (.d (.bl true)) ρ
    | .d (.bl false) => ev t F b ρ
    | _ => .no) := by (funext ρ; first | (simp only [ev]; done) | (simp only [ev]; rfl))
  have key : ∀ σ H Q, tE X.K cl O ro W (ev t F (.or a b)) σ H Q → tOrV (tE X.K cl O ro W (ev t F a)) (tE X.K cl O ro W (ev t F b)) σ H Q := fun σ H Q q => by
    rw [e] at q
    refine tE.mono q.bind fun v H1 q1 => ?_
    obtain ⟨s, ρ, ts, ws, f, r, g⟩ := q1
    dsimp only at g
    split at g
    · obtain ⟨f2, e2, r2⟩ := r.pop
      refine ⟨true, (r.top).blE, ?_⟩
      rw [if_pos rfl]
      exact fin_d r2 VR.bl (g.ext e2)
    · obtain ⟨f2, e2, r2⟩ := r.pop
      refine ⟨false, (r.top).blE, ?_⟩
      rw [if_neg Bool.false_ne_true]
      exact ⟨ρ, ts, ws, f2, r2, g.ext e2⟩
    · exact g.elim
  unfold ck at h
  split at h
  · obtain ⟨h1, h2⟩ := bf_split h
    exact PE.imp (pe_or (ha X W O ro _ S h1) (pe_one (hb X W O ro _ S h2))) key
  · obtain ⟨h1, h2⟩ := bf_split h
    exact PE.imp (pe_or (ha X W O ro _ S h1) (hb X W O ro _ S h2)) key
  · cases h
/-- a test's value, pointwise -/
theorem GT.ext {K : PySem.W.Frag} {ts : List SV} {σ : L2.St} {ws : List V} {f f' : List Addr} {H H' : Hp} {r : R SV} {Q : Bool → Hp → Prop} (e : Ext f H f' H') (h : GT cl K O ro W ts σ ws f H r Q) : GT cl K O ro W ts σ ws f' H' r Q := by
  unfold GT at h ⊢
  split
  · exact fun H2 f2 e2 r2 => h H2 f2 (e.trans e2) r2
  · rename_i hn
    split at h
    · rename_i b ρ1 h1
      cases h1
      exact (hn b rfl).elim
    · exact h
    · cases ‹R.ok _ _ = _›
    · cases ‹R.ok _ _ = _›
  · exact fun c d H2 f2 e2 r2 => h c d H2 f2 (e.trans e2) r2
  · exact h
theorem t_not {a : E} (ha : PTp t F cl a) : PTp t F cl (.not a) := by
  intro X W O ro x S h
  unfold ckt at h
  split at h
  · refine PT.imp (pt_not (ha X W O ro _ S h)) fun σ H Q q => ?_
    obtain ⟨ρ, ts, ws, f, r, q⟩ := q
    refine ⟨ρ, ts, ws, f, r, ?_⟩
    have e : ev t F (.not a) ρ = (ev t F a ρ).bind fun x ρ => (match x with | .d (.bl b) => .ok (.d (.bl (!b))) ρ | _ => .no) := by (first | (simp only [ev]; done) | (simp only [ev]; rfl))
    rw [e] at q
    cases e1 : ev t F a ρ with
    | ok s ρ' =>
      rw [e1] at q
      simp only [R.bind] at q
      split at q
      · exact q
      · exact q.elim
    | exc x ρ' => rw [e1] at q; exact q
    | no => rw [e1] at q; exact q.elim
  · cases h
theorem and_key {a b : E} (σ : L2.St) (H : Hp) (Q : Bool → Hp → Prop) (q : tT cl X.K O ro W (ev t F (.and a b)) σ H Q) : tAnd (tT cl X.K O ro W (ev t F a)) (tT cl X.K O ro W (ev t F b)) σ H Q := by
  obtain ⟨ρ, ts, ws, f, r, q⟩ := q
  refine ⟨ρ, ts, ws, f, r, ?_⟩
  have e : ev t F (.and a b) ρ = (ev t F a ρ).bind fun x ρ => (match x with
    | .d (.bl true) => ev t F b ρ
    | .d (.bl false) => .ok (.d (.bl false)) ρ
    | _ => .no) := by (first | (simp only [ev]; done) | (simp only [ev]; rfl))
  rw [e] at q
  cases e1 : ev t F a ρ with
  | ok s ρ' =>
    rw [e1] at q
    simp only [R.bind] at q
    split at q
    · intro H' f' ex r'
      rw [if_pos rfl]
      exact ⟨ρ', ts, ws, f', r', GT.ext ex q⟩
    · intro H' f' ex r'
      rw [if_neg Bool.false_ne_true]
      exact q H' f' ex r'
    · exact q.elim
  | exc x ρ' => rw [e1] at q; exact q
  | no => rw [e1] at q; exact q.elim
theorem or_key {a b : E} (σ : L2.St) (H : Hp) (Q : Bool → Hp → Prop) (q : tT cl X.K O ro W (ev t F (.or a b)) σ H Q) : tOr (tT cl X.K O ro W (ev t F a)) (tT cl X.K O ro W (ev t F b)) σ H Q := by
  obtain ⟨ρ, ts, ws, f, r, q⟩ := q
  refine ⟨ρ, ts, ws, f, r, ?_⟩
  have e : ev t F (.or a b) ρ = (ev t F a ρ).bind fun x ρ => (match x with
    | .d (.bl true) => .ok (.d (.bl true)) ρ
    | .d (.bl false) => ev t F b ρ
    | _ => .no) := by (first | (simp only [ev]; done) | (simp only [ev]; rfl))
  rw [e] at q
  cases e1 : ev t F a ρ with
  | ok s ρ' =>
    rw [e1] at q
    simp only [R.bind] at q
    split at q
    · intro H' f' ex r'
      rw [if_pos rfl]
      exact q H' f' ex r'
    · intro H' f' ex r'
      rw [if_neg Bool.false_ne_true]
      exact ⟨ρ', ts, ws, f', r', GT.ext ex q⟩
    · exact q.elim
  | exc x ρ' => rw [e1] at q; exact q
  | no => rw [e1] at q; exact q.elim
theorem w_and {a b : E} (ha : PTp t F cl a) (hb : PTp t F cl b) (hw : PWp t F cl b) : PWp t F cl (.and a b) := by
  intro X W O ro o xs p S h
  unfold ckt at h
  split at h
  · rename_i y z p' he
    cases he
    obtain ⟨h1, h2⟩ := bf_split h
    exact PW.imp (pw_and (ha X W O ro _ S h1) (pw_and1 (hb X W O ro _ S h2))) and_key
  · rename_i y z u r p' he
    cases he
    obtain ⟨h1, h2⟩ := bf_split h
    exact PW.imp (pw_and (ha X W O ro _ S h1) (hw X W O ro _ _ _ S h2)) and_key
  · cases h
theorem w_or {a b : E} (ha : PTp t F cl a) (hb : PTp t F cl b) (hw : PWp t F cl b) : PWp t F cl (.or a b) := by
  intro X W O ro o xs p S h
  unfold ckt at h
  split at h
  · rename_i y z p' he
    cases he
    obtain ⟨h1, h2⟩ := bf_split h
    exact PW.imp (pw_or (ha X W O ro _ S h1) (pw_or1 (hb X W O ro _ S h2))) or_key
  · rename_i y z u r p' he
    cases he
    obtain ⟨h1, h2⟩ := bf_split h
    exact PW.imp (pw_or (ha X W O ro _ S h1) (hw X W O ro _ _ _ S h2)) or_key
  · cases h
theorem t_and {a b : E} (hw : PWp t F cl (.and a b)) : PTp t F cl (.and a b) := by
  intro X W O ro x S h
  have h0 := h
  unfold ckt at h
  split at h
  · exact (hw X W O ro _ _ _ S h0).pt
  · exact (hw X W O ro _ _ _ S h0).pt
  · cases h
theorem t_or {a b : E} (hw : PWp t F cl (.or a b)) : PTp t F cl (.or a b) := by
  intro X W O ro x S h
  have h0 := h
  unfold ckt at h
  split at h
  · exact (hw X W O ro _ _ _ S h0).pt
  · exact (hw X W O ro _ _ _ S h0).pt
  · cases h
end
end Kn

set_option Elab.async false
set_option linter.all false
set_option maxRecDepth 100000
set_option maxHeartbeats 4000000
/-! Snd2: displays, items, slices, fields, calls. -/
namespace Kn
open PySem L2
theorem stOf_inj {a b : String} (h : stOf a = stOf b) : a = b := by
  unfold stOf at h
  rw [Str.ofString_eq_toList, Str.ofString_eq_toList] at h
  have h1 := congrArg (fun s => s.cps.toList) h
  have h2 : a.toList.map Char.toNat = b.toList.map Char.toNat := by simpa using h1
  have inj : ∀ l m : List Char, l.map Char.toNat = m.map Char.toNat → l = m := by
    intro l
    induction l with
    | nil =>
      intro m e
      cases m with
      | nil => rfl
      | cons _ _ => cases e
    | cons c l ih =>
      intro m e
      cases m with
      | nil => cases e
      | cons d m =>
        rw [List.map_cons, List.map_cons, List.cons.injEq] at e
        have hc : c = d := by
          apply Char.ext
          apply UInt32.toNat_inj.mp
          exact e.1
        rw [hc, ih m e.2]
  exact String.toList_inj.mp (inj _ _ h2)
theorem look_none {m : String} : ∀ {ns : List String} {ws : List V}, ns.contains m = false → (zipS ns ws).lookup (stOf m) = none
  | [], ws, _ => by simp [zipS]
  | n :: ns, [], _ => by simp [zipS]
  | n :: ns, w :: ws, h => by
    have h1 : m ≠ n ∧ ns.contains m = false := by simpa [List.contains_cons] using h
    have h2 : (stOf m == Str.ofString n) = false := beq_eq_false_iff_ne.mpr fun z => h1.1 (stOf_inj z)
    unfold zipS
    rw [List.map_cons, List.zip_cons_cons, List.lookup_cons, h2]
    exact look_none h1.2
theorem look_some {K : PySem.W.Frag} {cl : String → Option Addr} {A : Addr → Prop} {H : Hp} {f : String} {x : D} : ∀ {ns : List String} {xs : List D} {ws : List V}, VRs K cl A H xs ws → fieldD ns xs f = some x → ∃ w, (zipS ns ws).lookup (stOf f) = some w ∧ VR K cl A H x w
  | [], xs, ws, _, h => by
    unfold fieldD at h
    cases h
  | n :: ns, [], ws, _, h => by
    unfold fieldD at h
    cases h
  | n :: ns, y :: xs, ws, r, h => by
    unfold VRs at r
    obtain ⟨w, ws', rfl, q, m⟩ := r
    unfold fieldD at h
    unfold zipS
    rw [List.map_cons, List.zip_cons_cons, List.lookup_cons]
    by_cases e : n = f
    · subst e
      rw [if_pos rfl] at h
      cases h
      have : (stOf n == Str.ofString n) = true := beq_self_eq_true _
      rw [this]
      exact ⟨w, rfl, q⟩
    · rw [if_neg e] at h
      have h2 : (stOf f == Str.ofString n) = false := beq_eq_false_iff_ne.mpr fun z => e (stOf_inj z).symm
      rw [h2]
      exact look_some m h
section
variable {t : T} {F : String → List SV → Cr} {cl : String → Option Addr} {X : Cx} {W : WX} {O : Addr → Prop} {ro : List (Nat × V)} {x : Expr}
theorem tEs.mono {K : PySem.W.Frag} {g : Env → R (List SV)} {σ : L2.St} {H : Hp} {Q Q' : List V → Hp → Prop} (h : tEs K cl O ro W g σ H Q) (k : ∀ v H', Q v H' → Q' v H') : tEs K cl O ro W g σ H Q' := by
  obtain ⟨ρ, ts, ws, f, r, q⟩ := h
  refine ⟨ρ, ts, ws, f, r, ?_⟩
  cases e : g ρ with
  | ok s ρ' => rw [e] at q; exact fun v H' f' l e' r' => k v H' (q v H' f' l e' r')
  | exc x ρ' => rw [e] at q; exact q
  | no => rw [e] at q; exact q
theorem a_nil : PAp t F cl .nil := by
  intro X W O ro xs S h
  unfold cks at h
  split at h
  · refine PA.imp pa_nil fun σ H Q q => ?_
    have e : evs t F .nil = fun ρ => .ok [] ρ := by (funext ρ; simp only [evs])
    rw [e] at q
    exact tEs.nil q
  · cases h
theorem a_cons {e es : E} (he : PEp t F cl e) (hs : PAp t F cl es) : PAp t F cl (.cons e es) := by
  intro X W O ro xs S h
  unfold cks at h
  split at h
  · obtain ⟨h1, h2⟩ := bf_split h
    obtain ⟨h2, h3⟩ := bf_split h2
    refine PA.imp (pa_cons (he X W O ro _ S h1) (hs X W O ro _ S h3) (star_cons h2)) fun σ H Q q => ?_
    have e0 : evs t F (.cons e es) = fun ρ => (ev t F e ρ).bind fun v ρ => (evs t F es ρ).bind fun vs ρ => .ok (v :: vs) ρ := by (funext ρ; simp only [evs])
    rw [e0] at q
    exact tEs.cons q
  · cases h
theorem cks_st {N : List Str} {sc : Scope} : ∀ {es : E} {xs : List Expr}, cks N es sc xs = true → xs.all noSt = true := by
  intro es
  induction es with
  | nil =>
    intro xs h
    unfold cks at h
    split at h
    · rfl
    · cases h
  | cons e es _ ih =>
    intro xs h
    unfold cks at h
    split at h
    · obtain ⟨h1, h2⟩ := bf_split h
      obtain ⟨h2, h3⟩ := bf_split h2
      rw [List.all_cons, h2, ih h3]
      rfl
    · cases h
  | _ => intro xs h; unfold cks at h; cases h
theorem s_tup {es : E} (hs : PAp t F cl es) : PEp t F cl (.tup es) := by
  intro X W O ro x S h
  unfold ck at h
  split at h
  · refine PE.imp (pe_tup (hs X W O ro _ S h)) fun σ H Q q => ?_
    have e : ev t F (.tup es) = fun ρ => (evs t F es ρ).bind fun vs ρ => if vs.length ≤ lim then .ok (.d (.tup (frzs vs))) ρ else .no := by (funext ρ; simp only [ev])
    rw [e] at q
    refine tEs.mono (tEs.bind q) fun vs H1 q1 => ?_
    obtain ⟨ss, ρ, ts, ws, f, l, m, r, g⟩ := q1.frz
    by_cases hl : ss.length ≤ lim
    · rw [if_pos hl] at g
      exact ⟨by rw [← l]; exact lim_le hl, fun p np => fin_tup r m np g⟩
    · rw [if_neg hl] at g
      exact g.elim
  · cases h
theorem s_lst {es : E} (hs : PAp t F cl es) : PEp t F cl (.lst es) := by
  intro X W O ro x S h
  unfold ck at h
  split at h
  · refine PE.imp (pe_lst (hs X W O ro _ S h)) fun σ H Q q => ?_
    have e : ev t F (.lst es) = fun ρ => (evs t F es ρ).bind fun vs ρ => if vs.length ≤ lim then .ok (.lst vs) ρ else .no := by (funext ρ; simp only [ev])
    rw [e] at q
    refine tEs.mono (tEs.bind q) fun vs H1 q1 => ?_
    obtain ⟨ss, ρ, ts, ws, f, l, r, g⟩ := q1
    dsimp only at g
    by_cases hl : ss.length ≤ lim
    · rw [if_pos hl] at g
      refine ⟨by rw [← l]; exact lim_le hl, fun p np => ?_⟩
      obtain ⟨f', e', r'⟩ := Rel.newLst l r np
      obtain ⟨f0, e0, r0⟩ : ∃ f0, Ext f H1 f0 H1 ∧ True := ⟨f, Ext.refl f H1, trivial⟩
      exact g _ _ f' e' r'
    · rw [if_neg hl] at g
      exact g.elim
  · cases h
theorem s_idx {a i : E} (ha : PEp t F cl a) (hi : PEp t F cl i) : PEp t F cl (.idx a i) := by
  intro X W O ro x S h
  unfold ck at h
  split at h
  · obtain ⟨h1, h2⟩ := bf_split h
    obtain ⟨h2, h3⟩ := bf_split h2
    refine PE.imp (pe_ix (ix_seq.or (ix_dk (by have := S.hu; omega))) (ha X W O ro _ S h1) (hi X W O ro _ S h2) (plainIx h3)) fun σ H Q q => ?_
    have e : ev t F (.idx a i) = fun ρ => (ev t F a ρ).bind fun x ρ => (ev t F i ρ).bind fun y ρ => (match idxD (frz x) (frz y) with | some d => .ok (.d d) ρ | none => .no) := by (funext ρ; first | (simp only [ev]; done) | (simp only [ev]; rfl))
    rw [e] at q
    refine tE.mono q.bind fun v H1 q1 => tE.mono q1.bind fun u H2 q2 => ?_
    obtain ⟨s, s', ρ, ts, ws, f, h1, h2, r, g⟩ := q2.frz
    cases hx : idxD (frz s) (frz s') with
    | none => simp only [hx] at g; exact g.elim
    | some d =>
      simp only [hx] at g
      exact idx_ok hx h1 h2 fun w hw => fin_d r hw g
  · cases h
theorem emp_of {e : E} (h : isEmp e = true) : e = .emp := by
  cases e <;> first | rfl | cases h
theorem ev_slc {a lo hi : E} : ev t F (.slc a lo hi) = fun ρ => (ev t F a ρ).bind fun x ρ => (match lo, hi with
    | .emp, .emp => R.of (slcD (frz x) none none) ρ
    | .emp, hi => (ev t F hi ρ).bind fun h ρ => (match frz h with
      | .int j => R.of (slcD (frz x) none (some j)) ρ
      | _ => .no)
    | lo, .emp => (ev t F lo ρ).bind fun l ρ => (match frz l with
      | .int i => R.of (slcD (frz x) (some i) none) ρ
      | _ => .no)
    | lo, hi => (ev t F lo ρ).bind fun l ρ => (match frz l with
      | .int i => (ev t F hi ρ).bind fun h ρ => (match frz h with
        | .int j => R.of (slcD (frz x) (some i) (some j)) ρ
        | _ => .no)
      | _ => .no)) := by (funext ρ; first | (simp only [ev]; done) | (simp only [ev]; rfl))
theorem slc_11 {a lo hi : E} (h1 : isEmp lo = false) (h2 : isEmp hi = false) : ev t F (.slc a lo hi) = fun ρ => (ev t F a ρ).bind fun x ρ => (ev t F lo ρ).bind fun l ρ => (match frz l with
      | .int i => (ev t F hi ρ).bind fun h ρ => (match frz h with
        | .int j => R.of (slcD (frz x) (some i) (some j)) ρ
        | _ => .no)
      | _ => .no) := by
  rw [ev_slc]
  funext ρ
  cases lo <;> first | (cases h1; done) | (cases hi <;> first | rfl | cases h2)
theorem slc_01 {a hi : E} (h2 : isEmp hi = false) : ev t F (.slc a .emp hi) = fun ρ => (ev t F a ρ).bind fun x ρ => (ev t F hi ρ).bind fun h ρ => (match frz h with
        | .int j => R.of (slcD (frz x) none (some j)) ρ
        | _ => .no) := by
  rw [ev_slc]
  funext ρ
  cases hi <;> first | rfl | cases h2
theorem slc_10 {a lo : E} (h1 : isEmp lo = false) : ev t F (.slc a lo .emp) = fun ρ => (ev t F a ρ).bind fun x ρ => (ev t F lo ρ).bind fun l ρ => (match frz l with
      | .int i => R.of (slcD (frz x) (some i) none) ρ
      | _ => .no) := by
  rw [ev_slc]
  funext ρ
  cases lo <;> first | rfl | cases h1
theorem slc_00 {a : E} : ev t F (.slc a .emp .emp) = fun ρ => (ev t F a ρ).bind fun x ρ => R.of (slcD (frz x) none none) ρ := by
  rw [ev_slc] <;> rfl
theorem s_slc {a lo hi : E} (ha : PEp t F cl a) (hl : PEp t F cl lo) (hh : PEp t F cl hi) : PEp t F cl (.slc a lo hi) := by
  intro X W O ro x S h
  unfold ck at h
  split at h
  · obtain ⟨h1, h2⟩ := bf_split h
    obtain ⟨h2, h3⟩ := bf_split h2
    have e1 := emp_of h2
    have e2 := emp_of h3
    subst e1 e2
    refine PE.imp (pe_slice rSlc_ok (ha X W O ro _ S h1) po_none po_none) fun σ H Q q => ?_
    rw [slc_00] at q
    refine tE.mono q.bind fun v H1 q1 => ?_
    obtain ⟨s, ρ, ts, ws, f, h1, r, g⟩ := q1.frz
    exact slc_ok r h1 g
  · obtain ⟨h1, h2⟩ := bf_split h
    obtain ⟨h2, h3⟩ := bf_split h2
    obtain ⟨h3, h4⟩ := bf_split h3
    have e1 := emp_of h2
    subst e1
    refine PE.imp (pe_slice rSlc_ok (ha X W O ro _ S h1) po_none (po_some (hh X W O ro _ S h3))) fun σ H Q q => ?_
    rw [slc_01 (by simpa using h4)] at q
    refine tE.mono q.bind fun v H1 q1 => tE.mono q1.bind fun u H2 q2 => ?_
    obtain ⟨s, s', ρ, ts, ws, f, h1, h2, r, g⟩ := q2.frz
    split at g
    · rename_i j ej
      rw [ej] at h2
      exact ⟨j, h2.intE, slc_ok r h1 g⟩
    · exact g.elim
  · obtain ⟨h1, h2'⟩ := bf_split h
    obtain ⟨h2, h3'⟩ := bf_split h2'
    obtain ⟨h3, h4⟩ := bf_split h3'
    have e1 := emp_of h3
    subst e1
    refine PE.imp (pe_slice rSlc_ok (ha X W O ro _ S h1) (po_some (hl X W O ro _ S h2)) po_none) fun σ H Q q => ?_
    rw [slc_10 (by simpa using h4)] at q
    refine tE.mono q.bind fun v H1 q1 => tE.mono q1.bind fun u H2 q2 => ?_
    obtain ⟨s, s', ρ, ts, ws, f, h1, h2, r, g⟩ := q2.frz
    split at g
    · rename_i j ej
      rw [ej] at h2
      exact ⟨j, h2.intE, slc_ok r h1 g⟩
    · exact g.elim
  · obtain ⟨h1, h2⟩ := bf_split h
    obtain ⟨h2, h3⟩ := bf_split h2
    obtain ⟨h3, h4⟩ := bf_split h3
    obtain ⟨h4, h5⟩ := bf_split h4
    refine PE.imp (pe_slice rSlc_ok (ha X W O ro _ S h1) (po_some (hl X W O ro _ S h2)) (po_some (hh X W O ro _ S h3))) fun σ H Q q => ?_
    rw [slc_11 (by simpa using h4) (by simpa using h5)] at q
    refine tE.mono q.bind fun v H1 q1 => tE.mono q1.bind fun u H2 q2 => ?_
    obtain ⟨s, s', ρ, ts, ws, f, h1, h2, r, g⟩ := q2.frz
    split at g
    · rename_i i ei
      rw [ei] at h2
      refine ⟨i, h2.intE, ?_⟩
      have q3 : tK1 X.K cl O ro W (fun x ρ => (ev t F hi ρ).bind fun h ρ => (match frz h with
        | .int j => R.of (slcD (frz x) (some i) (some j)) ρ
        | _ => .no)) v σ H2 Q := ⟨.d (frz s), ρ, ts, ws, f, r.push h1, g⟩
      refine tE.mono q3.bind fun w H3 q4 => ?_
      obtain ⟨s, s', ρ, ts, ws, f, h1, h2, r, g⟩ := q4.frz
      split at g
      · rename_i j ej
        rw [ej] at h2
        exact ⟨j, h2.intE, slc_ok r h1 g⟩
      · exact g.elim
    · exact g.elim
  · cases h
theorem s_stp {a k : E} (ha : PEp t F cl a) (hk : PEp t F cl k) : PEp t F cl (.stp a k) := by
  intro X W O ro x S h
  unfold ck at h
  split at h
  · obtain ⟨h1, h2⟩ := bf_split h
    refine PE.imp (pe_stp (ha X W O ro _ S h1) (hk X W O ro _ S h2) stepIx) fun σ H Q q => ?_
    have e : ev t F (.stp a k) = fun ρ => (ev t F a ρ).bind fun x ρ => (ev t F k ρ).bind fun y ρ => R.of (stpD (frz x) (frz y)) ρ := by (funext ρ; simp only [ev])
    rw [e] at q
    refine tE.mono q.bind fun v H1 q1 => tE.mono q1.bind fun u H2 q2 => ?_
    obtain ⟨s, s', ρ, ts, ws, f, h1, h2, r, g⟩ := q2.frz
    exact stp_ok (te := fun _ _ _ => True) (tk := fun _ _ _ => True) rfl r h1 h2 g
  · cases h
theorem s_fld {a : E} (f : String) (ha : PEp t F cl a) : PEp t F cl (.fld a f) := by
  intro X W O ro x S h
  unfold ck at h
  split at h
  · obtain ⟨h1, h2⟩ := bf_split h
    obtain ⟨h2, h3⟩ := bf_split h2
    have h1 := of_decide_eq_true h1
    subst h1
    refine PE.imp (pe_fldX (ha X W O ro _ S h2) (attr_base h3)) fun σ H Q q => ?_
    have e : ev t F (.fld a f) = fun ρ => (ev t F a ρ).bind fun x ρ => (match fldD t (frz x) f with | some d => .ok (.d d) ρ | none => .no) := by (funext ρ; first | (simp only [ev]; done) | (simp only [ev]; rfl))
    rw [e] at q
    refine tE.mono q.bind fun v H1 q1 => ?_
    obtain ⟨s, ρ, ts, ws, fp, z1, r, g⟩ := q1.frz
    cases hx : fldD t (frz s) f with
    | none => simp only [hx] at g; exact g.elim
    | some d =>
      simp only [hx] at g
      unfold fldD at hx
      split at hx
      · rename_i c ns xs es
        split at hx
        · rename_i hf
          rw [es] at z1
          obtain ⟨b, C, dx, zs, rfl, hc, eb, _, hl, m⟩ := z1.insE
          obtain ⟨k1, k2⟩ := S.fld _ _ _ hf hc
          obtain ⟨w, hw, hv⟩ := look_some m hx
          exact .inl ⟨b, C, dx, _, w, rfl, eb, k1, k2, hw, fin_d r hv g⟩
        · cases hx
      · rename_i c ns xs es
        split at hx
        · rename_i hf
          rw [es] at z1
          obtain ⟨b, C, dd, fs, zs, rfl, hc, eb, _, ed, _, hl, m, hlk⟩ := z1.excE
          obtain ⟨k1, k2⟩ := S.isx.fldx _ _ _ hf hc
          obtain ⟨w, hw, hv⟩ := look_some m hx
          exact .inr ⟨b, C, dd, fs, w, rfl, eb, ed, k1, k2, (hlk _).trans hw, fin_d r hv g⟩
        · cases hx
      · cases hx
  · cases h
/-! ### calls -/
/-- the arguments of a call, any number -/
theorem callArgs {f : Value} {first : List Value} {es : List Expr} {ta : TA} {pos : Pos} {pins : List (Addr × Obj)} {s : Shared} {σ : L2.St} {H : Hp} {Q : Value → Shared → Prop} (hk : PySem.W.keepIn X.K f = true) (ha : PA X es ta) (hs : es.all noSt = true) (I : Inv X pins σ H s)
    {R : List V → Hp → Prop} (h : ta σ H R) (h0 : es = [] → R [] H) (k : ∀ us s1 vs H1, Inv X pins σ H1 s1 → Vals vs us → R vs H1 → wpAny (model X.prog X.w) X.A (PySem.call f (first ++ us)) Q X.xe s1) :
    wpAny (model X.prog X.w) X.A (callWith pos f first (backTo pos (starEach es X.env)) (backToKw pos (keywordEach [] X.env))) Q X.xe s := by
  cases es with
  | nil =>
    have z := k [] s [] H I .nil (h0 rfl)
    exact PySem.W.callWith_K0 I.kIn hk z
  | cons e es =>
    rw [List.all_cons, Bool.and_eq_true] at hs
    exact PySem.W.callWith_K (h₀ := X.base) I.ok.mod.kin hk (thn (ha.run pos pins s σ H R I h) fun us s1 ⟨vs, H1, I1, r, q⟩ => ⟨I1.kIn, k us s1 vs H1 I1 r q⟩) (star_cons hs.1) (star_any hs.2)
theorem nil_args {N : List Str} {sc : Scope} {as : E} (h : cks N as sc [] = true) : evs t F as = fun ρ => .ok [] ρ := by
  cases as with
  | nil => (funext ρ; simp only [evs])
  | cons e es => unfold cks at h; cases h
  | _ => unfold cks at h; cases h
/-- f(..), a def of the module -/
theorem pe_callD {sp : Sp} {fd : FuncData} {ps : List Str} {k : Nat} {y : Str} {a : Addr} {es : List Expr} {ta : TA} {p pos : Pos} {E : L2.St → XK} (G : FnOk X.prog X.w X.K X.mg X.base (L2.CX X.prog X.w) k a fd ps sp) (hr : Room k X.A) (hb : Binds X.K fd ps []) (hg : Gl X y) (hm : X.mg y = some (.ref a)) (hk : PySem.W.keepIn X.K (.ref a) = true)
    (hx : ∀ σ, PassesAt (L2.CX X.prog X.w) X σ (E σ)) (ha : PA X es ta) (hs : es.all noSt = true) (hd : (y == ("__debug__" : Str)) = false) (h0 : es = [] → ∀ σ H R, ta σ H R → R [] H) :
    PE X (.Call (.Name y p) es [] pos) (fun σ H Q => ta σ H fun vs H1 => sp vs H1 Q (E σ)) := by
  refine ⟨fun pins s σ H Q I h => ?_⟩
  refine wpAny_Call_Name_kw (ld_glob I hg hm ?_ hd)
  refine callArgs (first := []) hk ha hs I h (fun e => h0 e σ H _ h) fun us s1 vs H1 I1 r q => ?_
  have q' : sp (vs ++ []) H1 Q (E σ) := by rw [List.append_nil]; exact q
  exact run_fnSD G hr hb .nil (hx σ) I1 r q'
theorem s_call {as : E} (f : String) (hs : PAp t F cl as) : PEp t F cl (.call f as) := by
  intro X W O ro x S h
  unfold ck at h
  split at h
  · rename_i y p es pos
    obtain ⟨h1, h2⟩ := bf_split h
    unfold gnB at h1
    obtain ⟨h3, h4⟩ := bf_split h1
    obtain ⟨h5, h6⟩ := bf_split h4
    have h3 := of_decide_eq_true h3
    subst h3
    by_cases hf : t.isFn f = true
    · have e : ev t F (.call f as) = fun ρ => (evs t F as ρ).bind fun vs ρ => ofCr (F f ((frzs vs).map .d)) ρ := by (funext ρ; simp only [ev, hf, if_true])
      obtain ⟨a, hm, hk, fd, ps, k, G, hr, hb⟩ := S.fn f hf
      refine PE.imp (pe_callD (E := fun σ c d H => W c d σ H) G (hr.mono (by omega)) hb (glB_ok h5) hm hk S.pass (hs X W O ro _ S h2) (cks_st h2) (nmB_ok h6).1 fun e0 σ H R q => ?_) fun σ H Q q => ?_
      · subst e0
        rw [nil_args h2] at q
        exact tEs.nil q
      · rw [e] at q
        refine tEs.mono (tEs.bind q) fun vs H1 q1 => ?_
        obtain ⟨ss, ρ, ts, ws, fp, l, m, r, g⟩ := q1.frz
        exact call_ok rfl r m g
    · refine ⟨fun pins s σ H Q I q => ?_⟩
      obtain ⟨ρ, ts, ws, f', r, g⟩ := q
      simp only [ev, if_neg hf] at g
      exact g.elim
  · cases h
/-- a new instance, exceptions at the slots -/
theorem run_makeD {C f : Addr} {k : Nat} {fd : FuncData} {ps : List Str} {sp : Sp} {pins : List (Addr × Obj)} {σ : L2.St} {H : Hp} {s : Shared} {Q : VK} {us : List Value} {vs : List V} {E : XK} (M : Mk X.K C f) (G : FnOk X.prog X.w X.K X.mg X.base (L2.CX X.prog X.w) k f fd ps sp) (hr : Room (k + 1) X.A) (hb : Binds X.K fd ps [])
    (hx : PassesAt (L2.CX X.prog X.w) X σ E) (hxe : ∀ {H' : Hp} {s' : Shared} {e : Value} {s2 : Shared} {x dx : Addr}, Inv X pins σ H s → Inv X pins σ (upd (upd H dx (.own x)) x (.ins C dx [])) s' → L2.CX X.prog X.w X.stack (upd (upd H dx (.own x)) x (.ins C dx [])) s' E e s2 → X.xe e s2) (I : Inv X pins σ H s) (r : Vals vs us)
    (h : ∀ x dx, H x = none → H dx = none → dx ≠ x → sp (.ref x :: vs) (upd (upd H dx (.own x)) x (.ins C dx [])) (fun v H2 => v = .non ∧ Q (.ref x) H2) E) :
    wpAny (model X.prog X.w) X.A (PySem.call (.ref C) us) (EP X pins σ Q) X.xe s := by
  have hq := h (s.heap.objs.size + 1) s.heap.objs.size (I.hok.fresh (Nat.le_succ _)) (I.hok.fresh (Nat.le_refl _)) (Nat.ne_of_lt (Nat.lt_succ_self _))
  have I2 := Inv.made (C := C) I
  have r2 : Vals (V.ref (s.heap.objs.size + 1) :: vs) (Value.ref (s.heap.objs.size + 1) :: us) := .cons rfl r
  have hl : ((Value.ref (s.heap.objs.size + 1) :: us) ++ []).length = ps.length := by
    have e := r2.length
    rw [G.len _ _ _ _ hq] at e
    rw [List.append_nil]
    exact e.symm
  have hb2 := hb ⟨(s.heap.push PySem.W.emptyDict).push (PySem.W.instObj C s.heap.objs.size), s.gens, s.drawn, s.toks, s.os⟩ (Value.ref (s.heap.objs.size + 1) :: us) I2.kIn hl
  rw [List.append_nil] at hb2
  refine wpAny_call (make_map (f := f) I.kIn M.makes M.init (beq_iff_eq.mp M.fn) (codeAny_mono (G.run _ X.stack _ _ ⟨Value.ref (s.heap.objs.size + 1) :: us, []⟩ (Value.ref (s.heap.objs.size + 1) :: us) _ _ E (hr.make C us [])
    (I2.env0.make C us []) hb2 r2 hq) fun r s' hq' => ?_))
  cases r with
  | error e => exact hx pins _ _ e s' I2 hq'
  | ok fl =>
    cases fl with
    | ret u =>
      obtain ⟨v, H', I3, rv, ev, q3⟩ := I2.after hq'
      subst ev
      exact ⟨rv, ⟨V.ref (s.heap.objs.size + 1), H', I3, rfl, q3⟩⟩
    | next => exact False.elim hq'
    | brk => exact False.elim hq'
    | cont => exact False.elim hq'
theorem s_mk {as : E} (c : String) (hs : PAp t F cl as) : PEp t F cl (.mk c as) := by
  intro X W O ro x S h
  unfold ck at h
  split at h
  · rename_i y p es pos
    obtain ⟨h1, h2⟩ := bf_split h
    unfold gnB at h1
    obtain ⟨h3, h4⟩ := bf_split h1
    obtain ⟨h5, h6⟩ := bf_split h4
    have h3 := of_decide_eq_true h3
    subst h3
    refine ⟨fun pins s σ H Q I q => ?_⟩
    cases hi : t.init c with
    | none =>
      obtain ⟨ρ, ts, ws, f', r, g⟩ := q
      simp only [ev, hi] at g
      exact g.elim
    | some i =>
      have e : ev t F (.mk c as) = fun ρ => (evs t F as ρ).bind fun vs ρ => ofMk (F i (.ins c [] [] :: (frzs vs).map .d)) ρ := by (funext ρ; simp only [ev, hi])
      rw [e] at q
      obtain ⟨C, a, hc, hm, M, fd, ps, k, G, hr, hb⟩ := S.init c i hi
      refine wpAny_Call_Name_kw (ld_glob I (glB_ok h5) hm ?_ (nmB_ok h6).1)
      refine callArgs (first := []) M.kp (hs X W O ro _ S h2) (cks_st h2) I (tEs.bind q) (fun e0 => ?_) fun us s1 vs H1 I1 r q1 => ?_
      · subst e0
        have q2 := tEs.bind q
        rw [nil_args h2] at q2
        exact tEs.nil q2
      · refine run_makeD (E := fun c d H => W c d σ H) M G hr hb (S.pass σ) (fun {_ _ _ _ _ _} _ I2 z => S.pass σ pins _ _ _ _ I2 z) I1 r fun x dx nx nd ne => ?_
        obtain ⟨ss, ρ, ts, ws, fp, l, m, r, g⟩ := tKs.frz q1
        exact mk_ok rfl hc r m g nx nd ne
  · cases h
theorem s_blt {as : E} (b : Bf) (hs : PAp t F cl as) : PEp t F cl (.blt b as) := by
  intro X W O ro x S h
  unfold ck at h
  split at h
  · rename_i y p e0 es pos
    obtain ⟨h1, h2⟩ := bf_split h
    unfold gnB at h1
    obtain ⟨h3, h4⟩ := bf_split h1
    obtain ⟨h5, h6⟩ := bf_split h4
    have h3 := of_decide_eq_true h3
    subst h3
    obtain ⟨h7, _, h8⟩ := nmB_ok h6
    have st := cks_st h2
    rw [List.all_cons, Bool.and_eq_true] at st
    have hv := boot_bf b
    have key : PE X (.Call (.Name (stOf (bfN b)) p) (e0 :: es) [] pos) (tCB (rBlt X.K b) (tEs X.K cl O ro W (evs t F as))) := by
      have hc := rBlt_ok S.calm b
      cases b with
      | len => exact pe_callB hc (glB_ok h5) (S.blt _) hv (hs X W O ro _ S h2) h8 h7 (star_cons st.1) (star_any st.2)
      | abs => exact pe_callB hc (glB_ok h5) (S.blt _) hv (hs X W O ro _ S h2) h8 h7 (star_cons st.1) (star_any st.2)
      | max => exact pe_callB hc (glB_ok h5) (S.blt _) hv (hs X W O ro _ S h2) h8 h7 (star_cons st.1) (star_any st.2)
      | min => exact pe_callB hc (glB_ok h5) (S.blt _) hv (hs X W O ro _ S h2) h8 h7 (star_cons st.1) (star_any st.2)
      | all => exact pe_callB hc (glB_ok h5) (S.blt _) hv (hs X W O ro _ S h2) h8 h7 (star_cons st.1) (star_any st.2)
      | any => exact pe_callB hc (glB_ok h5) (S.blt _) hv (hs X W O ro _ S h2) h8 h7 (star_cons st.1) (star_any st.2)
      | isinstance => exact pe_callB hc (glB_ok h5) (S.blt _) hv (hs X W O ro _ S h2) h8 h7 (star_cons st.1) (star_any st.2)
      | str => exact pe_callTy hc (glB_ok h5) (S.blt _) hv (hs X W O ro _ S h2) h8 h7 (star_cons st.1) (star_any st.2)
      | int => exact pe_callTy hc (glB_ok h5) (S.blt _) hv (hs X W O ro _ S h2) h8 h7 (star_cons st.1) (star_any st.2)
      | list => exact pe_callTy hc (glB_ok h5) (S.blt _) hv (hs X W O ro _ S h2) h8 h7 (star_cons st.1) (star_any st.2)
      | tuple => exact pe_callTy hc (glB_ok h5) (S.blt _) hv (hs X W O ro _ S h2) h8 h7 (star_cons st.1) (star_any st.2)
    refine PE.imp key fun σ H Q q => ?_
    have e : ev t F (.blt b as) = fun ρ => (evs t F as ρ).bind fun vs ρ => R.of (bltD t b (frzs vs)) ρ := by (funext ρ; simp only [ev])
    rw [e] at q
    refine tEs.mono (tEs.bind q) fun vs H1 q1 => ?_
    obtain ⟨ss, ρ, ts, ws, fp, l, m, r, g⟩ := q1.frz
    exact blt_ok S.isa S.isx b r m g
  · cases h
theorem bm_fact (m : Bm) : PlainAttrs (bmT m) ∧ Slot (bmT m) (stOf (bmN m)) (bmI m) ∧ typeOf (.builtin (bmI m)) = pure (.type "method_descriptor") := by
  cases m with
  | join => exact ⟨PySem.F.plainAttrs_str, PySem.F.slot_str_join, PySem.F.type_str_join⟩
  | upper => exact ⟨PySem.F.plainAttrs_str, PySem.F.slot_str_upper, PySem.F.type_str_upper⟩
  | count => exact ⟨PySem.F.plainAttrs_list, PySem.F.slot_list_count, PySem.F.type_list_count⟩
  | index => exact ⟨PySem.F.plainAttrs_list, PySem.F.slot_list_index, PySem.F.type_list_index⟩
  | split => exact ⟨PySem.F.plainAttrs_str, PySem.F.slot_str_split, PySem.F.type_str_split⟩
  | startswith => exact ⟨PySem.F.plainAttrs_str, PySem.F.slot_str_startswith, PySem.F.type_str_startswith⟩
theorem few_at {es : List Expr} {env : PySem.Env} {pos : Pos} (h : es.all noSt = true) (hn : es.length < 29) : ((backTo pos (starEach es env)).all (fun x => !x.1) && (backToKw pos (keywordEach [] env)).all (fun x => x.1.isSome) && decide (es.length + ([] : List Keyword).length + (if ([] : List Keyword).isEmpty then 0 else 1) < 30)) = true := by
  rw [star_all h]
  show (true && true && decide (es.length + 0 + 0 < 30)) = true
  rw [decide_eq_true (by omega)]
  rfl
theorem s_bm {a as : E} (m : Bm) (ha : PEp t F cl a) (hs : PAp t F cl as) : PEp t F cl (.bm m a as) := by
  intro X W O ro x S h
  have e : ev t F (.bm m a as) = fun ρ => (ev t F a ρ).bind fun x ρ => if okRec m (frz x) then (evs t F as ρ).bind fun vs ρ => R.of (bmD m (frz x) (frzs vs)) ρ else .no := by (funext ρ; first | (simp only [ev]; done) | (simp only [ev]; rfl))
  unfold ck at h
  split at h
  · rename_i y z ap es p
    obtain ⟨h1, h2⟩ := bf_split h
    obtain ⟨h3, h4⟩ := bf_split h2
    obtain ⟨h5, h6⟩ := bf_split h4
    obtain ⟨h7, h8⟩ := bf_split h6
    obtain ⟨h9, h10⟩ := bf_split h8
    have h1 := of_decide_eq_true h1
    subst h1
    obtain ⟨f1, f2, f3⟩ := bm_fact m
    have st := cks_st h7
    have key : ∀ {v : V} {σ : L2.St} {H1 : Hp} {Q : VK}, tK1 X.K cl O ro W (fun x ρ => if okRec m (frz x) then (evs t F as ρ).bind fun vs ρ => R.of (bmD m (frz x) (frzs vs)) ρ else .no) v σ H1 Q →
        tyV X.K (bmT m) v H1 ∧ tEs X.K cl O ro W (evs t F as) σ H1 fun vs H2 => rBm X.K m v vs H2 Q := fun {v σ H1 Q} q1 => by
      obtain ⟨s, ρ, ts, ws, f, z1, r, g⟩ := q1.frz
      by_cases ho : okRec m (frz s) = true
      · rw [if_pos ho] at g
        have q3 : tK1 X.K cl O ro W (fun x ρ => (evs t F as ρ).bind fun vs ρ => R.of (bmD m (frz x) (frzs vs)) ρ) v σ H1 Q := ⟨.d (frz s), ρ, ts, ws, f, r.push z1, g⟩
        refine ⟨bm_ty ho z1, tEs.mono q3.binds fun vs H2 q4 => ?_⟩
        obtain ⟨s, ss, ρ, ts, ws, f, l, z1, m1, r, g⟩ := q4.frz
        exact bm_ok m r z1 m1 g
      · rw [if_neg ho] at g
        exact g.elim
    cases es with
    | nil =>
      refine PE.imp (pe_bm0 (X := X) (o := y) (apos := ap) (cpos := p) f1 f2 f3 (rBm_ok m) (ha X W O ro _ S h3) (attr_base h5) h10) fun σ H Q q => ?_
      rw [e] at q
      refine tE.mono q.bind fun v H1 q1 => ?_
      obtain ⟨k1, k2⟩ := key q1
      rw [nil_args h7] at k2
      exact ⟨k1, tEs.nil k2⟩
    | cons e0 es =>
      have st2 := st
      rw [List.all_cons, Bool.and_eq_true] at st2
      refine PE.imp (pe_bm (X := X) (o := y) (e := e0) (es := es) (apos := ap) (cpos := p) f1 f2 f3 (rBm_ok m) (ha X W O ro _ S h3) (hs X W O ro _ S h7) (attr_base h5) (few_at st (of_decide_eq_true h9)) h10 (star_cons st2.1) (star_any st2.2)) fun σ H Q q => ?_
      rw [e] at q
      refine tE.mono q.bind fun v H1 q1 => ?_
      exact key q1
  · cases h
theorem s_edk : PEp t F cl .edk := by
  intro X W O ro x S h
  unfold ck at h
  split at h
  · refine PE.imp pe_dnewK fun σ H Q q => ?_
    obtain ⟨ρ, ts, ws, f, r, g⟩ := q
    simp only [ev] at g
    intro p np
    obtain ⟨f', ex, r'⟩ := Rel.newDk (ks := []) (ss := []) (vs := []) (ts := ts) (ws := ws) rfl rfl r np
    exact g _ _ f' ex r'
  · cases h
theorem evs_len : ∀ (as : E) (ρ : Env) (ss : List SV) (ρ1 : Env), evs t F as ρ = .ok ss ρ1 → ss.length = lenE as
  | .nil, ρ, ss, ρ1, h => by
    simp only [evs] at h
    cases h
    rfl
  | .cons e es, ρ, ss, ρ1, h => by
    simp only [evs] at h
    cases e1 : ev t F e ρ with
    | ok s ρ2 =>
      rw [e1] at h
      have h : (evs t F es ρ2).bind (fun vs ρ => R.ok (s :: vs) ρ) = .ok ss ρ1 := h
      cases e2 : evs t F es ρ2 with
      | ok s2 ρ3 =>
        rw [e2] at h
        cases h
        rw [List.length_cons, evs_len es ρ2 s2 _ e2]
        rfl
      | exc x ρ3 => rw [e2] at h; cases h
      | no => rw [e2] at h; cases h
    | exc x ρ3 => rw [e1] at h; cases h
    | no => rw [e1] at h; cases h
  | .var _, _, _, _, h => by simp only [evs] at h; cases h
  | .non, _, _, _, h => by simp only [evs] at h; cases h
  | .bl _, _, _, _, h => by simp only [evs] at h; cases h
  | .int _, _, _, _, h => by simp only [evs] at h; cases h
  | .str _, _, _, _, h => by simp only [evs] at h; cases h
  | .glb _, _, _, _, h => by simp only [evs] at h; cases h
  | .tyn _, _, _, _, h => by simp only [evs] at h; cases h
  | .tup _, _, _, _, h => by simp only [evs] at h; cases h
  | .lst _, _, _, _, h => by simp only [evs] at h; cases h
  | .bin _ _ _, _, _, _, h => by simp only [evs] at h; cases h
  | .neg _, _, _, _, h => by simp only [evs] at h; cases h
  | .not _, _, _, _, h => by simp only [evs] at h; cases h
  | .and _ _, _, _, _, h => by simp only [evs] at h; cases h
  | .or _ _, _, _, _, h => by simp only [evs] at h; cases h
  | .cmp _ _ _, _, _, _, h => by simp only [evs] at h; cases h
  | .chn _ _ _ _ _, _, _, _, h => by simp only [evs] at h; cases h
  | .ife _ _ _, _, _, _, h => by simp only [evs] at h; cases h
  | .idx _ _, _, _, _, h => by simp only [evs] at h; cases h
  | .slc _ _ _, _, _, _, h => by simp only [evs] at h; cases h
  | .stp _ _, _, _, _, h => by simp only [evs] at h; cases h
  | .emp, _, _, _, h => by simp only [evs] at h; cases h
  | .fld _ _, _, _, _, h => by simp only [evs] at h; cases h
  | .call _ _, _, _, _, h => by simp only [evs] at h; cases h
  | .mk _ _, _, _, _, h => by simp only [evs] at h; cases h
  | .blt _ _, _, _, _, h => by simp only [evs] at h; cases h
  | .meth _ _ _, _, _, _, h => by simp only [evs] at h; cases h
  | .bm _ _ _, _, _, _, h => by simp only [evs] at h; cases h
  | .comp _ _ _, _, _, _, h => by simp only [evs] at h; cases h
  | .cmpi _ _ _ _, _, _, _, h => by simp only [evs] at h; cases h
  | .rng _, _, _, _, h => by simp only [evs] at h; cases h
  | .rng2 _ _, _, _, _, h => by simp only [evs] at h; cases h
  | .edk, _, _, _, h => by simp only [evs] at h; cases h
  | .disp _ _, _, _, _, h => by simp only [evs] at h; cases h
  | .dget _ _ _, _, _, _, h => by simp only [evs] at h; cases h
  | .enu _, _, _, _, h => by simp only [evs] at h; cases h
  | .idv _ _, _, _, _, h => by simp only [evs] at h; cases h
  | .bor _, _, _, _, h => by simp only [evs] at h; cases h
  | .take _, _, _, _, h => by simp only [evs] at h; cases h
  | .bad, _, _, _, h => by simp only [evs] at h; cases h
theorem zip_kV : ∀ (ks : List Kx) (vs : List V), (ks.map fun k => kV (kx k)).zip vs = ((ks.map kx).zip vs).map fun kv => (kV kv.1, kv.2)
  | [], _ => rfl
  | _ :: _, [] => rfl
  | k :: ks, v :: vs => by
    show (kV (kx k), v) :: (ks.map fun k => kV (kx k)).zip vs = (kV (kx k), v) :: ((ks.map kx).zip vs).map fun kv => (kV kv.1, kv.2)
    rw [zip_kV ks vs]
theorem merge_new : ∀ (more acc : List (Key × V)), ((acc ++ more).map (·.1)).Nodup → mergeK acc more = acc ++ more
  | [], acc, _ => by rw [List.append_nil]; rfl
  | p :: r, acc, h => by
    have e : putK acc p.1 p.2 = acc ++ [p] := by
      unfold putK
      rw [if_neg]
      intro z
      rw [List.any_eq_true] at z
      obtain ⟨q, hq, hz⟩ := z
      have hz := of_decide_eq_true hz
      rw [List.map_append, List.nodup_append] at h
      exact h.2.2 q.1 (List.mem_map_of_mem hq) p.1 (List.mem_map_of_mem List.mem_cons_self) hz
    show mergeK (putK acc p.1 p.2) r = _
    rw [e, merge_new r (acc ++ [p]) (by rw [List.append_assoc]; exact h), List.append_assoc]
    rfl
theorem nodup_kx : ∀ {ks : List Kx}, ks.Nodup → (ks.map kx).Nodup
  | [], _ => List.nodup_nil
  | k :: ks, h => by
    rw [List.nodup_cons] at h
    rw [List.map_cons, List.nodup_cons]
    refine ⟨fun z => ?_, nodup_kx h.2⟩
    obtain ⟨j, hj, e⟩ := List.mem_map.mp z
    rw [kx_inj e] at hj
    exact h.1 hj
theorem zipK_fst : ∀ {ks : List Kx} {vs : List V}, ks.length = vs.length → (zipK ks vs).map (fun p => p.1) = ks.map kx
  | [], [], _ => rfl
  | [], _ :: _, h => by cases h
  | _ :: _, [], h => by cases h
  | k :: ks, v :: vs, h => by
    show kx k :: (zipK ks vs).map (fun p => p.1) = kx k :: ks.map kx
    rw [zipK_fst (Nat.succ.inj h)]
theorem merge_zip {ks : List Kx} {vs : List V} (h : ks.Nodup) (hl : ks.length = vs.length) : mergeK [] (zipK ks vs) = zipK ks vs := by
  refine merge_new (zipK ks vs) [] ?_
  rw [List.nil_append]
  show ((zipK ks vs).map (fun p => p.1)).Nodup
  rw [zipK_fst hl]
  exact nodup_kx h
theorem key_pe {k : Kx} {ke : Option Expr} (h : ckK1 k ke = true) : ∃ x, ke = some x ∧ PE X x (tC (kV (kx k))) := by
  unfold ckK1 at h
  split at h
  · split at h
    · have h := of_decide_eq_true h
      subst h
      exact ⟨_, rfl, pe_int⟩
    · cases h
  · split at h
    · have h := of_decide_eq_true h
      subst h
      exact ⟨_, rfl, pe_str⟩
    · cases h
theorem ckK_len : ∀ {ks : List Kx} {kes : List (Option Expr)}, ckK ks kes = true → kes.length = ks.length ∧ kes.all (·.isSome) = true
  | [], [], _ => ⟨rfl, rfl⟩
  | [], _ :: _, h => by cases h
  | _ :: _, [], h => by cases h
  | k :: ks, e :: kes, h => by
    obtain ⟨h0, h⟩ := bf_split (show (ckK1 k e && ckK ks kes) = true from h)
    obtain ⟨h1, h2⟩ := ckK_len h
    have h3 : e.isSome = true := by
      unfold ckK1 at h0
      split at h0
      · split at h0
        · rfl
        · cases h0
      · split at h0
        · rfl
        · cases h0
    exact ⟨by rw [List.length_cons, List.length_cons, h1], by rw [List.all_cons, h2, h3]; rfl⟩
theorem cks_len {N : List Str} {sc : Scope} : ∀ {es : E} {xs : List Expr}, cks N es sc xs = true → xs.length = lenE es := by
  intro es
  induction es with
  | nil =>
    intro xs h
    unfold cks at h
    split at h
    · rfl
    · cases h
  | cons e es _ ih =>
    intro xs h
    unfold cks at h
    split at h
    · obtain ⟨_, h⟩ := bf_split h
      obtain ⟨_, h⟩ := bf_split h
      rw [List.length_cons, ih h]
      rfl
    · cases h
  | _ => intro xs h; cases h
theorem k_nil : PKp t F cl .nil := by
  intro X W O ro ks kes xs pos S h1 h2 h3
  have e : ks = [] := by
    cases ks with
    | nil => rfl
    | cons _ _ => cases h2
  subst e
  have e2 : kes = [] := List.eq_nil_of_length_eq_zero (ckK_len h1).1
  subst e2
  have e3 : xs = [] := List.eq_nil_of_length_eq_zero (cks_len h3)
  subst e3
  refine ⟨[], pps_nil, fun σ H Q q => ?_⟩
  have e : evs t F .nil = fun ρ => .ok [] ρ := by (funext ρ; simp only [evs])
  rw [e] at q
  exact tEs.nil q
theorem k_cons {e es : E} (he : PEp t F cl e) (hs : PKp t F cl es) : PKp t F cl (.cons e es) := by
  intro X W O ro ks kes xs pos S h1 h2 h3
  cases ks with
  | nil => cases h2
  | cons k ks =>
    cases kes with
    | nil => cases h1
    | cons ke kes =>
      obtain ⟨h0, h4⟩ := bf_split (show (ckK1 k ke && ckK ks kes) = true from h1)
      obtain ⟨x, rfl, hk⟩ := key_pe (X := X) h0
      unfold cks at h3
      split at h3
      · rename_i y ys
        obtain ⟨h5, h6⟩ := bf_split h3
        obtain ⟨_, h6⟩ := bf_split h6
        obtain ⟨trs, hp, hq⟩ := hs X W O ro ks kes _ pos S h4 (Nat.succ.inj h2) h6
        refine ⟨_, pps_cons hk (he X W O ro _ S h5) hp, fun σ H Q q => ?_⟩
        have e0 : evs t F (.cons e es) = fun ρ => (ev t F e ρ).bind fun v ρ => (evs t F es ρ).bind fun vs ρ => .ok (v :: vs) ρ := by (funext ρ; simp only [evs])
        rw [e0] at q
        exact tE.mono (tEs.cons q) fun v H1 q1 => hq σ H1 _ q1
      · cases h3
theorem s_disp {es : E} (ks : List Kx) (hs : PKp t F cl es) : PEp t F cl (.disp ks es) := by
  intro X W O ro x S h
  by_cases hg : ks.Nodup ∧ ks.length ≤ 15 ∧ ks ≠ [] ∧ lenE es = ks.length
  · unfold ck at h
    split at h
    · rename_i kes ves pos
      obtain ⟨h1, h2⟩ := bf_split h
      obtain ⟨h2, h3⟩ := bf_split h2
      obtain ⟨g1, g2, g3, g4⟩ := hg
      obtain ⟨l1, l2⟩ := ckK_len h1
      have l3 := cks_len h3
      obtain ⟨trs, hp, hq⟩ := hs X W O ro ks kes ves pos S h1 g4 h3
      refine PE.imp (pe_disp hp l2 (by rw [l1, l3, g4]) (fun z => by rw [z] at l1; exact g3 (List.eq_nil_of_length_eq_zero l1.symm)) (by rw [l1]; exact g2)) fun σ H Q q => ?_
      obtain ⟨ρ, ts, ws, f, r, g⟩ := q
      have e : ev t F (.disp ks es) ρ = (evs t F es ρ).bind fun vs ρ => .ok (.dk ks ((frzs vs).map .d)) ρ := by
        simp only [ev]
        rw [if_pos ⟨g1, g2, g3, g4⟩]
      rw [e] at g
      intro p np
      obtain ⟨f1, ex1, r1⟩ := Rel.newDk (ks := []) (ss := []) (vs := []) (ts := ts) (ws := ws) rfl rfl r np
      refine hq σ (upd H p (.dK [])) _ ⟨ρ, .dk [] [] :: ts, .ref p :: ws, f1, r1, ?_⟩
      cases e1 : evs t F es ρ with
      | ok ss ρ2 =>
        rw [e1] at g
        intro vs H2 f2 hl ex2 r2
        obtain ⟨f3, ex3, r3, m⟩ := Rel.freezes hl r2
        have hk : ks.length = vs.length := by rw [← hl, evs_len _ _ _ _ e1, g4]
        obtain ⟨h2, ex4, r4⟩ := Rel.fillDk hk r3 m
        refine ⟨h2, zipK ks vs, zip_kV ks vs, ?_, ?_⟩
        · unfold zipK
          rw [List.length_zip, List.length_map]
          omega
        · rw [merge_zip g1 hk]
          exact g _ _ f3 (Ext.upd ((ex1.trans ex2).trans ex3) np ex4) r4
      | exc y ρ2 =>
        rw [e1] at g
        intro c d H2 f2 ex2 r2 xr
        exact exc_pop (Φ := True) g (ex1.trans ex2) r2 xr
      | no =>
        rw [e1] at g
        exact g
    · cases h
  · refine ⟨fun pins s σ H Q I q => ?_⟩
    obtain ⟨ρ, ts, ws, f, r, g⟩ := q
    have e : ev t F (.disp ks es) ρ = .no := by
      simp only [ev]
      rw [if_neg hg]
    rw [e] at g
    exact g.elim
theorem s_dget {a k d : E} (ha : PEp t F cl a) (hk : PEp t F cl k) (hd : PEp t F cl d) : PEp t F cl (.dget a k d) := by
  intro X W O ro x S h
  unfold ck at h
  split at h
  · rename_i y z ap u w p
    obtain ⟨h1, h⟩ := bf_split h
    obtain ⟨h2, h⟩ := bf_split h
    obtain ⟨h3, h⟩ := bf_split h
    obtain ⟨h4, h⟩ := bf_split h
    obtain ⟨h5, h6⟩ := bf_split h
    obtain ⟨h4, h4s⟩ := bf_split h4
    obtain ⟨h5, h5s⟩ := bf_split h5
    have h1 := of_decide_eq_true h1
    subst h1
    have hst : [u, w].all noSt = true := by simp [h4s, h5s]
    refine PE.imp (pe_dget2 (by have := S.hu; omega) (ha X W O ro _ S h2) (hk X W O ro _ S h4) (hd X W O ro _ S h5) ⟨attr_base h3, few_at hst (Nat.le_of_ble_eq_true rfl), h6, by rw [star_cons h4s, star_cons h5s]; rfl⟩) fun σ H Q q => ?_
    have e : ev t F (.dget a k d) = fun ρ => (ev t F a ρ).bind fun x ρ => (match frz x with
      | .dk ks xs => (ev t F k ρ).bind fun y ρ => (ev t F d ρ).bind fun z ρ => (match kxD (frz y) with
        | some j => .ok (.d ((atK j ks xs).getD (frz z))) ρ
        | none => .no)
      | _ => .no) := by (funext ρ; first | (simp only [ev]; done) | (simp only [ev]; rfl))
    rw [e] at q
    refine tE.mono q.bind fun v H1 q1 => ?_
    obtain ⟨s0, ρ, ts, ws, fp, z1, r, g⟩ := q1.frz
    split at g
    · rename_i ks xs es0
      rw [es0] at z1
      have z2 := z1
      obtain ⟨b, zs, rfl, hb, _, hl, mm⟩ := z1.dkE
      refine ⟨b, rfl, .inl ⟨_, .inl hb⟩, ?_⟩
      have q3 : tK1 X.K cl O ro W (fun x ρ => (ev t F k ρ).bind fun y ρ => (fun x y ρ => (ev t F d ρ).bind fun z ρ => (match frz x with
        | .dk ks xs => (match kxD (frz y) with
          | some j => .ok (.d ((atK j ks xs).getD (frz z))) ρ
          | none => .no)
        | _ => .no)) x y ρ) (.ref b) σ H1 Q := ⟨.d (.dk ks xs), ρ, ts, ws, fp, r.push z2, g⟩
      refine tE.mono q3.bind fun u H2 q4 => tE.mono q4.bind fun w H3 q5 => ?_
      obtain ⟨s1, s2, s3, ρ3, ts3, ws3, f3, y1, y2, y3, r3, g3⟩ := q5.frz
      split at g3
      · rename_i ks xs es1
        rw [es1] at y1
        obtain ⟨b', zs, eb, hb, _, hl, mm⟩ := y1.dkE
        cases eb
        cases hj : kxD (frz s2) with
        | none => rw [hj] at g3; exact g3.elim
        | some j =>
          rw [hj] at g3
          have hu := kxD_rel hj y2
          subst hu
          refine ⟨atK j ks zs, ?_, ?_⟩
          · have := DGet.k (k := kx j) hb
            rw [valV_atK] at this
            exact this
          · cases ha : atK j ks xs with
            | none =>
              have g3 : GE X.K cl O ro W ts3 σ ws3 f3 H3 (.ok (.d ((atK j ks xs).getD (frz s3))) ρ3) Q := g3
              rw [ha] at g3
              rw [atK_rel0 mm ha]
              exact fin_d r3 y3 g3
            | some d0 =>
              have g3 : GE X.K cl O ro W ts3 σ ws3 f3 H3 (.ok (.d ((atK j ks xs).getD (frz s3))) ρ3) Q := g3
              rw [ha] at g3
              obtain ⟨w0, hw, hv⟩ := atK_rel mm ha
              rw [hw]
              exact fin_d r3 hv g3
      · exact g3.elim
    · exact g.elim
  · cases h
theorem ORs.getD {K : PySem.W.Frag} {A : Addr → Prop} {H : Hp} {d : D} : ∀ {xs : List SV} {ws : List V} {f : List Addr} {j : Nat}, ORs K cl A H xs ws f → xs[j]? = some (.d d) → ∃ w, ws[j]? = some w ∧ VR K cl A H d w
  | [], _, _, _, _, h => by simp at h
  | x :: xs, ws, f, 0, r, h => by
    unfold ORs at r
    obtain ⟨w, ws', f1, f2, rfl, _, q, _⟩ := r
    simp at h
    subst h
    unfold OR at q
    exact ⟨w, rfl, q.1⟩
  | x :: xs, ws, f, j + 1, r, h => by
    unfold ORs at r
    obtain ⟨w, ws', f1, f2, rfl, _, _, m⟩ := r
    have h : xs[j]? = some (.d d) := by simpa using h
    obtain ⟨w2, k1, k2⟩ := ORs.getD m h
    exact ⟨w2, by simpa using k1, k2⟩
theorem own_at {K : PySem.W.Frag} {ρ : Env} {ts : List SV} {σ : L2.St} {ws : List V} {f : List Addr} {H : Hp} {i : Nat} {S0 : SV} (r : Rel K cl O ro ρ ts σ ws f H) (e : ρ[i]? = some (some S0)) : ∃ v g, σ[i]? = some (some v) ∧ OR K cl (Av O f) H S0 v g := by
  obtain ⟨fe, ft, ef, c, d, oo, p, q, z⟩ := r
  obtain ⟨v0, g1, g2, g3, e1, e2, o1, up⟩ := OE.at p e
  obtain ⟨w, ew, h⟩ := o1
  subst ew
  exact ⟨w, g2, e1, h⟩
theorem s_idv {e : E} (i : Nat) (he : PEp t F cl e) : PEp t F cl (.idv i e) := by
  intro X W O ro x S h
  unfold ck at h
  split at h
  · obtain ⟨h1, h⟩ := bf_split h
    obtain ⟨h2, h3⟩ := bf_split h
    obtain ⟨h2, h4⟩ := bf_split h2
    obtain ⟨h5, h6⟩ := bf_split h3
    obtain ⟨n1, n2, _⟩ := nmB_ok h4
    refine PE.imp (pe_ix (ix_seq.or (ix_dk (by have := S.hu; omega))) (pe_var (of_decide_eq_true h1) (visB_ok h2) n1 n2) (he X W O ro _ S h5) (plainIx h6)) fun σ H Q q => ?_
    obtain ⟨ρ, ts, ws, f, r, g⟩ := q
    have e0 : ev t F (.idv i e) ρ = (match ρ[i]? with
      | some (some _) => (ev t F e ρ).bind fun y ρ => (match ρ[i]? with
        | some (some s) => (match svIdx s (frz y) with
          | some d => .ok (.d d) ρ
          | none => .no)
        | _ => .no)
      | _ => .no) := by first | (simp only [ev]; done) | (simp only [ev]; rfl)
    rw [e0] at g
    split at g
    · rename_i s0 es0
      obtain ⟨v, g0, e1, q1⟩ := own_at r es0
      refine ⟨v, e1, ?_⟩
      have q2 : tE X.K cl O ro W (fun ρ => (ev t F e ρ).bind fun y ρ => (match ρ[i]? with
        | some (some s) => (match svIdx s (frz y) with
          | some d => .ok (.d d) ρ
          | none => .no)
        | _ => .no)) σ H Q := ⟨ρ, ts, ws, f, r, g⟩
      refine tE.mono q2.bind fun u H2 q3 => ?_
      obtain ⟨s, ρ2, ts2, ws2, f2, z1, r2, g2⟩ := q3.frz
      split at g2
      · rename_i s1 es1
        obtain ⟨v', g1, e1', o1⟩ := own_at r2 es1
        rw [e1] at e1'
        cases e1'
        cases hd : svIdx s1 (frz s) with
        | none => rw [hd] at g2; exact g2.elim
        | some d =>
          rw [hd] at g2
          unfold svIdx at hd
          split at hd
          · rename_i xs k ek
            rw [ek] at z1
            split at hd
            · rename_i d' hat
              cases hd
              unfold OR at o1
              obtain ⟨a, wa, fa, rfl, hH, _, m⟩ := o1
              unfold atI at hat
              obtain ⟨j, hj, hx⟩ := Option.bind_eq_some_iff.mp hat
              obtain ⟨w, hw, hv⟩ := ORs.getD m hx
              rw [z1.intE]
              refine .inl (.inl ⟨a, wa, k, w, rfl, rfl, SqL.of hH, ?_, fin_d r2 hv g2⟩)
              unfold atI
              rw [← m.len, hj]
              exact hw
            · cases hd
          · rename_i x0 y0
            unfold OR at o1
            exact idx_ok hd o1.1 z1 fun w hw => fin_d r2 hw g2
          · cases hd
      · exact g2.elim
    · exact g.elim
  · cases h
theorem VR.flat {K : PySem.W.Frag} {A A' : Addr → Prop} {H H' : Hp} {x : D} {v : V} (h : Kn.flat x = true) (r : VR K cl A H x v) : VR K cl A' H' x v := by
  cases x <;> first | (cases h; done) | (unfold VR at r ⊢; exact r)
theorem Rel.grow {K : PySem.W.Frag} {ρ : Env} {ts : List SV} {σ : L2.St} {ws : List V} {f : List Addr} {H H' : Hp} (r : Rel K cl O ro ρ ts σ ws f H) (h : ∀ a o, H a = some o → H' a = some o) : Rel K cl O ro ρ ts σ ws f H' := by
  have hf := r.has
  obtain ⟨fe, ft, e, c, d, o, p, q, z⟩ := r
  have same : ∀ a ∈ f, H' a = H a := fun a ha => by
    cases e : H a with
    | none => exact absurd e (hf a ha)
    | some u => exact h a u e
  have st : Stp (Av O f) H (Av O f) H' := fun a u q n => ⟨h a u q, n⟩
  refine ⟨fe, ft, e, c, d, fun a ha => ?_, OE.stp st _ _ _ (fun a ha => same a (by rw [e]; exact List.mem_append_left _ ha)) p, ORs.stp st _ _ _ (fun a ha => same a (by rw [e]; exact List.mem_append_right _ ha)) q, z⟩
  cases w : H a with
  | none => exact absurd w (o a ha)
  | some u =>
    rw [h a u w]
    exact fun z => nomatch z
theorem ev_bor {e : E} {ρ : Env} : ev t F (.bor e) ρ = (match ev t F e ρ with
    | .ok (.d x) _ => if Kn.flat x then .ok (.d x) ρ else .no
    | .ok _ _ => .no
    | .exc x ρ' => .exc x ρ'
    | .no => .no) := by first | (simp only [ev]; done) | (simp only [ev]; rfl)
/-- a look at things that stay owned -/
theorem s_bor {e : E} (he : PEp t F cl e) : PEp t F cl (.bor e) := by
  intro X W O ro x S h
  unfold ck at h
  obtain ⟨_, h⟩ := bf_split h
  refine PE.imp (he X W O ro x S h) fun σ H Q q => ?_
  obtain ⟨ρ, ts, ws, f, r, g⟩ := q
  rw [ev_bor] at g
  refine ⟨ρ, ts, ws, f, r, ?_⟩
  cases ee : ev t F e ρ with
  | exc x ρ' => rw [ee] at g; exact g
  | no => rw [ee] at g; exact g
  | ok s ρ' =>
    rw [ee] at g
    cases s with
    | d y =>
      by_cases hf : Kn.flat y = true
      · have g : GE X.K cl O ro W ts σ ws f H (if Kn.flat y = true then .ok (.d y) ρ else .no) Q := g
        rw [if_pos hf] at g
        exact fun v H' f' ex r' => g v H' f ⟨ex.1, fun a h => .inl h⟩ ((r.grow ex.1).push (VR.flat hf r'.top))
      · have g : GE X.K cl O ro W ts σ ws f H (if Kn.flat y = true then .ok (.d y) ρ else .no) Q := g
        rw [if_neg hf] at g
        exact g.elim
    | lst _ => exact False.elim g
    | ins _ _ _ => exact False.elim g
    | dk _ _ => exact False.elim g
theorem tT_bor {K : PySem.W.Frag} {e : E} {σ : L2.St} {H : Hp} {Q : Bool → Hp → Prop} (q : tT cl K O ro W (ev t F (.bor e)) σ H Q) : tT cl K O ro W (ev t F e) σ H Q := by
  obtain ⟨ρ, ts, ws, f, r, g⟩ := q
  rw [ev_bor] at g
  refine ⟨ρ, ts, ws, f, r, ?_⟩
  cases ee : ev t F e ρ with
  | exc x ρ' => rw [ee] at g; exact g
  | no => rw [ee] at g; exact g
  | ok s ρ' =>
    rw [ee] at g
    cases s with
    | d y =>
      have g : GT cl K O ro W ts σ ws f H (if Kn.flat y = true then .ok (.d y) ρ else .no) Q := g
      cases y with
      | bl b => exact fun H' f' ex r' => g H' f ⟨ex.1, fun a h => .inl h⟩ (r.grow ex.1)
      | _ => first | exact False.elim g | (split at g <;> exact False.elim g)
    | lst _ => exact False.elim g
    | ins _ _ _ => exact False.elim g
    | dk _ _ => exact False.elim g
theorem t_bor {e : E} (he : PTp t F cl e) : PTp t F cl (.bor e) := by
  intro X W O ro x S h
  unfold ckt at h
  exact PT.imp (he X W O ro x S h) fun σ H Q q => tT_bor q
theorem w_bor {e : E} (he : PWp t F cl e) : PWp t F cl (.bor e) := by
  intro X W O ro o xs p S h
  unfold ckt at h
  exact PW.imp (he X W O ro o xs p S h) fun σ H Q q => tT_bor q
/-- a slot's thing taken out -/
theorem Rel.take {K : PySem.W.Frag} {ρ : Env} {ts : List SV} {σ : L2.St} {ws : List V} {f : List Addr} {H : Hp} {i : Nat} {s : SV} (r : Rel K cl O ro ρ ts σ ws f H) (e : ρ[i]? = some (some s)) : ∃ v f', σ[i]? = some (some v) ∧ Ext f H f' H ∧ Rel K cl O ro (ρ.set i none) (s :: ts) σ (v :: ws) f' H := by
  obtain ⟨fe, ft, ef, c, d, o, p, q, z⟩ := r
  subst ef
  obtain ⟨v0, g1, g2, g3, e1, e2, o1, up⟩ := OE.at p e
  subst e2
  obtain ⟨w, ew, h⟩ := o1
  subst ew
  have hc : ∀ a, ((g1 ++ ([] ++ g3)) ++ (g2 ++ ft)).count a ≤ ((g1 ++ (g2 ++ g3)) ++ ft).count a := fun a => by simp only [List.count_append, List.count_nil]; omega
  have st : Stp (Av O ((g1 ++ (g2 ++ g3)) ++ ft)) H (Av O ((g1 ++ ([] ++ g3)) ++ (g2 ++ ft))) H := Stp.less fun a h => by
    rw [mem_of_count] at h ⊢
    exact Nat.lt_of_lt_of_le h (hc a)
  have hσ : σ.set i (some w) = σ := by
    apply List.ext_getElem?
    intro j
    by_cases hj : i = j
    · subst hj
      have hl : i < σ.length := (List.getElem?_eq_some_iff.mp e1).1
      rw [List.getElem?_set_self hl, e1]
    · rw [List.getElem?_set_ne hj]
  have oe := up (s' := none) (v' := some w) (g := []) st (fun _ _ => rfl) (fun _ _ => rfl) rfl
  rw [hσ] at oe
  obtain ⟨x, y⟩ := Rel.less (ro := ro) c d o hc oe (ORs.cons (OR.stp st _ _ _ (fun _ _ => rfl) h) (ORs.stp st _ _ _ (fun _ _ => rfl) q)) z
  exact ⟨w, _, e1, x, y⟩
theorem s_take (i : Nat) : PEp t F cl (.take i) := by
  intro X W O ro x S h
  unfold ck at h
  split at h
  · obtain ⟨h1, h2⟩ := bf_split h
    obtain ⟨h2, h3⟩ := bf_split h2
    obtain ⟨h4, h5, _⟩ := nmB_ok h3
    refine PE.imp (pe_var (of_decide_eq_true h1) (visB_ok h2) h4 h5) fun σ H Q q => ?_
    obtain ⟨ρ, ts, ws, f, r, q⟩ := q
    unfold ev at q
    cases e : ρ[i]? with
    | none => rw [e] at q; exact q.elim
    | some o =>
      cases o with
      | none => rw [e] at q; exact q.elim
      | some s =>
        rw [e] at q
        obtain ⟨v, f', e1, ex, r'⟩ := r.take e
        exact ⟨v, e1, q v H f' ex r'⟩
  · cases h
theorem s_meth {a as : E} (m : String) (ha : PEp t F cl a) (hs : PAp t F cl as) : PEp t F cl (.meth m a as) := by
  intro X W O ro x S h
  unfold ck at h
  split at h
  · rename_i y z ap es p
    obtain ⟨h1, h2⟩ := bf_split h
    obtain ⟨h3, h4⟩ := bf_split h2
    obtain ⟨h5, h6⟩ := bf_split h4
    obtain ⟨h7, h8⟩ := bf_split h6
    obtain ⟨h9, h10⟩ := bf_split h8
    have h1 := of_decide_eq_true h1
    subst h1
    refine ⟨fun pins s σ H Q I q => ?_⟩
    have e : ev t F (.meth m a as) = fun ρ => (ev t F a ρ).bind fun x ρ => (match frz x with
      | .ins c ns xs => (match t.meth c m with
        | some q => if ns.contains m then .no else (evs t F as ρ).bind fun vs ρ => ofCr (F q (.d (.ins c ns xs) :: (frzs vs).map .d)) ρ
        | none => .no)
      | _ => .no) := by (funext ρ; first | (simp only [ev]; done) | (simp only [ev]; rfl))
    rw [e] at q
    have st := cks_st h7
    refine methcall_of (ha X W O ro _ S h3) I (tE.mono q.bind fun v H1 q1 => ?_) (meth_eval h5 st (of_decide_eq_true h9) h10)
    obtain ⟨s0, ρ, ts, ws, fp, z1, r, g⟩ := q1.frz
    split at g
    · rename_i c ns xs es0
      rw [es0] at z1
      obtain ⟨b, C, dx, zs, rfl, hc, eb, nb, hl, mm⟩ := z1.insE
      cases hq : t.meth c m with
      | none => simp only [hq] at g; exact g.elim
      | some q0 =>
        simp only [hq] at g
        obtain ⟨k1, g0, k2, fd, ps, k, G, hr, hb⟩ := S.meth c m q0 C hq hc
        by_cases hn : ns.contains m = true
        · rw [if_pos hn] at g
          exact g.elim
        · rw [if_neg hn] at g
          refine ⟨b, C, dx, _, g0, rfl, eb, k1, k2, look_none (by simpa using hn), fun s1 I1 => ?_⟩
          have q3 : tK1 X.K cl O ro W (fun x ρ => (evs t F as ρ).bind fun vs ρ => ofCr (F q0 (.d (frz x) :: (frzs vs).map .d)) ρ) (.ref b) σ H1 Q := ⟨.d (.ins c ns xs), ρ, ts, ws, fp, r.push z1, g⟩
          refine callArgs (first := [.ref b]) k2.kp (hs X W O ro _ S h7) st I1 q3.binds (fun e0 => ?_) fun us s2 vs H2 I2 rv q4 => ?_
          · subst e0
            have q5 := q3.binds
            rw [nil_args h7] at q5
            exact tEs.nil q5
          · obtain ⟨s1, ss, ρ, ts, ws, fp, l, z1, m, r, g⟩ := q4.frz
            exact run_fnSD (E := fun σ c d H => W c d σ H) (vs := .ref b :: vs) G (hr.mono (by omega)) hb .nil (S.pass σ) I2 (.cons rfl rv) (by rw [List.append_nil]; exact call_ok (xs := frz s1 :: frzs ss) rfl r (VRs.cons z1 m) g)
    · exact g.elim
  · cases h
end
end Kn

set_option Elab.async false
set_option linter.all false
set_option maxRecDepth 100000
set_option maxHeartbeats 4000000
/-! Snd3: what is walked; comprehensions. -/
namespace Kn
open PySem L2
section
variable {K : PySem.W.Frag} {cl : String → Option Addr} {O : Addr → Prop} {ro : List (Nat × V)} {W : WX} {ρ : Env} {ts : List SV} {σ : L2.St} {ws : List V} {f f' : List Addr} {H H' : Hp} {s : SV} {v y : V} {x : D} {A A' : Addr → Prop}
theorem Rel.noRo (r : Rel K cl O ro ρ ts σ ws f H) : Rel K cl O [] ρ ts σ ws f H := by
  obtain ⟨fe, ft, e, c, d, o, p, q, z⟩ := r
  exact ⟨fe, ft, e, c, d, o, p, q, fun p h => by cases h⟩
theorem Rel.withRo (r : Rel K cl O [] ρ ts σ ws f H) (h : ∀ p ∈ ro, σ[p.1]? = some (some p.2)) : Rel K cl O ro ρ ts σ ws f H := by
  obtain ⟨fe, ft, e, c, d, o, p, q, z⟩ := r
  exact ⟨fe, ft, e, c, d, o, p, q, h⟩
theorem Rel.roAt (r : Rel K cl O ro ρ ts σ ws f H) : ∀ p ∈ ro, σ[p.1]? = some (some p.2) := by
  obtain ⟨fe, ft, e, c, d, o, p, q, z⟩ := r
  exact z
theorem Rel.ovr {s : Option SV} {v : Option V} {i : Nat} (r : Rel K cl O ro ρ ts σ ws f H) (h : ∀ f', (∀ a ∈ f', a ∈ f) → O1 K cl (Av O f') H s v []) (hr : ∀ p ∈ ro, p.1 ≠ i) : ∃ f', Ext f H f' H ∧ (∀ a ∈ f', a ∈ f) ∧ Rel K cl O ro (ρ.set i s) ts (σ.set i v) ws f' H := by
  by_cases hi : i < ρ.length
  · obtain ⟨fe, ft, e, c, d, o, p, q, z⟩ := r
    subst e
    obtain ⟨v0, g1, g2, g3, e1, e2, o1, up⟩ := OE.at p (List.getElem?_eq_getElem hi)
    subst e2
    have hc : ∀ a, ((g1 ++ ([] ++ g3)) ++ ft).count a ≤ ((g1 ++ (g2 ++ g3)) ++ ft).count a := fun a => by simp only [List.count_append, List.count_nil]; omega
    have sub : ∀ a ∈ (g1 ++ ([] ++ g3)) ++ ft, a ∈ (g1 ++ (g2 ++ g3)) ++ ft := fun a h => by
      rw [mem_of_count] at h ⊢
      exact Nat.lt_of_lt_of_le h (hc a)
    have st : Stp (Av O ((g1 ++ (g2 ++ g3)) ++ ft)) H (Av O ((g1 ++ ([] ++ g3)) ++ ft)) H := Stp.less sub
    obtain ⟨x, y⟩ := Rel.less (ro := ro) c d o hc (up st (fun _ _ => rfl) (fun _ _ => rfl) (h _ sub)) (ORs.stp st _ _ _ (fun _ _ => rfl) q) (fun p hp => by rw [List.getElem?_set_ne (Ne.symm (hr p hp))]; exact z p hp)
    exact ⟨_, x, sub, y⟩
  · have l := r.len
    rw [List.set_eq_of_length_le (by omega), List.set_eq_of_length_le (by omega)]
    exact ⟨f, Ext.refl f H, fun _ h => h, r⟩
theorem Rel.wipe (r : Rel K cl O [] ρ ts σ ws f H) : ∀ vs : List Nat, ∃ f', Ext f H f' H ∧ (∀ a ∈ f', a ∈ f) ∧ Rel K cl O [] (wipeE ρ vs) ts (L2.wipe σ vs) ws f' H
  | [] => ⟨f, Ext.refl f H, fun _ h => h, r⟩
  | v :: vs => by
    obtain ⟨f1, e1, s1, r1⟩ := Rel.wipe r vs
    obtain ⟨f2, e2, s2, r2⟩ := r1.ovr (i := v) (s := none) (v := none) (fun _ _ => rfl) (fun p h => by cases h)
    exact ⟨f2, e1.trans e2, fun a h => s1 a (s2 a h), r2⟩
/-- the slots of σ₀ again -/
def backS (σ₀ σ : L2.St) : List Nat → L2.St
  | [] => σ
  | v :: vs => (backS σ₀ σ vs).set v ((σ₀[v]?).getD none)
theorem backS_len (σ₀ σ : L2.St) : ∀ vs, (backS σ₀ σ vs).length = σ.length
  | [] => rfl
  | v :: vs => by unfold backS; rw [List.length_set, backS_len σ₀ σ vs]
theorem wipe_get (σ : L2.St) : ∀ (vs : List Nat) (j : Nat), (L2.wipe σ vs)[j]? = if j ∈ vs ∧ j < σ.length then some none else σ[j]?
  | [], j => by simp [L2.wipe]
  | v :: vs, j => by
    unfold L2.wipe
    by_cases h : v = j
    · subst h
      by_cases hl : v < σ.length
      · rw [List.getElem?_set_self (by rw [wipe_length]; exact hl), if_pos ⟨List.mem_cons_self, hl⟩]
      · rw [List.getElem?_eq_none (by rw [List.length_set, wipe_length]; omega), if_neg (fun z => hl z.2), List.getElem?_eq_none (by omega)]
    · rw [List.getElem?_set_ne h, wipe_get σ vs j]
      by_cases hj : j ∈ vs ∧ j < σ.length
      · rw [if_pos hj, if_pos ⟨List.mem_cons_of_mem _ hj.1, hj.2⟩]
      · rw [if_neg hj, if_neg]
        rintro ⟨a, b⟩
        rcases List.mem_cons.mp a with a | a
        · exact h a.symm
        · exact hj ⟨a, b⟩
theorem backS_get (σ₀ σ : L2.St) (hl : σ.length = σ₀.length) : ∀ (vs : List Nat) (j : Nat), (backS σ₀ σ vs)[j]? = if j ∈ vs then σ₀[j]? else σ[j]?
  | [], j => by simp [backS]
  | v :: vs, j => by
    unfold backS
    by_cases h : v = j
    · subst h
      rw [if_pos List.mem_cons_self]
      by_cases hv : v < σ₀.length
      · rw [List.getElem?_set_self (by rw [backS_len]; omega), List.getElem?_eq_getElem hv]
        rfl
      · rw [List.getElem?_eq_none (by rw [List.length_set, backS_len]; omega), List.getElem?_eq_none (by omega)]
    · rw [List.getElem?_set_ne h, backS_get σ₀ σ hl vs j]
      by_cases hj : j ∈ vs
      · rw [if_pos hj, if_pos (List.mem_cons_of_mem _ hj)]
      · rw [if_neg hj, if_neg]
        intro a
        rcases List.mem_cons.mp a with a | a
        · exact h a.symm
        · exact hj a
theorem backS_wipe (σ : L2.St) (vs : List Nat) : backS σ (L2.wipe σ vs) vs = σ := by
  apply List.ext_getElem?
  intro j
  rw [backS_get σ _ (wipe_length σ vs)]
  by_cases h : j ∈ vs
  · rw [if_pos h]
  · rw [if_neg h, wipe_get, if_neg (fun z => h z.1)]
theorem wipe_set (σ : L2.St) {vs : List Nat} {i : Nat} {v : Option V} (h : i ∈ vs) : L2.wipe (σ.set i v) vs = L2.wipe σ vs := by
  apply List.ext_getElem?
  intro j
  rw [wipe_get, wipe_get, List.length_set]
  by_cases hj : j ∈ vs ∧ j < σ.length
  · rw [if_pos hj, if_pos hj]
  · rw [if_neg hj, if_neg hj]
    by_cases e : i = j
    · subst e
      have hl : ¬ i < σ.length := fun z => hj ⟨h, z⟩
      rw [List.getElem?_eq_none (by rw [List.length_set]; omega), List.getElem?_eq_none (by omega)]
    · rw [List.getElem?_set_ne e]
theorem O1.less {s : Option SV} {v : Option V} (h : O1 K cl (Av O f) H s v []) (st : ∀ a ∈ f', a ∈ f) : O1 K cl (Av O f') H s v [] := O1.stp (Stp.less st) (fun _ _ => rfl) h
theorem Rel.restore {ρ₁ : Env} {σ₁ : L2.St} (r : Rel K cl O [] ρ ts σ ws f H) : ∀ vs : List Nat, (∀ i ∈ vs, O1 K cl (Av O f) H ((ρ₁[i]?).getD none) ((σ₁[i]?).getD none) []) →
    ∃ f', Ext f H f' H ∧ (∀ a ∈ f', a ∈ f) ∧ Rel K cl O [] (backE ρ₁ ρ vs) ts (backS σ₁ σ vs) ws f' H
  | [], _ => ⟨f, Ext.refl f H, fun _ h => h, r⟩
  | v :: vs, h => by
    obtain ⟨f1, e1, s1, r1⟩ := Rel.restore r vs fun i hi => h i (List.mem_cons_of_mem _ hi)
    obtain ⟨f2, e2, s2, r2⟩ := r1.ovr (i := v) (s := (ρ₁[v]?).getD none) (v := (σ₁[v]?).getD none) (fun g hg => O1.less (h v List.mem_cons_self) fun a m => s1 a (hg a m)) (fun p h => by cases h)
    exact ⟨f2, e1.trans e2, fun a h => s1 a (s2 a h), r2⟩
theorem free_at : ∀ {is : List Nat}, freeAt ρ is = true → Rel K cl O ro ρ ts σ ws f H → ∀ i ∈ is, O1 K cl (Av O f) H ((ρ[i]?).getD none) ((σ[i]?).getD none) []
  | [], _, _ => fun i h => by cases h
  | j :: is, h, r => by
    unfold freeAt at h
    obtain ⟨h1, h2⟩ := bf_split h
    intro i hi
    rcases List.mem_cons.mp hi with rfl | hi
    · split at h1
      · rename_i e
        rw [e]
        exact rfl
      · rename_i x e
        obtain ⟨v, e1, hv⟩ := r.getD e
        rw [e, e1]
        refine ⟨v, rfl, ?_⟩
        unfold OR
        exact ⟨hv, rfl⟩
      · cases h1
    · exact free_at h2 r i hi
/-- data in a slot, whatever stood there -/
theorem Rel.setD {i : Nat} (r : Rel K cl O ro ρ ts σ ws f H) (h : VR K cl (Av O f) H x v) (hr : ∀ p ∈ ro, p.1 ≠ i) : ∃ f', Ext f H f' H ∧ (∀ a ∈ f', a ∈ f) ∧ Rel K cl O ro (ρ.set i (some (.d x))) ts (σ.set i (some v)) ws f' H :=
  r.ovr (fun g hg => ⟨v, rfl, by unfold OR; exact ⟨VR.stp (Stp.less hg) _ _ h, rfl⟩⟩) hr
/-- the list on top gets one more -/
theorem Rel.appT {acc : List SV} {D : Addr} (r : Rel K cl O ro ρ (s :: .lst acc :: ts) σ (y :: .ref D :: ws) f H) :
    ∃ wa f', H D = some (.lst wa) ∧ acc.length = wa.length ∧ ExW f H f' (upd H D (.lst (wa ++ [y]))) ∧ Rel K cl O ro ρ (.lst (acc ++ [s]) :: ts) σ (.ref D :: ws) f' (upd H D (.lst (wa ++ [y]))) := by
  obtain ⟨fe, ft, e, c, d, o, p, q, z⟩ := r
  subst e
  unfold ORs at q
  obtain ⟨w, ws', f1, f2, e, ef, q1, q2⟩ := q
  cases e
  subst ef
  unfold ORs at q2
  obtain ⟨w, ws', f3, f4, e, ef, q3, q4⟩ := q2
  cases e
  subst ef
  unfold OR at q3
  obtain ⟨a, wa, fa, e, hD, ef, q5⟩ := q3
  cases e
  subst ef
  have cD := c D
  simp only [List.count_append, List.count_cons_self] at cD
  have nD : D ∉ fe ∧ D ∉ f1 ∧ D ∉ fa ∧ D ∉ f4 := by
    refine ⟨?_, ?_, ?_, ?_⟩ <;> (intro h; rw [mem_of_count] at h; omega)
  have hm : ∀ a, a ∈ fe ++ ((D :: (fa ++ f1)) ++ f4) ↔ a ∈ fe ++ (f1 ++ ((D :: fa) ++ f4)) := fun a => by
    simp only [List.mem_append, List.mem_cons]
    constructor
    · rintro (h | (h | h | h) | h)
      · exact .inl h
      · exact .inr (.inr (.inl (.inl h)))
      · exact .inr (.inr (.inl (.inr h)))
      · exact .inr (.inl h)
      · exact .inr (.inr (.inr h))
    · rintro (h | h | (h | h) | h)
      · exact .inl h
      · exact .inr (.inl (.inr (.inr h)))
      · exact .inr (.inl (.inl h))
      · exact .inr (.inl (.inr (.inl h)))
      · exact .inr (.inr h)
  have inD : D ∈ fe ++ (f1 ++ ((D :: fa) ++ f4)) := by simp
  have st : Stp (Av O (fe ++ (f1 ++ ((D :: fa) ++ f4)))) H (Av O (fe ++ ((D :: (fa ++ f1)) ++ f4))) (upd H D (.lst (wa ++ [y]))) := fun a u h n => by
    refine ⟨?_, fun m => n (m.imp id (hm a).mp)⟩
    rw [upd_ne fun z => n (.inr (by rw [z]; exact inD))]
    exact h
  have same : ∀ {g : List Addr}, D ∉ g → ∀ a ∈ g, upd H D (.lst (wa ++ [y])) a = H a := fun hg a h => upd_ne fun z => hg (by rw [← z]; exact h)
  refine ⟨wa, fe ++ ((D :: (fa ++ f1)) ++ f4), hD, q5.len, ⟨fun a u h n => ?_, fun a h => .inl ((hm a).mp h)⟩, fe, (D :: (fa ++ f1)) ++ f4, rfl, fun a => ?_, fun a h => d a ((hm a).mp h), fun a h => ?_, OE.stp st _ _ _ (same nD.1) p, ?_, z⟩
  · rw [upd_ne fun z => n (by rw [z]; exact inD)]
    exact h
  · have h1 := c a
    simp only [List.count_append, List.count_cons] at h1 ⊢
    omega
  · by_cases e : a = D
    · rw [e, upd_same]; exact fun z => nomatch z
    · rw [upd_ne e]; exact o a h
  · have j := ORs.join (ORs.stp st _ _ _ (same nD.2.2.1) q5) (ORs.one (OR.stp st _ _ _ (same nD.2.1) q1))
    exact ORs.cons (by unfold OR; exact ⟨D, wa ++ [y], fa ++ f1, rfl, upd_same, rfl, j⟩) (ORs.stp st _ _ _ (same nD.2.2.2) q4)
end
/-! ### what is walked -/
section
variable (K : PySem.W.Frag) (cl : String → Option Addr)
def JD (A : Addr → Prop) (H : Hp) (J : It) (ds : List D) : Prop :=
  (∃ a, J = Itl K a ∧ VR K cl A H (.lst ds) (.ref a)) ∨ (∃ a, J = Itt K a ∧ VR K cl A H (.tup ds) (.ref a)) ∨ (∃ s : List Nat, J = Its (mkS s) ∧ ds = s.map fun c => .str [c]) ∨ (∃ lo hi, J = Itr lo (hi - lo).toNat ∧ ds = rngD lo hi) ∨ ∃ a xs, J = Ite K a ∧ VR K cl A H (.lst xs) (.ref a) ∧ ds = enuL xs 0
end
section
variable {K : PySem.W.Frag} {cl : String → Option Addr} {O : Addr → Prop} {ro : List (Nat × V)} {W : WX} {ρ : Env} {ts : List SV} {σ : L2.St} {ws : List V} {f f' : List Addr} {H H' : Hp} {s : SV} {v y : V} {x : D} {A A' : Addr → Prop} {J : It} {ds : List D}
theorem JD.stp (st : Stp A H A' H') (h : JD K cl A H J ds) : JD K cl A' H' J ds := by
  rcases h with ⟨a, e, h⟩ | ⟨a, e, h⟩ | h | h | ⟨a, xs, e, h, e2⟩
  · exact .inl ⟨a, e, VR.stp st _ _ h⟩
  · exact .inr (.inl ⟨a, e, VR.stp st _ _ h⟩)
  · exact .inr (.inr (.inl h))
  · exact .inr (.inr (.inr (.inl h)))
  · exact .inr (.inr (.inr (.inr ⟨a, xs, e, VR.stp st _ _ h, e2⟩)))
theorem enuL_len : ∀ (xs : List D) (k : Nat), (enuL xs k).length = xs.length
  | [], _ => rfl
  | x :: xs, k => by show (enuL xs (k + 1)).length + 1 = xs.length + 1; rw [enuL_len xs]
theorem enuL_get : ∀ (xs : List D) (k i : Nat), (enuL xs k)[i]? = (xs[i]?).map fun x => .tup [.int ((k + i : Nat) : Int), x]
  | [], _, _ => rfl
  | x :: xs, k, 0 => rfl
  | x :: xs, k, i + 1 => by
    show (enuL xs (k + 1))[i]? = _
    rw [enuL_get xs (k + 1) i, List.getElem?_cons_succ]
    congr 1
    funext y
    rw [show k + 1 + i = k + (i + 1) by omega]
theorem rngD_len (lo hi : Int) : (rngD lo hi).length = (hi - lo).toNat := by unfold rngD; simp
theorem JD.turn0 (h : JD K cl A H J ds) {i : Nat} (hi : i < ds.length) : J.go i H ∧ ∀ x H', J.yld i H x H' → (H' = H ∧ VR K cl A H (ds[i]) x) ∨ ∃ p u n w, H p = none ∧ x = .ref p ∧ H' = upd H p (.tup [.int n, w]) ∧ ds[i] = .tup [.int n, u] ∧ VR K cl A H u w := by
  have e0 : ds[i]? = some ds[i] := List.getElem?_eq_getElem hi
  rcases h with ⟨a, e, h⟩ | ⟨a, e, h⟩ | ⟨s, e, h⟩ | ⟨lo, hi', e, h⟩ | ⟨a, xs, e, h, e2⟩
  · subst e
    obtain ⟨a', ws, e, hq, _, m⟩ := h.lstE
    cases e
    obtain ⟨w, hw, hv⟩ := m.get e0
    refine ⟨⟨ws, w, SqL.of hq, hw⟩, fun x H' hy => .inl ?_⟩
    obtain ⟨rfl, hy⟩ := hy
    have := hy ws (SqL.of hq)
    rw [hw] at this
    cases this
    exact ⟨rfl, hv⟩
  · subst e
    obtain ⟨a', ws, e, hq, _, m⟩ := h.tupE
    cases e
    obtain ⟨w, hw, hv⟩ := m.get e0
    refine ⟨⟨ws, w, SqT.of hq, hw⟩, fun x H' hy => .inl ?_⟩
    obtain ⟨rfl, hy⟩ := hy
    have := hy ws (SqT.of hq)
    rw [hw] at this
    cases this
    exact ⟨rfl, hv⟩
  · subst e
    subst h
    have hs : i < s.length := by simpa using hi
    refine ⟨show i < (mkS s).cps.size by simpa [mkS] using hs, fun x H' hy => .inl ?_⟩
    obtain ⟨rfl, c, hc, rfl⟩ := hy
    refine ⟨rfl, ?_⟩
    have hc' : s[i]? = some c := by simpa [mkS] using hc
    have : (s.map fun c => D.str [c])[i]? = some (D.str [c]) := by rw [List.getElem?_map, hc']; rfl
    rw [e0] at this
    rw [Option.some.inj this]
    exact VR.str
  · subst e
    subst h
    have hs : i < (hi' - lo).toNat := by rw [← rngD_len]; exact hi
    refine ⟨hs, fun x H' hy => .inl ?_⟩
    obtain ⟨rfl, rfl⟩ := hy
    refine ⟨rfl, ?_⟩
    have : (rngD lo hi')[i] = .int (lo + (i : Nat)) := by simp [rngD]
    rw [this]
    exact VR.int
  · subst e
    subst e2
    obtain ⟨a', ws, e, hq, _, m⟩ := h.lstE
    cases e
    have hi2 : i < xs.length := by rw [enuL_len] at hi; exact hi
    have e1 : xs[i]? = some xs[i] := List.getElem?_eq_getElem hi2
    obtain ⟨w, hw, hv⟩ := m.get e1
    refine ⟨⟨ws, w, SqL.of hq, hw⟩, fun x H' hy => .inr ?_⟩
    obtain ⟨p, w', rfl, np, rfl, hy⟩ := hy
    have := hy ws (SqL.of hq)
    rw [hw] at this
    cases this
    refine ⟨p, xs[i], (i : Nat), w, np, rfl, rfl, ?_, hv⟩
    have e3 := enuL_get xs 0 i
    rw [e1, e0] at e3
    have e3 := Option.some.inj e3
    rw [e3, Nat.zero_add]
theorem JD.turn (r : Rel K cl O ro ρ ts σ ws f H) (h : JD K cl (Av O f) H J ds) {i : Nat} (hi : i < ds.length) : J.go i H ∧ ∀ x H', J.yld i H x H' → Ext f H f H' ∧ Rel K cl O ro ρ ts σ ws f H' ∧ JD K cl (Av O f) H' J ds ∧ VR K cl (Av O f) H' (ds[i]) x := by
  obtain ⟨h1, h2⟩ := JD.turn0 h hi
  refine ⟨h1, fun x H' hy => ?_⟩
  rcases h2 x H' hy with ⟨rfl, hv⟩ | ⟨p, u, n, w, np, rfl, rfl, e, hv⟩
  · exact ⟨Ext.refl f H', r, h, hv⟩
  · obtain ⟨e1, r1, n1, st⟩ := r.alloc (o := .tup [.int n, w]) np
    refine ⟨e1, r1, h.stp st, ?_⟩
    rw [e]
    unfold VR
    exact ⟨p, _, rfl, upd_same, n1, VRs.cons VR.int (VRs.cons (VR.stp st _ _ hv) VRs.nil)⟩
theorem JD.stop (h : JD K cl A H J ds) {i : Nat} (hi : ds.length ≤ i) : J.stop i H := by
  rcases h with ⟨a, e, h⟩ | ⟨a, e, h⟩ | ⟨s, e, h⟩ | ⟨lo, hi', e, h⟩ | ⟨a, xs, e, h, e2⟩
  · subst e
    obtain ⟨a', ws, e, hq, _, m⟩ := h.lstE
    cases e
    exact ⟨ws, SqL.of hq, by rw [← m.len]; exact hi⟩
  · subst e
    obtain ⟨a', ws, e, hq, _, m⟩ := h.tupE
    cases e
    exact ⟨ws, SqT.of hq, by rw [← m.len]; exact hi⟩
  · subst e
    subst h
    show (mkS s).cps.size ≤ i
    simpa [mkS] using hi
  · subst e
    subst h
    show (hi' - lo).toNat ≤ i
    rw [← rngD_len]
    exact hi
  · subst e
    subst e2
    obtain ⟨a', ws, e, hq, _, m⟩ := h.lstE
    cases e
    exact ⟨ws, SqL.of hq, by rw [← m.len, ← enuL_len xs 0]; exact hi⟩
end
section
variable (t : T) (F : String → List SV → Cr) (cl : String → Option Addr)
def GI (K : PySem.W.Frag) (O : Addr → Prop) (ro : List (Nat × V)) (W : WX) (ts : List SV) (σ : L2.St) (ws : List V) (f : List Addr) (H : Hp) (r : R (List D)) (Q : It → Hp → Prop) : Prop := match r with
  | .ok ds ρ' => ∀ J H' f', Ext f H f' H' → Rel K cl O ro ρ' ts σ ws f' H' → JD K cl (Av O f') H' J ds → Q J H'
  | .exc x ρ' => ∀ c d H' f', Ext f H f' H' → Rel K cl O ro ρ' ts σ ws f' H' → XR K cl (Av O f') H' x c d → W c d σ H'
  | .no => False
def tI (K : PySem.W.Frag) (O : Addr → Prop) (ro : List (Nat × V)) (W : WX) (g : Env → R (List D)) : TI := fun σ H R => ∃ ρ ts ws f, Rel K cl O ro ρ ts σ ws f H ∧ GI cl K O ro W ts σ ws f H (g ρ) R
def PIp (e : E) : Prop := ∀ (X : Cx) (W : WX) (O : Addr → Prop) (ro : List (Nat × V)) (x tg : Expr), Sd X t F cl W → ck X.N e true X.env.scope x = true → enuOk e tg = true → PI X tg x (tI cl X.K O ro W (evi t F e))
end
section
variable {t : T} {F : String → List SV → Cr} {cl : String → Option Addr} {X : Cx} {W : WX} {O : Addr → Prop} {ro : List (Nat × V)} {x tg : Expr}
def iAny (K : PySem.W.Frag) (te : TE) : TI := fun σ H R => te σ H fun x H1 => (∃ a, x = .ref a ∧ (∃ xs, SqL K H1 a xs) ∧ R (Itl K a) H1) ∨ (∃ a, x = .ref a ∧ (∃ xs, SqT K H1 a xs) ∧ R (Itt K a) H1) ∨ ∃ y, x = .str y ∧ R (Its y) H1
theorem PI.imp {u u' : TI} (h : PI X tg x u) (k : ∀ σ H R, u' σ H R → u σ H R) : PI X tg x u' := ⟨fun pins s σ H R I q => h.run pins s σ H R I (k σ H R q)⟩
theorem pi_any {te : TE} (he : PE X x te) : PI X tg x (iAny X.K te) := by
  refine ⟨fun pins s σ H R I h => ?_⟩
  refine thn (he.run pins s σ H _ I h) fun v s1 ⟨y, H1, I1, r1, h⟩ => ?_
  rcases h with ⟨a, e, ⟨xs, hq⟩, q⟩ | ⟨a, e, ⟨xs, hq⟩, q⟩ | ⟨z, e, q⟩
  · subst e
    cases r1
    obtain ⟨its, rv, p, hz⟩ := I1.list hq
    exact wpAny_pyIter_list p.isList (pi_one (tk := s1.toks) I1 _ (turn_list a _) ⟨_, Heap.get?_push_size _ rfl, rfl, rfl⟩ q)
  · subst e
    cases r1
    obtain ⟨its, rv, p, hz⟩ := I1.tuple hq
    exact wpAny_pyIter_tuple (show s1.heap.IsTuple a its.toArray from p) (pi_one (tk := s1.toks) I1 _ (turn_tuple a _) ⟨_, Heap.get?_push_size _ rfl, rfl, rfl⟩ q)
  · subst e
    obtain ⟨t, rfl⟩ := r1
    cases ha : z.cps.all (· < 128)
    · exact wpAny_pyIter_wide ha (pi_one (tk := s1.toks) I1 _ (turn_str _ z t "str_iterator" (.inr rfl)) ⟨_, Heap.get?_push_size _ rfl, rfl, rfl⟩ q)
    · exact wpAny_pyIter_ascii ha (pi_one (tk := s1.toks) I1 _ (turn_str _ z t "str_ascii_iterator" (.inl rfl)) ⟨_, Heap.get?_push_size _ rfl, rfl, rfl⟩ q)
theorem i_of {e : E} (he : PEp t F cl e) (hb : ∀ N sc x, ck N e true sc x = true → ck N e false sc x = true) : PIp t F cl e := by
  intro X W O ro x tg S h hen
  refine PI.imp (pi_any (he X W O ro x S (hb _ _ _ h))) fun σ H R q => ?_
  obtain ⟨ρ, ts, ws, f, r, q⟩ := q
  refine ⟨ρ, ts, ws, f, r, ?_⟩
  unfold evi at q
  cases e0 : ev t F e ρ with
  | ok s ρ' =>
    rw [e0] at q
    intro v H' f' ex r'
    obtain ⟨f2, ex2, r2⟩ := r'.freeze
    have hv := r2.top
    obtain ⟨f3, ex3, r3⟩ := r2.pop
    have hv3 : VR X.K cl (Av O f3) H' (Kn.frz s) v := VR.stp (Stp.ext ex3 (fun _ h => h) fun a h => .inl h) _ _ hv
    have q : GI cl X.K O ro W ts σ ws f H (Kn.R.of (itemsD (Kn.frz s)) ρ') R := q
    have ex' := (ex.trans ex2).trans ex3
    cases hs : itemsD (Kn.frz s) with
    | none => rw [hs] at q; exact q.elim
    | some ds =>
      rw [hs] at q
      unfold itemsD at hs
      split at hs
      · rename_i xs es
        cases hs
        rw [es] at hv3
        have hv4 := hv3
        obtain ⟨a, ws', rfl, hq, _, m⟩ := hv3.lstE
        exact .inl ⟨a, rfl, ⟨ws', SqL.of hq⟩, q _ H' f3 ex' r3 (.inl ⟨a, rfl, hv4⟩)⟩
      · rename_i xs es
        cases hs
        rw [es] at hv3
        have hv4 := hv3
        obtain ⟨a, ws', rfl, hq, _, m⟩ := hv3.tupE
        exact .inr (.inl ⟨a, rfl, ⟨ws', SqT.of hq⟩, q _ H' f3 ex' r3 (.inr (.inl ⟨a, rfl, hv4⟩))⟩)
      · rename_i xs es
        cases hs
        rw [es] at hv3
        exact .inr (.inr ⟨_, hv3.strE, q _ H' f3 ex' r3 (.inr (.inr (.inl ⟨xs, rfl, rfl⟩)))⟩)
      · cases hs
  | exc y ρ' => rw [e0] at q; exact q
  | no => rw [e0] at q; exact q
theorem VRs.one {K : PySem.W.Frag} {A : Addr → Prop} {H : Hp} {x : D} {vs : List V} (m : VRs K cl A H [x] vs) : ∃ v, vs = [v] ∧ VR K cl A H x v := by
  unfold VRs at m
  obtain ⟨w, ws', rfl, q, m⟩ := m
  unfold VRs at m
  subst m
  exact ⟨w, rfl, q⟩
theorem i_rng {a : E} (ha : PEp t F cl a) : PIp t F cl (.rng a) := by
  intro X W O ro x tg S h hen
  unfold ck at h
  split at h
  · obtain ⟨h1, h2⟩ := bf_split h
    obtain ⟨h2, h3⟩ := bf_split h2
    unfold gnB at h1
    obtain ⟨h4, h5⟩ := bf_split h1
    obtain ⟨h5, h6⟩ := bf_split h5
    have h4 := of_decide_eq_true h4
    subst h4
    refine PI.imp (pi_range1 (glB_ok h5) S.rng (pa_cons (ha X W O ro _ S h2) pa_nil (star_cons h3)) (by rw [star_cons h3]; rfl)) fun σ H R q => ?_
    obtain ⟨ρ, ts, ws, f, r, q⟩ := q
    refine ⟨ρ, ts, ws, f, r, ?_⟩
    have e0 : evi t F (.rng a) ρ = (ev t F a ρ).bind fun x ρ => (match Kn.frz x with
      | .int j => if -1000000000000 < j ∧ j < 1000000000000 then .ok (rngD 0 j) ρ else .no
      | _ => .no) := by
      unfold evi
      simp only [ev]
      cases ev t F a ρ with
      | ok s ρ' =>
        simp only [Kn.R.bind]
        cases Kn.frz s with
        | int j =>
          by_cases hj : -1000000000000 < j ∧ j < 1000000000000
          · simp only [if_pos hj]
            rfl
          · simp only [if_neg hj]
        | _ => rfl
      | exc y ρ' => rfl
      | no => rfl
    rw [e0] at q
    cases e1 : ev t F a ρ with
    | ok s ρ' =>
      rw [e1] at q
      intro v H' f' ex r'
      obtain ⟨f2, ex2, r2⟩ := r'.freeze
      have hv := r2.top
      obtain ⟨f3, ex3, r3⟩ := r2.pop
      have ex' := (ex.trans ex2).trans ex3
      have q : GI cl X.K O ro W ts σ ws f H (match Kn.frz s with
        | .int j => if -1000000000000 < j ∧ j < 1000000000000 then .ok (rngD 0 j) ρ' else .no
        | _ => .no) R := q
      split at q
      · rename_i j ej
        split at q
        · rename_i hj
          rw [ej] at hv
          refine ⟨j, by rw [hv.intE], by omega, by omega, ?_⟩
          have := q (Itr 0 (j - 0).toNat) H' f3 ex' r3 (.inr (.inr (.inr (.inl ⟨0, j, rfl, rfl⟩))))
          simpa using this
        · exact q.elim
      · exact q.elim
    | exc y ρ' => rw [e1] at q; exact q
    | no => rw [e1] at q; exact q
  · cases h
theorem i_enu {a : E} (ha : PEp t F cl a) : PIp t F cl (.enu a) := by
  intro X W O ro x tg S h hen
  unfold ck at h
  split at h
  · obtain ⟨h1, h2⟩ := bf_split h
    obtain ⟨h2, h3⟩ := bf_split h2
    unfold gnB at h1
    obtain ⟨h4, h5⟩ := bf_split h1
    obtain ⟨h5, h6⟩ := bf_split h5
    have h4 := of_decide_eq_true h4
    subst h4
    unfold enuOk at hen
    dsimp only at hen
    split at hen
    · refine PI.imp (pi_enum (glB_ok h5) S.enm (pa_cons (ha X W O ro _ S h2) pa_nil (star_cons h3)) (by rw [star_cons h3]; rfl)) fun σ H R q => ?_
      obtain ⟨ρ, ts, ws, f, r, q⟩ := q
      refine ⟨ρ, ts, ws, f, r, ?_⟩
      have e0 : evi t F (.enu a) ρ = (ev t F a ρ).bind fun x ρ => (match Kn.frz x with
        | .lst xs => .ok (enuL xs 0) ρ
        | _ => .no) := by
        unfold evi
        simp only [ev]
        cases ev t F a ρ with
        | ok s ρ' =>
          simp only [Kn.R.bind]
          cases Kn.frz s with
          | lst xs => rfl
          | _ => rfl
        | exc y ρ' => rfl
        | no => rfl
      rw [e0] at q
      cases e1 : ev t F a ρ with
      | ok s ρ' =>
        rw [e1] at q
        intro v H' f' ex r'
        obtain ⟨f2, ex2, r2⟩ := r'.freeze
        have hv := r2.top
        obtain ⟨f3, ex3, r3⟩ := r2.pop
        have ex' := (ex.trans ex2).trans ex3
        have hv3 : VR X.K cl (Av O f3) H' (Kn.frz s) v := VR.stp (Stp.ext ex3 (fun _ h => h) fun a h => .inl h) _ _ hv
        have q : GI cl X.K O ro W ts σ ws f H (match Kn.frz s with
          | .lst xs => .ok (enuL xs 0) ρ'
          | _ => .no) R := q
        split at q
        · rename_i xs ej
          rw [ej] at hv3
          have hv4 := hv3
          obtain ⟨a0, ws', rfl, hq, _, m⟩ := hv3.lstE
          exact ⟨a0, ws', rfl, SqL.of hq, q _ H' f3 ex' r3 (.inr (.inr (.inr (.inr ⟨a0, xs, rfl, hv4, rfl⟩))))⟩
        · exact q.elim
      | exc y ρ' => rw [e1] at q; exact q
      | no => rw [e1] at q; exact q
    · cases hen
  · cases h
end
end Kn

set_option Elab.async false
set_option linter.all false
set_option maxRecDepth 100000
set_option maxHeartbeats 4000000
/-! Snd4: targets, comprehensions, all expressions. -/
namespace Kn
open PySem L2
def gsOf : List Nat → TGs
  | [] => gNil
  | i :: is => gCons (gName i) (gsOf is)
def gOf (K : PySem.W.Frag) : Tg → TG
  | .nm i => gName i
  | .tp is => gTup K is.length (gsOf is)
theorem assign_names {N : List Str} {sc : Scope} {env : PySem.Env} : ∀ {is : List Nat} {xs : List Expr}, ckN N sc is xs = true → (assignEach xs env).length = is.length ∧ (assignEach xs env).findIdx? (·.1) = none
  | [], [], _ => ⟨rfl, rfl⟩
  | i :: is, .Name x p :: xs, h => by
    unfold ckN at h
    obtain ⟨_, h⟩ := bf_split h
    obtain ⟨_, h⟩ := bf_split h
    obtain ⟨h1, h2⟩ := assign_names (env := env) h
    refine ⟨?_, ?_⟩
    · show (assignEach xs env).length + 1 = is.length + 1
      rw [h1]
    · show ((false, assign (.Name x p) env) :: assignEach xs env).findIdx? (·.1) = none
      rw [List.findIdx?_cons]
      simp [h2]
  | [], _ :: _, h => by unfold ckN at h; cases h
  | _ :: _, [], h => by unfold ckN at h; cases h
section
variable {t : T} {F : String → List SV → Cr} {cl : String → Option Addr} {X : Cx} {W : WX} {O : Addr → Prop} {ro : List (Nat × V)} {x tg : Expr}
def LocF (X : Cx) (x : Str) : Prop := L2.Loc X.env.scope x ∧ (X.fn x = true ∨ X.env.scope.names.lookup x = some .local)
theorem pgs_of {sc : Scope} (hN : X.N.Nodup) (hl : ∀ x, locB sc x = true → LocF X x) : ∀ {is : List Nat} {xs : List Expr}, ckN X.N sc is xs = true → PGs X xs (gsOf is)
  | [], [], _ => pgs_nil
  | i :: is, .Name x p :: xs, h => by
    unfold ckN at h
    obtain ⟨h1, h⟩ := bf_split h
    obtain ⟨h2, h⟩ := bf_split h
    exact pgs_cons (pg_name hN (of_decide_eq_true h1) (hl x h2).1 (hl x h2).2) (pgs_of hN hl h)
  | [], _ :: _, h => by unfold ckN at h; cases h
  | _ :: _, [], h => by unfold ckN at h; cases h
theorem pg_of {sc : Scope} {g : Tg} (hc : X.calm = true) (hN : X.N.Nodup) (hl : ∀ x, locB sc x = true → LocF X x) (h : ckG X.N sc g tg = true) : PG X tg (gOf X.K g) := by
  unfold ckG at h
  split at h
  · obtain ⟨h1, h2⟩ := bf_split h
    exact pg_name hN (of_decide_eq_true h1) (hl _ h2).1 (hl _ h2).2
  · obtain ⟨h1, h2⟩ := bf_split h
    obtain ⟨a1, a2⟩ := assign_names (env := X.env) h1
    exact pg_tup hc (pgs_of hN hl h1) a1 a2
  · cases h
theorem gs_ok {K : PySem.W.Frag} : ∀ {is : List Nat} {xs : List D} {vs : List V} {ρ : Env} {ts : List SV} {σ : L2.St} {ws : List V} {f : List Addr} {H : Hp} {Q : L2.St → Hp → Prop}, is.length = xs.length → Rel K cl O ro ρ ts σ ws f H → VRs K cl (Av O f) H xs vs → (∀ p ∈ ro, p.1 ∉ is) →
    (∀ σ2 f', Ext f H f' H → Rel K cl O ro ((is.zip xs).foldl (fun ρ p => ρ.set p.1 (some (.d p.2))) ρ) ts σ2 ws f' H → (∀ vs, (∀ i ∈ is, i ∈ vs) → wipe σ2 vs = wipe σ vs) → Q σ2 H) → gsOf is vs σ H Q
  | [], [], vs, ρ, ts, σ, ws, f, H, Q, _, r, m, _, k => by
    unfold VRs at m
    subst m
    exact ⟨rfl, k σ f (Ext.refl f H) r fun _ _ => rfl⟩
  | i :: is, x :: xs, vs, ρ, ts, σ, ws, f, H, Q, hl, r, m, hr, k => by
    unfold VRs at m
    obtain ⟨w, ws', rfl, q, m⟩ := m
    obtain ⟨f1, e1, s1, r1⟩ := r.setD (i := i) q fun p hp z => hr p hp (by rw [z]; exact List.mem_cons_self)
    refine ⟨w, ws', rfl, ?_⟩
    refine gs_ok (by simpa using hl) r1 (VRs.stp (Stp.less s1) _ _ m) (fun p hp z => hr p hp (List.mem_cons_of_mem _ z)) fun σ2 f2 e2 r2 hw => ?_
    refine k σ2 f2 (e1.trans e2) r2 fun vs hvs => ?_
    rw [hw vs fun j hj => hvs j (List.mem_cons_of_mem _ hj), wipe_set σ (hvs i List.mem_cons_self)]
  | [], _ :: _, _, _, _, _, _, _, _, _, hl, _, _, _, _ => by cases hl
  | _ :: _, [], _, _, _, _, _, _, _, _, hl, _, _, _, _ => by cases hl
theorem g_ok {K : PySem.W.Frag} {g : Tg} {d : D} {v : V} {ρ ρ2 : Env} {ts : List SV} {σ : L2.St} {ws : List V} {f : List Addr} {H : Hp} {Q : L2.St → Hp → Prop} (r : Rel K cl O ro ρ ts σ ws f H) (hv : VR K cl (Av O f) H d v) (hr : ∀ p ∈ ro, p.1 ∉ slotsT g) (hb : bindT g d ρ = some ρ2)
    (k : ∀ σ2 f', Ext f H f' H → Rel K cl O ro ρ2 ts σ2 ws f' H → wipe σ2 (slotsT g) = wipe σ (slotsT g) → Q σ2 H) : gOf K g v σ H Q := by
  unfold bindT at hb
  split at hb
  · rename_i i
    cases hb
    obtain ⟨f1, e1, s1, r1⟩ := r.setD (i := i) hv fun p hp z => hr p hp (by rw [z]; exact List.mem_cons_self)
    exact k _ f1 e1 r1 (wipe_set σ List.mem_cons_self)
  · rename_i is xs
    split at hb
    · rename_i hl
      cases hb
      obtain ⟨a, ws', rfl, hq, _, m⟩ := hv.tupE
      exact ⟨a, ws', rfl, SqT.of hq, by rw [← m.len, hl], gs_ok hl r m hr fun σ2 f' e r' hw => k σ2 f' e r' (hw _ fun i hi => hi)⟩
    · cases hb
  · cases hb
/-! ### comprehensions -/
theorem wipe_wipe (σ : L2.St) (vs : List Nat) : wipe (wipe σ vs) vs = wipe σ vs := by
  apply List.ext_getElem?
  intro j
  rw [wipe_get, wipe_length, wipe_get]
  by_cases hj : j ∈ vs ∧ j < σ.length
  · rw [if_pos hj, if_pos hj]
  · rw [if_neg hj]
/-- a turn's outcome -/
def tO (K : PySem.W.Frag) (cl : String → Option Addr) (O : Addr → Prop) (g : Env → R (Option SV)) (σ : L2.St) (H : Hp) (Y : VK) (N : Hp → Prop) : Prop := ∃ ρ ts ws f, Rel K cl O [] ρ ts σ ws f H ∧ (match g ρ with
  | .ok (some s) ρ' => ∀ y H' f', Ext f H f' H' → Rel K cl O [] ρ' (s :: ts) σ (y :: ws) f' H' → Y y H'
  | .ok none ρ' => ∀ H' f', Ext f H f' H' → Rel K cl O [] ρ' ts σ ws f' H' → N H'
  | _ => False)
theorem own_map {N : List Str} {g : Tg} : (ownT N g).map (·.2) = slotsT g := by
  unfold ownT
  rw [List.map_map]
  exact List.map_id' _
theorem lc_ok {K : PySem.W.Frag} {g : Tg} {stepF : Env → R (Option SV)} {gi : Env → R (List D)} {tt : TT} {te : TE} {σ : L2.St} {H : Hp} {Q : VK}
    (hstep : ∀ σ2 H2 Y N, tO K cl O stepF σ2 H2 Y N → tt σ2 H2 fun b H3 => if b = true then te σ2 H3 Y else N H3)
    (h : tE K cl O ro W (fun ρ => (gi ρ).bind fun ds ρ => if freeAt ρ (slotsT g) then
      (compL (fun d ρ' => match bindT g d (wipeE ρ' (slotsT g)) with
        | some ρ₂ => stepF ρ₂
        | none => .no) ds ρ []).bind fun vs ρ' => .ok (.lst vs) (backE ρ (wipeE ρ' (slotsT g)) (slotsT g))
      else .no) σ H Q) : tLc (tI cl K O ro W gi) (gOf K g) tt te (slotsT g) σ H Q := by
  obtain ⟨ρ, ts, ws, f, r, q⟩ := h
  dsimp only at q
  refine ⟨ρ, ts, ws, f, r, ?_⟩
  cases e : gi ρ with
  | exc x ρ' => rw [e] at q; exact q
  | no => rw [e] at q; exact q
  | ok ds ρ1 =>
    rw [e] at q
    have q : GE K cl O ro W ts σ ws f H (if freeAt ρ1 (slotsT g) then
      (compL (fun d ρ' => match bindT g d (wipeE ρ' (slotsT g)) with
        | some ρ₂ => stepF ρ₂
        | none => .no) ds ρ1 []).bind fun vs ρ' => .ok (.lst vs) (backE ρ1 (wipeE ρ' (slotsT g)) (slotsT g))
      else .no) Q := q
    generalize hst : (fun d ρ' => match bindT g d (wipeE ρ' (slotsT g)) with
        | some ρ₂ => stepF ρ₂
        | none => .no) = step at q
    by_cases hf : freeAt ρ1 (slotsT g) = true
    · rw [if_pos hf] at q
      generalize hrr : compL step ds ρ1 [] = rr at q
      intro J H1 f1 ex1 r1 j1
      intro D nD
      obtain ⟨fw, ew, sw, rw1⟩ := r1.noRo.wipe (slotsT g)
      obtain ⟨fl, el, rl⟩ := Rel.newLst (ss := []) (vs := []) (ts := ts) (ws := ws) rfl rw1 nD
      have st1 : Stp (Av O f1) H1 (Av O fl) (upd H1 D (.lst [])) := fun a u h n => by
        obtain ⟨h2, h3⟩ := (Stp.less (O := O) (H := H1) sw) a u h n
        refine ⟨el.1 a u h2, fun m => ?_⟩
        rcases m with m | m
        · exact h3 (.inl m)
        · rcases el.2 a m with z | z
          · exact h3 (.inr z)
          · rw [h2] at z; cases z
      refine ⟨fun i m H' => m = ds.length - i ∧ i ≤ ds.length ∧ ∃ ρi acc fi, Ext f1 H1 fi H' ∧ Rel K cl O [] (wipeE ρi (slotsT g)) (.lst acc :: ts) (wipe σ (slotsT g)) (.ref D :: ws) fi H' ∧ compL step (ds.drop i) ρi acc = rr ∧ JD K cl (Av O fi) H' J ds,
        ⟨ds.length, by simp, Nat.zero_le _, ρ1, [], fl, ew.trans el, rl, hrr, j1.stp st1⟩, ?_⟩
      rintro i m H2 ⟨rfl, hi, ρi, acc, fi, exi, ri, hc, ji⟩
      by_cases hlt : i < ds.length
      · refine .inr ⟨(ji.turn ri hlt).1, fun H' => ∃ ρi acc fi, Ext f1 H1 fi H' ∧ Rel K cl O [] (wipeE ρi (slotsT g)) (.lst acc :: ts) (wipe σ (slotsT g)) (.ref D :: ws) fi H' ∧ compL step (ds.drop (i + 1)) ρi acc = rr ∧ JD K cl (Av O fi) H' J ds,
          fun H' p => ⟨ds.length - (i + 1), by omega, rfl, hlt, p⟩, fun x H' hy => ?_⟩
        obtain ⟨ext, rit, jit, hv⟩ := (ji.turn ri hlt).2 x H' hy
        have exi := exi.trans ext
        have ri := rit
        have ji := jit
        rw [List.drop_eq_getElem_cons hlt] at hc
        unfold compL at hc
        have hs0 : step ds[i] ρi = match bindT g ds[i] (wipeE ρi (slotsT g)) with
          | some ρ₂ => stepF ρ₂
          | none => .no := by rw [← hst]
        cases hb : bindT g ds[i] (wipeE ρi (slotsT g)) with
        | none =>
          rw [hb] at hs0
          rw [hs0] at hc
          rw [← hc] at q
          exact q.elim
        | some ρ2 =>
          rw [hb] at hs0
          have hs0 : step ds[i] ρi = stepF ρ2 := hs0
          refine g_ok ri hv (fun p hp => by cases hp) hb fun σ2 f2 ex2 r2 hw => ⟨by rw [hw, wipe_wipe], ?_⟩
          have hw2 : wipe σ2 (slotsT g) = wipe σ (slotsT g) := by rw [hw, wipe_wipe]
          refine hstep σ2 _ _ _ ⟨ρ2, _, _, f2, r2, ?_⟩
          cases hs : stepF ρ2 with
          | no => rw [hs0, hs] at hc; rw [← hc] at q; exact q.elim
          | exc _ _ => rw [hs0, hs] at hc; rw [← hc] at q; exact q.elim
          | ok o ρ3 =>
            rw [hs0, hs] at hc
            cases o with
            | none =>
              intro H3 f3 ex3 r3
              obtain ⟨f4, e4, s4, r4⟩ := r3.wipe (slotsT g)
              rw [hw2] at r4
              have exx := (ex2.trans ex3).trans e4
              exact ⟨ρ3, acc, f4, exi.trans exx, r4, hc, ji.stp (Stp.ext exx (fun _ h => h) fun a h => .inl h)⟩
            | some s =>
              have hc : (if acc.length < lim then compL step (ds.drop (i + 1)) ρ3 (acc ++ [s]) else .no) = rr := hc
              by_cases hl : acc.length < lim
              · rw [if_pos hl] at hc
                intro y H3 f3 ex3 r3
                obtain ⟨wa, f4, h4, hl4, ex4, r4⟩ := r3.appT
                obtain ⟨f5, e5, s5, r5⟩ := r4.wipe (slotsT g)
                rw [hw2] at r5
                have exx := ((ex2.trans ex3).w.trans ex4).trans e5.w
                exact ⟨wa, h4, by rw [← hl4]; exact Nat.lt_of_lt_of_le hl (by decide), ρ3, acc ++ [s], f5, (Ext.upd (exi.trans (ex2.trans ex3)) nD ex4).trans e5, r5, hc, ji.stp (Stp.extW exx (fun _ h => h) fun a h => .inl h)⟩
              · rw [if_neg hl] at hc
                rw [← hc] at q
                exact q.elim
      · have ei : i = ds.length := by omega
        subst ei
        rw [List.drop_length] at hc
        have hc : Kn.R.ok acc ρi = rr := hc
        rw [← hc] at q
        have q : GE K cl O ro W ts σ ws f H (.ok (.lst acc) (backE ρ1 (wipeE ρi (slotsT g)) (slotsT g))) Q := q
        refine .inl ⟨ji.stop (Nat.le_refl _), ?_⟩
        have fr := free_at hf r1
        have st2 : Stp (Av O f1) H1 (Av O fi) H2 := Stp.ext exi (fun _ h => h) fun a h => .inl h
        obtain ⟨f6, e6, s6, r6⟩ := ri.restore (ρ₁ := ρ1) (σ₁ := σ) (slotsT g) fun k hk => O1.stp st2 (fun _ h => by cases h) (fr k hk)
        rw [backS_wipe] at r6
        exact q _ H2 f6 ((ex1.trans exi).trans e6) (r6.withRo r1.roAt)
    · rw [if_neg hf] at q
      exact q.elim
theorem Sd.blk (S : Sd X t F cl W) (s : Shared) (H : Hp) (scope : Scope) (cenv : PySem.Env) (fp : List Addr) : Sd (X.blk s H scope cenv fp) t F cl (fun _ _ _ _ => False) where
  calm := S.calm
  nd := S.nd
  hu := S.hu
  glob := S.glob
  blt := S.blt
  tyn := S.tyn
  rng := S.rng
  enm := S.enm
  isa := S.isa
  fn := S.fn
  meth := S.meth
  init := S.init
  fld := S.fld
  isx := S.isx
  xcl := S.xcl
  xmk := S.xmk
  xroom := S.xroom
  takes := fun u s' h => by
    obtain ⟨_, _, _, _, _, _, _, _, _, _, _, _, _, _, _, _, z⟩ := h
    exact z
  pass := fun σ pins H s e s' I c => by
    obtain ⟨a, B, H', cls, d, _, _, _, _, _, _, _, z⟩ := c
    exact z
theorem blk_loc {scope : Scope} {sc : Scope} {x : Str} (h : locB scope x = true) : L2.Loc (relS scope sc) x ∧ ((scope.names.lookup x == some .cell) = true ∨ (relS scope sc).names.lookup x = some .local) := by
  unfold locB at h
  split at h
  · rename_i e
    have z := lookup_relS_keep (sc := sc) (k := .local) (by decide) e
    exact ⟨.inl z, .inr z⟩
  · rename_i e
    have z := lookup_relS_keep (sc := sc) (k := .cell) (by decide) e
    exact ⟨.inr z, .inl (by rw [e]; decide)⟩
  · cases h
theorem ev_comp {g : Tg} {it el : E} : ev t F (.comp g it el) = fun ρ => (evi t F it ρ).bind fun ds ρ => if freeAt ρ (slotsT g) then
      (compL (fun d ρ' => match bindT g d (wipeE ρ' (slotsT g)) with
        | some ρ₂ => (fun ρ₂ => (ev t F el ρ₂).bind fun v ρ => .ok (some v) ρ) ρ₂
        | none => .no) ds ρ []).bind fun vs ρ' => .ok (.lst vs) (backE ρ (wipeE ρ' (slotsT g)) (slotsT g))
    else .no := by (funext ρ; unfold evi; first | (simp only [ev]; done) | (simp only [ev]; rfl))
def stepI (t : T) (F : String → List SV → Cr) (c el : E) : Env → R (Option SV) := fun ρ₂ => (ev t F c ρ₂).bind fun b ρ => (match b with
          | .d (.bl true) => (ev t F el ρ).bind fun v ρ => .ok (some v) ρ
          | .d (.bl false) => .ok none ρ
          | _ => .no)
theorem ev_cmpi {g : Tg} {it c el : E} : ev t F (.cmpi g it c el) = fun ρ => (evi t F it ρ).bind fun ds ρ => if freeAt ρ (slotsT g) then
      (compL (fun d ρ' => match bindT g d (wipeE ρ' (slotsT g)) with
        | some ρ₂ => stepI t F c el ρ₂
        | none => .no) ds ρ []).bind fun vs ρ' => .ok (.lst vs) (backE ρ (wipeE ρ' (slotsT g)) (slotsT g))
    else .no := by (funext ρ; unfold evi; first | (simp only [ev]; done) | (simp only [ev]; rfl))
/-- what a comprehension and its store ask -/
structure LcOk (X : Cx) (cl : String → Option Addr) (O : Addr → Prop) (ro : List (Nat × V)) (W : WX) (g : Tg) (gi : Env → R (List D)) (st : Env → R (Option SV)) (e tg i : Expr) (ifs : List Expr) (scope : Scope) : Prop where
  ex : ∃ tt te, PI X tg i (tI cl X.K O ro W gi) ∧ BlkOk X.N X.env.scope scope (ownT X.N g) ∧
    (∀ (s : Shared) (H : Hp) (C : Addr) (cl : List (Str × Addr)) (fp : List Addr), PG (X.blk s H scope (compEnvC scope cl C X.env) fp) tg (gOf X.K g)) ∧
    (∀ (s : Shared) (H : Hp) (C : Addr) (cl : List (Str × Addr)) (fp : List Addr), PTs (X.blk s H scope (compEnvC scope cl C X.env) fp) ifs tt) ∧
    (∀ (s : Shared) (H : Hp) (C : Addr) (cl : List (Str × Addr)) (fp : List Addr), PE (X.blk s H scope (compEnvC scope cl C X.env) fp) e te) ∧
    (∀ x, foldedSetIterable i X.env x = pure x) ∧
    ∀ σ2 H2 Y N, tO X.K cl O st σ2 H2 Y N → tt σ2 H2 fun b H3 => if b = true then te σ2 H3 Y else N H3
theorem LcOk.pe {g : Tg} {gi : Env → R (List D)} {st : Env → R (Option SV)} {e i : Expr} {ifs : List Expr} {scope : Scope} {pos : Pos} (S : Sd X t F cl W) (h : LcOk X cl O ro W g gi st e tg i ifs scope) :
    PE X (.ListComp e [⟨tg, i, ifs, 0⟩] scope pos) (tE X.K cl O ro W (fun ρ => (gi ρ).bind fun ds ρ => if freeAt ρ (slotsT g) then
      (compL (fun d ρ' => match bindT g d (wipeE ρ' (slotsT g)) with
        | some ρ₂ => st ρ₂
        | none => .no) ds ρ []).bind fun vs ρ' => .ok (.lst vs) (backE ρ (wipeE ρ' (slotsT g)) (slotsT g))
      else .no)) := by
  obtain ⟨tt, te, h1, h2, h3, h4, h5, h6, h7⟩ := h.ex
  refine PE.imp (pe_lc S.calm S.nd h1 h2 h3 h4 h5 h6) fun σ H Q q => ?_
  rw [own_map]
  exact lc_ok h7 q
theorem lc_comp {g : Tg} {it el : E} {e i : Expr} {scope : Scope} (hi : PIp t F cl it) (he : PEp t F cl el) (S : Sd X t F cl W) (h1 : ck X.N it true X.env.scope i = true) (h2 : (noSet i && enuOk it tg) = true) (h3 : blkC X.N X.env.scope scope (ownT X.N g) = true) (h4 : ckG X.N scope g tg = true) (h5 : ck X.N el false (relS scope X.env.scope) e = true) :
    LcOk X cl O ro W g (evi t F it) (fun ρ₂ => (ev t F el ρ₂).bind fun v ρ => .ok (some v) ρ) e tg i [] scope := by
  refine ⟨tYes, tE X.K cl O [] (fun _ _ _ _ => False) (ev t F el), hi X W O ro i tg S h1 (bf_split h2).2, blkOk_by h3, fun s H C c fp => pg_of S.calm S.nd (fun x hx => blk_loc hx) h4, fun s H C c fp => pts_nil,
    fun s H C c fp => he (X.blk s H scope (compEnvC scope c C X.env) fp) _ O [] e (S.blk ..) h5, fold_no (bf_split h2).1, fun σ2 H2 Y N h => ?_⟩
  show (if true = true then tE X.K cl O [] (fun _ _ _ _ => False) (ev t F el) σ2 H2 Y else N H2)
  rw [if_pos rfl]
  obtain ⟨ρ, ts, ws, f, r, q⟩ := h
  dsimp only at q
  refine ⟨ρ, ts, ws, f, r, ?_⟩
  cases ee : ev t F el ρ with
  | ok s ρ' => rw [ee] at q; exact q
  | exc x ρ' => rw [ee] at q; exact q.elim
  | no => rw [ee] at q; exact q
theorem lc_cmpi {g : Tg} {it c el : E} {e i y : Expr} {scope : Scope} (hi : PIp t F cl it) (hc : PTp t F cl c) (he : PEp t F cl el) (S : Sd X t F cl W) (h1 : ck X.N it true X.env.scope i = true) (h2 : (noSet i && enuOk it tg) = true) (h3 : blkC X.N X.env.scope scope (ownT X.N g) = true) (h4 : ckG X.N scope g tg = true) (h6 : (ck X.N c false (relS scope X.env.scope) y && (plT y || isCmp c)) = true) (h5 : ck X.N el false (relS scope X.env.scope) e = true) :
    LcOk X cl O ro W g (evi t F it) (stepI t F c el) e tg i [y] scope := by
  refine ⟨tT cl X.K O [] (fun _ _ _ _ => False) (ev t F c), tE X.K cl O [] (fun _ _ _ _ => False) (ev t F el), hi X W O ro i tg S h1 (bf_split h2).2, blkOk_by h3, fun s H C c fp => pg_of S.calm S.nd (fun x hx => blk_loc hx) h4,
    fun s H C cl' fp => pts_one (hc (X.blk s H scope (compEnvC scope cl' C X.env) fp) _ O [] y (S.blk ..) (ckt_of (bf_split h6).1 (bf_split h6).2)),
    fun s H C c fp => he (X.blk s H scope (compEnvC scope c C X.env) fp) _ O [] e (S.blk ..) h5, fold_no (bf_split h2).1, fun σ2 H2 Y N h => ?_⟩
  obtain ⟨ρ, ts, ws, f, r, q⟩ := h
  refine ⟨ρ, ts, ws, f, r, ?_⟩
  unfold stepI at q
  cases ee : ev t F c ρ with
  | no => rw [ee] at q; exact q
  | exc x ρ' => rw [ee] at q; exact q.elim
  | ok s ρ' =>
    rw [ee] at q
    cases s with
    | d x =>
      cases x with
      | bl b =>
        cases b with
        | false =>
          intro H' f' ex r'
          rw [if_neg Bool.false_ne_true]
          exact q H' f' ex r'
        | true =>
          intro H' f' ex r'
          rw [if_pos rfl]
          refine ⟨_, _, _, _, r', ?_⟩
          have q : (match (ev t F el ρ').bind fun v ρ => .ok (some v) ρ with
            | .ok (some s) ρ' => ∀ y H' f', Ext f H2 f' H' → Rel X.K cl O [] ρ' (s :: ts) σ2 (y :: ws) f' H' → Y y H'
            | .ok none ρ' => ∀ H' f', Ext f H2 f' H' → Rel X.K cl O [] ρ' ts σ2 ws f' H' → N H'
            | _ => False) := q
          cases e2 : ev t F el ρ' with
          | ok s2 ρ2 => rw [e2] at q; exact fun y H3 f3 e3 r3 => q y H3 f3 (ex.trans e3) r3
          | exc x ρ2 => rw [e2] at q; exact q.elim
          | no => rw [e2] at q; exact q
      | _ => exact False.elim q
    | lst _ => exact False.elim q
    | ins _ _ _ => exact False.elim q
    | dk _ _ => exact False.elim q
theorem s_comp {g : Tg} {it el : E} (hi : PIp t F cl it) (he : PEp t F cl el) : PEp t F cl (.comp g it el) := by
  intro X W O ro x S h
  unfold ck at h
  split at h
  · obtain ⟨h1, h⟩ := bf_split h
    obtain ⟨h2, h⟩ := bf_split h
    obtain ⟨h3, h⟩ := bf_split h
    obtain ⟨h4, h5⟩ := bf_split h
    rw [ev_comp]
    exact (lc_comp hi he S h1 h2 h3 h4 h5).pe S
  · cases h
theorem s_cmpi {g : Tg} {it c el : E} (hi : PIp t F cl it) (hc : PTp t F cl c) (he : PEp t F cl el) : PEp t F cl (.cmpi g it c el) := by
  intro X W O ro x S h
  unfold ck at h
  split at h
  · obtain ⟨h1, h⟩ := bf_split h
    obtain ⟨h2, h⟩ := bf_split h
    obtain ⟨h3, h⟩ := bf_split h
    obtain ⟨h4, h⟩ := bf_split h
    obtain ⟨h6, h5⟩ := bf_split h
    rw [ev_cmpi]
    exact (lc_cmpi hi hc he S h1 h2 h3 h4 h6 h5).pe S
  · cases h
theorem i_rng2 {a b : E} (ha : PEp t F cl a) (hb : PEp t F cl b) : PIp t F cl (.rng2 a b) := by
  intro X W O ro x tg S h hen
  unfold ck at h
  split at h
  · obtain ⟨h1, h2⟩ := bf_split h
    obtain ⟨h2, h3⟩ := bf_split h2
    obtain ⟨h3, h7⟩ := bf_split h3
    obtain ⟨h7, h8⟩ := bf_split h7
    unfold gnB at h1
    obtain ⟨h4, h5⟩ := bf_split h1
    obtain ⟨h5, h6⟩ := bf_split h5
    have h4 := of_decide_eq_true h4
    subst h4
    refine PI.imp (pi_range2 (glB_ok h5) S.rng (pa_cons (ha X W O ro _ S h2) (pa_cons (hb X W O ro _ S h7) pa_nil (star_cons h8)) (star_cons h3)) (by rw [star_cons h3, star_cons h8]; rfl) (by rw [star_cons h8]; rfl)) fun σ H R q => ?_
    obtain ⟨ρ, ts, ws, f, r, q⟩ := q
    refine ⟨ρ, ts, ws, f, r, ?_⟩
    have e0 : evi t F (.rng2 a b) ρ = (ev t F a ρ).bind fun x ρ => (ev t F b ρ).bind fun y ρ => (match Kn.frz x, Kn.frz y with
      | .int i, .int j => if (-1000000000000 < i ∧ i < 1000000000000) ∧ (-1000000000000 < j ∧ j < 1000000000000) then .ok (rngD i j) ρ else .no
      | _, _ => .no) := by
      unfold evi
      simp only [ev]
      cases ev t F a ρ with
      | ok s ρ' =>
        simp only [Kn.R.bind]
        cases ev t F b ρ' with
        | ok s2 ρ2 =>
          simp only
          cases Kn.frz s with
          | int i =>
            cases Kn.frz s2 with
            | int j =>
              by_cases hj : (-1000000000000 < i ∧ i < 1000000000000) ∧ (-1000000000000 < j ∧ j < 1000000000000)
              · simp only [if_pos hj]
                rfl
              · simp only [if_neg hj]
            | _ => rfl
          | _ => rfl
        | exc y ρ' => rfl
        | no => rfl
      | exc y ρ' => rfl
      | no => rfl
    rw [e0] at q
    cases e1 : ev t F a ρ with
    | ok s ρ' =>
      rw [e1] at q
      intro v H' f' ex r'
      refine ⟨ρ', s :: ts, v :: ws, f', r', ?_⟩
      have q : GI cl X.K O ro W ts σ ws f H ((ev t F b ρ').bind fun y ρ => (match Kn.frz s, Kn.frz y with
        | .int i, .int j => if (-1000000000000 < i ∧ i < 1000000000000) ∧ (-1000000000000 < j ∧ j < 1000000000000) then .ok (rngD i j) ρ else .no
        | _, _ => .no)) R := q
      cases e2 : ev t F b ρ' with
      | ok s2 ρ2 =>
        rw [e2] at q
        intro v2 H2 f2 ex2 r2
        obtain ⟨f3, ex3, r3⟩ := r2.freeze
        have hv2 := r3.top
        obtain ⟨f4, ex4, r4⟩ := r3.pop
        obtain ⟨f5, ex5, r5⟩ := r4.freeze
        have hv := r5.top
        obtain ⟨f6, ex6, r6⟩ := r5.pop
        have ex' := ((((ex.trans ex2).trans ex3).trans ex4).trans ex5).trans ex6
        have q : GI cl X.K O ro W ts σ ws f H (match Kn.frz s, Kn.frz s2 with
          | .int i, .int j => if (-1000000000000 < i ∧ i < 1000000000000) ∧ (-1000000000000 < j ∧ j < 1000000000000) then .ok (rngD i j) ρ2 else .no
          | _, _ => .no) R := q
        split at q
        · rename_i i j ei ej
          split at q
          · rename_i hj
            rw [ei] at hv
            rw [ej] at hv2
            exact ⟨i, j, by rw [hv.intE, hv2.intE], ⟨by omega, by omega, by omega, by omega⟩, q (Itr i (j - i).toNat) H2 f6 ex' r6 (.inr (.inr (.inr (.inl ⟨i, j, rfl, rfl⟩))))⟩
          · exact q.elim
        · exact q.elim
      | exc y ρ2 =>
        rw [e2] at q
        intro c d H2 f2 ex2 r2 xr
        exact exc_pop (Φ := True) q (ex.trans ex2) r2 xr
      | no => rw [e2] at q; exact q
    | exc y ρ' => rw [e1] at q; exact q
    | no => rw [e1] at q; exact q
  · cases h
/-! ### all of them -/
theorem s_ife {c a b : E} (hc : PTp t F cl c) (ha : PEp t F cl a) (hb : PEp t F cl b) : PEp t F cl (.ife c a b) := by
  intro X W O ro x S h
  unfold ck at h
  split at h
  · obtain ⟨h1, h2⟩ := bf_split h
    obtain ⟨h2, h3⟩ := bf_split h2
    obtain ⟨h1, h0⟩ := bf_split h1
    refine PE.imp (pe_ifExp (hc X W O ro _ S (ckt_of h1 h0)) (ha X W O ro _ S h2) (hb X W O ro _ S h3)) fun σ H Q q => ?_
    obtain ⟨ρ, ts, ws, f, r, g⟩ := q
    simp only [ev] at g
    refine ⟨ρ, ts, ws, f, r, ?_⟩
    cases e1 : ev t F c ρ with
    | ok s ρ1 =>
      rw [e1] at g
      cases s with
      | d x =>
        cases x with
        | bl b0 =>
          intro H' f' ex r'
          cases b0 with
          | true =>
            rw [if_pos rfl]
            exact ⟨ρ1, ts, ws, f', r', GE.ext ex g⟩
          | false =>
            rw [if_neg Bool.false_ne_true]
            exact ⟨ρ1, ts, ws, f', r', GE.ext ex g⟩
        | _ => exact False.elim g
      | lst _ => exact False.elim g
      | ins _ _ _ => exact False.elim g
      | dk _ _ => exact False.elim g
    | exc x ρ1 =>
      rw [e1] at g
      exact g
    | no =>
      rw [e1] at g
      exact g
  · cases h
theorem p_bad {e : E} (h : ∀ ρ, ev t F e ρ = .no) : PEp t F cl e := by
  intro X W O ro x S _
  refine ⟨fun pins s σ H Q I q => ?_⟩
  obtain ⟨ρ, ts, ws, f', r, g⟩ := q
  rw [h] at g
  exact g.elim
theorem p_not {e : E} (h : ∀ N sc x, ck N e false sc x = false) : PEp t F cl e := by
  intro X W O ro x S z
  rw [h] at z
  cases z
theorem a_not {e : E} (h : ∀ N sc xs, cks N e sc xs = false) : PAp t F cl e := by
  intro X W O ro x S z
  rw [h] at z
  cases z
theorem w_not {e : E} (h : ∀ N sc o xs p, ckt N e sc (.BoolOp o xs p) = false) : PWp t F cl e := by
  intro X W O ro o xs p S z
  rw [h] at z
  cases z
theorem t_pl {e : E} (he : PEp t F cl e) (h : ∀ N sc x, ckt N e sc x = (ck N e false sc x && plT x)) : PTp t F cl e := by
  intro X W O ro x S z
  rw [h] at z
  obtain ⟨z1, z2⟩ := bf_split z
  exact t_plain he X W O ro x S z1 z2
structure All (t : T) (F : String → List SV → Cr) (cl : String → Option Addr) (e : E) : Prop where
  pe : PEp t F cl e
  pt : PTp t F cl e
  pw : PWp t F cl e
  pa : PAp t F cl e
  pi : PIp t F cl e
  pk : PKp t F cl e
theorem k_not {e : E} (h : ∀ N sc xs, cks N e sc xs = false) : PKp t F cl e := by
  intro X W O ro ks kes x pos S _ _ z
  rw [h] at z
  cases z
theorem All.of {e : E} (he : PEp t F cl e) (h1 : ∀ N sc x, ckt N e sc x = (ck N e false sc x && plT x)) (h2 : ∀ N sc o xs p, ckt N e sc (.BoolOp o xs p) = false) (h3 : ∀ N sc xs, cks N e sc xs = false) (h4 : ∀ N sc x, ck N e true sc x = true → ck N e false sc x = true) : All t F cl e :=
  ⟨he, t_pl he h1, w_not h2, a_not h3, i_of he h4, k_not h3⟩
theorem all_e : ∀ e : E, All t F cl e := by
  intro e
  induction e with
  | var i => exact All.of (s_var i) (fun N sc x => rfl) (fun N sc o xs p => by unfold ckt; simp [plT]) (fun N sc xs => rfl) (fun N sc x h => by unfold ck at h ⊢; exact h)
  | non => exact All.of s_non (fun N sc x => rfl) (fun N sc o xs p => by unfold ckt; simp [plT]) (fun N sc xs => rfl) (fun N sc x h => by unfold ck at h ⊢; exact h)
  | bl b => exact All.of (s_bl b) (fun N sc x => rfl) (fun N sc o xs p => by unfold ckt; simp [plT]) (fun N sc xs => rfl) (fun N sc x h => by unfold ck at h ⊢; exact h)
  | int i => exact All.of (s_int i) (fun N sc x => rfl) (fun N sc o xs p => by unfold ckt; simp [plT]) (fun N sc xs => rfl) (fun N sc x h => by unfold ck at h ⊢; exact h)
  | str s => exact All.of (s_str s) (fun N sc x => rfl) (fun N sc o xs p => by unfold ckt; simp [plT]) (fun N sc xs => rfl) (fun N sc x h => by unfold ck at h ⊢; exact h)
  | glb x => exact All.of (s_glb x) (fun N sc x => rfl) (fun N sc o xs p => by unfold ckt; simp [plT]) (fun N sc xs => rfl) (fun N sc x h => by unfold ck at h ⊢; exact h)
  | tyn n => exact All.of (s_tyn n) (fun N sc x => rfl) (fun N sc o xs p => by unfold ckt; simp [plT]) (fun N sc xs => rfl) (fun N sc x h => by unfold ck at h ⊢; exact h)
  | tup es ih => exact All.of (s_tup ih.pa) (fun N sc x => rfl) (fun N sc o xs p => by unfold ckt; simp [plT]) (fun N sc xs => rfl) (fun N sc x h => by unfold ck at h ⊢; exact h)
  | lst es ih => exact All.of (s_lst ih.pa) (fun N sc x => rfl) (fun N sc o xs p => by unfold ckt; simp [plT]) (fun N sc xs => rfl) (fun N sc x h => by unfold ck at h ⊢; exact h)
  | nil => exact ⟨p_not fun _ _ _ => rfl, t_pl (p_not fun _ _ _ => rfl) (fun _ _ _ => rfl), w_not (fun N sc o xs p => by unfold ckt; simp [plT]), a_nil, i_of (p_not fun _ _ _ => rfl) (fun N sc x h => by cases h), k_nil⟩
  | cons e es h1 h2 => exact ⟨p_not fun _ _ _ => rfl, t_pl (p_not fun _ _ _ => rfl) (fun _ _ _ => rfl), w_not (fun N sc o xs p => by unfold ckt; simp [plT]), a_cons h1.pe h2.pa, i_of (p_not fun _ _ _ => rfl) (fun N sc x h => by cases h), k_cons h1.pe h2.pk⟩
  | bin o a b ha hb => exact All.of (s_bin o ha.pe hb.pe) (fun N sc x => rfl) (fun N sc o xs p => by unfold ckt; simp [plT]) (fun N sc xs => rfl) (fun N sc x h => by unfold ck at h ⊢; exact h)
  | neg a ha => exact All.of (s_neg ha.pe) (fun N sc x => rfl) (fun N sc o xs p => by unfold ckt; simp [plT]) (fun N sc xs => rfl) (fun N sc x h => by unfold ck at h ⊢; exact h)
  | not a ha => exact ⟨s_not ha.pe, t_not ha.pt, w_not (fun N sc o xs p => rfl), a_not (fun N sc xs => rfl), i_of (s_not ha.pe) (fun N sc x h => by unfold ck at h ⊢; exact h), k_not (fun N sc xs => rfl)⟩
  | and a b ha hb => exact ⟨s_and ha.pe hb.pe, t_and (w_and ha.pt hb.pt hb.pw), w_and ha.pt hb.pt hb.pw, a_not (fun N sc xs => rfl), i_of (s_and ha.pe hb.pe) (fun N sc x h => by unfold ck at h ⊢; exact h), k_not (fun N sc xs => rfl)⟩
  | or a b ha hb => exact ⟨s_or ha.pe hb.pe, t_or (w_or ha.pt hb.pt hb.pw), w_or ha.pt hb.pt hb.pw, a_not (fun N sc xs => rfl), i_of (s_or ha.pe hb.pe) (fun N sc x h => by unfold ck at h ⊢; exact h), k_not (fun N sc xs => rfl)⟩
  | cmp o a b ha hb => exact ⟨s_cmp o ha.pe hb.pe, t_cmp o ha.pe hb.pe, w_not (fun N sc o xs p => rfl), a_not (fun N sc xs => rfl), i_of (s_cmp o ha.pe hb.pe) (fun N sc x h => by unfold ck at h ⊢; exact h), k_not (fun N sc xs => rfl)⟩
  | chn o p a b c ha hb hc => exact ⟨s_chn o p ha.pe hb.pe hc.pe, t_chn o p ha.pe hb.pe hc.pe, w_not (fun N sc o xs p => rfl), a_not (fun N sc xs => rfl), i_of (s_chn o p ha.pe hb.pe hc.pe) (fun N sc x h => by unfold ck at h ⊢; exact h), k_not (fun N sc xs => rfl)⟩
  | ife c a b hc ha hb => exact All.of (s_ife hc.pt ha.pe hb.pe) (fun N sc x => rfl) (fun N sc o xs p => by unfold ckt; simp [plT]) (fun N sc xs => rfl) (fun N sc x h => by unfold ck at h ⊢; exact h)
  | idx a i ha hi => exact All.of (s_idx ha.pe hi.pe) (fun N sc x => rfl) (fun N sc o xs p => by unfold ckt; simp [plT]) (fun N sc xs => rfl) (fun N sc x h => by unfold ck at h ⊢; exact h)
  | slc a lo hi ha hl hh => exact All.of (s_slc ha.pe hl.pe hh.pe) (fun N sc x => rfl) (fun N sc o xs p => by unfold ckt; simp [plT]) (fun N sc xs => rfl) (fun N sc x h => by unfold ck at h ⊢; exact h)
  | stp a k ha hk => exact All.of (s_stp ha.pe hk.pe) (fun N sc x => rfl) (fun N sc o xs p => by unfold ckt; simp [plT]) (fun N sc xs => rfl) (fun N sc x h => by unfold ck at h ⊢; exact h)
  | emp => exact ⟨p_not fun _ _ _ => rfl, t_pl (p_not fun _ _ _ => rfl) (fun _ _ _ => rfl), w_not (fun N sc o xs p => by unfold ckt; simp [plT]), a_not (fun N sc xs => rfl), i_of (p_not fun _ _ _ => rfl) (fun N sc x h => by cases h), k_not (fun N sc xs => rfl)⟩
  | fld a f ha => exact All.of (s_fld f ha.pe) (fun N sc x => rfl) (fun N sc o xs p => by unfold ckt; simp [plT]) (fun N sc xs => rfl) (fun N sc x h => by unfold ck at h ⊢; exact h)
  | call f as hs => exact All.of (s_call f hs.pa) (fun N sc x => rfl) (fun N sc o xs p => by unfold ckt; simp [plT]) (fun N sc xs => rfl) (fun N sc x h => by unfold ck at h ⊢; exact h)
  | mk c as hs => exact All.of (s_mk c hs.pa) (fun N sc x => rfl) (fun N sc o xs p => by unfold ckt; simp [plT]) (fun N sc xs => rfl) (fun N sc x h => by unfold ck at h ⊢; exact h)
  | blt b as hs => exact All.of (s_blt b hs.pa) (fun N sc x => rfl) (fun N sc o xs p => by unfold ckt; simp [plT]) (fun N sc xs => rfl) (fun N sc x h => by unfold ck at h ⊢; exact h)
  | meth m a as ha hs => exact All.of (s_meth m ha.pe hs.pa) (fun N sc x => rfl) (fun N sc o xs p => by unfold ckt; simp [plT]) (fun N sc xs => rfl) (fun N sc x h => by unfold ck at h ⊢; exact h)
  | edk => exact All.of s_edk (fun N sc x => rfl) (fun N sc o xs p => by unfold ckt; simp [plT]) (fun N sc xs => rfl) (fun N sc x h => by unfold ck at h ⊢; exact h)
  | disp ks es hs => exact All.of (s_disp ks hs.pk) (fun N sc x => rfl) (fun N sc o xs p => by unfold ckt; simp [plT]) (fun N sc xs => rfl) (fun N sc x h => by unfold ck at h ⊢; exact h)
  | dget a k d ha hk hd => exact All.of (s_dget ha.pe hk.pe hd.pe) (fun N sc x => rfl) (fun N sc o xs p => by unfold ckt; simp [plT]) (fun N sc xs => rfl) (fun N sc x h => by unfold ck at h ⊢; exact h)
  | idv i e he => exact All.of (s_idv i he.pe) (fun N sc x => rfl) (fun N sc o xs p => by unfold ckt; simp [plT]) (fun N sc xs => rfl) (fun N sc x h => by unfold ck at h ⊢; exact h)
  | bor e he => exact ⟨s_bor he.pe, t_bor he.pt, w_bor he.pw, a_not (fun N sc xs => rfl), i_of (s_bor he.pe) (fun N sc x h => by unfold ck at h ⊢; exact h), k_not (fun N sc xs => rfl)⟩
  | take i => exact All.of (s_take i) (fun N sc x => rfl) (fun N sc o xs p => by unfold ckt; simp [plT]) (fun N sc xs => rfl) (fun N sc x h => by unfold ck at h ⊢; exact h)
  | enu a ha => exact ⟨p_not fun _ _ _ => rfl, t_pl (p_not fun _ _ _ => rfl) (fun _ _ _ => rfl), w_not (fun N sc o xs p => by unfold ckt; simp [plT]), a_not (fun N sc xs => rfl), i_enu ha.pe, k_not (fun N sc xs => rfl)⟩
  | bm m a as ha hs => exact All.of (s_bm m ha.pe hs.pa) (fun N sc x => rfl) (fun N sc o xs p => by unfold ckt; simp [plT]) (fun N sc xs => rfl) (fun N sc x h => by unfold ck at h ⊢; exact h)
  | comp g it el hi he => exact All.of (s_comp hi.pi he.pe) (fun N sc x => rfl) (fun N sc o xs p => by unfold ckt; simp [plT]) (fun N sc xs => rfl) (fun N sc x h => by unfold ck at h ⊢; exact h)
  | cmpi g it c el hi hc he => exact All.of (s_cmpi hi.pi hc.pt he.pe) (fun N sc x => rfl) (fun N sc o xs p => by unfold ckt; simp [plT]) (fun N sc xs => rfl) (fun N sc x h => by unfold ck at h ⊢; exact h)
  | rng a ha => exact ⟨p_not fun _ _ _ => rfl, t_pl (p_not fun _ _ _ => rfl) (fun _ _ _ => rfl), w_not (fun N sc o xs p => by unfold ckt; simp [plT]), a_not (fun N sc xs => rfl), i_rng ha.pe, k_not (fun N sc xs => rfl)⟩
  | rng2 a b ha hb => exact ⟨p_not fun _ _ _ => rfl, t_pl (p_not fun _ _ _ => rfl) (fun _ _ _ => rfl), w_not (fun N sc o xs p => by unfold ckt; simp [plT]), a_not (fun N sc xs => rfl), i_rng2 ha.pe hb.pe, k_not (fun N sc xs => rfl)⟩
  | bad => exact ⟨p_bad (fun ρ => by simp only [ev]), t_pl (p_bad (fun ρ => by simp only [ev])) (fun _ _ _ => rfl), w_not (fun N sc o xs p => by unfold ckt; simp [plT]), a_not (fun N sc xs => rfl), i_of (p_bad (fun ρ => by simp only [ev])) (fun N sc x h => rfl), k_not (fun N sc xs => rfl)⟩
end
end Kn

set_option Elab.async false
set_option linter.all false
set_option maxRecDepth 100000
set_option maxHeartbeats 4000000
/-! Snd5: statements. -/
namespace Kn
open PySem L2
instance extW {f f' : List Addr} {H H' : Hp} : Coe (Ext f H f' H') (ExW f H f' H') := ⟨Ext.w⟩
section
variable {K : PySem.W.Frag} {cl : String → Option Addr} {O : Addr → Prop} {ro : List (Nat × V)} {W : WX} {ρ : Env} {ts : List SV} {σ : L2.St} {ws : List V} {f f' : List Addr} {H H' : Hp} {s : SV} {v y : V} {x : D} {A A' : Addr → Prop}
theorem set_same {i : Nat} {w : V} (e : σ[i]? = some (some w)) : σ.set i (some w) = σ := by
  apply List.ext_getElem?
  intro j
  by_cases hj : i = j
  · subst hj
    have hl : i < σ.length := (List.getElem?_eq_some_iff.mp e).1
    rw [List.getElem?_set_self hl, e]
  · rw [List.getElem?_set_ne hj]
/-- a slot's own thing changed, with the last temporary within -/
theorem Rel.slot {i : Nat} {S0 : SV} (r : Rel K cl O ro ρ (s :: ts) σ (y :: ws) f H) (e : ρ[i]? = some (some S0)) : ∃ v g f1, σ[i]? = some (some v) ∧ OR K cl (Av O f) H S0 v g ∧ OR K cl (Av O f) H s y f1 ∧
    ∀ a g' g4 o S1, g = a :: g' → v = .ref a → (∀ b, g4.count b ≤ g'.count b + f1.count b) → (∀ A' H', Stp (Av O f) H A' H' → (∀ b ∈ g', H' b = H b) → (∀ b ∈ f1, H' b = H b) → H' a = some o → OR K cl A' H' S1 (.ref a) (a :: g4)) →
      ∃ f', ExW f H f' (upd H a o) ∧ Rel K cl O ro (ρ.set i (some S1)) ts σ ws f' (upd H a o) := by
  obtain ⟨fe, ft, ef, c, d, oo, p, q, z⟩ := r
  subst ef
  unfold ORs at q
  obtain ⟨w, ws', f1, f2, e0, ef, q1, q2⟩ := q
  cases e0
  subst ef
  obtain ⟨v0, g1, g2, g3, e1, e2, o1, up⟩ := OE.at p e
  subst e2
  obtain ⟨w, ew, h⟩ := o1
  subst ew
  refine ⟨w, g2, f1, e1, h, q1, fun a g' g4 o S1 eg ev hc4 k => ?_⟩
  subst eg
  subst ev
  have ca := c a
  simp only [List.count_append, List.count_cons_self] at ca
  have na : a ∉ g1 ∧ a ∉ g' ∧ a ∉ g3 ∧ a ∉ f1 ∧ a ∉ f2 := by
    refine ⟨?_, ?_, ?_, ?_, ?_⟩ <;> (intro h; rw [mem_of_count] at h; omega)
  have ina : a ∈ (g1 ++ ((a :: g') ++ g3)) ++ (f1 ++ f2) := by simp
  have hc : ∀ b, ((g1 ++ ((a :: g4) ++ g3)) ++ f2).count b ≤ ((g1 ++ ((a :: g') ++ g3)) ++ (f1 ++ f2)).count b := fun b => by
    have := hc4 b
    simp only [List.count_append, List.count_cons]
    omega
  have sub : ∀ b ∈ (g1 ++ ((a :: g4) ++ g3)) ++ f2, b ∈ (g1 ++ ((a :: g') ++ g3)) ++ (f1 ++ f2) := fun b h => by
    rw [mem_of_count] at h ⊢
    exact Nat.lt_of_lt_of_le h (hc b)
  have st : Stp (Av O ((g1 ++ ((a :: g') ++ g3)) ++ (f1 ++ f2))) H (Av O ((g1 ++ ((a :: g4) ++ g3)) ++ f2)) (upd H a o) := fun b u h n => by
    refine ⟨?_, fun m => n (m.imp id (sub b))⟩
    rw [upd_ne fun z => n (.inr (by rw [z]; exact ina))]
    exact h
  have same : ∀ {g : List Addr}, a ∉ g → ∀ b ∈ g, upd H a o b = H b := fun hg b h => upd_ne fun z => hg (by rw [← z]; exact h)
  have oe := up (s' := some S1) (v' := some (.ref a)) (g := a :: g4) st (same na.1) (same na.2.2.1) ⟨.ref a, rfl, k _ _ st (same na.2.1) (same na.2.2.2.1) upd_same⟩
  rw [set_same e1] at oe
  refine ⟨_, ⟨fun b u h n => ?_, fun b h => .inl (sub b h)⟩, _, _, rfl, fun b => Nat.le_trans (hc b) (c b), fun b h => d b (sub b h), fun b h => ?_, oe, ORs.stp st _ _ _ (same na.2.2.2.2) q2, z⟩
  · rw [upd_ne fun z => n (by rw [z]; exact ina)]
    exact h
  · by_cases e : b = a
    · rw [e, upd_same]; exact fun z => nomatch z
    · rw [upd_ne e]; exact oo b h
theorem Rel.own {i : Nat} {S0 : SV} (r : Rel K cl O ro ρ ts σ ws f H) (e : ρ[i]? = some (some S0)) : ∃ v g, σ[i]? = some (some v) ∧ OR K cl (Av O f) H S0 v g := by
  obtain ⟨fe, ft, ef, c, d, oo, p, q, z⟩ := r
  obtain ⟨v0, g1, g2, g3, e1, e2, o1, up⟩ := OE.at p e
  obtain ⟨w, ew, h⟩ := o1
  subst ew
  exact ⟨w, g2, e1, h⟩
/-- x.append(s) -/
theorem Rel.appS {i : Nat} {xs : List SV} (r : Rel K cl O ro ρ (s :: ts) σ (y :: ws) f H) (e : ρ[i]? = some (some (.lst xs))) :
    ∃ a wa f', σ[i]? = some (some (.ref a)) ∧ H a = some (.lst wa) ∧ xs.length = wa.length ∧ ExW f H f' (upd H a (.lst (wa ++ [y]))) ∧ Rel K cl O ro (ρ.set i (some (.lst (xs ++ [s])))) ts σ ws f' (upd H a (.lst (wa ++ [y]))) := by
  obtain ⟨v, g, f1, e1, q, q1, k⟩ := r.slot e
  unfold OR at q
  obtain ⟨a, wa, fa, rfl, hH, rfl, m⟩ := q
  obtain ⟨f', ex, r'⟩ := k a fa (fa ++ f1) (.lst (wa ++ [y])) (.lst (xs ++ [s])) rfl rfl (fun b => by rw [List.count_append]; exact Nat.le_refl _) fun A' H' st k1 k2 hH' => by
    unfold OR
    exact ⟨a, wa ++ [y], fa ++ f1, rfl, hH', rfl, ORs.join (ORs.stp st _ _ _ k1 m) (ORs.one (OR.stp st _ _ _ k2 q1))⟩
  exact ⟨a, wa, f', e1, hH, m.len, ex, r'⟩
/-- x += s -/
theorem Rel.extS {i : Nat} {xs ys : List SV} (r : Rel K cl O ro ρ (s :: ts) σ (y :: ws) f H) (e : ρ[i]? = some (some (.lst xs))) (hs : svl s = some ys) :
    ∃ a b wa zs f', σ[i]? = some (some (.ref a)) ∧ y = .ref b ∧ H a = some (.lst wa) ∧ H b = some (.lst zs) ∧ xs.length = wa.length ∧ ys.length = zs.length ∧ ExW f H f' (upd H a (.lst (wa ++ zs))) ∧
      Rel K cl O ro (ρ.set i (some (.lst (xs ++ ys)))) ts σ ws f' (upd H a (.lst (wa ++ zs))) := by
  obtain ⟨v, g, f1, e1, q, q1, k⟩ := r.slot e
  unfold OR at q
  obtain ⟨a, wa, fa, rfl, hH, rfl, m⟩ := q
  have key : ∃ b zs f2, y = .ref b ∧ H b = some (.lst zs) ∧ ORs K cl (Av O f) H ys zs f2 ∧ (∀ c, f2.count c ≤ f1.count c) := by
    unfold svl at hs
    split at hs
    · cases hs
      unfold OR at q1
      obtain ⟨b, zs, fb, rfl, hB, rfl, m2⟩ := q1
      exact ⟨b, zs, fb, rfl, hB, m2, fun c => by rw [List.count_cons]; omega⟩
    · cases hs
      unfold OR at q1
      obtain ⟨q1, rfl⟩ := q1
      obtain ⟨b, zs, rfl, hB, _, m2⟩ := q1.lstE
      exact ⟨b, zs, [], rfl, hB, ORs.ofD m2, fun c => Nat.le_refl _⟩
    · cases hs
  obtain ⟨b, zs, f2, rfl, hB, m2, hc⟩ := key
  obtain ⟨f', ex, r'⟩ := k a fa (fa ++ f2) (.lst (wa ++ zs)) (.lst (xs ++ ys)) rfl rfl (fun c => by rw [List.count_append]; have := hc c; omega) fun A' H' st k1 k2 hH' => by
    unfold OR
    exact ⟨a, wa ++ zs, fa ++ f2, rfl, hH', rfl, ORs.join (ORs.stp st _ _ _ k1 m) (ORs.stp st _ _ _ (fun c hm => k2 c (by rw [mem_of_count] at hm ⊢; exact Nat.lt_of_lt_of_le hm (hc c))) m2)⟩
  exact ⟨a, b, wa, zs, f', e1, rfl, hH, hB, m.len, m2.len, ex, r'⟩
theorem put_ok {f0 : String} {f1 : List Addr} (q1 : OR K cl A H s y f1) : ∀ {ns : List String} {xs : List SV} {vs : List V} {g : List Addr}, ns.length = xs.length → ORs K cl A H xs vs g →
    ∃ vs' g', putF (stOf f0) y (zipS ns vs) = zipS (putN f0 s ns xs).1 vs' ∧ (putN f0 s ns xs).1.length = vs'.length ∧ (∀ b, g'.count b ≤ g.count b + f1.count b) ∧ ORs K cl A H (putN f0 s ns xs).2 vs' g'
  | [], [], vs, g, _, m => by
    unfold ORs at m
    obtain ⟨rfl, rfl⟩ := m
    exact ⟨[y], f1, rfl, rfl, fun b => by simp, ORs.one q1⟩
  | n :: ns, x :: xs, vs, g, hl, m => by
    unfold ORs at m
    obtain ⟨w, ws', g1, g2, rfl, rfl, q, m⟩ := m
    unfold putN
    have e0 : zipS (n :: ns) (w :: ws') = (Str.ofString n, w) :: zipS ns ws' := rfl
    rw [e0]
    by_cases h : n = f0
    · subst h
      rw [if_pos rfl]
      refine ⟨y :: ws', f1 ++ g2, ?_, ?_, fun b => by simp only [List.count_append]; omega, ORs.cons q1 m⟩
      · show (if Str.ofString n = stOf n then (Str.ofString n, y) :: zipS ns ws' else _) = _
        rw [if_pos (show Str.ofString n = stOf n from rfl)]
        rfl
      · have := m.len
        simp at hl ⊢
        omega
    · rw [if_neg h]
      obtain ⟨vs', g', h1, h2, h3, h4⟩ := put_ok q1 (by simpa using hl) m
      refine ⟨w :: vs', g1 ++ g', ?_, ?_, fun b => by have := h3 b; simp only [List.count_append]; omega, ORs.cons q h4⟩
      · show (if Str.ofString n = stOf f0 then (Str.ofString n, y) :: zipS ns ws' else (Str.ofString n, w) :: putF (stOf f0) y (zipS ns ws')) = _
        rw [if_neg (show ¬ Str.ofString n = stOf f0 from fun z => h (stOf_inj z)), h1]
        rfl
      · show (n :: _).length = _
        rw [List.length_cons, List.length_cons, h2]
  | [], _ :: _, _, _, hl, _ => by cases hl
  | _ :: _, [], _, _, hl, _ => by cases hl
/-- x.f = s -/
theorem Rel.putF {i : Nat} {c f0 : String} {ns : List String} {xs : List SV} (r : Rel K cl O ro ρ (s :: ts) σ (y :: ws) f H) (e : ρ[i]? = some (some (.ins c ns xs))) (hl : ns.length = xs.length) :
    ∃ a C dx fs f', σ[i]? = some (some (.ref a)) ∧ cl c = some C ∧ H a = some (.ins C dx fs) ∧ fs.length = ns.length ∧ ExW f H f' (upd H a (.ins C dx (L2.putF (stOf f0) y fs))) ∧
      Rel K cl O ro (ρ.set i (some (.ins c (putN f0 s ns xs).1 (putN f0 s ns xs).2))) ts σ ws f' (upd H a (.ins C dx (L2.putF (stOf f0) y fs))) := by
  obtain ⟨v, g, f1, e1, q, q1, k⟩ := r.slot e
  unfold OR at q
  obtain ⟨a, C, dx, wa, fa, rfl, hc, hH, hl2, rfl, m⟩ := q
  obtain ⟨vs', g', h1, h2, h3, h4⟩ := put_ok (f0 := f0) q1 hl m
  obtain ⟨f', ex, r'⟩ := k a fa g' (.ins C dx (L2.putF (stOf f0) y (zipS ns wa))) (.ins c (putN f0 s ns xs).1 (putN f0 s ns xs).2) rfl rfl h3 fun A' H' st k1 k2 hH' => by
    unfold OR
    refine ⟨a, C, dx, vs', g', rfl, hc, by rw [← h1]; exact hH', h2, rfl, ORs.stp st _ _ _ (fun b hb => ?_) h4⟩
    have hb' := h3 b
    rw [mem_of_count] at hb
    by_cases hf : b ∈ fa
    · exact k1 b hf
    · rw [mem_of_count] at hf
      exact k2 b (by rw [mem_of_count]; omega)
  exact ⟨a, C, dx, _, f', e1, hc, hH, by unfold zipS; rw [List.length_zip, List.length_map]; omega, ex, r'⟩
end
/-! ### what a statement does -/
def GF (cl : String → Option Addr) (K : PySem.W.Frag) (O : Addr → Prop) (ro : List (Nat × V)) (W : WX) (En : Ends) (f : List Addr) (H : Hp) (r : Fl) : Prop := match r with
  | .nx ρ' => ∀ σ' H' f', ExW f H f' H' → Rel K cl O ro ρ' [] σ' [] f' H' → En.nx σ' H'
  | .bk ρ' => ∀ σ' H' f', ExW f H f' H' → Rel K cl O ro ρ' [] σ' [] f' H' → En.bk σ' H'
  | .ct ρ' => ∀ σ' H' f', ExW f H f' H' → Rel K cl O ro ρ' [] σ' [] f' H' → En.ct σ' H'
  | .rt s ρ' => ∀ v σ' H' f', ExW f H f' H' → Rel K cl O ro ρ' [s] σ' [v] f' H' → En.rt v H'
  | .exc x ρ' => ∀ c d σ' H' f', ExW f H f' H' → Rel K cl O ro ρ' [] σ' [] f' H' → XR K cl (Av O f') H' x c d → W c d σ' H'
  | .no => False
def tX (cl : String → Option Addr) (K : PySem.W.Frag) (O : Addr → Prop) (ro : List (Nat × V)) (W : WX) (g : Env → Fl) : TS := fun En σ H => ∃ ρ f, Rel K cl O ro ρ [] σ [] f H ∧ GF cl K O ro W En f H (g ρ)
def tX1 (cl : String → Option Addr) (K : PySem.W.Frag) (O : Addr → Prop) (ro : List (Nat × V)) (W : WX) (h : SV → Env → Fl) (v : V) (En : Ends) (σ : L2.St) (H : Hp) : Prop := ∃ s ρ f, Rel K cl O ro ρ [s] σ [v] f H ∧ GF cl K O ro W En f H (h s ρ)
section
variable {K : PySem.W.Frag} {cl : String → Option Addr} {O : Addr → Prop} {ro : List (Nat × V)} {W : WX} {σ : L2.St} {H H' : Hp} {En : Ends} {f f' : List Addr}
theorem GF.ext {r : Fl} (e : ExW f H f' H') (h : GF cl K O ro W En f H r) : GF cl K O ro W En f' H' r := by
  cases r with
  | nx ρ' => exact fun σ' H2 f2 e2 r2 => h σ' H2 f2 (e.trans e2) r2
  | bk ρ' => exact fun σ' H2 f2 e2 r2 => h σ' H2 f2 (e.trans e2) r2
  | ct ρ' => exact fun σ' H2 f2 e2 r2 => h σ' H2 f2 (e.trans e2) r2
  | rt s ρ' => exact fun v σ' H2 f2 e2 r2 => h v σ' H2 f2 (e.trans e2) r2
  | exc x ρ' => exact fun c d σ' H2 f2 e2 r2 => h c d σ' H2 f2 (e.trans e2) r2
  | no => exact h
theorem tX.bind {g : Env → R SV} {h : SV → Env → Fl} (q : tX cl K O ro W (fun ρ => thenF (g ρ) h) En σ H) : tE K cl O ro W g σ H fun v H1 => tX1 cl K O ro W h v En σ H1 := by
  obtain ⟨ρ, f, r, q⟩ := q
  refine ⟨ρ, [], [], f, r, ?_⟩
  dsimp only at q
  cases e : g ρ with
  | ok s ρ1 =>
    rw [e] at q
    exact fun v H1 f1 e1 r1 => ⟨s, ρ1, f1, r1, GF.ext e1 q⟩
  | exc x ρ1 =>
    rw [e] at q
    exact fun c d H1 f1 e1 r1 xr => q c d σ H1 f1 e1 r1 xr
  | no =>
    rw [e] at q
    exact q
end
/-! ### the look at statements -/
def swB (sc : Scope) (y : Str) (py : Pos) (v : Expr) : Bool := match v with
  | .ListComp _ [⟨_, _, _, 0⟩] scope pos => decide (sc.names.lookup y = some .local) && ((py.line == pos.line) && !(scope.names.any fun (n, k) => n == y && (k == .local || k == .cell)))
  | _ => false
/-- a cell's list isn't swapped -/
theorem swaps_cell {v : Expr} {y : Str} {py : Pos} {l : Nat} {env : PySem.Env} (h : env.scope.names.lookup y = some .cell) : swapsWith v (some (.Name y py)) l env = pure false := by
  have hk : (env.kindOf y == some NameKind.local) = false := by
    unfold Env.kindOf
    rw [h]
    rfl
  cases v with
  | ListComp e gs sc p =>
    show (pure (env.blockKind == ScopeKind.function && env.kindOf y == some NameKind.local && py.line == (Expr.ListComp e gs sc p).pos.line && !(sc.names.any fun (n, k) => n == y && (k == .local || k == .cell))) : Sem Bool) = pure false
    rw [hk]
    simp
  | SetComp e gs sc p =>
    show (pure (env.blockKind == ScopeKind.function && env.kindOf y == some NameKind.local && py.line == (Expr.SetComp e gs sc p).pos.line && !(sc.names.any fun (n, k) => n == y && (k == .local || k == .cell))) : Sem Bool) = pure false
    rw [hk]
    simp
  | DictComp a e gs sc p =>
    show (pure (env.blockKind == ScopeKind.function && env.kindOf y == some NameKind.local && py.line == (Expr.DictComp a e gs sc p).pos.line && !(sc.names.any fun (n, k) => n == y && (k == .local || k == .cell))) : Sem Bool) = pure false
    rw [hk]
    simp
  | _ => rfl
/-- stores of such a thing aren't swapped -/
def noTup : Expr → Bool
  | .Tuple vs _ _ => decide (4 ≤ vs.length)
  | _ => true
theorem swapped_no {xs : List Expr} {k : Nat} {p : Pos} {e : Expr} {env : PySem.Env} (h : noTup e = true) : swappedStores [.Tuple xs k p] e env = pure none := by
  cases e with
  | Tuple vs k2 p2 =>
    have h : 4 ≤ vs.length := of_decide_eq_true h
    unfold swappedStores
    dsimp only
    have hc : (!(xs.length == 2 || xs.length == 3) || vs.length != xs.length || env.blockKind != ScopeKind.function) = true := by
      by_cases hx : xs.length = 2 ∨ xs.length = 3
      · have : (vs.length != xs.length) = true := by
          rw [bne_iff_ne]
          omega
        rw [this]
        simp
      · have : (xs.length == 2 || xs.length == 3) = false := by
          rw [Bool.or_eq_false_iff, beq_eq_false_iff_ne, beq_eq_false_iff_ne]
          omega
        rw [this]
        simp
    rw [if_pos hc]
  | _ => rfl
mutual
def ckS (N : List Str) : S → Scope → Stmt → Bool
  | .set i e, sc, x => (match x with
    | .Assign [.Name y py] v _ => decide (N[i]? = some y) && (locB sc y && (ck N e false sc v && ((noLc v || decide (sc.names.lookup y = some .cell)) || swB sc y py v)))
    | _ => false)
  | .setf i g e, sc, x => (match x with
    | .Assign [.Attribute (.Name y _) z _] v _ => decide (z = stOf g) && (decide (N[i]? = some y) && (visB sc y && (nmB y && (ck N e false sc v && noLc v))))
    | _ => false)
  | .app i e, sc, x => (match x with
    | .Expr (.Call (.Attribute (.Name y _) z ap) [v] [] p) _ => decide (z = stOf "append") && (decide (N[i]? = some y) && (visB sc y && (nmB y && (ck N e false sc v && (noSt v && (ap.endLine == p.line))))))
    | _ => false)
  | .expr e, sc, x => (match x with
    | .Expr v _ => ck N e false sc v && noLc v
    | _ => false)
  | .ret e, sc, x => (match x with
    | .Return (some v) _ => ck N e false sc v
    | _ => false)
  | .retn, _, x => (match x with
    | .Return none _ => true
    | _ => false)
  | .ite c a b, sc, x => (match x with
    | .If y p q _ => ckt N c sc y && (ckL N a sc p && ckL N b sc q)
    | _ => false)
  | .for_ g it b, sc, x => (match x with
    | .For tg y p [] _ => ck N it true sc y && ((noSet y && enuOk it tg) && (ckG N sc g tg && ckL N b sc p))
    | _ => false)
  | .whl c b, sc, x => (match x with
    | .While y p [] _ => ckt N c sc y && ckL N b sc p
    | _ => false)
  | .pass, _, x => (match x with
    | .Pass _ => true
    | _ => false)
  | .doc, _, x => (match x with
    | .Expr (.Constant (.str _) _ _) _ => true
    | _ => false)
  | .brk, _, x => (match x with
    | .Break _ => true
    | _ => false)
  | .cnt, _, x => (match x with
    | .Continue _ => true
    | _ => false)
  | .raise c as, sc, x => (match x with
    | .Raise (some (.Call (.Name y _) (e :: es) [] _)) none _ => gnB sc y (stOf c) && cks N as sc (e :: es)
    | _ => false)
  | .tryk b c i j, sc, x => (match x with
    | .Try body [.ExceptHandler (some (.Name y _)) (some n) [.Assign [.Name m _] (.Name n2 _) _] _] [] [] _ => gnB sc y (stOf c) && (ckL N b sc body && (decide (n2 = n) && (decide (N[i]? = some n) && (decide (N[j]? = some m) && (decide (i ≠ j) &&
        (decide (sc.names.lookup n = some .local) && (decide (sc.names.lookup m = some .local) && nmB n)))))))
    | _ => false)
  | .unp is e, sc, x => (match x with
    | .Assign [.Tuple xs _ _] v _ => ckN N sc is xs && (ck N e false sc v && (noLc v && noTup v))
    | _ => false)
  | .ext i e, sc, x => (match x with
    | .AugAssign (.Name y _) .Add v _ => decide (N[i]? = some y) && (locB sc y && ck N e false sc v)
    | _ => false)
  | .bad, _, _ => true
  | .nil, _, _ => false
  | .cons _ _, _, _ => false
def ckL (N : List Str) : S → Scope → List Stmt → Bool
  | .nil, _, xs => (match xs with
    | [] => true
    | _ => false)
  | .cons s r, sc, xs => (match xs with
    | x :: xs => ckS N s sc x && ckL N r sc xs
    | _ => false)
  | _, _, _ => false
end
/-- what a def's body may lean on besides -/
structure SdS (X : Cx) : Prop where
  own : PassesOwn (model X.prog X.w) X.A X.env X.xe
  loc : ∀ x, locB X.env.scope x = true → LocF X x
  kind : X.env.scope.kind = .function
  stk : X.stack = X.env :: X.outer
  frm : X.env.frame = some X.env.locals
  ex0 : X.ex = []
section
variable (t : T) (F : String → List SV → Cr) (cl : String → Option Addr)
def PSp (c : S) : Prop := ∀ (X : Cx) (W : WX) (O : Addr → Prop) (ro : List (Nat × V)) (RO : List Nat) (x : Stmt), Sd X t F cl W → SdS X → (∀ p ∈ ro, p.1 ∈ RO) → ckS X.N c X.env.scope x = true → PS X x (tX cl X.K O ro W (Kn.exec t F RO c))
def PLp (c : S) : Prop := ∀ (X : Cx) (W : WX) (O : Addr → Prop) (ro : List (Nat × V)) (RO : List Nat) (xs : List Stmt), Sd X t F cl W → SdS X → (∀ p ∈ ro, p.1 ∈ RO) → ckL X.N c X.env.scope xs = true → PSs X xs (tX cl X.K O ro W (Kn.exec t F RO c))
end
section
variable {t : T} {F : String → List SV → Cr} {cl : String → Option Addr} {X : Cx} {W : WX} {O : Addr → Prop} {ro : List (Nat × V)} {RO : List Nat}
theorem PS.imp {x : Stmt} {u u' : TS} (h : PS X x u) (k : ∀ En σ H, u' En σ H → u En σ H) : PS X x u' := ⟨fun pins s σ H En I q => h.run pins s σ H En I (k En σ H q)⟩
theorem PSs.imp {x : List Stmt} {u u' : TS} (h : PSs X x u) (k : ∀ En σ H, u' En σ H → u En σ H) : PSs X x u' := ⟨fun pins s σ H En I q => h.run pins s σ H En I (k En σ H q)⟩
theorem l_nil : PLp t F cl .nil := by
  intro X W O ro RO xs S Z hr h
  unfold ckL at h
  split at h
  · refine PSs.imp pss_nil fun En σ H q => ?_
    obtain ⟨ρ, f, r, q⟩ := q
    simp only [Kn.exec] at q
    exact q σ H f (Ext.refl f H) r
  · cases h
theorem l_cons {s r : S} (hs : PSp t F cl s) (hl : PLp t F cl r) : PLp t F cl (.cons s r) := by
  intro X W O ro RO xs S Z hr h
  unfold ckL at h
  split at h
  · obtain ⟨h1, h2⟩ := bf_split h
    refine PSs.imp (pss_cons (hs X W O ro RO _ S Z hr h1) (hl X W O ro RO _ S Z hr h2)) fun En σ H q => ?_
    obtain ⟨ρ, f, rr, q⟩ := q
    refine ⟨ρ, f, rr, ?_⟩
    have e : Kn.exec t F RO (.cons s r) ρ = (match Kn.exec t F RO s ρ with
      | .nx ρ' => Kn.exec t F RO r ρ'
      | x => x) := by first | (simp only [Kn.exec]; done) | (simp only [Kn.exec]; rfl)
    rw [e] at q
    cases e1 : Kn.exec t F RO s ρ with
    | nx ρ' =>
      rw [e1] at q
      exact fun σ' H' f' ex r' => ⟨ρ', f', r', GF.ext ex q⟩
    | bk ρ' => rw [e1] at q; exact q
    | ct ρ' => rw [e1] at q; exact q
    | rt s' ρ' => rw [e1] at q; exact q
    | exc x ρ' => rw [e1] at q; exact q
    | no => rw [e1] at q; exact q
  · cases h
/-- a slot gets the value -/
theorem set_end {i : Nat} {v : V} {En : Ends} {σ : L2.St} {H : Hp} (hr : ∀ p ∈ ro, p.1 ∈ RO) (q : tX1 cl X.K O ro W (fun v ρ => if RO.contains i then .no else .nx (ρ.set i (some v))) v En σ H) : gName i v σ H En.nx := by
  obtain ⟨s, ρ, f, r, q⟩ := q
  dsimp only at q
  by_cases hc : RO.contains i = true
  · rw [if_pos hc] at q
    exact q.elim
  · rw [if_neg hc] at q
    by_cases hi : i < ρ.length
    · obtain ⟨f', ex, r'⟩ := r.set hi fun p hp z => hc (by rw [← z]; simpa using hr p hp)
      exact q _ H f' ex r'
    · obtain ⟨f', ex, r'⟩ := r.pop
      refine q _ H f' ex ?_
      have l := r.len
      rw [List.set_eq_of_length_le (by omega), List.set_eq_of_length_le (by omega)]
      exact r'
theorem x_set {e : E} (i : Nat) (he : All t F cl e) (hlc : ∀ (X : Cx) (W : WX) (O : Addr → Prop) (ro : List (Nat × V)) (y : Expr) (gs : List Comprehension) (scope : Scope) (p : Pos), Sd X t F cl W → ck X.N e false X.env.scope (.ListComp y gs scope p) = true →
    (∀ ρ, ev t F e ρ = .no) ∨ ∃ g gi st tg it ifs, gs = [⟨tg, it, ifs, 0⟩] ∧ LcOk X cl O ro W g gi st y tg it ifs scope ∧ ev t F e = (fun ρ => (gi ρ).bind fun ds ρ => if freeAt ρ (slotsT g) then
      (compL (fun d ρ' => match bindT g d (wipeE ρ' (slotsT g)) with
        | some ρ₂ => st ρ₂
        | none => .no) ds ρ []).bind fun vs ρ' => .ok (.lst vs) (backE ρ (wipeE ρ' (slotsT g)) (slotsT g))
      else .no)) : PSp t F cl (.set i e) := by
  intro X W O ro RO x S Z hr h
  have e0 : Kn.exec t F RO (.set i e) = fun ρ => thenF (ev t F e ρ) fun v ρ => if RO.contains i then .no else .nx (ρ.set i (some v)) := by (funext ρ; simp only [Kn.exec])
  unfold ckS at h
  split at h
  · rename_i y py v pos
    obtain ⟨h1, h⟩ := bf_split h
    obtain ⟨h2, h⟩ := bf_split h
    obtain ⟨h3, h4⟩ := bf_split h
    have hi := of_decide_eq_true h1
    obtain ⟨l1, l2⟩ := Z.loc y h2
    rw [e0]
    rw [Bool.or_eq_true] at h4
    rcases h4 with h4 | h4
    · have hsw : swapsWith v (some (.Name y py)) pos.line X.env = pure false := by
        rw [Bool.or_eq_true] at h4
        rcases h4 with h4 | h4
        · exact swaps_no h4
        · exact swaps_cell (of_decide_eq_true h4)
      exact PS.imp (ps_set S.nd hi l1 (he.pe X W O ro v S h3) hsw l2) fun En σ H q => tE.mono q.bind fun v H1 q1 => set_end hr q1
    · unfold swB at h4
      split at h4
      · rename_i z g it ifs scope lp
        obtain ⟨a1, a2⟩ := bf_split h4
        obtain ⟨a2, a3⟩ := bf_split a2
        have a1 := of_decide_eq_true a1
        rcases hlc X W O ro _ _ _ _ S h3 with hn | ⟨g, gi, st, tg, it, ifs, eg, ok, ee⟩
        · refine ⟨fun pins s σ H En I q => ?_⟩
          obtain ⟨ρ, f, r, q⟩ := q
          dsimp only at q
          rw [hn] at q
          exact q.elim
        · cases eg
          obtain ⟨tt, te, b1, b2, b3, b4, b5, b6, b7⟩ := ok.ex
          refine PS.imp (ps_setLc S.calm S.nd hi a1 (sw_true Z.kind a1 a2 (by simpa using a3)) b1 b2 b3 b4 b5 b6) fun En σ H q => ?_
          rw [own_map]
          have q2 := q.bind
          rw [ee] at q2
          exact lc_ok b7 (tE.mono q2 fun v H1 q1 => set_end hr q1)
      · cases h4
  · cases h
theorem x_setf {e : E} (i : Nat) (g : String) (he : All t F cl e) : PSp t F cl (.setf i g e) := by
  intro X W O ro RO x S Z hr h
  have e0 : Kn.exec t F RO (.setf i g e) = fun ρ => thenF (ev t F e ρ) fun v ρ => (match ρ[i]? with
    | some (some (.ins c ns xs)) => if ns.length < 900 ∧ ns.length = xs.length ∧ t.fld c g = true then let r := putN g v ns xs; .nx (ρ.set i (some (.ins c r.1 r.2))) else .no
    | _ => .no) := by (funext ρ; first | (simp only [Kn.exec]; done) | (simp only [Kn.exec]; rfl))
  unfold ckS at h
  split at h
  · rename_i y py z p2 v pos
    obtain ⟨h1, h⟩ := bf_split h
    obtain ⟨h2, h⟩ := bf_split h
    obtain ⟨h3, h⟩ := bf_split h
    obtain ⟨h4, h⟩ := bf_split h
    obtain ⟨h5, h6⟩ := bf_split h
    have h1 := of_decide_eq_true h1
    subst h1
    obtain ⟨n1, n2, _⟩ := nmB_ok h4
    rw [e0]
    refine PS.imp (ps_fld (pe_var (of_decide_eq_true h2) (visB_ok h3) n1 n2) (he.pe X W O ro v S h5) (swaps_no h6)) fun En σ H q => tE.mono q.bind fun v H1 q1 => ?_
    obtain ⟨s, ρ, f, r, q⟩ := q1
    dsimp only at q
    split at q
    · rename_i c ns xs es
      split at q
      · rename_i hh
        obtain ⟨hn, hl, hf⟩ := hh
        obtain ⟨a, C, dx, fs, f', e1, hc, hH, hlen, ex, r'⟩ := r.putF (f0 := g) es hl
        obtain ⟨k1, k2⟩ := S.fld _ _ _ hf hc
        exact ⟨_, e1, a, C, dx, fs, rfl, hH, k1, k2, by omega, q _ _ f' ex r'⟩
      · exact q.elim
    · exact q.elim
  · cases h
theorem x_app {e : E} (i : Nat) (he : All t F cl e) : PSp t F cl (.app i e) := by
  intro X W O ro RO x S Z hr h
  have e0 : Kn.exec t F RO (.app i e) = fun ρ => (match ρ[i]? with
    | some (some (.lst _)) => thenF (ev t F e ρ) fun v ρ => (match ρ[i]? with
      | some (some (.lst xs)) => if xs.length < lim then .nx (ρ.set i (some (.lst (xs ++ [v])))) else .no
      | _ => .no)
    | _ => .no) := by (funext ρ; first | (simp only [Kn.exec]; done) | (simp only [Kn.exec]; rfl))
  unfold ckS at h
  split at h
  · rename_i y py z ap v p pos
    obtain ⟨h1, h⟩ := bf_split h
    obtain ⟨h2, h⟩ := bf_split h
    obtain ⟨h3, h⟩ := bf_split h
    obtain ⟨h4, h⟩ := bf_split h
    obtain ⟨h5, h⟩ := bf_split h
    obtain ⟨h6, h7⟩ := bf_split h
    have h1 := of_decide_eq_true h1
    subst h1
    obtain ⟨n1, n2, _⟩ := nmB_ok h4
    rw [e0]
    refine PS.imp (ps_expr (pe_bm PySem.F.plainAttrs_list PySem.F.slot_list_append PySem.F.type_list_append mt_append (pe_var (of_decide_eq_true h2) (visB_ok h3) n1 n2) (pa_cons (he.pe X W O ro v S h5) pa_nil (star_cons h6)) rfl
      (by rw [star_cons h6]; rfl) h7 (star_cons h6) rfl) (swaps_no rfl)) fun En σ H q => ?_
    obtain ⟨ρ, f, r, q⟩ := q
    dsimp only at q
    split at q
    · rename_i xs0 es0
      obtain ⟨w, g, e1, q1⟩ := r.own es0
      unfold OR at q1
      obtain ⟨a, wa, fa, rfl, hH, _, _⟩ := q1
      refine ⟨.ref a, e1, .inl ⟨rfl, _, SqL.of hH⟩, ?_⟩
      have q2 : tX cl X.K O ro W (fun ρ => thenF (ev t F e ρ) fun v ρ => (match ρ[i]? with
        | some (some (.lst xs)) => if xs.length < lim then .nx (ρ.set i (some (.lst (xs ++ [v])))) else .no
        | _ => .no)) En σ H := ⟨ρ, f, r, q⟩
      refine tE.mono q2.bind fun v H1 q1 => ?_
      obtain ⟨s, ρ, f, r, q⟩ := q1
      dsimp only at q
      split at q
      · rename_i xs es
        split at q
        · rename_i hl
          obtain ⟨a', wa', f', e1', hH', hlen, ex, r'⟩ := r.appS es
          rw [e1] at e1'
          cases e1'
          exact ⟨a, wa', v, rfl, rfl, hH', by rw [← hlen]; exact Nat.lt_of_lt_of_le hl (by decide), q _ _ f' ex r'⟩
        · exact q.elim
      · exact q.elim
    · exact q.elim
  · cases h
theorem x_unp {e : E} (is : List Nat) (he : All t F cl e) : PSp t F cl (.unp is e) := by
  intro X W O ro RO x S Z hr h
  have e0 : Kn.exec t F RO (.unp is e) = fun ρ => thenF (ev t F e ρ) fun v ρ => (match bindT (.tp is) (frz v) ρ with
    | some ρ' => if is.all (fun i => !RO.contains i) then .nx ρ' else .no
    | none => .no) := by (funext ρ; first | (simp only [Kn.exec]; done) | (simp only [Kn.exec]; rfl))
  unfold ckS at h
  split at h
  · rename_i xs k p v pos
    obtain ⟨h1, h⟩ := bf_split h
    obtain ⟨h2, h⟩ := bf_split h
    obtain ⟨h3, h4⟩ := bf_split h
    obtain ⟨a1, a2⟩ := assign_names (env := X.env) h1
    rw [e0]
    refine PS.imp (ps_asg (he.pe X W O ro v S h2) (pg_tup S.calm (pgs_of S.nd Z.loc h1) a1 a2) (show swapsWith v (some (.Tuple xs k p)) pos.line X.env = pure false from swaps_no h3) (swapped_no h4)) fun En σ H q => ?_
    refine tE.mono q.bind fun v H1 q1 => ?_
    obtain ⟨s, ρ, f, r, q⟩ := q1
    dsimp only at q
    obtain ⟨f1, ex1, r1⟩ := r.freeze
    have hv := r1.top
    obtain ⟨f2, ex2, r2⟩ := r1.pop
    have hv2 : VR X.K cl (Av O f2) H1 (Kn.frz s) v := VR.stp (Stp.ext ex2 (fun _ h => h) fun a h => .inl h) _ _ hv
    cases hb : bindT (.tp is) (frz s) ρ with
    | none => rw [hb] at q; exact q.elim
    | some ρ2 =>
      rw [hb] at q
      have q : GF cl X.K O ro W En f H1 (if is.all (fun i => !RO.contains i) then .nx ρ2 else .no) := q
      by_cases hro : is.all (fun i => !RO.contains i) = true
      · rw [if_pos hro] at q
        have hg : ∀ p ∈ ro, p.1 ∉ slotsT (.tp is) := fun p hp z => by
          have := (List.all_eq_true.mp hro) _ z
          simp at this
          exact this (hr p hp)
        exact g_ok (g := .tp is) r2 hv2 hg hb fun σ2 f' ex r' _ => q σ2 H1 f' ((ex1.trans ex2).trans ex) r'
      · rw [if_neg hro] at q
        exact q.elim
  · cases h
theorem x_ext {e : E} (i : Nat) (he : All t F cl e) : PSp t F cl (.ext i e) := by
  intro X W O ro RO x S Z hr h
  have e0 : Kn.exec t F RO (.ext i e) = fun ρ => (match ρ[i]? with
    | some (some (.lst _)) => thenF (ev t F e ρ) fun v ρ => (match ρ[i]? with
      | some (some (.lst xs)) => (match svl v with
        | some ys => if xs.length + ys.length ≤ lim then .nx (ρ.set i (some (.lst (xs ++ ys)))) else .no
        | none => .no)
      | _ => .no)
    | _ => .no) := by (funext ρ; first | (simp only [Kn.exec]; done) | (simp only [Kn.exec]; rfl))
  unfold ckS at h
  split at h
  · rename_i y py v pos
    obtain ⟨h1, h⟩ := bf_split h
    obtain ⟨h2, h3⟩ := bf_split h
    have hi := of_decide_eq_true h1
    obtain ⟨l1, l2⟩ := Z.loc y h2
    rw [e0]
    refine PS.imp (ps_aug S.nd hi l1 (he.pe X W O ro v S h3) iop_ext l2) fun En σ H q => ?_
    obtain ⟨ρ, f, r, q⟩ := q
    dsimp only at q
    split at q
    · rename_i xs0 es0
      obtain ⟨w, g, e1, q1⟩ := r.own es0
      refine ⟨w, e1, ?_⟩
      have q2 : tX cl X.K O ro W (fun ρ => thenF (ev t F e ρ) fun v ρ => (match ρ[i]? with
        | some (some (.lst xs)) => (match svl v with
          | some ys => if xs.length + ys.length ≤ lim then .nx (ρ.set i (some (.lst (xs ++ ys)))) else .no
          | none => .no)
        | _ => .no)) En σ H := ⟨ρ, f, r, q⟩
      refine tE.mono q2.bind fun v H1 q1 => ?_
      obtain ⟨s, ρ, f, r, q⟩ := q1
      dsimp only at q
      split at q
      · rename_i xs es
        split at q
        · rename_i ys hy
          split at q
          · rename_i hl
            obtain ⟨a, b, wa, zs, f', e1', rfl, hA, hB, l1, l2, ex, r'⟩ := r.extS es hy
            rw [e1] at e1'
            cases e1'
            refine ⟨a, b, wa, zs, rfl, rfl, hA, hB, by rw [← l1, ← l2]; exact lim_le hl, ?_⟩
            show En.nx (List.set σ i (some (V.ref a))) _
            rw [set_same e1]
            exact q _ _ f' ex r'
          · exact q.elim
        · exact q.elim
      · exact q.elim
    · exact q.elim
  · cases h
theorem x_expr {e : E} (he : All t F cl e) : PSp t F cl (.expr e) := by
  intro X W O ro RO x S Z hr h
  have e0 : Kn.exec t F RO (.expr e) = fun ρ => thenF (ev t F e ρ) fun _ ρ => .nx ρ := by (funext ρ; simp only [Kn.exec])
  unfold ckS at h
  split at h
  · obtain ⟨h1, h2⟩ := bf_split h
    rw [e0]
    refine PS.imp (ps_expr (he.pe X W O ro _ S h1) (swaps_no h2)) fun En σ H q => tE.mono q.bind fun v H1 q1 => ?_
    obtain ⟨s, ρ, f, r, q⟩ := q1
    obtain ⟨f', ex, r'⟩ := r.pop
    exact q _ _ f' ex r'
  · cases h
theorem x_ret {e : E} (he : All t F cl e) : PSp t F cl (.ret e) := by
  intro X W O ro RO x S Z hr h
  have e0 : Kn.exec t F RO (.ret e) = fun ρ => thenF (ev t F e ρ) fun v ρ => .rt v ρ := by (funext ρ; simp only [Kn.exec])
  unfold ckS at h
  split at h
  · rw [e0]
    refine PS.imp (ps_ret (he.pe X W O ro _ S h)) fun En σ H q => tE.mono q.bind fun v H1 q1 => ?_
    obtain ⟨s, ρ, f, r, q⟩ := q1
    exact q v _ _ f (Ext.refl f H1) r
  · cases h
theorem x_retn : PSp t F cl .retn := by
  intro X W O ro RO x S Z hr h
  unfold ckS at h
  split at h
  · refine PS.imp ps_retN fun En σ H q => ?_
    obtain ⟨ρ, f, r, q⟩ := q
    simp only [Kn.exec] at q
    exact q .non σ H f (Ext.refl f H) (r.push VR.non)
  · cases h
theorem x_pass : PSp t F cl .pass := by
  intro X W O ro RO x S Z hr h
  unfold ckS at h
  split at h
  · refine PS.imp ps_pass fun En σ H q => ?_
    obtain ⟨ρ, f, r, q⟩ := q
    simp only [Kn.exec] at q
    exact q σ H f (Ext.refl f H) r
  · cases h
theorem x_doc : PSp t F cl .doc := by
  intro X W O ro RO x S Z hr h
  unfold ckS at h
  split at h
  · refine PS.imp ps_doc fun En σ H q => ?_
    obtain ⟨ρ, f, r, q⟩ := q
    simp only [Kn.exec] at q
    exact q σ H f (Ext.refl f H) r
  · cases h
theorem x_brk : PSp t F cl .brk := by
  intro X W O ro RO x S Z hr h
  unfold ckS at h
  split at h
  · refine PS.imp ps_break fun En σ H q => ?_
    obtain ⟨ρ, f, r, q⟩ := q
    simp only [Kn.exec] at q
    exact q σ H f (Ext.refl f H) r
  · cases h
theorem x_cnt : PSp t F cl .cnt := by
  intro X W O ro RO x S Z hr h
  unfold ckS at h
  split at h
  · refine PS.imp ps_continue fun En σ H q => ?_
    obtain ⟨ρ, f, r, q⟩ := q
    simp only [Kn.exec] at q
    exact q σ H f (Ext.refl f H) r
  · cases h
theorem x_bad : PSp t F cl .bad := by
  intro X W O ro RO x S Z hr h
  refine PS.imp ps_never fun En σ H q => ?_
  obtain ⟨ρ, f, r, q⟩ := q
  simp only [Kn.exec] at q
  exact q.elim
theorem x_ite {c : E} {a b : S} (hc : All t F cl c) (ha : PLp t F cl a) (hb : PLp t F cl b) : PSp t F cl (.ite c a b) := by
  intro X W O ro RO x S Z hr h
  have e0 : Kn.exec t F RO (.ite c a b) = fun ρ => thenF (ev t F c ρ) fun v ρ => (match v with
    | .d (.bl true) => Kn.exec t F RO a ρ
    | .d (.bl false) => Kn.exec t F RO b ρ
    | _ => .no) := by (funext ρ; first | (simp only [Kn.exec]; done) | (simp only [Kn.exec]; rfl))
  unfold ckS at h
  split at h
  · obtain ⟨h1, h⟩ := bf_split h
    obtain ⟨h2, h3⟩ := bf_split h
    rw [e0]
    refine PS.imp (ps_if (hc.pt X W O ro _ S h1) (ha X W O ro RO _ S Z hr h2) (hb X W O ro RO _ S Z hr h3)) fun En σ H q => ?_
    obtain ⟨ρ, f, r, q⟩ := q
    dsimp only at q
    refine ⟨ρ, [], [], f, r, ?_⟩
    cases e1 : ev t F c ρ with
    | ok s ρ1 =>
      rw [e1] at q
      cases s with
      | d x =>
        cases x with
        | bl b0 =>
          intro H' f' ex r'
          cases b0 with
          | true =>
            rw [if_pos rfl]
            exact ⟨ρ1, f', r', GF.ext ex q⟩
          | false =>
            rw [if_neg Bool.false_ne_true]
            exact ⟨ρ1, f', r', GF.ext ex q⟩
        | _ => exact False.elim q
      | lst _ => exact False.elim q
      | ins _ _ _ => exact False.elim q
      | dk _ _ => exact False.elim q
    | exc x ρ1 =>
      rw [e1] at q
      exact fun c d H1 f1 e1 r1 xr => q c d σ H1 f1 e1 r1 xr
    | no =>
      rw [e1] at q
      exact q
  · cases h
theorem x_for {g : Tg} {it : E} {b : S} (hi : All t F cl it) (hb : PLp t F cl b) : PSp t F cl (.for_ g it b) := by
  intro X W O ro RO x S Z hr h
  have e0 : Kn.exec t F RO (.for_ g it b) = fun ρ => thenF (evi t F it ρ) fun ds ρ => if (slotsT g).all (fun i => !RO.contains i) then loopF (fun d ρ => match bindT g d ρ with
      | some ρ' => Kn.exec t F RO b ρ'
      | none => .no) ds ρ else .no := by (funext ρ; first | (simp only [Kn.exec]; done) | (simp only [Kn.exec]; rfl))
  unfold ckS at h
  split at h
  · obtain ⟨h1, h⟩ := bf_split h
    obtain ⟨h2, h⟩ := bf_split h
    obtain ⟨h3, h4⟩ := bf_split h
    rw [e0]
    refine PS.imp (ps_for Z.own S.calm (hi.pi X W O ro _ _ S h1 (bf_split h2).2) (pg_of S.calm S.nd Z.loc h3) (hb X W O ro RO _ S Z hr h4) (fold_no (bf_split h2).1)) fun En σ H q => ?_
    obtain ⟨ρ, f, r, q⟩ := q
    dsimp only at q
    refine ⟨ρ, [], [], f, r, ?_⟩
    cases e1 : evi t F it ρ with
    | no => rw [e1] at q; exact q
    | exc x ρ1 =>
      rw [e1] at q
      exact fun c d H1 f1 e1 r1 xr => q c d σ H1 f1 e1 r1 xr
    | ok ds ρ1 =>
      rw [e1] at q
      have q : GF cl X.K O ro W En f H (if (slotsT g).all (fun i => !RO.contains i) then loopF (fun d ρ => match bindT g d ρ with
        | some ρ' => Kn.exec t F RO b ρ'
        | none => .no) ds ρ1 else .no) := q
      by_cases hro : (slotsT g).all (fun i => !RO.contains i) = true
      · rw [if_pos hro] at q
        have hg : ∀ p ∈ ro, p.1 ∉ slotsT g := fun p hp z => by
          have := (List.all_eq_true.mp hro) _ z
          simp at this
          exact this (hr p hp)
        generalize hst : (fun d ρ => match bindT g d ρ with
          | some ρ' => Kn.exec t F RO b ρ'
          | none => Fl.no) = step at q
        intro J H1 f1 ex1 r1 j1
        refine ⟨fun i m σ H => m = ds.length - i ∧ i ≤ ds.length ∧ ∃ ρi fi, Rel X.K cl O ro ρi [] σ [] fi H ∧ JD X.K cl (Av O fi) H J ds ∧ GF cl X.K O ro W En fi H (loopF step (ds.drop i) ρi),
          ⟨ds.length, by simp, Nat.zero_le _, ρ1, f1, r1, j1, GF.ext ex1 q⟩, ?_⟩
        rintro i m σ2 H2 ⟨rfl, hi, ρi, fi, ri, ji, qi⟩
        by_cases hlt : i < ds.length
        · refine .inr ⟨(ji.turn ri hlt).1, fun σ H => ∃ ρi fi, Rel X.K cl O ro ρi [] σ [] fi H ∧ JD X.K cl (Av O fi) H J ds ∧ GF cl X.K O ro W En fi H (loopF step (ds.drop (i + 1)) ρi),
            fun σ' H' p => ⟨ds.length - (i + 1), by omega, rfl, hlt, p⟩, fun x H' hy => ?_⟩
          obtain ⟨ext, rit, jit, hv⟩ := (ji.turn ri hlt).2 x H' hy
          have ri := rit
          have ji := jit
          have qi := GF.ext ext.w qi
          rw [List.drop_eq_getElem_cons hlt] at qi
          unfold loopF at qi
          have hs0 : step ds[i] ρi = match bindT g ds[i] ρi with
            | some ρ' => Kn.exec t F RO b ρ'
            | none => .no := by rw [← hst]
          cases hbd : bindT g ds[i] ρi with
          | none =>
            rw [hbd] at hs0
            rw [hs0] at qi
            exact qi.elim
          | some ρ2 =>
            rw [hbd] at hs0
            have hs0 : step ds[i] ρi = Kn.exec t F RO b ρ2 := hs0
            rw [hs0] at qi
            refine g_ok ri hv hg hbd fun σ3 f2 ex2 r2 _ => ⟨ρ2, f2, r2, ?_⟩
            have qi2 := GF.ext ex2.w qi
            have ji2 := ji.stp (Stp.ext ex2 (fun _ h => h) fun a h => .inl h)
            cases hs : Kn.exec t F RO b ρ2 with
            | nx ρ3 =>
              rw [hs] at qi2
              exact fun σ' H' f' ex r' => ⟨ρ3, f', r', ji2.stp (Stp.extW ex (fun _ h => h) fun a h => .inl h), GF.ext ex qi2⟩
            | ct ρ3 =>
              rw [hs] at qi2
              exact fun σ' H' f' ex r' => ⟨ρ3, f', r', ji2.stp (Stp.extW ex (fun _ h => h) fun a h => .inl h), GF.ext ex qi2⟩
            | bk ρ3 => rw [hs] at qi2; exact qi2
            | rt s ρ3 => rw [hs] at qi2; exact qi2
            | exc y ρ3 => rw [hs] at qi2; exact qi2
            | no => rw [hs] at qi2; exact qi2
        · have ei : i = ds.length := by omega
          subst ei
          rw [List.drop_length] at qi
          exact .inl ⟨ji.stop (Nat.le_refl _), qi σ2 H2 fi (Ext.refl fi H2) ri⟩
      · rw [if_neg hro] at q
        exact q.elim
  · cases h
theorem x_whl {c : E} {b : S} (hc : All t F cl c) (hb : PLp t F cl b) : PSp t F cl (.whl c b) := by
  intro X W O ro RO x S Z hr h
  have e0 : Kn.exec t F RO (.whl c b) = fun ρ => loopW (ev t F c) (Kn.exec t F RO b) fuel ρ := by (funext ρ; simp only [Kn.exec])
  unfold ckS at h
  split at h
  · obtain ⟨h1, h2⟩ := bf_split h
    rw [e0]
    refine PS.imp (ps_while Z.own (hc.pt X W O ro _ S h1) (hb X W O ro RO _ S Z hr h2)) fun En σ H q => ?_
    obtain ⟨ρ, f, r, q⟩ := q
    dsimp only at q
    refine ⟨fun m σ H => ∃ ρ f, Rel X.K cl O ro ρ [] σ [] f H ∧ GF cl X.K O ro W En f H (loopW (ev t F c) (Kn.exec t F RO b) m ρ), ⟨fuel, ρ, f, r, q⟩, ?_⟩
    rintro m σ2 H2 ⟨ρi, fi, ri, qi⟩
    cases m with
    | zero => exact False.elim qi
    | succ m =>
      unfold loopW at qi
      refine ⟨ρi, [], [], fi, ri, ?_⟩
      cases e1 : ev t F c ρi with
      | ok s ρ1 =>
        rw [e1] at qi
        cases s with
        | d x =>
          cases x with
          | bl b0 =>
            intro H' f' ex r'
            cases b0 with
            | true =>
              rw [if_pos rfl]
              refine ⟨fun σ H => ∃ ρ f, Rel X.K cl O ro ρ [] σ [] f H ∧ GF cl X.K O ro W En f H (loopW (ev t F c) (Kn.exec t F RO b) m ρ), fun σ' H' p => ⟨m, Nat.lt_succ_self m, p⟩, ρ1, f', r', ?_⟩
              have qi : GF cl X.K O ro W En fi H2 (match Kn.exec t F RO b ρ1 with
                | .nx ρ' => loopW (ev t F c) (Kn.exec t F RO b) m ρ'
                | .ct ρ' => loopW (ev t F c) (Kn.exec t F RO b) m ρ'
                | .bk ρ' => .nx ρ'
                | r => r) := qi
              have qi2 := GF.ext ex.w qi
              cases hs : Kn.exec t F RO b ρ1 with
              | nx ρ3 => rw [hs] at qi2; exact fun σ' H' f' ex r' => ⟨ρ3, f', r', GF.ext ex qi2⟩
              | ct ρ3 => rw [hs] at qi2; exact fun σ' H' f' ex r' => ⟨ρ3, f', r', GF.ext ex qi2⟩
              | bk ρ3 => rw [hs] at qi2; exact qi2
              | rt s ρ3 => rw [hs] at qi2; exact qi2
              | exc y ρ3 => rw [hs] at qi2; exact qi2
              | no => rw [hs] at qi2; exact qi2
            | false =>
              rw [if_neg Bool.false_ne_true]
              exact qi σ2 H' f' ex r'
          | _ => exact False.elim qi
        | lst _ => exact False.elim qi
        | ins _ _ _ => exact False.elim qi
        | dk _ _ => exact False.elim qi
      | exc x ρ1 =>
        rw [e1] at qi
        exact fun c d H1 f1 e1 r1 xr => qi c d σ2 H1 f1 e1 r1 xr
      | no =>
        rw [e1] at qi
        exact qi
  · cases h
/-- behind several values -/
def tXs (cl : String → Option Addr) (K : PySem.W.Frag) (O : Addr → Prop) (ro : List (Nat × V)) (W : WX) (n : Nat) (h : List SV → Env → Fl) (vs : List V) (En : Ends) (σ : L2.St) (H : Hp) : Prop :=
  ∃ ss ρ f, ss.length = n ∧ ss.length = vs.length ∧ Rel K cl O ro ρ (ss ++ []) σ (vs ++ []) f H ∧ GF cl K O ro W En f H (h ss ρ)
theorem tX.binds {K : PySem.W.Frag} {En : Ends} {σ : L2.St} {H : Hp} {n : Nat} {g : Env → R (List SV)} {h : List SV → Env → Fl} (hn : ∀ ρ ss ρ1, g ρ = .ok ss ρ1 → ss.length = n) (q : tX cl K O ro W (fun ρ => thenF (g ρ) h) En σ H) :
    tEs K cl O ro W g σ H fun vs H1 => tXs cl K O ro W n h vs En σ H1 := by
  obtain ⟨ρ, f, r, q⟩ := q
  refine ⟨ρ, [], [], f, r, ?_⟩
  dsimp only at q
  cases e : g ρ with
  | ok s ρ1 =>
    rw [e] at q
    exact fun vs H1 f1 l e1 r1 => ⟨s, ρ1, f1, hn _ _ _ e, l, r1, GF.ext e1 q⟩
  | exc x ρ1 =>
    rw [e] at q
    exact fun c d H1 f1 e1 r1 xr => q c d σ H1 f1 e1 r1 xr
  | no =>
    rw [e] at q
    exact q
theorem upd_del {H : Hp} {a d : Addr} {e0 e1 e2 x : HO} (hd : d ≠ a) (ha : H a = none) : upd (del (upd (upd (upd H a e0) d e1) a e2) a) d x = upd H d x := by
  funext b
  by_cases h1 : b = d
  · rw [h1, upd_same, upd_same]
  · rw [upd_ne h1, upd_ne h1]
    by_cases h2 : b = a
    · rw [h2, del_same, ha]
    · rw [del_ne h2, upd_ne h2, upd_ne h1, upd_ne h2]
theorem x_raise {as : E} (c : String) (hs : PAp t F cl as) : PSp t F cl (.raise c as) := by
  intro X W O ro RO x S Z hr h
  unfold ckS at h
  split at h
  · rename_i y p e es pos pos2
    obtain ⟨h1, h2⟩ := bf_split h
    unfold gnB at h1
    obtain ⟨h3, h4⟩ := bf_split h1
    obtain ⟨h5, h6⟩ := bf_split h4
    have h3 := of_decide_eq_true h3
    subst h3
    have st := cks_st h2
    rw [List.all_cons, Bool.and_eq_true] at st
    by_cases hx : t.xn c (lenE as) = true
    · have e0 : Kn.exec t F RO (.raise c as) = fun ρ => thenF (evs t F as ρ) fun vs ρ => (match t.xc c (frzs vs) with
        | some x => .exc x ρ
        | none => .no) := by (funext ρ; first | (simp only [Kn.exec, hx, if_true]; done) | (simp only [Kn.exec, hx, if_true]; rfl))
      rw [e0]
      obtain ⟨C, fI, fd, ps, ds, dvs, eff, k1, k2, k3, k4, k5, k6, k7, k8, k9, k10⟩ := S.xmk c _ hx
      refine PS.imp (ps_raise S.calm S.takes (pmk_oex k3 k4 k5 k6 S.xroom k7 k8 (fun pins σ H s e s' I z => by
        obtain ⟨_, _, _, _, _, _, _, _, _, _, _, _, z⟩ := z
        exact z.elim) (glB_ok h5) k2 (hs X W O ro _ S h2) (nmB_ok h6).1 (star_cons st.1) (star_any st.2))) fun En σ H q => ?_
      refine tEs.mono (tX.binds (evs_len as) q) fun vs H1 q1 => ?_
      obtain ⟨ss, ρ, f, hn, hl, r, g⟩ := q1
      obtain ⟨f1, ex1, r1, m⟩ := Rel.freezes hl r
      have g1 := GF.ext ex1.w g
      cases hc : t.xc c (frzs ss) with
      | none => simp only [hc] at g1; exact g1.elim
      | some x1 =>
        simp only [hc] at g1
        obtain ⟨rfl, k11⟩ := k10 (frzs ss) x1 (by rw [frzs_len, hn]) hc
        obtain ⟨fs, zs, j1, j2, j3, j4, j5⟩ := k11 _ _ vs m
        refine ⟨by rw [← hl, hn]; exact Nat.le_trans k9 (by decide), fun a na => ?_⟩
        refine ⟨a, C, vs ++ dvs, fs, rfl, k3, upd_same, j1, j2, fun d hd hda => ⟨rfl, d, fs, upd_same, by rw [upd_ne hda, upd_same], by rw [upd_ne hda] at hd; exact hd, ?_⟩⟩
        have hd1 : H1 d = none := by rw [upd_ne hda] at hd; exact hd
        show W (.ref C) (some d) σ (upd (del (upd (upd (upd H1 a (exo a C none)) d (exd d fs)) a (exo a C (some d))) a) d (.xd fs))
        rw [upd_del hda na]
        obtain ⟨ex2, r2, np, stp⟩ := r1.alloc (o := .xd fs) hd1
        refine g1 (.ref C) (some d) σ (upd H1 d (.xd fs)) f1 ex2 r2 ⟨C, d, fs, zs, k1, rfl, rfl, upd_same, np, j3, VRs.stp stp _ _ j4, j5⟩
    · have e0 : Kn.exec t F RO (.raise c as) = fun ρ => .no := by (funext ρ; simp only [Kn.exec, if_neg hx])
      rw [e0]
      exact ⟨fun pins s σ H En I q => by
        obtain ⟨ρ, f, r, q⟩ := q
        exact q.elim⟩
  · cases h
theorem x_tryk {b : S} (c : String) (i j : Nat) (hb : PLp t F cl b) : PSp t F cl (.tryk b c i j) := by
  intro X W O ro RO x S Z hr h
  have e0 : Kn.exec t F RO (.tryk b c i j) = fun ρ => if (RO.contains i || RO.contains j) || !t.exn c then .no else (match Kn.exec t F RO b ρ with
    | .exc x ρ' => (match t.isx x.c c with
      | some true => .nx ((ρ'.set i none).set j (some (.d (.exc x.c x.ns x.xs))))
      | some false => .exc x ρ'
      | none => .no)
    | r => r) := by (funext ρ; first | (simp only [Kn.exec]; done) | (simp only [Kn.exec]; rfl))
  unfold ckS at h
  split at h
  · rename_i body y np n m mp n2 np2 ap pos' pos
    obtain ⟨h1, h⟩ := bf_split h
    obtain ⟨h2, h⟩ := bf_split h
    obtain ⟨h3, h⟩ := bf_split h
    obtain ⟨h4, h⟩ := bf_split h
    obtain ⟨h5, h⟩ := bf_split h
    obtain ⟨h6, h⟩ := bf_split h
    obtain ⟨h7, h⟩ := bf_split h
    obtain ⟨h8, h9⟩ := bf_split h
    unfold gnB at h1
    obtain ⟨g1, g2⟩ := bf_split h1
    obtain ⟨g2, g3⟩ := bf_split g2
    have g1 := of_decide_eq_true g1
    have h3 := of_decide_eq_true h3
    subst g1
    subst h3
    rw [e0]
    have hi := of_decide_eq_true h4
    have hj := of_decide_eq_true h5
    have hij := of_decide_eq_true h6
    have ln := of_decide_eq_true h7
    have lm := of_decide_eq_true h8
    obtain ⟨b1, b2, _⟩ := nmB_ok h9
    by_cases hro : ((RO.contains i || RO.contains j) || !t.exn c) = true
    · exact ⟨fun pins s σ H En I q => by
        obtain ⟨ρ, f, r, q⟩ := q
        dsimp only at q
        rw [if_pos hro] at q
        exact q.elim⟩
    · have hri : ∀ p ∈ ro, p.1 ≠ i := fun p hp z => hro (by
        have := hr p hp
        rw [z] at this
        rw [List.contains_iff_mem.mpr this]
        rfl)
      have hrj : ∀ p ∈ ro, p.1 ≠ j := fun p hp z => hro (by
        have := hr p hp
        rw [z] at this
        rw [List.contains_iff_mem.mpr this, Bool.or_true]
        rfl)
      have hx : t.exn c = true := by
        cases hk : t.exn c with
        | false => exact absurd (by rw [hk]; simp) hro
        | true => rfl
      · obtain ⟨A, a1, a2⟩ := S.xcl c hx
        refine PS.imp (ps_try_keep (tb := fun W' => tX cl X.K O ro W' (Kn.exec t F RO b)) (c := .ref A) Z.ex0 Z.stk Z.frm S.nd hi ln hj lm hij b1 b2 ⟨glB_ok g2, (nmB_ok g3).1, .inl a2⟩ S.takes
          (fun W' pn xe tk po => hb (X.tr pn xe) W' O ro RO body ⟨S.calm, S.nd, S.hu, S.glob, S.blt, S.tyn, S.isx, S.xcl, S.xmk, S.xroom, tk, S.rng, S.enm, S.isa, S.fn, S.meth, S.init, S.fld, fun σ => passAt tk σ⟩ ⟨po, Z.loc, Z.kind, Z.stk, Z.frm, Z.ex0⟩ hr h2)) fun En σ H q => ?_
        obtain ⟨ρ, f, r, q⟩ := q
        dsimp only at q
        rw [if_neg hro] at q
        refine ⟨ρ, f, r, ?_⟩
        cases e1 : Kn.exec t F RO b ρ with
        | nx ρ' => rw [e1] at q; exact q
        | bk ρ' => rw [e1] at q; exact q
        | ct ρ' => rw [e1] at q; exact q
        | rt s ρ' => rw [e1] at q; exact q
        | no => rw [e1] at q; exact q
        | exc x ρ' =>
          rw [e1] at q
          have q : GF cl X.K O ro W En f H (match t.isx x.c c with
            | some true => .nx ((ρ'.set i none).set j (some (.d (.exc x.c x.ns x.xs))))
            | some false => .exc x ρ'
            | none => .no) := q
          intro cls dd σ' H' f' ex r' xr
          obtain ⟨C, d1, fs, zs, x1, rfl, rfl, x2, x3, x4, x5, x6⟩ := id xr
          cases hk : t.isx x.c c with
          | none => rw [hk] at q; exact q.elim
          | some bb =>
            obtain ⟨_, k2⟩ := S.isx.isx x.c c bb C A hk x1 a1
            rw [hk] at q
            refine ⟨bb, k2, fun e a na => ?_, fun e => ?_⟩
            · subst e
              have q : GF cl X.K O ro W En f H (.nx ((ρ'.set i none).set j (some (.d (.exc x.c x.ns x.xs))))) := q
              refine ⟨C, d1, rfl, rfl, ?_⟩
              obtain ⟨f2, ex2, sb2, r2⟩ := r'.ovr (s := none) (v := none) (i := i) (fun _ _ => rfl) hri
              have xr2 := xr.stp (Stp.ext ex2 (fun _ h => h) fun a h => .inl h)
              obtain ⟨ex3, r3, np, stp⟩ := r2.alloc (o := ExX C d1 a) na
              obtain ⟨C', d', fs', zs', y1, y2, y3, y4, y5, y6, y7, y8⟩ := xr2
              rw [x1] at y1
              cases y1
              cases y3
              have hv : VR X.K cl (Av O f2) (upd H' a (ExX C d1 a)) (.exc x.c x.ns x.xs) (.ref a) := by
                unfold VR
                exact ⟨a, C, d1, fs', zs', rfl, x1, upd_same, np, (stp _ _ y4 y5).1, y5, y6, VRs.stp stp _ _ y7, y8⟩
              have hlen := r3.len
              by_cases hlt : j < (ρ'.set i none).length
              · obtain ⟨f4, ex4, r4⟩ := (r3.push hv).set (i := j) hlt hrj
                exact q _ _ f4 (((ex.trans ex2.w).trans ex3.w).trans ex4.w) r4
              · have q2 := q (σ'.set i none) (upd H' a (ExX C d1 a)) f2 ((ex.trans ex2.w).trans ex3.w)
                rw [List.set_eq_of_length_le (by omega)] at q2
                have q3 := q2 r3
                rw [List.set_eq_of_length_le (by omega)]
                exact q3
            · subst e
              exact q _ _ σ' H' f' ex r' xr
  · cases h
theorem lc_all (e : E) (X : Cx) (W : WX) (O : Addr → Prop) (ro : List (Nat × V)) (y : Expr) (gs : List Comprehension) (scope : Scope) (p : Pos) (S : Sd X t F cl W) (h : ck X.N e false X.env.scope (.ListComp y gs scope p) = true) :
    (∀ ρ, ev t F e ρ = .no) ∨ ∃ g gi st tg it ifs, gs = [⟨tg, it, ifs, 0⟩] ∧ LcOk X cl O ro W g gi st y tg it ifs scope ∧ ev t F e = (fun ρ => (gi ρ).bind fun ds ρ => if freeAt ρ (slotsT g) then
      (compL (fun d ρ' => match bindT g d (wipeE ρ' (slotsT g)) with
        | some ρ₂ => st ρ₂
        | none => .no) ds ρ []).bind fun vs ρ' => .ok (.lst vs) (backE ρ (wipeE ρ' (slotsT g)) (slotsT g))
      else .no) := by
  cases e with
  | bad => exact .inl fun ρ => by simp only [ev]
  | comp g it el =>
    right
    unfold ck at h
    split at h
    · rename_i heq
      cases heq
      obtain ⟨h1, h⟩ := bf_split h
      obtain ⟨h2, h⟩ := bf_split h
      obtain ⟨h3, h⟩ := bf_split h
      obtain ⟨h4, h5⟩ := bf_split h
      exact ⟨g, _, _, _, _, _, rfl, lc_comp (all_e it).pi (all_e el).pe S h1 h2 h3 h4 h5, ev_comp⟩
    · cases h
  | cmpi g it c el =>
    right
    unfold ck at h
    split at h
    · rename_i heq
      cases heq
      obtain ⟨h1, h⟩ := bf_split h
      obtain ⟨h2, h⟩ := bf_split h
      obtain ⟨h3, h⟩ := bf_split h
      obtain ⟨h4, h⟩ := bf_split h
      obtain ⟨h6, h5⟩ := bf_split h
      exact ⟨g, _, _, _, _, _, rfl, lc_cmpi (all_e it).pi (all_e c).pt (all_e el).pe S h1 h2 h3 h4 h6 h5, ev_cmpi⟩
    · cases h
  | bm m a as => cases h
  | bor e =>
    unfold ck at h
    cases h
  | _ => cases h
structure AllS (t : T) (F : String → List SV → Cr) (cl : String → Option Addr) (c : S) : Prop where
  ps : PSp t F cl c
  pl : PLp t F cl c
theorem s_not' {c : S} (h : ∀ N sc x, ckS N c sc x = false) : PSp t F cl c := by
  intro X W O ro RO x S Z hr z
  rw [h] at z
  cases z
theorem l_not {c : S} (h : ∀ N sc x, ckL N c sc x = false) : PLp t F cl c := by
  intro X W O ro RO x S Z hr z
  rw [h] at z
  cases z
theorem all_s : ∀ c : S, AllS t F cl c := by
  intro c
  induction c with
  | nil => exact ⟨s_not' fun _ _ _ => rfl, l_nil⟩
  | cons s r h1 h2 => exact ⟨s_not' fun _ _ _ => rfl, l_cons h1.ps h2.pl⟩
  | set i e => exact ⟨x_set i (all_e e) (lc_all e), l_not fun _ _ _ => rfl⟩
  | setf i f e => exact ⟨x_setf i f (all_e e), l_not fun _ _ _ => rfl⟩
  | app i e => exact ⟨x_app i (all_e e), l_not fun _ _ _ => rfl⟩
  | expr e => exact ⟨x_expr (all_e e), l_not fun _ _ _ => rfl⟩
  | ret e => exact ⟨x_ret (all_e e), l_not fun _ _ _ => rfl⟩
  | retn => exact ⟨x_retn, l_not fun _ _ _ => rfl⟩
  | ite c a b ha hb => exact ⟨x_ite (all_e c) ha.pl hb.pl, l_not fun _ _ _ => rfl⟩
  | for_ g it b hb => exact ⟨x_for (all_e it) hb.pl, l_not fun _ _ _ => rfl⟩
  | whl c b hb => exact ⟨x_whl (all_e c) hb.pl, l_not fun _ _ _ => rfl⟩
  | pass => exact ⟨x_pass, l_not fun _ _ _ => rfl⟩
  | doc => exact ⟨x_doc, l_not fun _ _ _ => rfl⟩
  | brk => exact ⟨x_brk, l_not fun _ _ _ => rfl⟩
  | cnt => exact ⟨x_cnt, l_not fun _ _ _ => rfl⟩
  | raise c as => exact ⟨x_raise c (all_e as).pa, l_not fun _ _ _ => rfl⟩
  | tryk b c i j hb => exact ⟨x_tryk c i j hb.pl, l_not fun _ _ _ => rfl⟩
  | unp is e => exact ⟨x_unp is (all_e e), l_not fun _ _ _ => rfl⟩
  | ext i e => exact ⟨x_ext i (all_e e), l_not fun _ _ _ => rfl⟩
  | bad => exact ⟨x_bad, l_not fun _ _ _ => rfl⟩
end
end Kn

set_option Elab.async false
set_option linter.all false
set_option maxRecDepth 100000
set_option maxHeartbeats 4000000
/-! Snd6: defs; the whole program. -/
namespace Kn
open PySem L2
section
variable {K : PySem.W.Frag} {cl : String → Option Addr} {O : Addr → Prop} {ro : List (Nat × V)} {W : WX} {ρ : Env} {ts : List SV} {σ : L2.St} {ws : List V} {f f' : List Addr} {H H' : Hp} {s : SV} {v y : V} {x : D} {A A' : Addr → Prop}
theorem OE.nones : ∀ k : Nat, OE K cl A H (List.replicate k none) (List.replicate k none) []
  | 0 => by unfold List.replicate OE; exact ⟨rfl, rfl⟩
  | k + 1 => by
    rw [List.replicate_succ, List.replicate_succ]
    unfold OE
    exact ⟨none, List.replicate k none, [], [], rfl, rfl, rfl, OE.nones k⟩
theorem OE.grow (k : Nat) : ∀ {ρ : Env} {σ : L2.St} {f : List Addr}, OE K cl A H ρ σ f → OE K cl A H (ρ ++ List.replicate k none) (σ ++ List.replicate k none) f
  | [], σ, f, r => by
    unfold OE at r
    obtain ⟨rfl, rfl⟩ := r
    exact OE.nones k
  | s :: ρ, σ, f, r => by
    unfold OE at r
    obtain ⟨v, σ', f1, f2, rfl, rfl, q, m⟩ := r
    rw [List.cons_append, List.cons_append]
    unfold OE
    exact ⟨v, _, f1, f2, rfl, rfl, q, OE.grow k m⟩
def roV (io : List Bool) (vs : List V) : List (Nat × V) := (List.range vs.length).filterMap fun i => if io[i]? = some true then (vs[i]?).map fun v => (i, v) else none
theorem roV_mem {io : List Bool} {vs : List V} {p : Nat × V} (h : p ∈ roV io vs) : io[p.1]? = some true ∧ vs[p.1]? = some p.2 := by
  unfold roV at h
  obtain ⟨i, _, e⟩ := List.mem_filterMap.mp h
  split at e
  · rename_i hi
    cases hv : vs[i]? with
    | none => rw [hv] at e; cases e
    | some v =>
      rw [hv] at e
      cases e
      exact ⟨hi, hv⟩
  · cases e
theorem roV_in {io : List Bool} {vs : List V} {i : Nat} {v : V} (h1 : io[i]? = some true) (h2 : vs[i]? = some v) : (i, v) ∈ roV io vs := by
  unfold roV
  refine List.mem_filterMap.mpr ⟨i, List.mem_range.mpr (List.getElem?_eq_some_iff.mp h2).1, ?_⟩
  rw [if_pos h1, h2]
  rfl
theorem roOf_mem : ∀ {io : List Bool} {i k : Nat}, io[i]? = some true → k + i ∈ roOf io k
  | [], i, k, h => by simp at h
  | true :: ms, 0, k, h => by unfold roOf; simp
  | false :: ms, 0, k, h => by simp at h
  | true :: ms, i + 1, k, h => by
    unfold roOf
    have := roOf_mem (io := ms) (i := i) (k := k + 1) (by simpa using h)
    rw [show k + (i + 1) = k + 1 + i by omega]
    exact List.mem_cons_of_mem _ this
  | false :: ms, i + 1, k, h => by
    unfold roOf
    have := roOf_mem (io := ms) (i := i) (k := k + 1) (by simpa using h)
    rw [show k + (i + 1) = k + 1 + i by omega]
    exact this
theorem OE.outs : ∀ {io : List Bool} {vs : List V} {ρ : Env} {σ : L2.St} {f : List Addr}, io.length = vs.length → OE K cl A H ρ σ f → (∀ (i : Nat) (v : V), io[i]? = some true → vs[i]? = some v → σ[i]? = some (some v)) →
    ∃ f', (∀ a, List.count a f' ≤ List.count a f) ∧ OE K cl A H (outsOf io ρ) (vs.map some) f'
  | [], [], ρ, σ, f, _, _, _ => ⟨[], fun a => by simp, by unfold outsOf OE; exact ⟨rfl, rfl⟩⟩
  | [], _ :: _, _, _, _, h, _, _ => by cases h
  | _ :: _, [], _, _, _, h, _, _ => by cases h
  | b :: io, v :: vs, [], σ, f, hl, r, k => by
    have r0 := r
    unfold OE at r
    obtain ⟨rfl, rfl⟩ := r
    cases b with
    | true =>
      have e0 := k 0 v rfl rfl
      simp at e0
    | false =>
      obtain ⟨f', c, r'⟩ := OE.outs (io := io) (vs := vs) (by simpa using hl) r0 fun i v a b => by
        have := k (i + 1) v (by simpa using a) (by simpa using b)
        simp at this
      refine ⟨f', c, ?_⟩
      rw [List.map_cons]
      unfold outsOf OE
      exact ⟨some v, _, [], f', rfl, rfl, rfl, r'⟩
  | b :: io, v :: vs, s :: ρ, σ, f, hl, r, k => by
    unfold OE at r
    obtain ⟨v0, σ', f1, f2, rfl, rfl, q, m⟩ := r
    obtain ⟨f', c, r'⟩ := OE.outs (io := io) (vs := vs) (by simpa using hl) m fun i v a b => by
      have := k (i + 1) v (by simpa using a) (by simpa using b)
      simpa using this
    cases b with
    | true =>
      have e0 := k 0 v rfl rfl
      simp at e0
      subst e0
      refine ⟨f1 ++ f', fun a => by have := c a; simp only [List.count_append]; omega, ?_⟩
      rw [List.map_cons]
      unfold outsOf OE
      exact ⟨some v, _, f1, f', rfl, rfl, q, r'⟩
    | false =>
      refine ⟨f', fun a => by have := c a; simp only [List.count_append]; omega, ?_⟩
      rw [List.map_cons]
      unfold outsOf OE
      exact ⟨some v, _, [], f', rfl, rfl, rfl, r'⟩
theorem Rel.outs {io : List Bool} {vs : List V} (hl : io.length = vs.length) (r : Rel K cl O (roV io vs) ρ ts σ ws f H) : ∃ f', Ext f H f' H ∧ Rel K cl O [] (outsOf io ρ) ts (vs.map some) ws f' H := by
  obtain ⟨fe, ft, e, c, d, o, p, q, z⟩ := r
  subst e
  obtain ⟨fe', c', p'⟩ := OE.outs hl p fun i v a b => z _ (roV_in a b)
  have hc : ∀ a, (fe' ++ ft).count a ≤ (fe ++ ft).count a := fun a => by have := c' a; simp only [List.count_append]; omega
  have sub : ∀ a ∈ fe' ++ ft, a ∈ fe ++ ft := fun a h => by
    rw [mem_of_count] at h ⊢
    exact Nat.lt_of_lt_of_le h (hc a)
  have st : Stp (Av O (fe ++ ft)) H (Av O (fe' ++ ft)) H := Stp.less sub
  obtain ⟨x, y⟩ := Rel.less (ro := []) c d o hc (OE.stp st _ _ _ (fun _ _ => rfl) p') (ORs.stp st _ _ _ (fun _ _ => rfl) q) (fun p h => by cases h)
  exact ⟨_, x, y⟩
end
/-! ### the program -/
structure Ent where
  q : String
  a : Addr
  fdt : FuncData
  ps : List Str
  fd : FD
structure EntOk (K : PySem.W.Frag) (PT : String → Option FD) (e : Ent) : Prop where
  has : PT e.q = some e.fd
  bind : Binds K e.fdt e.ps []
  ex : ∃ x qual st N, Fun K x qual st e.a e.fdt ∧ FnScope N e.ps (defScope st) ∧ N.length = e.fd.n ∧ e.ps.length = e.fd.np ∧ e.fd.io.length = e.fd.np ∧ e.fd.np ≤ e.fd.n ∧ ckL N e.fd.body (defScope st) (defBody st) = true
structure Top (K : PySem.W.Frag) (mg : Str → Option Value) (cl : String → Option Addr) (t : T) (PT : String → Option FD) : Prop where
  glob : ∀ x d, t.glob x = some d → ∃ u v, mg (stOf x) = some u ∧ RelV v u ∧ ∀ A H, VR K cl A H d v
  blt : ∀ b : Bf, mg (stOf (bfN b)) = none
  tyn : ∀ n, tys.contains n = true → mg (stOf n) = none
  isx : IsxOk K cl t
  xcl : ∀ c, t.exn c = true → ∃ A, cl c = some A ∧ mg (stOf c) = some (.ref A)
  rng : mg "range" = none
  enm : mg "enumerate" = none
  isa : IsaOk K cl t
  fn : ∀ f, t.isFn f = true → ∃ e, EntOk K PT e ∧ e.q = f ∧ mg (stOf f) = some (.ref e.a) ∧ PySem.W.keepIn K (.ref e.a) = true
  meth : ∀ c m q C, t.meth c m = some q → cl c = some C → Cls K C ∧ ∃ e, EntOk K PT e ∧ e.q = q ∧ Meth K C (stOf m) e.a
  init : ∀ c q, t.init c = some q → ∃ C e, cl c = some C ∧ mg (stOf c) = some (.ref C) ∧ EntOk K PT e ∧ e.q = q ∧ Mk K C e.a
  fld : ∀ c f C, t.fld c f = true → cl c = some C → Cls K C ∧ NoAttr K C (stOf f)
theorem map_len {ss : List SV} {vs : List V} {K : PySem.W.Frag} {cl : String → Option Addr} {O : Addr → Prop} {f : List Addr} {H : Hp} (r : Rel K cl O [] (ss.map some) [] (vs.map some) [] f H) : ss.length = vs.length := by
  have := r.len
  simpa using this
section
variable {P : Program} {w : World} {K : PySem.W.Frag} {mg : Str → Option Value} {base : Heap} {cl : String → Option Addr} {t : T} {PT : String → Option FD}
theorem top_fn (Z : Top K mg cl t PT) (ZX : ∀ c n, t.xn c n = true → XMk P w K mg base cl t.xc c n) : ∀ (n : Nat) (e : Ent), EntOk K PT e → FnOk P w K mg base (L2.CX P w) (2 * n + 10) e.a e.fdt e.ps (spF K cl (callN t PT n) e.q) := by
  intro n
  induction n with
  | zero =>
    intro e he
    refine ⟨fun vs H Q E h => ?_, fun A outer s H args us vs Q E hr e0 hb r h => ?_⟩
    · obtain ⟨O, ss, f, r, q⟩ := h
      exact False.elim q
    · obtain ⟨O, ss, f, r, q⟩ := h
      exact False.elim q
  | succ n ih =>
    intro e he
    obtain ⟨x, qual, st, N, F, S, hN, hps, hio, hnp, hck⟩ := he.ex
    have ecall : ∀ ss, callN t PT (n + 1) e.q ss = runF t (callN t PT n) e.fd ss := fun ss => by
      show (match PT e.q with
        | some fd => runF t (callN t PT n) fd ss
        | none => .no) = _
      rw [he.has]
    refine F.okX (k := 2 * n + 11) S (fun vs H Q E h => ?_) fun cdv A outer s H vs Q E hr h => ?_
    · obtain ⟨O, ss, f, r, q⟩ := h
      rw [ecall] at q
      unfold runF at q
      by_cases hh : ss.length = e.fd.np ∧ e.fd.np ≤ e.fd.n ∧ e.fd.io.length = e.fd.np ∧ modesOk e.fd.io ss = true
      · rw [← map_len r, hh.1, hps]
      · rw [if_neg hh] at q
        exact q.elim
    · obtain ⟨O, ss, f, r, q⟩ := h
      rw [ecall] at q
      unfold runF at q
      have hlen := map_len r
      have hh : ss.length = e.fd.np ∧ e.fd.np ≤ e.fd.n ∧ e.fd.io.length = e.fd.np ∧ modesOk e.fd.io ss = true := by
        refine Classical.byContradiction fun hh => ?_
        rw [if_neg hh] at q
        exact q.elim
      rw [if_pos hh] at q
      have G : Sd (cxOf (L2.CX P w) P w K mg base N qual (defScope st) e.a cdv A outer s H E) t (callN t PT n) cl (fun c d _ H => E c d H) := by
        refine ⟨rfl, S.nd, ?_, Z.glob, Z.blt, Z.tyn, Z.isx, Z.xcl, ZX, hr.mono (by omega), takes_of rfl rfl rfl rfl, Z.rng, Z.enm, Z.isa, fun f hf => ?_, fun c m q C hm hC => ?_, fun c q hi => ?_, Z.fld, fun σ => ?_⟩
        · have := hr.un
          show (A.deeper _).units + 70 < cLine
          omega
        · obtain ⟨e', h1, rfl, h2, h3⟩ := Z.fn f hf
          exact ⟨e'.a, h2, h3, e'.fdt, e'.ps, 2 * n + 10, ih e' h1, hr, h1.bind⟩
        · obtain ⟨h0, e', h1, rfl, h2⟩ := Z.meth c m q C hm hC
          exact ⟨h0, e'.a, h2, e'.fdt, e'.ps, 2 * n + 10, ih e' h1, hr, h1.bind⟩
        · obtain ⟨C, e', h0, h2, h1, rfl, h3⟩ := Z.init c q hi
          exact ⟨C, e'.a, h0, h2, h3, e'.fdt, e'.ps, 2 * n + 10, ih e' h1, hr, h1.bind⟩
        · exact passAt (takes_of rfl rfl rfl rfl) σ
      have GS : SdS (cxOf (L2.CX P w) P w K mg base N qual (defScope st) e.a cdv A outer s H E) := by
        refine ⟨passes_of rfl, fun x hx => ⟨locB_ok hx, .inl rfl⟩, S.kind, rfl, rfl, rfl⟩
      refine ⟨_, (all_s (t := t) (F := callN t PT n) (cl := cl) e.fd.body).pl _ (fun c d _ H => E c d H) O (roV e.fd.io vs) (roOf e.fd.io 0) _ G GS (fun p hp => by have := roOf_mem (k := 0) (roV_mem hp).1; simpa using this) hck, ?_⟩
      have hst : L2.start N vs = vs.map some ++ List.replicate (e.fd.n - e.fd.np) none := by
        unfold L2.start
        rw [hN, ← hlen, hh.1]
      refine ⟨ss.map some ++ List.replicate (e.fd.n - e.fd.np) none, f, ?_, ?_⟩
      · rw [hst]
        obtain ⟨fe, ft, ef, c, d, o, p, q2, z⟩ := r
        refine ⟨fe, ft, ef, c, d, o, OE.grow _ p, q2, fun p hp => ?_⟩
        obtain ⟨_, h2⟩ := roV_mem hp
        have hl : p.1 < (vs.map some).length := by
          have := (List.getElem?_eq_some_iff.mp h2).1
          simpa using this
        rw [List.getElem?_append_left hl, List.getElem?_map, h2]
        rfl
      · have hiov : e.fd.io.length = vs.length := by rw [hh.2.2.1, ← hh.1, hlen]
        generalize hx : Kn.exec t (callN t PT n) (roOf e.fd.io 0) e.fd.body (ss.map some ++ List.replicate (e.fd.n - e.fd.np) none) = r0 at q ⊢
        cases r0 with
        | nx ρ' =>
          intro σ' H' f' ex r'
          obtain ⟨f2, ex2, r2⟩ := Rel.outs hiov (r'.push (x := .non) VR.non)
          exact q .non H' f2 (ex.trans ex2) r2
        | rt s0 ρ' =>
          intro v σ' H' f' ex r'
          obtain ⟨f2, ex2, r2⟩ := Rel.outs hiov r'
          exact q v H' f2 (ex.trans ex2) r2
        | exc y ρ' =>
          intro c d σ' H' f' ex r' xr
          refine q c d H' ⟨ex.1, fun a h => by cases h⟩ (xr.stp fun a o h n => ⟨h, fun z => n (.inl z)⟩)
        | bk ρ' => exact q.elim
        | ct ρ' => exact q.elim
        | no => exact q.elim
end
end Kn

set_option Elab.async false
set_option linter.all false
set_option maxRecDepth 100000
set_option maxHeartbeats 4000000
/-! XIni: the __init__ of the exceptions' base class: words go to ValueError, number is kept. -/
namespace Kn
open PySem L2
/-- number's fields -/
def effL : List V → Option (List (Str × V))
  | [_, n] => some (if n = .non then [(("number" : Str), .int (-1))] else [(("number" : Str), n), (("number" : Str), .int (-1))])
  | _ => none
def isNm (e : Expr) (x : Str) (sc : Scope) : Bool := match e with
  | .Name y _ => decide (y = x) && (visB sc y && nmB y)
  | _ => false
theorem isNm_ok {X : Cx} {e : Expr} {x : Str} {i : Nat} (h : isNm e x X.env.scope = true) (hi : X.N[i]? = some x) : PE X e (tVar i) ∧ noSup e = true ∧ noLc e = true ∧ noSt e = true := by
  unfold isNm at h
  split at h
  · rename_i y p
    obtain ⟨h1, h⟩ := bf_split h
    obtain ⟨h2, h3⟩ := bf_split h
    have h1 := of_decide_eq_true h1
    subst h1
    obtain ⟨a, b, _⟩ := nmB_ok h3
    exact ⟨pe_var hi (visB_ok h2) a b, rfl, rfl, rfl⟩
  · cases h
def leB (v0 fl : Str) (sc : Scope) : List Stmt → Bool
  | [.Expr (.Call (.Attribute (.Name v _) i p2) [s1, w] [] p5) _, .Assign [.Attribute s2 a1 _] (.UnaryOp .USub (.Constant (.int 1) _ _) _) _, .If (.Compare n1 [.IsNot] [.Constant .none _ _] _) [.Assign [.Attribute s3 a2 _] n2 _] [] _] =>
    (decide (v = v0) && decide (i = ("__init__" : Str)) && (p2.endLine == p5.line) && glB sc v) && ((isNm s1 "self" sc && isNm w "words" sc) && (isNm s2 "self" sc && isNm s3 "self" sc) && (isNm n1 fl sc && isNm n2 fl sc) && (decide (a1 = fl) && decide (a2 = fl)))
  | _ => false
section
variable {P : Program} {w : World} {K : PySem.W.Frag} {mg : Str → Option Value} {base : Heap}
theorem upd_twice {H : Hp} {a d : Addr} {e1 e2 e3 : HO} (h : d ≠ a) : upd (upd (upd H d e1) a e3) d e2 = upd (upd H d e2) a e3 := by
  funext b
  by_cases h1 : b = d
  · rw [h1, upd_same, upd_ne h, upd_same]
  · rw [upd_ne h1]
    by_cases h2 : b = a
    · rw [h2, upd_same, upd_same]
    · rw [upd_ne h2, upd_ne h1, upd_ne h2, upd_ne h1]
theorem le_ok (k : Nat) {st : Stmt} {fI : Addr} {fd : FuncData} (F : FunD K "__init__" "LoopError.__init__" (defArgs st) (defBody st) (defScope st) [.non] [] fI fd) (S : FnScope ["self", "words", "number"] ["self", "words", "number"] (defScope st)) (hb : leB "ValueError" "number" (defScope st) (defBody st) = true)
    (hm : mg "ValueError" = none) (vV : PySem.W.findCls K (.type "ValueError") (.type "type") "__init__" = some (.val (.builtin "ValueError.__init__"))) :
    FnOk P w K mg base (L2.CX P w) (k + 1) fI fd ["self", "words", "number"] (spEff K effL) := by
  refine F.ok (k := k) S (fun vs H Q E h => ?_) (fun cdv A outer s H vs Q E hr h => ?_)
  · obtain ⟨a, C, args, fs, rfl, _, _, e, _⟩ := h
    unfold effL at e
    split at e
    · rfl
    · cases e
  · generalize hX : cxOf (L2.CX P w) P w K mg base ["self", "words", "number"] "LoopError.__init__" (defScope st) fI cdv A outer s H E = X
    have eK : X.K = K := by rw [← hX]; rfl
    have eN : X.N = [("self" : Str), ("words" : Str), ("number" : Str)] := by rw [← hX]; rfl
    have eS : X.env.scope = defScope st := by rw [← hX]; rfl
    have eM : X.mg = mg := by rw [← hX]; rfl
    have hu : X.A.units + 70 < cLine := by
      rw [← hX]
      have := hr.un
      show (A.deeper _).units + 70 < cLine
      omega
    rw [← eS] at hb
    generalize defBody st = body at hb ⊢
    unfold leB at hb
    split at hb
    · rename_i v p1 i p2 s1 w0 p5 p6 s2 a1 p7 k1 k2 p8 p9 n1 k3 k4 p10 s3 a2 p11 n2 p12 p13
      simp only [Bool.and_eq_true] at hb
      obtain ⟨⟨⟨⟨hv, hi⟩, hl⟩, hg⟩, ⟨⟨⟨b1, b2⟩, b3, b4⟩, b5, b6⟩, b7, b8⟩ := hb
      have hv := of_decide_eq_true hv
      have hi := of_decide_eq_true hi
      have b7 := of_decide_eq_true b7
      have b8 := of_decide_eq_true b8
      subst hv hi b7 b8
      have m0 : X.N[0]? = some ("self" : Str) := by rw [eN]; rfl
      have m1 : X.N[1]? = some ("words" : Str) := by rw [eN]; rfl
      have m2 : X.N[2]? = some ("number" : Str) := by rw [eN]; rfl
      obtain ⟨c1, _, _, c1s⟩ := isNm_ok b1 m0
      obtain ⟨c2, _, _, c2s⟩ := isNm_ok b2 m1
      obtain ⟨c3, _⟩ := isNm_ok b3 m0
      obtain ⟨c4, _⟩ := isNm_ok b4 m0
      obtain ⟨c5, _⟩ := isNm_ok b5 m2
      obtain ⟨c6, _, c6l, _⟩ := isNm_ok b6 m2
      have st2 : [s1, w0].all noSt = true := by simp [c1s, c2s]
      refine ⟨_, pss_cons (ps_expr (pe_veinit (pl := do return (← importBound (.Name "ValueError" p1) X.env).getD true) (glB_ok hg) (by rw [eM]; exact hm) (by rw [eK]; exact vV) (pa_cons c1 (pa_cons c2 pa_nil (star_cons c2s)) (star_cons c1s)) (meth_eval rfl st2 (Nat.le_of_ble_eq_true rfl) hl) (star_cons c1s) (star_any (by simp [c2s]))) (swaps_no rfl))
        (pss_cons (ps_ost c3 (pe_un un_neg pe_int) (swaps_no rfl)) (pss_one (ps_if (pt_cmpR (rCmp_ok hu .isnot) c5 pe_non (nomark _)) (pss_one (ps_ost c4 c6 (swaps_no c6l))) pss_nil))), ?_⟩
      obtain ⟨a, C, args, fs, rfl, T, ea, e, hno, q⟩ := h
      unfold effL at e
      split at e
      · rename_i wd n
        cases e
        rw [eK]
        have hn1 : PySem.W.findIn K (.ref C) "number" = some none := hno _ (by split <;> simp)
        refine ⟨_, rfl, _, rfl, a, C, [wd], rfl, Nat.le_of_ble_eq_true rfl, T, ea, ?_⟩
        refine ⟨1, rfl, .ref a, rfl, a, C, rfl, T, hn1, .inl ⟨ea, fun dx nd ne => ?_⟩⟩
        refine ⟨n, rfl, rfl, ?_⟩
        refine ⟨!decide (n = .non), rfl, ?_⟩
        have q1 := q dx nd ne
        by_cases hz : n = .non
        · subst hz
          exact q1
        · rw [if_neg hz] at q1
          rw [decide_eq_false hz]
          refine ⟨n, rfl, .ref a, rfl, a, C, rfl, T, hn1, .inr ⟨dx, _, upd_same, by rw [upd_ne ne, upd_same], Nat.le_of_ble_eq_true rfl, ?_⟩⟩
          rw [upd_twice ne]
          exact q1
      · cases e
    · cases hb
/-- what such a class makes of its arguments -/
def xcL (c : String) : List D → Option Xc
  | [_] => some ⟨c, ["number"], [.int (-1)]⟩
  | [_, n] => some ⟨c, ["number"], [if isN n then .int (-1) else n]⟩
  | _ => none
theorem xmk_L {cl : String → Option Addr} {xc : String → List D → Option Xc} {c : String} {C fI : Addr} {fd : FuncData} {st : Stmt} {n : Nat} (hn : n = 1 ∨ n = 2) (hxc : xc c = xcL c)
    (F : FunD K "__init__" "LoopError.__init__" (defArgs st) (defBody st) (defScope st) [.non] [] fI fd)
    (G : FnOk P w K mg base (L2.CX P w) 10 fI fd ["self", "words", "number"] (spEff K effL)) (b1 : ∃ ds, Vals ([V.non].drop 0) ds ∧ Binds K fd ["self", "words", "number"] ds) (b2 : ∃ ds, Vals ([V.non].drop 1) ds ∧ Binds K fd ["self", "words", "number"] ds)
    (hc : cl c = some C) (hm : mg (stOf c) = some (.ref C)) (T : OexC K C) (hi : PySem.W.findIn K (.ref C) "__init__" = some (some (.ref fI))) (ht : PySem.W.typeIn K (.ref fI) = some (.type "function")) (hf : PySem.W.findIn K (.ref C) "number" = some none) :
    XMk P w K mg base cl xc c n := by
  have hz : ∀ v : V, ∀ f ∈ (if v = .non then [(("number" : Str), V.int (-1))] else [(("number" : Str), v), (("number" : Str), V.int (-1))]).map (·.1), PySem.W.findIn K (.ref C) f = some none := fun v f h => by
    have : f = ("number" : Str) := by
      split at h
      · simpa using h
      · simpa using h
    rw [this]
    exact hf
  rcases hn with rfl | rfl
  · obtain ⟨ds, r, b⟩ := b1
    refine ⟨C, fI, fd, _, ds, [.non], effL, hc, hm, T, hi, ht, G, b, r, by decide, fun xs x hl he => ?_⟩
    rw [hxc] at he
    match xs, hl with
    | [w0], _ =>
      cases (show some _ = some x from he)
      refine ⟨rfl, fun A H vs m => ?_⟩
      unfold VRs at m
      obtain ⟨v, ws', rfl, q, m⟩ := m
      unfold VRs at m
      subst m
      exact ⟨_, [.int (-1)], rfl, hz .non, rfl, VRs.cons VR.int VRs.nil, fun n => rfl⟩
  · obtain ⟨ds, r, b⟩ := b2
    refine ⟨C, fI, fd, _, ds, [], effL, hc, hm, T, hi, ht, G, b, r, by decide, fun xs x hl he => ?_⟩
    rw [hxc] at he
    match xs, hl with
    | [w0, n0], _ =>
      cases (show some _ = some x from he)
      refine ⟨rfl, fun A H vs m => ?_⟩
      unfold VRs at m
      obtain ⟨v, ws', rfl, q, m⟩ := m
      unfold VRs at m
      obtain ⟨v2, ws', rfl, q2, m⟩ := m
      unfold VRs at m
      subst m
      have hN := isN_ok q2
      by_cases hv : v2 = .non
      · have h1 : isN n0 = true := by rw [← hN]; exact decide_eq_true hv
        subst hv
        refine ⟨_, [.int (-1)], rfl, hz .non, rfl, ?_, fun n => rfl⟩
        rw [h1]
        exact VRs.cons VR.int VRs.nil
      · have h1 : isN n0 = false := by rw [← hN]; exact decide_eq_false hv
        refine ⟨_, [v2], rfl, hz v2, rfl, ?_, fun n => ?_⟩
        · rw [h1]
          exact VRs.cons q2 VRs.nil
        · rw [if_neg hv]
          show List.lookup n [(("number" : Str), v2), (("number" : Str), .int (-1))] = List.lookup n [(("number" : Str), v2)]
          simp only [List.lookup]
          by_cases hh : (n == ("number" : Str)) = true
          · rw [hh]
          · simp [hh]
/-! ### classes whose __init__ calls that of the base class -/
theorem cx_false' {P : Program} {w : World} {H : Hp} {s : Shared} {e : Value} {s' : Shared} {o : List PySem.Env} (h : L2.CX P w o H s (fun _ _ _ => False) e s') : False := by
  obtain ⟨_, _, _, _, _, _, _, _, _, _, _, _, z⟩ := h
  exact z
/-- what the base class's __init__ is known by -/
structure BaseI (P : Program) (w : World) (K : PySem.W.Frag) (mg : Str → Option Value) (base : Heap) (y : Str) : Prop where
  ex : ∃ (C0 fI : Addr) (fd : FuncData) (ds : List Value), mg y = some (.ref C0) ∧ ClX.CRead K C0 (.type "type") ∧ PySem.W.findCls K (.ref C0) (.type "type") "__init__" = some (.val (.ref fI)) ∧ PySem.W.keepIn K (.ref fI) = true ∧
    FnOk P w K mg base (L2.CX P w) 4 fI fd ["self", "words", "number"] (spEff K effL) ∧ Vals [V.non] ds ∧ Binds K fd ["self", "words", "number"] ds
theorem pe_binit {X : Cx} {y : Str} {es : List Expr} {ta : TA} {p1 p2 pos : Pos} (B : BaseI X.prog X.w X.K X.mg X.base y) (hr : Room 4 X.A) (hg : Gl X y) (ha : PA X es ta) (hs : es.all noSt = true) (hn : es.length < 30) (h0 : es ≠ []) (hl : (p2.endLine == pos.line) = true) (hd : (y == ("__debug__" : Str)) = false) :
    PE X (.Call (.Attribute (.Name y p1) "__init__" p2) es [] pos) (fun σ H Q => ta σ H fun vs H1 => spEff X.K effL (vs ++ [.non]) H1 Q (fun _ _ _ => False)) := by
  obtain ⟨C0, fI, fd, ds, hm, rd, hf, hk, G, hv, hb⟩ := B.ex
  refine ⟨fun pins s σ H Q I h => ?_⟩
  refine PySem.W.methodCall_KW (pl := do return (← importBound (.Name y p1) X.env).getD true) (ld_glob I hg hm ?_ hd) (meth_eval rfl hs hn hl)
  refine PySem.W.method_cls I.kIn rd.ga (PySem.W.cls_value I.kIn rd.rd hf rfl ?_)
  exact callArgs (first := []) hk ha hs (I.tok _) h (fun e => absurd e h0) fun us s1 vs H1 I1 r q => run_fnSD (E := fun _ => fun _ _ _ => False) G hr hb hv (fun pins H s e s' I hq => (cx_false' hq).elim) I1 r q
/-- line's fields -/
def effT : List V → Option (List (Str × V))
  | [_, n] => some (if n = .non then [(("line" : Str), .int (-1)), (("number" : Str), .int (-1))] else [(("line" : Str), n), (("line" : Str), .int (-1)), (("number" : Str), .int (-1))])
  | _ => none
theorem nt_ok {st : Stmt} {fI : Addr} {fd : FuncData} {q : Str} (F : FunD K "__init__" q (defArgs st) (defBody st) (defScope st) [.non] [] fI fd) (S : FnScope ["self", "words", "line"] ["self", "words", "line"] (defScope st)) (hb : leB "LoopError" "line" (defScope st) (defBody st) = true)
    (B : BaseI P w K mg base "LoopError") : FnOk P w K mg base (L2.CX P w) 10 fI fd ["self", "words", "line"] (spEff K effT) := by
  refine F.ok (k := 9) S (fun vs H Q E h => ?_) (fun cdv A outer s H vs Q E hr h => ?_)
  · obtain ⟨a, C, args, fs, rfl, _, _, e, _⟩ := h
    unfold effT at e
    split at e
    · rfl
    · cases e
  · generalize hX : cxOf (L2.CX P w) P w K mg base ["self", "words", "line"] q (defScope st) fI cdv A outer s H E = X
    have eK : X.K = K := by rw [← hX]; rfl
    have eN : X.N = [("self" : Str), ("words" : Str), ("line" : Str)] := by rw [← hX]; rfl
    have eS : X.env.scope = defScope st := by rw [← hX]; rfl
    have eB : BaseI X.prog X.w X.K X.mg X.base "LoopError" := by rw [← hX]; exact B
    have hr4 : Room 4 X.A := by rw [← hX]; exact hr.mono (by omega)
    have hu : X.A.units + 70 < cLine := by
      rw [← hX]
      have := hr.un
      show (A.deeper _).units + 70 < cLine
      omega
    rw [← eS] at hb
    generalize defBody st = body at hb ⊢
    unfold leB at hb
    split at hb
    · rename_i v p1 i p2 s1 w0 p5 p6 s2 a1 p7 k1 k2 p8 p9 n1 k3 k4 p10 s3 a2 p11 n2 p12 p13
      simp only [Bool.and_eq_true] at hb
      obtain ⟨⟨⟨⟨hv, hi⟩, hl⟩, hg⟩, ⟨⟨⟨b1, b2⟩, b3, b4⟩, b5, b6⟩, b7, b8⟩ := hb
      have hv := of_decide_eq_true hv
      have hi := of_decide_eq_true hi
      have b7 := of_decide_eq_true b7
      have b8 := of_decide_eq_true b8
      subst hv hi b7 b8
      have m0 : X.N[0]? = some ("self" : Str) := by rw [eN]; rfl
      have m1 : X.N[1]? = some ("words" : Str) := by rw [eN]; rfl
      have m2 : X.N[2]? = some ("line" : Str) := by rw [eN]; rfl
      obtain ⟨c1, _, _, c1s⟩ := isNm_ok b1 m0
      obtain ⟨c2, _, _, c2s⟩ := isNm_ok b2 m1
      obtain ⟨c3, _⟩ := isNm_ok b3 m0
      obtain ⟨c4, _⟩ := isNm_ok b4 m0
      obtain ⟨c5, _⟩ := isNm_ok b5 m2
      obtain ⟨c6, _, c6l, _⟩ := isNm_ok b6 m2
      have st2 : [s1, w0].all noSt = true := by simp [c1s, c2s]
      refine ⟨_, pss_cons (ps_expr (pe_binit eB hr4 (glB_ok hg) (pa_cons c1 (pa_cons c2 pa_nil (star_cons c2s)) (star_cons c1s)) st2 (Nat.le_of_ble_eq_true rfl) (fun z => by cases z) hl (by decide)) (swaps_no rfl))
        (pss_cons (ps_ost c3 (pe_un un_neg pe_int) (swaps_no rfl)) (pss_one (ps_if (pt_cmpR (rCmp_ok hu .isnot) c5 pe_non (nomark _)) (pss_one (ps_ost c4 c6 (swaps_no c6l))) pss_nil))), ?_⟩
      obtain ⟨a, C, args, fs, rfl, T, ea, e, hno, q⟩ := h
      unfold effT at e
      split at e
      · rename_i wd n
        cases e
        rw [eK]
        have hn0 : PySem.W.findIn K (.ref C) "number" = some none := hno _ (by split <;> simp)
        have hn1 : PySem.W.findIn K (.ref C) "line" = some none := hno _ (by split <;> simp)
        refine ⟨_, rfl, _, rfl, a, C, [wd, .non], [(("number" : Str), .int (-1))], rfl, T, ea, rfl, fun f hf => ?_, fun dx nd ne => ?_⟩
        · have : f = ("number" : Str) := by simpa using hf
          rw [this]
          exact hn0
        · refine ⟨1, rfl, .ref a, rfl, a, C, rfl, T, hn1, .inr ⟨dx, _, upd_same, by rw [upd_ne ne, upd_same], Nat.le_of_ble_eq_true rfl, ?_⟩⟩
          rw [upd_twice ne]
          refine ⟨n, rfl, rfl, ?_⟩
          refine ⟨!decide (n = .non), rfl, ?_⟩
          have q1 := q dx nd ne
          by_cases hz : n = .non
          · subst hz
            exact q1
          · rw [if_neg hz] at q1
            rw [decide_eq_false hz]
            refine ⟨n, rfl, .ref a, rfl, a, C, rfl, T, hn1, .inr ⟨dx, _, upd_same, by rw [upd_ne ne, upd_same], Nat.le_of_ble_eq_true rfl, ?_⟩⟩
            rw [upd_twice ne]
            exact q1
      · cases e
    · cases hb
/-- course, stitch, why -/
def effP : List V → Option (List (Str × V))
  | [c, s, y] => some [(("why" : Str), y), (("stitch" : Str), s), (("course" : Str), c), (("number" : Str), .int (-1))]
  | _ => none
def npB (sc : Scope) : List Stmt → Bool
  | [.Expr (.Call (.Attribute (.Name v _) i p2) [s1, w] [] p5) _, .Assign [.Attribute s2 a1 _] c1 _, .Assign [.Attribute s3 a2 _] c2 _, .Assign [.Attribute s4 a3 _] c3 _] =>
    (decide (v = ("LoopError" : Str)) && decide (i = ("__init__" : Str)) && (p2.endLine == p5.line) && glB sc v) && ((isNm s1 "self" sc && isNm w "why" sc) && (isNm s2 "self" sc && isNm s3 "self" sc && isNm s4 "self" sc) && (isNm c1 "course" sc && isNm c2 "stitch" sc && isNm c3 "why" sc) && (decide (a1 = ("course" : Str)) && decide (a2 = ("stitch" : Str)) && decide (a3 = ("why" : Str))))
  | _ => false
theorem np_ok {st : Stmt} {fI : Addr} {fd : FuncData} {q : Str} (F : FunD K "__init__" q (defArgs st) (defBody st) (defScope st) [] [] fI fd) (S : FnScope ["self", "course", "stitch", "why"] ["self", "course", "stitch", "why"] (defScope st)) (hb : npB (defScope st) (defBody st) = true)
    (B : BaseI P w K mg base "LoopError") : FnOk P w K mg base (L2.CX P w) 10 fI fd ["self", "course", "stitch", "why"] (spEff K effP) := by
  refine F.ok (k := 9) S (fun vs H Q E h => ?_) (fun cdv A outer s H vs Q E hr h => ?_)
  · obtain ⟨a, C, args, fs, rfl, _, _, e, _⟩ := h
    unfold effP at e
    split at e
    · rfl
    · cases e
  · generalize hX : cxOf (L2.CX P w) P w K mg base ["self", "course", "stitch", "why"] q (defScope st) fI cdv A outer s H E = X
    have eK : X.K = K := by rw [← hX]; rfl
    have eN : X.N = [("self" : Str), ("course" : Str), ("stitch" : Str), ("why" : Str)] := by rw [← hX]; rfl
    have eS : X.env.scope = defScope st := by rw [← hX]; rfl
    have eB : BaseI X.prog X.w X.K X.mg X.base "LoopError" := by rw [← hX]; exact B
    have hr4 : Room 4 X.A := by rw [← hX]; exact hr.mono (by omega)
    rw [← eS] at hb
    generalize defBody st = body at hb ⊢
    unfold npB at hb
    split at hb
    · rename_i v p1 i p2 s1 w0 p5 p6 s2 a1 p7 c1 p8 s3 a2 p9 c2 p10 s4 a3 p11 c3 p12
      simp only [Bool.and_eq_true] at hb
      obtain ⟨⟨⟨⟨hv, hi⟩, hl⟩, hg⟩, ⟨⟨⟨b1, b2⟩, ⟨b3, b4⟩, b5⟩, ⟨b6, b7⟩, b8⟩, ⟨b9, b10⟩, b11⟩ := hb
      have hv := of_decide_eq_true hv
      have hi := of_decide_eq_true hi
      have b9 := of_decide_eq_true b9
      have b10 := of_decide_eq_true b10
      have b11 := of_decide_eq_true b11
      subst hv hi b9 b10 b11
      have m0 : X.N[0]? = some ("self" : Str) := by rw [eN]; rfl
      have m1 : X.N[1]? = some ("course" : Str) := by rw [eN]; rfl
      have m2 : X.N[2]? = some ("stitch" : Str) := by rw [eN]; rfl
      have m3 : X.N[3]? = some ("why" : Str) := by rw [eN]; rfl
      obtain ⟨d1, _, _, d1s⟩ := isNm_ok b1 m0
      obtain ⟨d2, _, _, d2s⟩ := isNm_ok b2 m3
      obtain ⟨d3, _⟩ := isNm_ok b3 m0
      obtain ⟨d4, _⟩ := isNm_ok b4 m0
      obtain ⟨d5, _⟩ := isNm_ok b5 m0
      obtain ⟨d6, _, l6, _⟩ := isNm_ok b6 m1
      obtain ⟨d7, _, l7, _⟩ := isNm_ok b7 m2
      obtain ⟨d8, _, l8, _⟩ := isNm_ok b8 m3
      have st2 : [s1, w0].all noSt = true := by simp [d1s, d2s]
      refine ⟨_, pss_cons (ps_expr (pe_binit eB hr4 (glB_ok hg) (pa_cons d1 (pa_cons d2 pa_nil (star_cons d2s)) (star_cons d1s)) st2 (Nat.le_of_ble_eq_true rfl) (fun z => by cases z) hl (by decide)) (swaps_no rfl))
        (pss_cons (ps_ost d3 d6 (swaps_no l6)) (pss_cons (ps_ost d4 d7 (swaps_no l7)) (pss_one (ps_ost d5 d8 (swaps_no l8))))), ?_⟩
      obtain ⟨a, C, args, fs, rfl, T, ea, e, hno, q⟩ := h
      unfold effP at e
      split at e
      · rename_i c s y
        cases e
        rw [eK]
        have hn0 : PySem.W.findIn K (.ref C) "number" = some none := hno _ (by simp)
        have hn1 : PySem.W.findIn K (.ref C) "course" = some none := hno _ (by simp)
        have hn2 : PySem.W.findIn K (.ref C) "stitch" = some none := hno _ (by simp)
        have hn3 : PySem.W.findIn K (.ref C) "why" = some none := hno _ (by simp)
        refine ⟨_, rfl, _, rfl, a, C, [y, .non], [(("number" : Str), .int (-1))], rfl, T, ea, rfl, fun f hf => ?_, fun dx nd ne => ?_⟩
        · have : f = ("number" : Str) := by simpa using hf
          rw [this]
          exact hn0
        · refine ⟨c, rfl, .ref a, rfl, a, C, rfl, T, hn1, .inr ⟨dx, _, upd_same, by rw [upd_ne ne, upd_same], Nat.le_of_ble_eq_true rfl, ?_⟩⟩
          rw [upd_twice ne]
          refine ⟨s, rfl, .ref a, rfl, a, C, rfl, T, hn2, .inr ⟨dx, _, upd_same, by rw [upd_ne ne, upd_same], Nat.le_of_ble_eq_true rfl, ?_⟩⟩
          rw [upd_twice ne]
          refine ⟨y, rfl, .ref a, rfl, a, C, rfl, T, hn3, .inr ⟨dx, _, upd_same, by rw [upd_ne ne, upd_same], Nat.le_of_ble_eq_true rfl, ?_⟩⟩
          rw [upd_twice ne]
          exact q dx nd ne
      · cases e
    · cases hb
/-- what NoText and NoPiece make of their arguments -/
def xcT (c : String) : List D → Option Xc
  | [_] => some ⟨c, ["line", "number"], [.int (-1), .int (-1)]⟩
  | [_, n] => some ⟨c, ["line", "number"], [if isN n then .int (-1) else n, .int (-1)]⟩
  | _ => none
def xcP (c : String) : List D → Option Xc
  | [a, b, y] => some ⟨c, ["why", "stitch", "course", "number"], [y, b, a, .int (-1)]⟩
  | _ => none
theorem xmk_T {cl : String → Option Addr} {xc : String → List D → Option Xc} {c : String} {C fI : Addr} {fd : FuncData} {n : Nat} (hn : n = 1 ∨ n = 2) (hxc : xc c = xcT c)
    (G : FnOk P w K mg base (L2.CX P w) 10 fI fd ["self", "words", "line"] (spEff K effT)) (b1 : ∃ ds, Vals ([V.non].drop 0) ds ∧ Binds K fd ["self", "words", "line"] ds) (b2 : ∃ ds, Vals ([V.non].drop 1) ds ∧ Binds K fd ["self", "words", "line"] ds)
    (hc : cl c = some C) (hm : mg (stOf c) = some (.ref C)) (T : OexC K C) (hi : PySem.W.findIn K (.ref C) "__init__" = some (some (.ref fI))) (ht : PySem.W.typeIn K (.ref fI) = some (.type "function")) (hf : PySem.W.findIn K (.ref C) "number" = some none) (hf2 : PySem.W.findIn K (.ref C) "line" = some none) :
    XMk P w K mg base cl xc c n := by
  have hz : ∀ v : V, ∀ f ∈ (if v = .non then [(("line" : Str), V.int (-1)), (("number" : Str), V.int (-1))] else [(("line" : Str), v), (("line" : Str), V.int (-1)), (("number" : Str), V.int (-1))]).map (·.1), PySem.W.findIn K (.ref C) f = some none := fun v f h => by
    have : f = ("line" : Str) ∨ f = ("number" : Str) := by
      split at h
      · simpa using h
      · simpa using h
    rcases this with rfl | rfl
    · exact hf2
    · exact hf
  rcases hn with rfl | rfl
  · obtain ⟨ds, r, b⟩ := b1
    refine ⟨C, fI, fd, _, ds, [.non], effT, hc, hm, T, hi, ht, G, b, r, by decide, fun xs x hl he => ?_⟩
    rw [hxc] at he
    match xs, hl with
    | [w0], _ =>
      cases (show some _ = some x from he)
      refine ⟨rfl, fun A H vs m => ?_⟩
      unfold VRs at m
      obtain ⟨v, ws', rfl, q, m⟩ := m
      unfold VRs at m
      subst m
      exact ⟨_, [.int (-1), .int (-1)], rfl, hz .non, rfl, VRs.cons VR.int (VRs.cons VR.int VRs.nil), fun n => rfl⟩
  · obtain ⟨ds, r, b⟩ := b2
    refine ⟨C, fI, fd, _, ds, [], effT, hc, hm, T, hi, ht, G, b, r, by decide, fun xs x hl he => ?_⟩
    rw [hxc] at he
    match xs, hl with
    | [w0, n0], _ =>
      cases (show some _ = some x from he)
      refine ⟨rfl, fun A H vs m => ?_⟩
      unfold VRs at m
      obtain ⟨v, ws', rfl, q, m⟩ := m
      unfold VRs at m
      obtain ⟨v2, ws', rfl, q2, m⟩ := m
      unfold VRs at m
      subst m
      have hN := isN_ok q2
      by_cases hv : v2 = .non
      · have h1 : isN n0 = true := by rw [← hN]; exact decide_eq_true hv
        subst hv
        refine ⟨_, [.int (-1), .int (-1)], rfl, hz .non, rfl, ?_, fun n => rfl⟩
        rw [h1]
        exact VRs.cons VR.int (VRs.cons VR.int VRs.nil)
      · have h1 : isN n0 = false := by rw [← hN]; exact decide_eq_false hv
        refine ⟨_, [v2, .int (-1)], rfl, hz v2, rfl, ?_, fun n => ?_⟩
        · rw [h1]
          exact VRs.cons q2 (VRs.cons VR.int VRs.nil)
        · rw [if_neg hv]
          show List.lookup n [(("line" : Str), v2), (("line" : Str), .int (-1)), (("number" : Str), .int (-1))] = List.lookup n [(("line" : Str), v2), (("number" : Str), .int (-1))]
          simp only [List.lookup]
          by_cases hh : (n == ("line" : Str)) = true
          · rw [hh]
          · simp [hh]
theorem xmk_P {cl : String → Option Addr} {xc : String → List D → Option Xc} {c : String} {C fI : Addr} {fd : FuncData} (hxc : xc c = xcP c)
    (G : FnOk P w K mg base (L2.CX P w) 10 fI fd ["self", "course", "stitch", "why"] (spEff K effP)) (b : Binds K fd ["self", "course", "stitch", "why"] [])
    (hc : cl c = some C) (hm : mg (stOf c) = some (.ref C)) (T : OexC K C) (hi : PySem.W.findIn K (.ref C) "__init__" = some (some (.ref fI))) (ht : PySem.W.typeIn K (.ref fI) = some (.type "function")) (hf : ∀ f ∈ [("why" : Str), "stitch", "course", "number"], PySem.W.findIn K (.ref C) f = some none) :
    XMk P w K mg base cl xc c 3 := by
  refine ⟨C, fI, fd, _, [], [], effP, hc, hm, T, hi, ht, G, b, .nil, by decide, fun xs x hl he => ?_⟩
  rw [hxc] at he
  match xs, hl with
  | [a0, b0, y0], _ =>
    cases (show some _ = some x from he)
    refine ⟨rfl, fun A H vs m => ?_⟩
    unfold VRs at m
    obtain ⟨v, ws', rfl, q, m⟩ := m
    unfold VRs at m
    obtain ⟨v2, ws', rfl, q2, m⟩ := m
    unfold VRs at m
    obtain ⟨v3, ws', rfl, q3, m⟩ := m
    unfold VRs at m
    subst m
    exact ⟨_, [v3, v2, v, .int (-1)], rfl, hf, rfl, VRs.cons q3 (VRs.cons q2 (VRs.cons q (VRs.cons VR.int VRs.nil))), fun n => rfl⟩
theorem exm_r {K : PySem.W.Frag} {C : Addr} {cls : Value} {b : Bool} (h1 : PySem.W.subIn K (.ref C) (.type "BaseException") = some true) (hd : PySem.W.hasDictIn K C = true) (ht : PySem.W.typeIn K (.ref C) = some (.type "type")) (h4 : PySem.W.subIn K cls (.ref C) = some b) :
    PySem.W.exmOne K cls (.ref C) = some b := by
  obtain ⟨cd, hc, _⟩ := PySem.W.any_some hd
  show (if (PySem.W.subIn K (.ref C) (.type "BaseException") == some true) = true then (if ((PySem.W.clsIn K C).isSome && PySem.W.typeIn K (.ref C) == some (.type "type")) = true then PySem.W.subIn K cls (.ref C) else none) else none) = some b
  rw [if_pos (by rw [h1]; rfl), if_pos (by rw [hc, ht]; rfl)]
  exact h4
theorem kit_ve {K : PySem.W.Frag} {c : Addr} (h : PySem.W.subIn K (.ref c) (.type "ValueError") = some true) : PySem.W.kitOne K (.ref c) (.type "ValueError") = some true := by
  unfold PySem.W.kitOne
  split
  · rfl
  · show (if PySem.W.kitMeta "ValueError" = true then PySem.W.subIn K (.ref c) (.type "ValueError") else none) = some true
    rw [if_pos (by decide +kernel)]
    exact h
end
end Kn

set_option Elab.async false
set_option linter.all false
set_option maxRecDepth 100000
set_option maxHeartbeats 4000000
/-! Tl: tools for the evaluator, no law in sight. -/
namespace Kn
open PySem L2
theorem compL_ok {step : D → Env → R (Option SV)} {f : D → D} {B : Env} {sl : List Nat} : ∀ (ds : List D) (ρ : Env) (acc : List SV), wipeE ρ sl = B → acc.length + ds.length ≤ lim → (∀ d ∈ ds, ∀ ρ, wipeE ρ sl = B → ∃ ρ3, step d ρ = .ok (some (.d (f d))) ρ3 ∧ wipeE ρ3 sl = B) →
    ∃ ρ', compL step ds ρ acc = .ok (acc ++ ds.map fun d => .d (f d)) ρ' ∧ wipeE ρ' sl = B
  | [], ρ, acc, h, _, _ => ⟨ρ, by simp [compL], h⟩
  | d :: ds, ρ, acc, h, hl, k => by
    obtain ⟨ρ3, e, h3⟩ := k d List.mem_cons_self ρ h
    have hl' : acc.length < lim := by simp at hl; omega
    obtain ⟨ρ', e', h'⟩ := compL_ok ds ρ3 (acc ++ [.d (f d)]) h3 (by simp at hl ⊢; omega) fun d hd => k d (List.mem_cons_of_mem _ hd)
    refine ⟨ρ', ?_, h'⟩
    unfold compL
    rw [e]
    simp only [hl', if_true, e', List.append_assoc, List.map_cons, List.singleton_append]
theorem bind_ok {α β : Type} {a : α} {ρ : Env} {f : α → Env → R β} : (R.ok a ρ).bind f = f a ρ := rfl
theorem comp_ok {t : T} {F : String → List SV → Cr} {g : Tg} {it el : E} {ρ ρ1 : Env} {ds : List D} (f : D → D) {B : Env} (hi : evi t F it ρ = .ok ds ρ1) (hf : freeAt ρ1 (slotsT g) = true) (hl : ds.length ≤ lim) (hB : wipeE ρ1 (slotsT g) = B)
    (h : ∀ d ∈ ds, ∃ ρ2 ρ3, bindT g d B = some ρ2 ∧ ev t F el ρ2 = .ok (.d (f d)) ρ3 ∧ wipeE ρ3 (slotsT g) = B) :
    ev t F (.comp g it el) ρ = .ok (.lst (ds.map fun d => .d (f d))) (backE ρ1 B (slotsT g)) := by
  have e0 : ev t F (.comp g it el) ρ = (evi t F it ρ).bind fun ds ρ => if freeAt ρ (slotsT g) then
      (compL (fun d ρ' => match bindT g d (wipeE ρ' (slotsT g)) with
        | some ρ₂ => (ev t F el ρ₂).bind fun v ρ => .ok (some v) ρ
        | none => .no) ds ρ []).bind fun vs ρ' => .ok (.lst vs) (backE ρ (wipeE ρ' (slotsT g)) (slotsT g))
    else .no := by (unfold evi; first | (simp only [ev]; done) | (simp only [ev]; rfl))
  obtain ⟨ρ', e', h'⟩ := compL_ok (step := fun d ρ' => match bindT g d (wipeE ρ' (slotsT g)) with
        | some ρ₂ => (ev t F el ρ₂).bind fun v ρ => .ok (some v) ρ
        | none => .no) (f := f) (sl := slotsT g) ds ρ1 [] hB (by simpa using hl) fun d hd ρ hρ => by
    obtain ⟨ρ2, ρ3, h1, h2, h3⟩ := h d hd
    exact ⟨ρ3, by simp only [hρ, h1, h2, R.bind], h3⟩
  rw [e0, hi, bind_ok, if_pos hf, e', bind_ok, h', List.nil_append]
def sm : List Nat := [97, 98, 99, 100, 101, 102, 103, 104, 105, 106, 107, 108, 109, 110, 111, 112, 113, 114, 115, 116, 117, 118, 119, 120, 121, 122]
def yarnB (s : List Nat) : Bool := decide (1 ≤ s.length) && decide (s.length ≤ 4) && s.all fun c => decide (c ∈ sm)
theorem frzs_map {α : Type} (l : List α) (f : α → D) : frzs (l.map fun a => SV.d (f a)) = l.map f := by
  induction l with
  | nil => rfl
  | cons a l ih => simp [frzs, frz, ih]
theorem bls_map {α : Type} (s : List α) (f : α → Bool) : bls? (s.map fun c => D.bl (f c)) = some (s.map f) := by
  induction s with
  | nil => rfl
  | cons c s ih =>
    rw [List.map_cons, List.map_cons]
    show (bls? _).map _ = _
    rw [ih]
    rfl
theorem j_all {p : Nat → Bool} {sep : List Nat} (h : sep.all p = true) : ∀ {ss : List (List Nat)}, (ss.all fun s => s.all p) = true → (TL.joinL sep ss).all p = true
  | [], _ => rfl
  | [s], h2 => by simpa [TL.joinL] using h2
  | s :: r :: ss, h2 => by
    rw [List.all_cons, Bool.and_eq_true] at h2
    have := j_all h (ss := r :: ss) h2.2
    simp only [TL.joinL, List.all_append, h2.1, h, this, Bool.and_self]
theorem istr_len (k : Int) (h1 : -3 ≤ k) (h2 : k ≤ 24) : (istr k).length ≤ 3 ∧ (istr k).all (fun c => decide (c < 1114112)) = true ∧ k.natAbs < 1000000000000000000 := by
  have key : ∀ j : Fin 28, (istr ((j : Nat) - 3 : Int)).length ≤ 3 ∧ (istr ((j : Nat) - 3 : Int)).all (fun c => decide (c < 1114112)) = true := by decide +kernel
  have := key ⟨(k + 3).toNat, by omega⟩
  have e : (((k + 3).toNat : Nat) : Int) - 3 = k := by omega
  simp only [e] at this
  exact ⟨this.1, this.2, by omega⟩
def GN (I : Env → Prop) (x : Fl) : Prop := ∃ ρ3, x = .nx ρ3 ∧ I ρ3
theorem bA (i j : Int) : binD .add (.int i) (.int j) = some (.d (.int (i + j))) := rfl
theorem bS (i j : Int) : binD .sub (.int i) (.int j) = some (.d (.int (i - j))) := rfl
theorem bM (i j : Int) (h : 0 < j) : binD .mod (.int i) (.int j) = some (.d (.int (i % j))) := if_pos h
theorem bF (i j : Int) (h : 0 < j) (h2 : j < 1073741824) : binD .fdiv (.int i) (.int j) = some (.d (.int (i / j))) := if_pos ⟨h, h2⟩
theorem bX (i j : Int) (h : -18446744073709551616 < j) (h2 : j < 18446744073709551616) : binD .mul (.int i) (.int j) = some (.d (.int (i * j))) := if_pos (.inr ⟨h, h2⟩)
section
variable {t : T} {F : String → List SV → Cr} {ro : List Nat} {s r b : S} {ρ ρ1 : Env} {G : Fl → Prop} {g : Tg} {it : E} {ds : List D}
theorem st_nx (h : Kn.exec t F ro s ρ = .nx ρ1) (k : G (Kn.exec t F ro r ρ1)) : G (Kn.exec t F ro (.cons s r) ρ) := by
  have e : Kn.exec t F ro (.cons s r) ρ = Kn.exec t F ro r ρ1 := by
    have e0 : Kn.exec t F ro (.cons s r) ρ = (match Kn.exec t F ro s ρ with
      | .nx ρ' => Kn.exec t F ro r ρ'
      | x => x) := by first | (simp only [Kn.exec]; done) | (simp only [Kn.exec]; rfl)
    rw [e0, h]
  rw [e]
  exact k
theorem st_nil {I : Env → Prop} (h : I ρ) : GN I (Kn.exec t F ro .nil ρ) := ⟨ρ, by simp only [Kn.exec], h⟩
theorem st_rt {v : SV} (h : Kn.exec t F ro s ρ = .rt v ρ1) (k : G (.rt v ρ1)) : G (Kn.exec t F ro (.cons s r) ρ) := by
  have e : Kn.exec t F ro (.cons s r) ρ = .rt v ρ1 := by
    have e0 : Kn.exec t F ro (.cons s r) ρ = (match Kn.exec t F ro s ρ with
      | .nx ρ' => Kn.exec t F ro r ρ'
      | x => x) := by first | (simp only [Kn.exec]; done) | (simp only [Kn.exec]; rfl)
    rw [e0, h]
  rw [e]
  exact k
theorem loop_ok {step : D → Env → Fl} (n : Nat) (I : Nat → Env → Prop) : ∀ (ds : List D), (∀ d ∈ ds, ∀ i ρ, i < n → I i ρ → ∃ ρ', step d ρ = .nx ρ' ∧ I (i + 1) ρ') → ∀ i ρ, i + ds.length ≤ n → I i ρ → ∃ ρ', loopF step ds ρ = .nx ρ' ∧ I (i + ds.length) ρ'
  | [], _, i, ρ, _, h => ⟨ρ, rfl, h⟩
  | d :: ds, k, i, ρ, hn, h => by
    rw [List.length_cons] at hn
    obtain ⟨ρ1, e, h1⟩ := k d List.mem_cons_self i ρ (by omega) h
    obtain ⟨ρ', e', h'⟩ := loop_ok n I ds (fun d hd => k d (List.mem_cons_of_mem _ hd)) (i + 1) ρ1 (by omega) h1
    refine ⟨ρ', ?_, by rw [List.length_cons, show i + (ds.length + 1) = i + 1 + ds.length by omega]; exact h'⟩
    unfold loopF
    rw [e]
    exact e'
theorem st_for (I : Nat → Env → Prop) (hi : evi t F it ρ = .ok ds ρ1) (hro : (slotsT g).all (fun i => !ro.contains i) = true) (h0 : I 0 ρ1)
    (h : ∀ d ∈ ds, ∀ i ρ, i < ds.length → I i ρ → ∃ ρ2, bindT g d ρ = some ρ2 ∧ GN (I (i + 1)) (Kn.exec t F ro b ρ2)) (k : ∀ ρ', I ds.length ρ' → G (Kn.exec t F ro r ρ')) : G (Kn.exec t F ro (.cons (.for_ g it b) r) ρ) := by
  obtain ⟨ρ', e, h'⟩ := loop_ok (step := fun d ρ => match bindT g d ρ with
      | some ρ' => Kn.exec t F ro b ρ'
      | none => .no) ds.length I ds (fun d hd i ρ hi hI => by
    obtain ⟨ρ2, e2, ρ3, e3, h3⟩ := h d hd i ρ hi hI
    exact ⟨ρ3, by simp only [e2, e3], h3⟩) 0 ρ1 (by omega) h0
  refine st_nx (ρ1 := ρ') ?_ (k ρ' (by rw [Nat.zero_add] at h'; exact h'))
  have e0 : Kn.exec t F ro (.for_ g it b) ρ = thenF (evi t F it ρ) fun ds ρ => if (slotsT g).all (fun i => !ro.contains i) then loopF (fun d ρ => match bindT g d ρ with
      | some ρ' => Kn.exec t F ro b ρ'
      | none => .no) ds ρ else .no := by first | (simp only [Kn.exec]; done) | (simp only [Kn.exec]; rfl)
  rw [e0, hi]
  show (if (slotsT g).all (fun i => !ro.contains i) = true then _ else _) = _
  rw [if_pos hro]
  exact e
end
theorem rngD_len' (lo hi : Int) : (rngD lo hi).length = (hi - lo).toNat := by unfold rngD; simp
theorem atI_mod (ns : List Int) (k : Int) (h : 0 < ns.length) : ∃ z, atI ns (k % (ns.length : Int)) = some z := by
  have h1 : 0 ≤ k % (ns.length : Int) := Int.emod_nonneg _ (by omega)
  have h2 : k % (ns.length : Int) < ns.length := Int.emod_lt_of_pos _ (by omega)
  obtain ⟨j, hj⟩ : ∃ j : Nat, k % (ns.length : Int) = j := ⟨(k % (ns.length : Int)).toNat, by omega⟩
  rw [hj]
  exact ⟨ns[j]'(by omega), atI_nat (List.getElem?_eq_getElem (by omega))⟩
theorem sm_small : ∀ c ∈ sm, c < 1114112 := by decide
theorem bR (c : Nat) (n : Int) (h : 0 ≤ n) (h2 : n ≤ 1000) : binD .mul (.str [c]) (.int n) = some (.d (.str (reps n.toNat [c]))) := if_pos ⟨by simp, h2, by omega⟩
theorem bP (s t : List Nat) (h : s.length ≤ 1000) (h2 : t.length ≤ 1000) : binD .add (.str s) (.str t) = some (.d (.str (s ++ t))) := if_pos (by simp only [lim]; omega)
theorem mul_mem {n : Nat} {c d : Nat} (h : d ∈ reps n [c]) : d = c := by
  unfold reps at h
  obtain ⟨l, h1, h2⟩ := List.mem_flatten.mp h
  rw [List.eq_of_mem_replicate h1] at h2
  simpa using h2
theorem reps_len (n c : Nat) : (reps n [c]).length = n := by
  unfold reps
  induction n with
  | zero => rfl
  | succ n ih => simp [List.replicate_succ]
theorem ite_t {t : T} {F : String → List SV → Cr} {ro : List Nat} {c : E} {a b : S} {ρ ρ1 : Env} {x : Fl} (h : ev t F c ρ = .ok (.d (.bl true)) ρ1) (k : Kn.exec t F ro a ρ1 = x) : Kn.exec t F ro (.ite c a b) ρ = x := by
  have e0 : Kn.exec t F ro (.ite c a b) ρ = thenF (ev t F c ρ) fun v ρ => (match v with
    | .d (.bl true) => Kn.exec t F ro a ρ
    | .d (.bl false) => Kn.exec t F ro b ρ
    | _ => .no) := by first | (simp only [Kn.exec]; done) | (simp only [Kn.exec]; rfl)
  rw [e0, h]
  exact k
theorem ite_f {t : T} {F : String → List SV → Cr} {ro : List Nat} {c : E} {a b : S} {ρ ρ1 : Env} {x : Fl} (h : ev t F c ρ = .ok (.d (.bl false)) ρ1) (k : Kn.exec t F ro b ρ1 = x) : Kn.exec t F ro (.ite c a b) ρ = x := by
  have e0 : Kn.exec t F ro (.ite c a b) ρ = thenF (ev t F c ρ) fun v ρ => (match v with
    | .d (.bl true) => Kn.exec t F ro a ρ
    | .d (.bl false) => Kn.exec t F ro b ρ
    | _ => .no) := by first | (simp only [Kn.exec]; done) | (simp only [Kn.exec]; rfl)
  rw [e0, h]
  exact k
theorem set_ok {t : T} {F : String → List SV → Cr} {ro : List Nat} {i : Nat} {e : E} {v : SV} {ρ ρ1 : Env} (h : ev t F e ρ = .ok v ρ1) (hr : ro.contains i = false) : Kn.exec t F ro (.set i e) ρ = .nx (ρ1.set i (some v)) := by
  have e0 : Kn.exec t F ro (.set i e) ρ = thenF (ev t F e ρ) fun v ρ => if ro.contains i then .no else .nx (ρ.set i (some v)) := by first | (simp only [Kn.exec]; done) | (simp only [Kn.exec]; rfl)
  rw [e0, h]
  show (if ro.contains i = true then _ else _) = _
  rw [if_neg (by rw [hr]; exact Bool.false_ne_true)]
theorem app_ok {t : T} {F : String → List SV → Cr} {ro : List Nat} {i : Nat} {e : E} {v : SV} {xs0 xs : List SV} {ρ ρ1 : Env} (h0 : ρ[i]? = some (some (.lst xs0))) (h : ev t F e ρ = .ok v ρ1) (h1 : ρ1[i]? = some (some (.lst xs))) (hl : xs.length < lim) : Kn.exec t F ro (.app i e) ρ = .nx (ρ1.set i (some (.lst (xs ++ [v])))) := by
  have e0 : Kn.exec t F ro (.app i e) ρ = (match ρ[i]? with
    | some (some (.lst _)) => thenF (ev t F e ρ) fun v ρ => (match ρ[i]? with
      | some (some (.lst xs)) => if xs.length < lim then .nx (ρ.set i (some (.lst (xs ++ [v])))) else .no
      | _ => .no)
    | _ => .no) := by first | (simp only [Kn.exec]; done) | (simp only [Kn.exec]; rfl)
  rw [e0, h0]
  show thenF (ev t F e ρ) _ = _
  rw [h]
  show (match ρ1[i]? with
      | some (some (.lst xs)) => if xs.length < lim then Fl.nx (ρ1.set i (some (.lst (xs ++ [v])))) else .no
      | _ => .no) = _
  rw [h1]
  show (if xs.length < lim then _ else _) = _
  rw [if_pos hl]
theorem one_nx {t : T} {F : String → List SV → Cr} {ro : List Nat} {s : S} {ρ ρ1 : Env} (h : Kn.exec t F ro s ρ = .nx ρ1) : Kn.exec t F ro (.cons s .nil) ρ = .nx ρ1 :=
  st_nx (G := fun x => x = .nx ρ1) h (by simp only [Kn.exec])
theorem var_ev {t : T} {F : String → List SV → Cr} {ρ : Env} {i : Nat} {x : D} (h : ρ[i]? = some (some (.d x))) : ev t F (.var i) ρ = .ok (.d x) ρ := by
  unfold ev
  rw [h]
theorem int_ev {t : T} {F : String → List SV → Cr} {ρ : Env} {i : Int} : ev t F (.int i) ρ = .ok (.d (.int i)) ρ := by simp only [ev]
theorem bin_ev {t : T} {F : String → List SV → Cr} {ρ ρ1 ρ2 : Env} {o : BOp} {a b : E} {x y v : SV} (h1 : ev t F a ρ = .ok x ρ1) (h2 : ev t F b ρ1 = .ok y ρ2) (h3 : binD o (frz x) (frz y) = some v) : ev t F (.bin o a b) ρ = .ok v ρ2 := by
  have e0 : ev t F (.bin o a b) ρ = (ev t F a ρ).bind fun x ρ => (ev t F b ρ).bind fun y ρ => R.of (binD o (frz x) (frz y)) ρ := by simp only [ev]
  rw [e0, h1, bind_ok, h2, bind_ok, h3]
  rfl
theorem idx_ev {t : T} {F : String → List SV → Cr} {ρ ρ1 ρ2 : Env} {a b : E} {x y : SV} {d : D} (h1 : ev t F a ρ = .ok x ρ1) (h2 : ev t F b ρ1 = .ok y ρ2) (h3 : idxD (frz x) (frz y) = some d) : ev t F (.idx a b) ρ = .ok (.d d) ρ2 := by
  have e0 : ev t F (.idx a b) ρ = (ev t F a ρ).bind fun x ρ => (ev t F b ρ).bind fun y ρ => (match idxD (frz x) (frz y) with
    | some d => .ok (.d d) ρ
    | none => .no) := by first | (simp only [ev]; done) | (simp only [ev]; rfl)
  rw [e0, h1, bind_ok, h2, bind_ok, h3]
theorem cmp_ev {t : T} {F : String → List SV → Cr} {ρ ρ1 ρ2 : Env} {o : COp} {a b : E} {x y : SV} {r : Bool} (h1 : ev t F a ρ = .ok x ρ1) (h2 : ev t F b ρ1 = .ok y ρ2) (h3 : cmpD o (frz x) (frz y) = some r) : ev t F (.cmp o a b) ρ = .ok (.d (.bl r)) ρ2 := by
  have e0 : ev t F (.cmp o a b) ρ = (ev t F a ρ).bind fun x ρ => (ev t F b ρ).bind fun y ρ => (match cmpD o (frz x) (frz y) with
    | some r => .ok (.d (.bl r)) ρ
    | none => .no) := by first | (simp only [ev]; done) | (simp only [ev]; rfl)
  rw [e0, h1, bind_ok, h2, bind_ok, h3]
theorem blt1_ev {t : T} {F : String → List SV → Cr} {ρ ρ1 : Env} {b : Bf} {a : E} {x v : SV} (h1 : ev t F a ρ = .ok x ρ1) (h : bltD t b [frz x] = some v) : ev t F (.blt b (.cons a .nil)) ρ = .ok v ρ1 := by
  have e0 : ev t F (.blt b (.cons a .nil)) ρ = (ev t F a ρ).bind fun v ρ => R.of (bltD t b (frzs [v])) ρ := by
    simp only [ev, evs]
    cases ev t F a ρ <;> rfl
  rw [e0, h1, bind_ok]
  show R.of (bltD t b [frz x]) ρ1 = _
  rw [h]
  rfl
/-- a lazy and -/
theorem and_ev {t : T} {F : String → List SV → Cr} {ρ ρ1 : Env} {a b : E} {p q : Bool} (h1 : ev t F a ρ = .ok (.d (.bl p)) ρ1) (h2 : p = true → ev t F b ρ1 = .ok (.d (.bl q)) ρ1) : ev t F (.and a b) ρ = .ok (.d (.bl (p && q))) ρ1 := by
  have e0 : ev t F (.and a b) ρ = (ev t F a ρ).bind fun x ρ => (match x with
    | .d (.bl true) => ev t F b ρ
    | .d (.bl false) => .ok (.d (.bl false)) ρ
    | _ => .no) := by first | (simp only [ev]; done) | (simp only [ev]; rfl)
  rw [e0, h1, bind_ok]
  cases p with
  | true => exact h2 rfl
  | false => rfl
theorem or_ev {t : T} {F : String → List SV → Cr} {ρ ρ1 : Env} {a b : E} {p q : Bool} (h1 : ev t F a ρ = .ok (.d (.bl p)) ρ1) (h2 : p = false → ev t F b ρ1 = .ok (.d (.bl q)) ρ1) : ev t F (.or a b) ρ = .ok (.d (.bl (p || q))) ρ1 := by
  have e0 : ev t F (.or a b) ρ = (ev t F a ρ).bind fun x ρ => (match x with
    | .d (.bl true) => .ok (.d (.bl true)) ρ
    | .d (.bl false) => ev t F b ρ
    | _ => .no) := by first | (simp only [ev]; done) | (simp only [ev]; rfl)
  rw [e0, h1, bind_ok]
  cases p with
  | true => rfl
  | false => exact h2 rfl
theorem not_ev {t : T} {F : String → List SV → Cr} {ρ ρ1 : Env} {a : E} {p : Bool} (h1 : ev t F a ρ = .ok (.d (.bl p)) ρ1) : ev t F (.not a) ρ = .ok (.d (.bl (!p))) ρ1 := by
  have e0 : ev t F (.not a) ρ = (ev t F a ρ).bind fun x ρ => (match x with
    | .d (.bl b) => .ok (.d (.bl (!b))) ρ
    | _ => .no) := by first | (simp only [ev]; done) | (simp only [ev]; rfl)
  rw [e0, h1, bind_ok]
theorem cgI (i j : Int) : cmpD .gt (.int i) (.int j) = some (decide (j < i)) := rfl
theorem evi_of {t : T} {F : String → List SV → Cr} {ρ ρ1 : Env} {it : E} {x : SV} {ds : List D} (h : ev t F it ρ = .ok x ρ1) (h2 : itemsD (frz x) = some ds) : evi t F it ρ = .ok ds ρ1 := by
  unfold evi
  rw [h, bind_ok, h2]
  rfl
theorem rng_evi {t : T} {F : String → List SV → Cr} {ρ ρ1 : Env} {a : E} {x : SV} {j : Int} (h : ev t F a ρ = .ok x ρ1) (hx : frz x = .int j) (h1 : -1000000000000 < j ∧ j < 1000000000000) : evi t F (.rng a) ρ = .ok (rngD 0 j) ρ1 := by
  have e0 : ev t F (.rng a) ρ = (ev t F a ρ).bind fun x ρ => (match frz x with
    | .int j => if -1000000000000 < j ∧ j < 1000000000000 then .ok (.d (.lst (rngD 0 j))) ρ else .no
    | _ => .no) := by first | (simp only [ev]; done) | (simp only [ev]; rfl)
  have e1 : ev t F (.rng a) ρ = .ok (.d (.lst (rngD 0 j))) ρ1 := by
    rw [e0, h, bind_ok, hx]
    show (if -1000000000000 < j ∧ j < 1000000000000 then _ else _) = _
    rw [if_pos h1]
  exact evi_of e1 rfl
theorem set_to {t : T} {F : String → List SV → Cr} {ro : List Nat} {i : Nat} {e : E} {v : SV} {ρ ρ1 ρ2 : Env} (h : ev t F e ρ = .ok v ρ1) (hr : ro.contains i = false) (hs : ρ1.set i (some v) = ρ2) : Kn.exec t F ro (.set i e) ρ = .nx ρ2 := by
  rw [set_ok h hr, hs]
mutual
/-- an expression of constants -/
def constE : E → Option SV
  | .non => some (.d .non)
  | .bl b => some (.d (.bl b))
  | .int i => some (.d (.int i))
  | .str s => some (.d (.str s))
  | .neg a => (constE a).bind fun v => (match frz v with
    | .int i => some (.d (.int (-i)))
    | _ => none)
  | .tup es => (constEs es).bind fun vs => if vs.length ≤ lim then some (.d (.tup (frzs vs))) else none
  | .lst es => (constEs es).bind fun vs => if vs.length ≤ lim then some (.lst vs) else none
  | .edk => some (.dk [] [])
  | _ => none
def constEs : E → Option (List SV)
  | .nil => some []
  | .cons e es => (constE e).bind fun v => (constEs es).map (v :: ·)
  | _ => none
end
theorem const_both {t : T} {F : String → List SV → Cr} : ∀ e : E, (∀ v ρ, constE e = some v → ev t F e ρ = .ok v ρ) ∧ (∀ vs ρ, constEs e = some vs → evs t F e ρ = .ok vs ρ) := by
  intro e
  induction e with
  | non => exact ⟨fun v ρ h => (by simp only [constE] at h; cases h; simp only [ev]), fun vs ρ h => by simp only [constEs] at h; cases h⟩
  | bl b => exact ⟨fun v ρ h => (by simp only [constE] at h; cases h; simp only [ev]), fun vs ρ h => by simp only [constEs] at h; cases h⟩
  | int i => exact ⟨fun v ρ h => (by simp only [constE] at h; cases h; simp only [ev]), fun vs ρ h => by simp only [constEs] at h; cases h⟩
  | str s => exact ⟨fun v ρ h => (by simp only [constE] at h; cases h; simp only [ev]), fun vs ρ h => by simp only [constEs] at h; cases h⟩
  | edk => exact ⟨fun v ρ h => (by simp only [constE] at h; cases h; simp only [ev]), fun vs ρ h => by simp only [constEs] at h; cases h⟩
  | neg a ih =>
    refine ⟨fun v ρ h => ?_, fun vs ρ h => by simp only [constEs] at h; cases h⟩
    simp only [constE] at h
    cases hc : constE a with
    | none => rw [hc] at h; cases h
    | some w =>
      rw [hc, Option.bind_some] at h
      have e0 : ev t F (.neg a) ρ = (ev t F a ρ).bind fun x ρ => (match frz x with
        | .int i => .ok (.d (.int (-i))) ρ
        | _ => .no) := by first | (simp only [ev]; done) | (simp only [ev]; rfl)
      rw [e0, ih.1 w ρ hc, bind_ok]
      split at h
      · rename_i i hi
        cases h
        first | rfl | simp only [hi]
      · cases h
  | tup es ih =>
    refine ⟨fun v ρ h => ?_, fun vs ρ h => by simp only [constEs] at h; cases h⟩
    simp only [constE] at h
    cases hc : constEs es with
    | none => rw [hc] at h; cases h
    | some w =>
      rw [hc, Option.bind_some] at h
      have e0 : ev t F (.tup es) ρ = (evs t F es ρ).bind fun vs ρ => if vs.length ≤ lim then .ok (.d (.tup (frzs vs))) ρ else .no := by simp only [ev]
      rw [e0, ih.2 w ρ hc, bind_ok]
      split at h
      · rename_i hl
        cases h
        rw [if_pos hl]
      · cases h
  | lst es ih =>
    refine ⟨fun v ρ h => ?_, fun vs ρ h => by simp only [constEs] at h; cases h⟩
    simp only [constE] at h
    cases hc : constEs es with
    | none => rw [hc] at h; cases h
    | some w =>
      rw [hc, Option.bind_some] at h
      have e0 : ev t F (.lst es) ρ = (evs t F es ρ).bind fun vs ρ => if vs.length ≤ lim then .ok (.lst vs) ρ else .no := by simp only [ev]
      rw [e0, ih.2 w ρ hc, bind_ok]
      split at h
      · rename_i hl
        cases h
        rw [if_pos hl]
      · cases h
  | nil => exact ⟨fun v ρ h => (by simp only [constE] at h; cases h), fun vs ρ h => by simp only [constEs] at h; cases h; simp only [evs]⟩
  | cons e es h1 h2 =>
    refine ⟨fun v ρ h => (by simp only [constE] at h; cases h), fun vs ρ h => ?_⟩
    simp only [constEs] at h
    cases hc : constE e with
    | none => rw [hc] at h; cases h
    | some w =>
      rw [hc, Option.bind_some] at h
      cases hc2 : constEs es with
      | none => rw [hc2] at h; cases h
      | some ws =>
        rw [hc2] at h
        cases h
        have e0 : evs t F (.cons e es) ρ = (ev t F e ρ).bind fun v ρ => (evs t F es ρ).bind fun vs ρ => .ok (v :: vs) ρ := by simp only [evs]
        rw [e0, h1.1 w ρ hc, bind_ok, h2.2 ws ρ hc2, bind_ok]
  | _ => exact ⟨fun v ρ h => (by simp only [constE] at h; cases h), fun vs ρ h => by simp only [constEs] at h; cases h⟩
theorem const_ev {t : T} {F : String → List SV → Cr} {e : E} {v : SV} {ρ : Env} (h : constE e = some v) : ev t F e ρ = .ok v ρ := (const_both e).1 v ρ h
theorem str_ev {t : T} {F : String → List SV → Cr} {s : List Nat} {ρ : Env} : ev t F (.str s) ρ = .ok (.d (.str s)) ρ := by simp only [ev]
theorem evs_nil {t : T} {F : String → List SV → Cr} {ρ : Env} : evs t F .nil ρ = .ok [] ρ := by simp only [evs]
theorem evs_cons {t : T} {F : String → List SV → Cr} {ρ ρ1 ρ2 : Env} {e es : E} {v : SV} {vs : List SV} (h : ev t F e ρ = .ok v ρ1) (hs : evs t F es ρ1 = .ok vs ρ2) : evs t F (.cons e es) ρ = .ok (v :: vs) ρ2 := by
  have e0 : evs t F (.cons e es) ρ = (ev t F e ρ).bind fun v ρ => (evs t F es ρ).bind fun vs ρ => .ok (v :: vs) ρ := by simp only [evs]
  rw [e0, h, bind_ok, hs, bind_ok]
theorem tup_ev {t : T} {F : String → List SV → Cr} {ρ ρ1 : Env} {es : E} {vs : List SV} (h : evs t F es ρ = .ok vs ρ1) (hl : vs.length ≤ lim) : ev t F (.tup es) ρ = .ok (.d (.tup (frzs vs))) ρ1 := by
  have e0 : ev t F (.tup es) ρ = (evs t F es ρ).bind fun vs ρ => if vs.length ≤ lim then .ok (.d (.tup (frzs vs))) ρ else .no := by simp only [ev]
  rw [e0, h, bind_ok, if_pos hl]
theorem lst_ev {t : T} {F : String → List SV → Cr} {ρ ρ1 : Env} {es : E} {vs : List SV} (h : evs t F es ρ = .ok vs ρ1) (hl : vs.length ≤ lim) : ev t F (.lst es) ρ = .ok (.lst vs) ρ1 := by
  have e0 : ev t F (.lst es) ρ = (evs t F es ρ).bind fun vs ρ => if vs.length ≤ lim then .ok (.lst vs) ρ else .no := by simp only [ev]
  rw [e0, h, bind_ok, if_pos hl]
theorem blt_ev {t : T} {F : String → List SV → Cr} {ρ ρ1 : Env} {b : Bf} {es : E} {vs : List SV} {v : SV} (h : evs t F es ρ = .ok vs ρ1) (h2 : bltD t b (frzs vs) = some v) : ev t F (.blt b es) ρ = .ok v ρ1 := by
  have e0 : ev t F (.blt b es) ρ = (evs t F es ρ).bind fun vs ρ => R.of (bltD t b (frzs vs)) ρ := by simp only [ev]
  rw [e0, h, bind_ok, h2]
  rfl
theorem bm_ev {t : T} {F : String → List SV → Cr} {ρ ρ1 ρ2 : Env} {m : Bm} {a es : E} {x : SV} {vs : List SV} {v : SV} (h : ev t F a ρ = .ok x ρ1) (hr : okRec m (frz x) = true) (hs : evs t F es ρ1 = .ok vs ρ2) (h2 : bmD m (frz x) (frzs vs) = some v) : ev t F (.bm m a es) ρ = .ok v ρ2 := by
  have e0 : ev t F (.bm m a es) ρ = (ev t F a ρ).bind fun x ρ => if okRec m (frz x) then (evs t F es ρ).bind fun vs ρ => R.of (bmD m (frz x) (frzs vs)) ρ else .no := by simp only [ev]
  rw [e0, h, bind_ok, if_pos hr, hs, bind_ok, h2]
  rfl
theorem call_ev {t : T} {F : String → List SV → Cr} {ρ ρ1 : Env} {f : String} {es : E} {vs : List SV} {v : SV} {o : List (Option SV)} (hf : t.isFn f = true) (h : evs t F es ρ = .ok vs ρ1) (h2 : F f ((frzs vs).map .d) = .ok v o) : ev t F (.call f es) ρ = .ok v ρ1 := by
  have e0 : ev t F (.call f es) ρ = (evs t F es ρ).bind fun vs ρ => ofCr (F f ((frzs vs).map .d)) ρ := by simp only [ev, hf, if_true]
  rw [e0, h, bind_ok, h2]
  rfl
theorem call_exc {t : T} {F : String → List SV → Cr} {ρ ρ1 : Env} {f : String} {es : E} {vs : List SV} {x : Xc} (hf : t.isFn f = true) (h : evs t F es ρ = .ok vs ρ1) (h2 : F f ((frzs vs).map .d) = .exc x) : ev t F (.call f es) ρ = .exc x ρ1 := by
  have e0 : ev t F (.call f es) ρ = (evs t F es ρ).bind fun vs ρ => ofCr (F f ((frzs vs).map .d)) ρ := by simp only [ev, hf, if_true]
  rw [e0, h, bind_ok, h2]
  rfl
theorem meth_ev {t : T} {F : String → List SV → Cr} {ρ ρ1 ρ2 : Env} {m q : String} {a es : E} {c : String} {ns : List String} {xs : List D} {x : SV} {vs : List SV} {v : SV} {o : List (Option SV)} (h : ev t F a ρ = .ok x ρ1) (hx : frz x = .ins c ns xs) (hq : t.meth c m = some q) (hn : m ∉ ns)
    (hs : evs t F es ρ1 = .ok vs ρ2) (h2 : F q (.d (.ins c ns xs) :: (frzs vs).map .d) = .ok v o) : ev t F (.meth m a es) ρ = .ok v ρ2 := by
  have e0 : ev t F (.meth m a es) ρ = (ev t F a ρ).bind fun x ρ => (match frz x with
    | .ins c ns xs => (match t.meth c m with
      | some q => if ns.contains m then .no else (evs t F es ρ).bind fun vs ρ => ofCr (F q (.d (.ins c ns xs) :: (frzs vs).map .d)) ρ
      | none => .no)
    | _ => .no) := by first | (simp only [ev]; done) | (simp only [ev]; rfl)
  have hn2 : ns.contains m = false := by simpa using hn
  rw [e0, h, bind_ok, hx]
  show (match t.meth c m with
      | some q => if ns.contains m then R.no else (evs t F es ρ1).bind fun vs ρ => ofCr (F q (.d (.ins c ns xs) :: (frzs vs).map .d)) ρ
      | none => .no) = _
  rw [hq]
  show (if ns.contains m = true then R.no else (evs t F es ρ1).bind fun vs ρ => ofCr (F q (.d (.ins c ns xs) :: (frzs vs).map .d)) ρ) = _
  rw [if_neg (by rw [hn2]; exact Bool.false_ne_true), hs, bind_ok, h2]
  rfl
theorem fld_ev {t : T} {F : String → List SV → Cr} {ρ ρ1 : Env} {a : E} {f : String} {x : SV} {d : D} (h : ev t F a ρ = .ok x ρ1) (h2 : fldD t (frz x) f = some d) : ev t F (.fld a f) ρ = .ok (.d d) ρ1 := by
  have e0 : ev t F (.fld a f) ρ = (ev t F a ρ).bind fun x ρ => (match fldD t (frz x) f with
    | some d => .ok (.d d) ρ
    | none => .no) := by first | (simp only [ev]; done) | (simp only [ev]; rfl)
  rw [e0, h, bind_ok, h2]
theorem glb_ev {t : T} {F : String → List SV → Cr} {ρ : Env} {x : String} {d : D} (h : t.glob x = some d) : ev t F (.glb x) ρ = .ok (.d d) ρ := by
  simp only [ev, h]
theorem slc_lo {t : T} {F : String → List SV → Cr} {ρ ρ1 ρ2 : Env} {a lo : E} {x l : SV} {i : Int} {v : SV} (hne : isEmp lo = false) (h : ev t F a ρ = .ok x ρ1) (hl : ev t F lo ρ1 = .ok l ρ2) (hi : frz l = .int i) (h2 : slcD (frz x) (some i) none = some v) : ev t F (.slc a lo .emp) ρ = .ok v ρ2 := by
  have e0 : ev t F (.slc a lo .emp) ρ = (ev t F a ρ).bind fun x ρ => (ev t F lo ρ).bind fun l ρ => (match frz l with
    | .int i => R.of (slcD (frz x) (some i) none) ρ
    | _ => .no) := by cases lo <;> first | (cases hne; done) | (simp only [ev]; done) | (simp only [ev]; rfl)
  rw [e0, h, bind_ok, hl, bind_ok, hi]
  show R.of (slcD (frz x) (some i) none) ρ2 = _
  rw [h2]
  rfl
theorem slc_hi {t : T} {F : String → List SV → Cr} {ρ ρ1 ρ2 : Env} {a hi : E} {x l : SV} {i : Int} {v : SV} (hne : isEmp hi = false) (h : ev t F a ρ = .ok x ρ1) (hl : ev t F hi ρ1 = .ok l ρ2) (hi2 : frz l = .int i) (h2 : slcD (frz x) none (some i) = some v) : ev t F (.slc a .emp hi) ρ = .ok v ρ2 := by
  have e0 : ev t F (.slc a .emp hi) ρ = (ev t F a ρ).bind fun x ρ => (ev t F hi ρ).bind fun l ρ => (match frz l with
    | .int i => R.of (slcD (frz x) none (some i)) ρ
    | _ => .no) := by cases hi <;> first | (cases hne; done) | (simp only [ev]; done) | (simp only [ev]; rfl)
  rw [e0, h, bind_ok, hl, bind_ok, hi2]
  show R.of (slcD (frz x) none (some i)) ρ2 = _
  rw [h2]
  rfl
theorem neg_ev {t : T} {F : String → List SV → Cr} {ρ : Env} {i : Int} : ev t F (.neg (.int i)) ρ = .ok (.d (.int (-i))) ρ := const_ev rfl
theorem ret_blk {t : T} {F : String → List SV → Cr} {ro : List Nat} {e : E} {v : SV} {r : S} {ρ ρ1 : Env} (h : ev t F e ρ = .ok v ρ1) : Kn.exec t F ro (.cons (.ret e) r) ρ = .rt v ρ1 := by
  have e0 : Kn.exec t F ro (.ret e) ρ = thenF (ev t F e ρ) fun v ρ => .rt v ρ := by simp only [Kn.exec]
  exact st_rt (G := fun x => x = .rt v ρ1) (by rw [e0, h]; rfl) rfl
theorem nil_blk {t : T} {F : String → List SV → Cr} {ro : List Nat} {ρ : Env} : Kn.exec t F ro .nil ρ = .nx ρ := by simp only [Kn.exec]
theorem bT (a b : List D) (h : a.length + b.length ≤ lim) : binD .add (.tup a) (.tup b) = some (.d (.tup (a ++ b))) := if_pos h
theorem pickv (xs : List D) (m i : Int) (hm : m = xs.length) (h : 0 < m) : ∃ d ∈ xs, idxD (.lst xs) (.int (i % m)) = some d := by
  have h1 : 0 ≤ i % m := Int.emod_nonneg _ (by omega)
  have h2 : i % m < m := Int.emod_lt_of_pos _ h
  obtain ⟨j, hj⟩ : ∃ j : Nat, i % m = j := ⟨(i % m).toNat, by omega⟩
  rw [hj]
  have hl : j < xs.length := by omega
  exact ⟨xs[j], List.getElem_mem hl, atI_nat (List.getElem?_eq_getElem hl)⟩
theorem try_exc {t : T} {F : String → List SV → Cr} {ro : List Nat} {b : S} {c : String} {i j : Nat} {x : Xc} {ρ ρ1 : Env} (hb : Kn.exec t F ro b ρ = .exc x ρ1) (hr : (ro.contains i || ro.contains j) = false) (hc : t.exn c = true) (hx : t.isx x.c c = some true) :
    Kn.exec t F ro (.tryk b c i j) ρ = .nx ((ρ1.set i none).set j (some (.d (.exc x.c x.ns x.xs)))) := by
  have e0 : Kn.exec t F ro (.tryk b c i j) ρ = if (ro.contains i || ro.contains j) || !t.exn c then .no else (match Kn.exec t F ro b ρ with
    | .exc x ρ' => (match t.isx x.c c with
      | some true => .nx ((ρ'.set i none).set j (some (.d (.exc x.c x.ns x.xs))))
      | some false => .exc x ρ'
      | none => .no)
    | r => r) := by first | (simp only [Kn.exec]; done) | (simp only [Kn.exec]; rfl)
  rw [e0, hr, hc]
  show (match Kn.exec t F ro b ρ with
    | .exc x ρ' => (match t.isx x.c c with
      | some true => Fl.nx ((ρ'.set i none).set j (some (.d (.exc x.c x.ns x.xs))))
      | some false => .exc x ρ'
      | none => .no)
    | r => r) = _
  rw [hb]
  show (match t.isx x.c c with
      | some true => Fl.nx ((ρ1.set i none).set j (some (.d (.exc x.c x.ns x.xs))))
      | some false => .exc x ρ1
      | none => .no) = _
  rw [hx]
theorem try_nx {t : T} {F : String → List SV → Cr} {ro : List Nat} {b : S} {c : String} {i j : Nat} {ρ ρ1 : Env} (hb : Kn.exec t F ro b ρ = .nx ρ1) (hr : (ro.contains i || ro.contains j) = false) (hc : t.exn c = true) : Kn.exec t F ro (.tryk b c i j) ρ = .nx ρ1 := by
  have e0 : Kn.exec t F ro (.tryk b c i j) ρ = if (ro.contains i || ro.contains j) || !t.exn c then .no else (match Kn.exec t F ro b ρ with
    | .exc x ρ' => (match t.isx x.c c with
      | some true => .nx ((ρ'.set i none).set j (some (.d (.exc x.c x.ns x.xs))))
      | some false => .exc x ρ'
      | none => .no)
    | r => r) := by first | (simp only [Kn.exec]; done) | (simp only [Kn.exec]; rfl)
  rw [e0, hr, hc]
  show (match Kn.exec t F ro b ρ with
    | .exc x ρ' => (match t.isx x.c c with
      | some true => Fl.nx ((ρ'.set i none).set j (some (.d (.exc x.c x.ns x.xs))))
      | some false => .exc x ρ'
      | none => .no)
    | r => r) = _
  rw [hb]
theorem expr_exc {t : T} {F : String → List SV → Cr} {ro : List Nat} {e : E} {r : S} {x : Xc} {ρ ρ1 : Env} (h : ev t F e ρ = .exc x ρ1) : Kn.exec t F ro (.cons (.expr e) r) ρ = .exc x ρ1 := by
  have e0 : Kn.exec t F ro (.cons (.expr e) r) ρ = (match thenF (ev t F e ρ) (fun _ ρ => Fl.nx ρ) with
    | .nx ρ' => Kn.exec t F ro r ρ'
    | x => x) := by first | (simp only [Kn.exec]; done) | (simp only [Kn.exec]; rfl)
  rw [e0, h]
  rfl
theorem is_ev {t : T} {F : String → List SV → Cr} {ρ ρ1 : Env} {a : E} {x : SV} {r : Bool} (h : ev t F a ρ = .ok x ρ1) (hr : isN (frz x) = r) : ev t F (.cmp .is_ a .non) ρ = .ok (.d (.bl r)) ρ1 := cmp_ev (y := .d .non) h (const_ev rfl) (by rw [← hr]; rfl)
theorem isnot_ev {t : T} {F : String → List SV → Cr} {ρ ρ1 : Env} {a : E} {x : SV} {r : Bool} (h : ev t F a ρ = .ok x ρ1) (hr : isN (frz x) = r) : ev t F (.cmp .isnot a .non) ρ = .ok (.d (.bl (!r))) ρ1 := cmp_ev (y := .d .non) h (const_ev rfl) (by rw [← hr]; rfl)
theorem eq_ev {t : T} {F : String → List SV → Cr} {ρ ρ1 ρ2 : Env} {a b : E} {x y : SV} {r : Bool} (h1 : ev t F a ρ = .ok x ρ1) (h2 : ev t F b ρ1 = .ok y ρ2) (h3 : eqD (frz x) (frz y) = some r) : ev t F (.cmp .eq a b) ρ = .ok (.d (.bl r)) ρ2 := cmp_ev h1 h2 (by
  have : ∀ x y : D, cmpD .eq x y = eqD x y := fun x y => by cases x <;> cases y <;> rfl
  rw [this, h3])
theorem ne_ev {t : T} {F : String → List SV → Cr} {ρ ρ1 ρ2 : Env} {a b : E} {x y : SV} {r : Bool} (h1 : ev t F a ρ = .ok x ρ1) (h2 : ev t F b ρ1 = .ok y ρ2) (h3 : eqD (frz x) (frz y) = some r) : ev t F (.cmp .ne a b) ρ = .ok (.d (.bl (!r))) ρ2 := cmp_ev h1 h2 (by
  have : ∀ x y : D, cmpD .ne x y = (eqD x y).map (!·) := fun x y => by cases x <;> cases y <;> rfl
  rw [this, h3]
  rfl)
theorem pick (xs : List D) (m i : Int) (hm : m = xs.length) (h : 0 < m) : ∃ d ∈ xs, atI xs (i % m) = some d := by
  have h1 : 0 ≤ i % m := Int.emod_nonneg _ (by omega)
  have h2 : i % m < m := Int.emod_lt_of_pos _ h
  obtain ⟨j, hj⟩ : ∃ j : Nat, i % m = j := ⟨(i % m).toNat, by omega⟩
  rw [hj]
  have hl : j < xs.length := by omega
  exact ⟨xs[j], List.getElem_mem hl, atI_nat (List.getElem?_eq_getElem hl)⟩
theorem eqS (s : List Nat) : eqD (.str s) (.str s) = some true := by simp [eqD, flat, eqvD]
theorem frzs_dd (xs : List D) : frzs (xs.map .d) = xs := by
  induction xs with
  | nil => rfl
  | cons x xs ih =>
    rw [List.map_cons]
    unfold frzs frz
    rw [ih]
theorem cqI (i j : Int) : cmpD .eq (.int i) (.int j) = some (decide (i = j)) := by simp [cmpD, eqD, flat, eqvD]; rfl
theorem cnE (x y : D) : cmpD .ne x y = (eqD x y).map (!·) := by cases x <;> cases y <;> rfl
theorem cut_mem {α : Type} {xs : List α} {lo hi : Option Int} {x : α} (h : x ∈ cutL xs lo hi) : x ∈ xs := List.mem_of_mem_drop (List.mem_of_mem_take h)
def nthS : S → Nat → S
  | .cons s _, 0 => s
  | .cons _ r, k + 1 => nthS r k
  | s, _ => s
def bodyS : S → S
  | .for_ _ _ b => b
  | s => s
def GB (x : Fl) : Prop := ∃ ρ', x = .rt (.d (.bl true)) ρ'
end Kn

set_option Elab.async false
set_option linter.all false
set_option maxRecDepth 100000
set_option maxHeartbeats 4000000
/-! Tl2: more tools for the evaluator. -/
namespace Kn
open PySem L2
theorem eqT (a b : List Nat) : eqD (.str a) (.str b) = some (decide (a = b)) := by
  have e : eqD (.str a) (.str b) = some (a == b) := rfl
  rw [e]
  congr 1
  by_cases h : a = b <;> simp [h]
section
variable {t : T} {F : String → List SV → Cr} {ρ ρ1 ρ2 ρ3 : Env}
theorem chn_ev {a b c : E} {x y z : SV} {i j k : Int} (h1 : ev t F a ρ = .ok x ρ) (h2 : ev t F b ρ = .ok y ρ) (h3 : ev t F c ρ = .ok z ρ) (e1 : frz x = .int i) (e2 : frz y = .int j) (e3 : frz z = .int k) :
    ev t F (.chn .le .le a b c) ρ = .ok (.d (.bl (decide (i ≤ j) && decide (j ≤ k)))) ρ := by
  have e0 : ev t F (.chn .le .le a b c) ρ = (ev t F a ρ).bind fun x ρ => (ev t F b ρ).bind fun y ρ => (match cmpD .le (frz x) (frz y) with
    | some true => (ev t F c ρ).bind fun z ρ => (match cmpD .le (frz y) (frz z) with
      | some r => .ok (.d (.bl r)) ρ
      | none => .no)
    | some false => .ok (.d (.bl false)) ρ
    | none => .no) := by first | (simp only [ev]; done) | (simp only [ev]; rfl)
  rw [e0, h1, bind_ok, h2, bind_ok, e1, e2]
  show (match some (decide (i ≤ j)) with
    | some true => (ev t F c ρ).bind fun z ρ => (match cmpD .le (.int j) (frz z) with
      | some r => R.ok (SV.d (.bl r)) ρ
      | none => .no)
    | some false => R.ok (SV.d (.bl false)) ρ
    | none => .no) = _
  cases decide (i ≤ j) with
  | true =>
    show ((ev t F c ρ).bind fun z ρ => (match cmpD .le (.int j) (frz z) with
      | some r => R.ok (SV.d (.bl r)) ρ
      | none => .no)) = _
    rw [h3, bind_ok, e3]
    rfl
  | false => rfl
theorem wipe_set1 {i : Nat} {v : Option SV} : wipeE ((wipeE ρ [i]).set i v) [i] = wipeE ρ [i] := by
  show ((ρ.set i none).set i v).set i none = ρ.set i none
  rw [List.set_set, List.set_set]
theorem back1 {i : Nat} (h : i < ρ.length) : backE ρ (wipeE ρ [i]) [i] = ρ := by
  show (ρ.set i none).set i ((ρ[i]?).getD none) = ρ
  rw [List.set_set, List.getElem?_eq_getElem h, Option.getD_some, List.set_getElem_self]
theorem set_at {i : Nat} {v : Option SV} (h : i < ρ.length) : ((wipeE ρ [i]).set i v)[i]? = some v := by
  rw [List.getElem?_set_self]
  show i < (ρ.set i none).length
  rw [List.length_set]
  exact h
theorem all_in {i j : Nat} {L s : List Nat} (hj : ρ[j]? = some (some (.d (.str s)))) (hi : i < ρ.length) (hf : freeAt ρ [i] = true) (hl : s.length ≤ lim) :
    ev t F (.blt .all (.cons (.comp (.nm i) (.var j) (.cmp .in_ (.var i) (.str L))) .nil)) ρ = .ok (.d (.bl (s.all fun c => decide (c ∈ L)))) ρ := by
  have hc := comp_ok (t := t) (F := F) (g := .nm i) (it := .var j) (el := .cmp .in_ (.var i) (.str L)) (ρ := ρ) (ρ1 := ρ) (ds := s.map fun c => D.str [c]) (fun d => .bl (match d with | .str [c] => decide (c ∈ L) | _ => false)) (B := wipeE ρ [i])
    (evi_of (var_ev hj) rfl) hf (by rw [List.length_map]; exact hl) rfl (fun d hd => by
      obtain ⟨c, _, rfl⟩ := List.mem_map.mp hd
      exact ⟨_, _, rfl, cmp_ev (var_ev (set_at hi)) str_ev rfl, wipe_set1⟩)
  rw [List.map_map] at hc
  refine blt1_ev (hc.trans (by rw [show slotsT (.nm i) = [i] from rfl, back1 hi])) ?_
  show (bls? (frzs (s.map fun c => SV.d (.bl (decide (c ∈ L)))))).map _ = _
  rw [frzs_map, bls_map]
  show some (SV.d (.bl ((s.map fun c => decide (c ∈ L)).all id))) = _
  rw [List.all_map]
  rfl
/-- a comprehension that leaves some out -/
theorem compL_flt {step : D → Env → R (Option SV)} {p : D → Bool} {B : Env} {sl : List Nat} : ∀ (ds : List D) (ρ : Env) (acc : List SV), wipeE ρ sl = B → acc.length + ds.length ≤ lim → (∀ d ∈ ds, ∀ ρ, wipeE ρ sl = B → ∃ ρ3, step d ρ = .ok (if p d then some (.d d) else none) ρ3 ∧ wipeE ρ3 sl = B) →
    ∃ ρ', compL step ds ρ acc = .ok (acc ++ (ds.filter p).map .d) ρ' ∧ wipeE ρ' sl = B
  | [], ρ, acc, h, _, _ => ⟨ρ, by simp [compL], h⟩
  | d :: ds, ρ, acc, h, hl, k => by
    obtain ⟨ρ3, e, h3⟩ := k d List.mem_cons_self ρ h
    rw [List.length_cons] at hl
    unfold compL
    rw [e]
    cases hp : p d with
    | true =>
      have hl' : acc.length < lim := by omega
      obtain ⟨ρ', e', h'⟩ := compL_flt ds ρ3 (acc ++ [.d d]) h3 (by rw [List.length_append, List.length_singleton]; omega) fun d hd => k d (List.mem_cons_of_mem _ hd)
      refine ⟨ρ', ?_, h'⟩
      show (if acc.length < lim then compL step ds ρ3 (acc ++ [.d d]) else .no) = _
      rw [if_pos hl', e', List.append_assoc, List.filter_cons_of_pos hp]
      rfl
    | false =>
      obtain ⟨ρ', e', h'⟩ := compL_flt ds ρ3 acc h3 (by omega) fun d hd => k d (List.mem_cons_of_mem _ hd)
      refine ⟨ρ', ?_, h'⟩
      show compL step ds ρ3 acc = _
      rw [e', List.filter_cons_of_neg (by rw [hp]; exact Bool.false_ne_true)]
theorem words_ev {i : Nat} {it : E} {ls : List (List Nat)} (hi : i < ρ.length) (hit : evi t F it ρ = .ok (ls.map .str) ρ) (hf : freeAt ρ [i] = true) (hl : ls.length ≤ lim) :
    ev t F (.cmpi (.nm i) it (.cmp .ne (.var i) (.str [])) (.var i)) ρ = .ok (.lst ((ls.filter fun w => decide (w ≠ [])).map fun w => .d (.str w))) ρ := by
  have e0 : ev t F (.cmpi (.nm i) it (.cmp .ne (.var i) (.str [])) (.var i)) ρ = (evi t F it ρ).bind fun ds ρ => if freeAt ρ (slotsT (.nm i)) then
      (compL (fun d ρ' => match bindT (.nm i) d (wipeE ρ' (slotsT (.nm i))) with
        | some ρ₂ => (ev t F (.cmp .ne (.var i) (.str [])) ρ₂).bind fun b ρ => (match b with
          | .d (.bl true) => (ev t F (.var i) ρ).bind fun v ρ => .ok (some v) ρ
          | .d (.bl false) => .ok none ρ
          | _ => .no)
        | none => .no) ds ρ []).bind fun vs ρ' => .ok (.lst vs) (backE ρ (wipeE ρ' (slotsT (.nm i))) (slotsT (.nm i)))
    else .no := by (unfold evi; first | (simp only [ev]; done) | (simp only [ev]; rfl))
  obtain ⟨ρ', e', h'⟩ := compL_flt (p := fun d => match d with | .str w => decide (w ≠ []) | _ => false) (step := fun d ρ' => match bindT (.nm i) d (wipeE ρ' (slotsT (.nm i))) with
        | some ρ₂ => (ev t F (.cmp .ne (.var i) (.str [])) ρ₂).bind fun b ρ => (match b with
          | .d (.bl true) => (ev t F (.var i) ρ).bind fun v ρ => .ok (some v) ρ
          | .d (.bl false) => .ok none ρ
          | _ => .no)
        | none => .no) (sl := slotsT (.nm i)) (B := wipeE ρ [i]) (ls.map .str) ρ [] rfl (by rw [List.length_map]; simpa using hl) fun d hd ρ4 hρ => by
    obtain ⟨w, _, rfl⟩ := List.mem_map.mp hd
    have hv := set_at (v := some (.d (.str w))) hi
    have hc : ev t F (.cmp .ne (.var i) (.str [])) ((wipeE ρ [i]).set i (some (.d (.str w)))) = .ok (.d (.bl (!decide (w = [])))) ((wipeE ρ [i]).set i (some (.d (.str w)))) := ne_ev (var_ev hv) str_ev (eqT w [])
    refine ⟨(wipeE ρ [i]).set i (some (.d (.str w))), ?_, wipe_set1⟩
    rw [hρ]
    show (ev t F (.cmp .ne (.var i) (.str [])) ((wipeE ρ [i]).set i (some (.d (.str w))))).bind _ = _
    rw [hc, bind_ok]
    by_cases h : w = []
    · subst h
      rfl
    · have : (!decide (w = [])) = true := by simp [h]
      rw [this]
      show (ev t F (.var i) _).bind _ = _
      rw [var_ev hv, bind_ok]
      simp [h]
  rw [e0, hit, bind_ok]
  show (if freeAt ρ [i] = true then _ else _) = _
  rw [if_pos hf, e', bind_ok, h', show slotsT (.nm i) = [i] from rfl, back1 hi, List.nil_append, List.filter_map, List.map_map]
  rfl
theorem split_ev {a : E} {s : List Nat} {c : Nat} (h : ev t F a ρ = .ok (.d (.str s)) ρ) (hl : s.length ≤ lim) (hc : c < 256) : ev t F (.bm .split a (.cons (.str [c]) .nil)) ρ = .ok (.lst ((TL.spl [c] 0 [] s).map fun z => .d (.str z))) ρ :=
  bm_ev h rfl (evs_cons str_ev evs_nil) (if_pos ⟨hl, hc⟩)
theorem starts_ev {a : E} {s p : List Nat} (h : ev t F a ρ = .ok (.d (.str s)) ρ) : ev t F (.bm .startswith a (.cons (.str p) .nil)) ρ = .ok (.d (.bl (decide (s.take p.length = p)))) ρ :=
  bm_ev h rfl (evs_cons str_ev evs_nil) rfl
theorem take1_ev {a : E} {s : List Nat} (h : ev t F a ρ = .ok (.d (.str s)) ρ) (hl : s.length ≤ lim) : ev t F (.slc a .emp (.int 1)) ρ = .ok (.d (.str (s.take 1))) ρ :=
  slc_hi rfl h int_ev rfl (by
    show (if s.length ≤ lim then some (SV.d (.str (cutL s none (some 1)))) else none) = _
    rw [if_pos hl]
    congr 3
    unfold cutL HT.sIx
    cases s <;> simp <;> omega)
theorem drop1_ev {a : E} {s : List Nat} (h : ev t F a ρ = .ok (.d (.str s)) ρ) (hl : s.length ≤ lim) : ev t F (.slc a (.int 1) .emp) ρ = .ok (.d (.str (s.drop 1))) ρ :=
  slc_lo rfl h int_ev rfl (by
    show (if s.length ≤ lim then some (SV.d (.str (cutL s (some 1) none))) else none) = _
    rw [if_pos hl]
    congr 3
    unfold cutL HT.sIx
    cases s <;> simp)
theorem len_ev {a : E} {s : List Nat} (h : ev t F a ρ = .ok (.d (.str s)) ρ) (hl : s.length ≤ lim) : ev t F (.blt .len (.cons a .nil)) ρ = .ok (.d (.int s.length)) ρ :=
  blt1_ev h (if_pos hl)
/-- an item of a growing list -/
theorem idv_ev {i : Nat} {e : E} {y s0 s : SV} {d : D} (h0 : ρ[i]? = some (some s0)) (h : ev t F e ρ = .ok y ρ1) (h1 : ρ1[i]? = some (some s)) (hd : svIdx s (frz y) = some d) : ev t F (.idv i e) ρ = .ok (.d d) ρ1 := by
  have e0 : ev t F (.idv i e) ρ = (match ρ[i]? with
    | some (some _) => (ev t F e ρ).bind fun y ρ => (match ρ[i]? with
      | some (some s) => (match svIdx s (frz y) with
        | some d => .ok (.d d) ρ
        | none => .no)
      | _ => .no)
    | _ => .no) := by first | (simp only [ev]; done) | (simp only [ev]; rfl)
  rw [e0, h0]
  show (ev t F e ρ).bind _ = _
  rw [h, bind_ok]
  show (match ρ1[i]? with
      | some (some s) => (match svIdx s (frz y) with
        | some d => R.ok (SV.d d) ρ1
        | none => .no)
      | _ => .no) = _
  rw [h1]
  show (match svIdx s (frz y) with
        | some d => R.ok (SV.d d) ρ1
        | none => .no) = _
  rw [hd]
end
end Kn

set_option Elab.async false
set_option linter.all false
set_option maxRecDepth 100000
set_option maxHeartbeats 4000000
/-! Tl3: more tools for the evaluator: looks that keep ownership, things taken out, raise, continue, enumerate. -/
namespace Kn
open PySem L2
section
variable {t : T} {F : String → List SV → Cr} {ρ ρ1 ρ2 ρ3 : Env}
theorem bor_ev {e : E} {x : D} (h : ev t F e ρ = .ok (.d x) ρ1) (hf : flat x = true) : ev t F (.bor e) ρ = .ok (.d x) ρ := by
  have e0 : ev t F (.bor e) ρ = (match ev t F e ρ with
    | .ok (.d x) _ => if Kn.flat x then .ok (.d x) ρ else .no
    | .ok _ _ => .no
    | .exc x ρ' => .exc x ρ'
    | .no => .no) := by first | (simp only [ev]; done) | (simp only [ev]; rfl)
  rw [e0, h]
  show (if Kn.flat x = true then _ else _) = _
  rw [if_pos hf]
theorem take_ev {i : Nat} {s : SV} (h : ρ[i]? = some (some s)) : ev t F (.take i) ρ = .ok s (ρ.set i none) := by
  have e0 : ev t F (.take i) ρ = (match ρ[i]? with
    | some (some s) => .ok s (ρ.set i none)
    | _ => .no) := by first | (simp only [ev]; done) | (simp only [ev]; rfl)
  rw [e0, h]
/-- a variable read, whatever stands there -/
theorem varS_ev {i : Nat} {s : SV} (h : ρ[i]? = some (some s)) : ev t F (.var i) ρ = .ok (.d (frz s)) (ρ.set i (some (.d (frz s)))) := by
  have e0 : ev t F (.var i) ρ = (match ρ[i]? with
    | some (some (.d x)) => .ok (.d x) ρ
    | some (some s) => .ok (.d (frz s)) (ρ.set i (some (.d (frz s))))
    | _ => .no) := by first | (simp only [ev]; done) | (simp only [ev]; rfl)
  rw [e0, h]
  cases s with
  | d x =>
    have hl : i < ρ.length := (List.getElem?_eq_some_iff.mp h).1
    have : ρ.set i (some (.d (frz (.d x)))) = ρ := by
      apply List.ext_getElem?
      intro j
      by_cases hj : i = j
      · subst hj
        rw [List.getElem?_set_self hl, h]
        rfl
      · rw [List.getElem?_set_ne hj]
    rw [this]
    rfl
  | _ => rfl
def isNx : Fl → Bool
  | .nx _ => true
  | _ => false
theorem st_to {ro : List Nat} {s r : S} {x : Fl} (h : Kn.exec t F ro s ρ = x) (hx : isNx x = false) : Kn.exec t F ro (.cons s r) ρ = x := by
  have e0 : Kn.exec t F ro (.cons s r) ρ = (match Kn.exec t F ro s ρ with
    | .nx ρ' => Kn.exec t F ro r ρ'
    | x => x) := by first | (simp only [Kn.exec]; done) | (simp only [Kn.exec]; rfl)
  rw [e0, h]
  cases x with
  | nx _ => cases hx
  | _ => rfl
theorem cnt_blk {ro : List Nat} {r : S} : Kn.exec t F ro (.cons .cnt r) ρ = .ct ρ := st_to (by simp only [Kn.exec]) rfl
theorem raise_to {ro : List Nat} {c : String} {as : E} {vs : List SV} {x : Xc} (hn : t.xn c (lenE as) = true) (h : evs t F as ρ = .ok vs ρ1) (hx : t.xc c (frzs vs) = some x) : Kn.exec t F ro (.raise c as) ρ = .exc x ρ1 := by
  have e0 : Kn.exec t F ro (.raise c as) ρ = if t.xn c (lenE as) then thenF (evs t F as ρ) fun vs ρ => (match t.xc c (frzs vs) with
    | some x => .exc x ρ
    | none => .no) else .no := by first | (simp only [Kn.exec]; done) | (simp only [Kn.exec]; rfl)
  rw [e0, if_pos hn, h]
  show (match t.xc c (frzs vs) with
    | some x => Fl.exc x ρ1
    | none => .no) = _
  rw [hx]
theorem enu_evi {a : E} {x : SV} {xs : List D} (h : ev t F a ρ = .ok x ρ1) (hx : frz x = .lst xs) : evi t F (.enu a) ρ = .ok (enuL xs 0) ρ1 := by
  have e0 : ev t F (.enu a) ρ = (ev t F a ρ).bind fun x ρ => (match frz x with
    | .lst xs => .ok (.d (.lst (enuL xs 0))) ρ
    | _ => .no) := by first | (simp only [ev]; done) | (simp only [ev]; rfl)
  have e1 : ev t F (.enu a) ρ = .ok (.d (.lst (enuL xs 0))) ρ1 := by
    rw [e0, h, bind_ok, hx]
  exact evi_of e1 rfl
theorem for_ev {ro : List Nat} {g : Tg} {it : E} {b : S} {ds : List D} (hi : evi t F it ρ = .ok ds ρ1) (hro : (slotsT g).all (fun i => !ro.contains i) = true) : Kn.exec t F ro (.for_ g it b) ρ = loopF (fun d ρ => match bindT g d ρ with
      | some ρ' => Kn.exec t F ro b ρ'
      | none => .no) ds ρ1 := by
  have e0 : Kn.exec t F ro (.for_ g it b) ρ = thenF (evi t F it ρ) fun ds ρ => if (slotsT g).all (fun i => !ro.contains i) then loopF (fun d ρ => match bindT g d ρ with
      | some ρ' => Kn.exec t F ro b ρ'
      | none => .no) ds ρ else .no := by first | (simp only [Kn.exec]; done) | (simp only [Kn.exec]; rfl)
  rw [e0, hi]
  show (if (slotsT g).all (fun i => !ro.contains i) = true then _ else _) = _
  rw [if_pos hro]
end
end Kn

set_option Elab.async false
set_option linter.all false
set_option maxRecDepth 100000
set_option maxHeartbeats 4000000
/-! Nm: numbers as words. -/
namespace Kn
open PySem L2
def dgs : List Nat := [48, 49, 50, 51, 52, 53, 54, 55, 56, 57]
def dg (c : Nat) : Bool := decide (c ∈ dgs)
def valF (l : List Nat) : Int := ((NumText.digitsVal l : Nat) : Int)
/-- no figure 0 ahead of others -/
def canF (l : List Nat) : Bool := !(decide (1 < l.length) && decide (l.take 1 = [48]))
def allF : Nat → (List Nat → Bool) → Bool
  | 0, p => p []
  | k + 1, p => dgs.all fun c => allF k fun l => p (c :: l)
theorem allF_ok : ∀ {k : Nat} {p : List Nat → Bool}, allF k p = true → ∀ l : List Nat, l.length = k → l.all dg = true → p l = true
  | 0, p, h, [], _, _ => h
  | k + 1, p, h, c :: l, hl, hd => by
    rw [List.all_cons, Bool.and_eq_true] at hd
    have h1 := (List.all_eq_true.mp h) c (of_decide_eq_true hd.1)
    exact allF_ok (p := fun l => p (c :: l)) h1 l (Nat.succ.inj hl) hd.2
def chk (l : List Nat) : Bool := decide (decide (istr (valF l) = l) = canF l) && decide (decide (istr (- valF l) = 45 :: l) = (canF l && decide (l ≠ [48])))
theorem chk1 : allF 1 chk = true := by decide +kernel
theorem chk2 : allF 2 chk = true := by decide +kernel
theorem chk3 : allF 3 chk = true := by decide +kernel
theorem dg_all {l : List Nat} (h : l.all dg = true) : NumText.AllDigits l := by
  intro c hc
  have := (List.all_eq_true.mp h) c hc
  have : c ∈ dgs := of_decide_eq_true this
  simp [dgs] at this
  omega
theorem int_dg {l : List Nat} (h : l.all dg = true) (h1 : l ≠ []) (h2 : l.length ≤ 640) : PySem.intText? ⟨l.toArray⟩ = some (valF l) := by
  have e : (⟨l.toArray⟩ : Str).cps.toList = l := by simp
  have := PySem.intText_digits (x := ⟨l.toArray⟩) (by rw [e]; exact dg_all h) (by rw [e]; exact h1) (by show l.toArray.size ≤ 4300; simp; omega)
  rw [e] at this
  exact this
theorem int_ng {l : List Nat} (h : l.all dg = true) (h1 : l ≠ []) (h2 : l.length ≤ 640) : PySem.intText? ⟨(45 :: l).toArray⟩ = some (- valF l) :=
  PySem.intText_neg (x := ⟨(45 :: l).toArray⟩) (cs := l) (by simp) (dg_all h) h1 (by show (45 :: l).toArray.size ≤ 4300; simp; omega)
theorem istr99 (k : Int) (h1 : -99 ≤ k) (h2 : k ≤ 99) : (istr k).length ≤ 3 := by
  have key : ∀ j : Fin 199, (istr ((j : Nat) - 99 : Int)).length ≤ 3 := by decide +kernel
  have := key ⟨(k + 99).toNat, by omega⟩
  have e : (((k + 99).toNat : Nat) : Int) - 99 = k := by omega
  simp only [e] at this
  exact this
def ng (w : List Nat) : Bool := decide (w.take 1 = [45])
def fg (w : List Nat) : List Nat := if ng w then w.drop 1 else w
def okF (l : List Nat) : Bool := decide (1 ≤ l.length) && (decide (l.length ≤ 4) && l.all dg)
def vl (w : List Nat) : Int := if ng w then - valF (fg w) else valF (fg w)
/-- the law's look -/
def numW (w : List Nat) (lo hi : Int) : Option Int :=
  if okF (fg w) = true then (if (!canF (fg w) || decide (w = [45, 48]) || !(decide (lo ≤ vl w) && decide (vl w ≤ hi))) = true then none else some (vl w)) else none
/-- the program's -/
def numP (w : List Nat) (lo hi : Int) : Option Int :=
  if okF (fg w) = true then (if (!decide (istr (vl w) = w) || !(decide (lo ≤ vl w) && decide (vl w ≤ hi))) = true then none else some (vl w)) else none
theorem fg_ng {w : List Nat} (h : ng w = true) : w = 45 :: fg w := by
  unfold fg
  rw [if_pos h]
  cases w with
  | nil => cases (of_decide_eq_true h)
  | cons c r =>
    have := of_decide_eq_true h
    simp at this
    rw [this]
    rfl
theorem val_big {l : List Nat} (h : l.all dg = true) (hl : l.length = 4) (hc : canF l = true) : 1000 ≤ valF l := by
  match l, hl with
  | [a, b, c, d], _ =>
    simp only [List.all_cons, Bool.and_eq_true] at h
    have ha : a ∈ dgs := of_decide_eq_true h.1
    have hne : a ≠ 48 := fun z => by
      subst z
      simp [canF] at hc
    simp [dgs] at ha
    have e : valF [a, b, c, d] = (((((a - 48) * 10 + (b - 48)) * 10 + (c - 48)) * 10 + (d - 48) : Nat) : Int) := by
      unfold valF NumText.digitsVal
      simp
    rw [e]
    omega
theorem val_small {l : List Nat} (h : l.all dg = true) (hl : l.length ≤ 4) : 0 ≤ valF l ∧ valF l ≤ 100000 := by
  have hd := dg_all h
  refine ⟨by unfold valF; omega, ?_⟩
  match l, hl, hd with
  | [], _, _ => decide
  | [a], _, hd =>
    have h1 := hd a (by simp)
    simp [valF, NumText.digitsVal]
    omega
  | [a, b], _, hd =>
    have h1 := hd a (by simp)
    have h2 := hd b (by simp)
    simp [valF, NumText.digitsVal]
    omega
  | [a, b, c], _, hd =>
    have h1 := hd a (by simp)
    have h2 := hd b (by simp)
    have h3 := hd c (by simp)
    simp [valF, NumText.digitsVal]
    omega
  | [a, b, c, d], _, hd =>
    have h1 := hd a (by simp)
    have h2 := hd b (by simp)
    have h3 := hd c (by simp)
    have h4 := hd d (by simp)
    simp [valF, NumText.digitsVal]
    omega
theorem num_eq {w : List Nat} {lo hi : Int} (h1 : -99 ≤ lo) (h2 : hi ≤ 99) : numP w lo hi = numW w lo hi := by
  unfold numP numW
  by_cases hf : okF (fg w) = true
  · rw [if_pos hf, if_pos hf]
    have hf2 := hf
    unfold okF at hf2
    simp only [Bool.and_eq_true, decide_eq_true_eq] at hf2
    obtain ⟨l1, l2, l3⟩ := hf2
    have hn0 : fg w ≠ [] := fun z => by rw [z] at l1; simp at l1
    by_cases h4 : (fg w).length = 4
    · -- four figures: none
      have hb := val_big l3 h4
      have hp : (!decide (istr (vl w) = w) || !(decide (lo ≤ vl w) && decide (vl w ≤ hi))) = true := by
        by_cases hr : lo ≤ vl w ∧ vl w ≤ hi
        · have hi3 := istr99 (vl w) (by omega) (by omega)
          have : ¬ istr (vl w) = w := fun z => by
            rw [z] at hi3
            have : (fg w).length ≤ w.length := by
              unfold fg
              split
              · rw [List.length_drop]; omega
              · exact Nat.le_refl _
            omega
          rw [decide_eq_false this]
          rfl
        · have : (decide (lo ≤ vl w) && decide (vl w ≤ hi)) = false := by
            rw [← Bool.not_eq_true, Bool.and_eq_true, decide_eq_true_eq, decide_eq_true_eq]
            exact hr
          rw [this]
          simp
      have hw : (!canF (fg w) || decide (w = [45, 48]) || !(decide (lo ≤ vl w) && decide (vl w ≤ hi))) = true := by
        cases hc : canF (fg w) with
        | false => rfl
        | true =>
          have hb := hb hc
          have : ¬ (lo ≤ vl w ∧ vl w ≤ hi) := fun z => by
            unfold vl at z
            split at z <;> omega
          have : (decide (lo ≤ vl w) && decide (vl w ≤ hi)) = false := by
            rw [← Bool.not_eq_true, Bool.and_eq_true, decide_eq_true_eq, decide_eq_true_eq]
            exact this
          rw [this]
          simp
      rw [if_pos hp, if_pos hw]
    · have hk : chk (fg w) = true := by
        have : (fg w).length = 1 ∨ (fg w).length = 2 ∨ (fg w).length = 3 := by omega
        rcases this with h | h | h
        · exact allF_ok chk1 _ h l3
        · exact allF_ok chk2 _ h l3
        · exact allF_ok chk3 _ h l3
      unfold chk at hk
      simp only [Bool.and_eq_true, decide_eq_true_eq] at hk
      obtain ⟨k1, k2⟩ := hk
      have e : decide (istr (vl w) = w) = (canF (fg w) && !decide (w = [45, 48])) := by
        cases hn : ng w with
        | true =>
          have e0 := fg_ng hn
          have e1 : vl w = - valF (fg w) := by unfold vl; rw [if_pos hn]
          have e2 : decide (istr (vl w) = w) = decide (istr (- valF (fg w)) = 45 :: fg w) := by rw [e1, ← e0]
          have e3 : decide (w = [45, 48]) = decide (fg w = [48]) := by
            have : (w = [45, 48]) ↔ (fg w = [48]) := by
              constructor
              · intro z
                rw [e0] at z
                simpa using z
              · intro z
                rw [e0, z]
            simp only [this]
          rw [e2, k2, e3]
          simp
        | false =>
          have e0 : fg w = w := by unfold fg; rw [if_neg (by rw [hn]; exact Bool.false_ne_true)]
          have e1 : vl w = valF (fg w) := by unfold vl; rw [if_neg (by rw [hn]; exact Bool.false_ne_true)]
          have e2 : decide (istr (vl w) = w) = decide (istr (valF (fg w)) = fg w) := by rw [e1, e0]
          have e3 : decide (w = [45, 48]) = false := decide_eq_false fun z => by
            rw [z] at hn
            revert hn
            decide
          rw [e2, k1, e3]
          simp
      rw [e]
      congr 1
      cases canF (fg w) <;> cases decide (w = [45, 48]) <;> simp
  · rw [if_neg hf, if_neg hf]
/-- a number's word is no sign of a way, no yarn -/
theorem num_dg {w : List Nat} {lo hi k : Int} (h : numW w lo hi = some k) : ∃ c ∈ w, dg c = true := by
  unfold numW at h
  split at h
  · rename_i hf
    unfold okF at hf
    simp only [Bool.and_eq_true, decide_eq_true_eq] at hf
    obtain ⟨l1, _, l3⟩ := hf
    match hq : fg w, l1, l3 with
    | c :: r, _, l3 =>
      rw [List.all_cons, Bool.and_eq_true] at l3
      refine ⟨c, ?_, l3.1⟩
      unfold fg at hq
      split at hq
      · exact List.mem_of_mem_drop (by rw [hq]; exact List.mem_cons_self)
      · rw [hq]; exact List.mem_cons_self
  · cases h
theorem num_mono {w : List Nat} {lo hi lo' hi' : Int} (h1 : lo' ≤ lo) (h2 : hi ≤ hi') : numW w lo hi = (match numW w lo' hi' with
    | some k => if lo ≤ k ∧ k ≤ hi then some k else none
    | none => none) := by
  unfold numW
  by_cases hf : okF (fg w) = true
  · simp only [hf, if_true]
    cases canF (fg w) with
    | false => simp
    | true =>
      by_cases hz : w = [45, 48]
      · simp [hz]
      · by_cases a : lo ≤ vl w
        · by_cases b : vl w ≤ hi
          · have a' : lo' ≤ vl w := by omega
            have b' : vl w ≤ hi' := by omega
            simp [hz, a, b, a', b']
          · by_cases a' : lo' ≤ vl w <;> by_cases b' : vl w ≤ hi' <;> simp [hz, a, b, a', b']
        · by_cases a' : lo' ≤ vl w <;> by_cases b' : vl w ≤ hi' <;> simp [hz, a, a', b']
  · simp only [hf]
    rfl
end Kn

set_option Elab.async false
set_option linter.all false
set_option maxRecDepth 100000
set_option maxHeartbeats 4000000
/-! Sp: a text's parts between a sign. -/
namespace Kn
open PySem L2
theorem spl_cons (c d : Nat) (r acc : List Nat) : TL.spl [c] 0 acc (d :: r) = if d = c then acc :: TL.spl [c] 0 [] r else TL.spl [c] 0 (acc ++ [d]) r := by
  have e : TL.spl [c] 0 acc (d :: r) = if TL.pre [c] (d :: r) = true then acc :: TL.spl [c] ([c].length - 1) [] r else TL.spl [c] 0 (acc ++ [d]) r := by
    rw [TL.spl]
  have e2 : TL.pre [c] (d :: r) = decide (d = c) := by
    unfold TL.pre
    show ([d] == [c]) = _
    by_cases h : d = c <;> simp [h]
  rw [e, e2]
  by_cases h : d = c
  · rw [if_pos (decide_eq_true h), if_pos h]
    rfl
  · rw [if_neg (by rw [decide_eq_false h]; exact Bool.false_ne_true), if_neg h]
theorem spl_nil (c : Nat) (acc : List Nat) : TL.spl [c] 0 acc [] = [acc] := by rw [TL.spl]
theorem spl_len (c : Nat) : ∀ (s acc : List Nat), (TL.spl [c] 0 acc s).length ≤ s.length + 1
  | [], acc => by rw [spl_nil]; exact Nat.le_refl _
  | d :: r, acc => by
    rw [spl_cons]
    split
    · rw [List.length_cons, List.length_cons]
      exact Nat.succ_le_succ (spl_len c r [])
    · rw [List.length_cons]
      exact Nat.le_succ_of_le (spl_len c r (acc ++ [d]))
theorem spl_mem (c : Nat) : ∀ (s acc x : List Nat), x ∈ TL.spl [c] 0 acc s → x.length ≤ acc.length + s.length ∧ ∀ d ∈ x, d ∈ acc ∨ d ∈ s
  | [], acc, x, h => by
    rw [spl_nil] at h
    rw [List.mem_singleton.mp h]
    exact ⟨Nat.le_refl _, fun d hd => .inl hd⟩
  | d :: r, acc, x, h => by
    rw [spl_cons] at h
    split at h
    · rcases List.mem_cons.mp h with rfl | h
      · exact ⟨Nat.le_add_right _ _, fun d hd => .inl hd⟩
      · obtain ⟨h1, h2⟩ := spl_mem c r [] x h
        refine ⟨by rw [List.length_nil] at h1; rw [List.length_cons]; omega, fun e he => .inr ?_⟩
        rcases h2 e he with h3 | h3
        · cases h3
        · exact List.mem_cons_of_mem _ h3
    · obtain ⟨h1, h2⟩ := spl_mem c r (acc ++ [d]) x h
      refine ⟨by rw [List.length_append, List.length_singleton] at h1; rw [List.length_cons]; omega, fun e he => ?_⟩
      rcases h2 e he with h3 | h3
      · rcases List.mem_append.mp h3 with h4 | h4
        · exact .inl h4
        · rw [List.mem_singleton.mp h4]
          exact .inr List.mem_cons_self
      · exact .inr (List.mem_cons_of_mem _ h3)
/-- a text that may be handed on -/
def okX (s : List Nat) : Prop := s.length ≤ 640 ∧ ∀ c ∈ s, c < 1114112
def rowsOf (s : List Nat) : List (List Nat) := TL.spl [10] 0 [] s
def wordsOf (s : List Nat) : List (List Nat) := (TL.spl [32] 0 [] s).filter fun w => decide (w ≠ [])
theorem spl_ok {c : Nat} {s x : List Nat} (h : okX s) (hx : x ∈ TL.spl [c] 0 [] s) : okX x := by
  obtain ⟨h1, h2⟩ := spl_mem c s [] x hx
  refine ⟨by rw [List.length_nil] at h1; have := h.1; omega, fun d hd => ?_⟩
  rcases h2 d hd with h3 | h3
  · cases h3
  · exact h.2 d h3
theorem rows_ok {s : List Nat} (h : okX s) : (rowsOf s).length ≤ 641 ∧ ∀ x ∈ rowsOf s, okX x :=
  ⟨Nat.le_trans (spl_len 10 s []) (by have := h.1; omega), fun x hx => spl_ok h hx⟩
theorem words_ok {s : List Nat} (h : okX s) : (wordsOf s).length ≤ 641 ∧ ∀ x ∈ wordsOf s, okX x :=
  ⟨Nat.le_trans (List.length_filter_le _ _) (Nat.le_trans (spl_len 32 s []) (by have := h.1; omega)), fun x hx => spl_ok h (List.mem_filter.mp hx |>.1)⟩
end Kn

set_option Elab.async false
set_option linter.all false
set_option maxRecDepth 100000
set_option maxHeartbeats 4000000
/-! Tl4: comprehensions whose items are known by a relation; texts joined and cut; == of a thing with itself. -/
namespace Kn
open PySem L2
inductive A2 {α β : Type} (P : α → β → Prop) : List α → List β → Prop
  | nil : A2 P [] []
  | cons {a : α} {b : β} {as : List α} {bs : List β} (h : P a b) (t : A2 P as bs) : A2 P (a :: as) (b :: bs)
theorem A2.len {α β : Type} {P : α → β → Prop} {as : List α} {bs : List β} (h : A2 P as bs) : as.length = bs.length := by
  induction h with
  | nil => rfl
  | cons _ _ ih => rw [List.length_cons, List.length_cons, ih]
theorem A2.right {α β : Type} {P : α → β → Prop} {as : List α} {bs : List β} (h : A2 P as bs) : ∀ b ∈ bs, ∃ a ∈ as, P a b := by
  induction h with
  | nil => exact fun b hb => (nomatch hb)
  | cons h _ ih =>
    intro b hb
    rcases List.mem_cons.mp hb with rfl | hb
    · exact ⟨_, List.mem_cons_self, h⟩
    · obtain ⟨a, ha, hp⟩ := ih b hb
      exact ⟨a, List.mem_cons_of_mem _ ha, hp⟩
theorem A2.map {α β : Type} {P : α → β → Prop} {g : α → β} {as : List α} {bs : List β} (h : A2 P as bs) (k : ∀ a b, P a b → b = g a) : bs = as.map g := by
  induction h with
  | nil => rfl
  | cons h _ ih => rw [List.map_cons, ih, k _ _ h]
theorem lift_sub {α : Type} {p : α → Prop} : ∀ (l : List α), (∀ x ∈ l, p x) → ∃ ts : List {x // p x}, l = ts.map fun t => t.1
  | [], _ => ⟨[], rfl⟩
  | x :: l, h => by
    obtain ⟨ts, e⟩ := lift_sub l fun y hy => h y (List.mem_cons_of_mem _ hy)
    exact ⟨⟨x, h x List.mem_cons_self⟩ :: ts, by rw [List.map_cons, ← e]⟩
theorem compL_ex {α : Type} {step : D → Env → R (Option SV)} {a : α → D} {I : Env → Prop} {P : α → D → Prop} {sl : List Nat} : ∀ (l : List α) (ρ : Env) (acc : List SV), I (wipeE ρ sl) → acc.length + l.length ≤ lim → (∀ x ∈ l, ∀ ρ, I (wipeE ρ sl) → ∃ v ρ3, P x v ∧ step (a x) ρ = .ok (some (.d v)) ρ3 ∧ I (wipeE ρ3 sl)) →
    ∃ vs ρ', A2 P l vs ∧ compL step (l.map a) ρ acc = .ok (acc ++ vs.map .d) ρ' ∧ I (wipeE ρ' sl)
  | [], ρ, acc, h, _, _ => ⟨[], ρ, .nil, by simp [compL], h⟩
  | x :: l, ρ, acc, h, hl, k => by
    obtain ⟨v, ρ3, hp, e, h3⟩ := k x List.mem_cons_self ρ h
    have hl' : acc.length < lim := by simp at hl; omega
    obtain ⟨vs, ρ', ha, e', h'⟩ := compL_ex l ρ3 (acc ++ [.d v]) h3 (by simp at hl ⊢; omega) fun d hd => k d (List.mem_cons_of_mem _ hd)
    refine ⟨v :: vs, ρ', .cons hp ha, ?_, h'⟩
    rw [List.map_cons]
    unfold compL
    rw [e]
    simp only [hl', if_true, e', List.append_assoc, List.map_cons, List.singleton_append]
theorem comp_ex {α : Type} {t : T} {F : String → List SV → Cr} {g : Tg} {it el : E} {ρ ρ1 : Env} {l : List α} {a : α → D} (I : Env → Prop) (P : α → D → Prop) (hi : evi t F it ρ = .ok (l.map a) ρ1) (hf : freeAt ρ1 (slotsT g) = true) (hl : l.length ≤ lim) (hI : I (wipeE ρ1 (slotsT g)))
    (h : ∀ x ∈ l, ∀ B, I B → ∃ v ρ2 ρ3, P x v ∧ bindT g (a x) B = some ρ2 ∧ ev t F el ρ2 = .ok (.d v) ρ3 ∧ I (wipeE ρ3 (slotsT g))) :
    ∃ vs B', A2 P l vs ∧ I B' ∧ ev t F (.comp g it el) ρ = .ok (.lst (vs.map .d)) (backE ρ1 B' (slotsT g)) := by
  have e0 : ev t F (.comp g it el) ρ = (evi t F it ρ).bind fun ds ρ => if freeAt ρ (slotsT g) then
      (compL (fun d ρ' => match bindT g d (wipeE ρ' (slotsT g)) with
        | some ρ₂ => (ev t F el ρ₂).bind fun v ρ => .ok (some v) ρ
        | none => .no) ds ρ []).bind fun vs ρ' => .ok (.lst vs) (backE ρ (wipeE ρ' (slotsT g)) (slotsT g))
    else .no := by (unfold evi; first | (simp only [ev]; done) | (simp only [ev]; rfl))
  obtain ⟨vs, ρ', ha, e', h'⟩ := compL_ex (step := fun d ρ' => match bindT g d (wipeE ρ' (slotsT g)) with
        | some ρ₂ => (ev t F el ρ₂).bind fun v ρ => .ok (some v) ρ
        | none => .no) (a := a) (I := I) (P := P) (sl := slotsT g) l ρ1 [] hI (by simpa using hl) fun x hx ρ hρ => by
    obtain ⟨v, ρ2, ρ3, hp, h1, h2, h3⟩ := h x hx _ hρ
    exact ⟨v, ρ3, hp, by simp only [h1, h2, R.bind], h3⟩
  refine ⟨vs, _, ha, h', ?_⟩
  rw [e0, hi, bind_ok, if_pos hf, e', bind_ok, List.nil_append]
/-- the same, where the items' values are told and nothing else changes -/
theorem comp_al {α : Type} {t : T} {F : String → List SV → Cr} {i : Nat} {it el : E} {ρ ρ1 : Env} {l : List α} {a b : α → D} (hi : i < ρ1.length) (hit : evi t F it ρ = .ok (l.map a) ρ1) (hf : freeAt ρ1 [i] = true) (hl : l.length ≤ lim)
    (h : ∀ x ∈ l, ev t F el ((wipeE ρ1 [i]).set i (some (.d (a x)))) = .ok (.d (b x)) ((wipeE ρ1 [i]).set i (some (.d (a x))))) :
    ev t F (.comp (.nm i) it el) ρ = .ok (.lst (l.map fun x => .d (b x))) ρ1 := by
  obtain ⟨vs, B', ha, hB, e⟩ := comp_ex (t := t) (F := F) (g := .nm i) (it := it) (el := el) (ρ := ρ) (ρ1 := ρ1) (a := a) (fun B => B = wipeE ρ1 [i]) (fun x v => v = b x) hit hf hl rfl fun x hx B hB => by
    subst hB
    exact ⟨b x, _, _, rfl, rfl, h x hx, wipe_set1⟩
  have hv : vs = l.map b := ha.map fun _ _ h => h
  subst hv
  subst hB
  rw [e, show slotsT (.nm i) = [i] from rfl, back1 hi, List.map_map]
  rfl
theorem strs_of {α : Type} (l : List α) (f : α → List Nat) : strs? (l.map fun x => D.str (f x)) = some (l.map f) := by
  induction l with
  | nil => rfl
  | cons d l ih =>
    show (strs? (l.map fun x => D.str (f x))).map _ = _
    rw [ih]
    rfl
theorem j_len (sep : List Nat) : ∀ ss : List (List Nat), (TL.joinL sep ss).length ≤ ssum ss + sep.length * (ss.length - 1)
  | [] => by simp [TL.joinL]
  | [s] => by simp [TL.joinL, ssum]
  | s :: r :: ss => by
    have ih := j_len sep (r :: ss)
    simp only [TL.joinL, List.length_append, ssum, List.length_cons] at ih ⊢
    have : sep.length * (ss.length + 1 + 1 - 1) = sep.length * (ss.length + 1 - 1) + sep.length := by
      rw [show ss.length + 1 + 1 - 1 = (ss.length + 1 - 1) + 1 by omega, Nat.mul_add, Nat.mul_one]
    omega
theorem spl_sum (c : Nat) : ∀ (s acc : List Nat), ssum (TL.spl [c] 0 acc s) + s.count c = acc.length + s.length ∧ (TL.spl [c] 0 acc s).length = s.count c + 1
  | [], acc => by rw [spl_nil]; simp [ssum]
  | d :: r, acc => by
    rw [spl_cons]
    by_cases h : d = c
    · rw [if_pos h]
      have ih := spl_sum c r []
      subst h
      simp only [ssum, List.length_cons, List.count_cons_self, List.length_nil] at ih ⊢
      omega
    · rw [if_neg h]
      have ih := spl_sum c r (acc ++ [d])
      rw [List.count_cons_of_ne h]
      simp only [List.length_append, List.length_cons, List.length_nil] at ih ⊢
      omega
theorem cut_hi {α : Type} (s : List α) (i : Nat) : cutL s none (some (i : Int)) = s.take i := by
  unfold cutL HT.sIx
  simp
  rw [if_neg (by omega)]
  omega
theorem cut_lo {α : Type} (s : List α) (i : Nat) : cutL s (some (i : Int)) none = s.drop i := by
  unfold cutL HT.sIx
  simp
  rw [if_neg (by omega)]
  by_cases h : i ≤ s.length
  · rw [Nat.min_eq_left h, List.take_of_length_le (by rw [List.length_drop]; exact Nat.le_refl _)]
  · rw [Nat.min_eq_right (by omega), List.drop_of_length_le (Nat.le_refl _), List.drop_of_length_le (by omega), List.take_nil]
theorem eqv_refl : ∀ n : Nat, (∀ x, okD x n = true → eqvD x x = true) ∧ (∀ xs, okDs xs n = true → eqvDs xs xs = true) := by
  have step : ∀ n, (∀ x, okD x n = true → eqvD x x = true) → ∀ xs, okDs xs n = true → eqvDs xs xs = true := by
    intro n h xs
    induction xs with
    | nil => exact fun _ => rfl
    | cons x xs ih =>
      intro hx
      have hx : (okD x n && okDs xs n) = true := hx
      rw [Bool.and_eq_true] at hx
      show (eqvD x x && eqvDs xs xs) = true
      rw [h x hx.1, ih hx.2]
      rfl
  have base : ∀ n x, (∀ xs, x ≠ .tup xs) → (∀ xs, x ≠ .lst xs) → okD x n = true → eqvD x x = true := by
    intro n x h1 h2 h
    cases x with
    | non => rfl
    | bl b => simp [eqvD]
    | int i => simp [eqvD]
    | str s => simp [eqvD]
    | tup xs => exact absurd rfl (h1 xs)
    | lst xs => exact absurd rfl (h2 xs)
    | _ => cases n <;> cases h
  intro n
  induction n with
  | zero =>
    have k : ∀ x, okD x 0 = true → eqvD x x = true := fun x h => by
      cases x with
      | tup xs => cases h
      | lst xs => cases h
      | _ => exact base 0 _ (fun _ z => nomatch z) (fun _ z => nomatch z) h
    exact ⟨k, step 0 k⟩
  | succ n ih =>
    have k : ∀ x, okD x (n + 1) = true → eqvD x x = true := fun x h => by
      cases x with
      | tup xs => exact ih.2 xs h
      | lst xs => exact ih.2 xs h
      | _ => exact base (n + 1) _ (fun _ z => nomatch z) (fun _ z => nomatch z) h
    exact ⟨k, step (n + 1) k⟩
theorem eq_self {x : D} (h : okD x 50 = true) : eqD x x = some true := by
  unfold eqD
  rw [h, (eqv_refl 50).1 x h]
  simp
end Kn

set_option Elab.async false
set_option linter.all false
set_option maxRecDepth 100000
set_option maxHeartbeats 4000000
/-! the program as core text (printed by gen.py). -/
namespace Kn
open PySem L2
/-! ### the program k03_deeds_in_texts, as core text (printed by gen.py) -/
def fd_law : FD := ⟨1, 19, [false],
  (.cons (.set 1 (.call "_law_draws" (.cons (.var 0) (.cons (.int 40) .nil))))
  (.cons (.set 2 (.comp (.nm 3) (.rng (.int 3)) (.call "_law_yarn_by" (.cons (.idx (.var 1) (.int 0)) (.cons (.var 3) .nil)))))
  (.cons (.set 4 (.comp (.nm 5) (.slc (.var 1) (.int 2) (.bin .add (.int 2) (.bin .mod (.idx (.var 1) (.int 1)) (.int 13)))) (.call "_law_told" (.cons (.var 5) (.cons (.var 2) .nil)))))
  (.cons (.set 6 (.bm .join (.str []) (.cons (.comp (.nm 7) (.var 4) (.bin .add (.call "_law_text" (.cons (.var 7) .nil)) (.str [10]))) .nil)))
  (.cons (.ite (.cmp .ne (.call "deeds_written" (.cons (.comp (.nm 7) (.var 4) (.call "deed_of" (.cons (.var 7) .nil))) .nil)) (.var 6)) (.cons (.ret (.bl false))
    .nil) .nil)
  (.cons (.set 8 (.lst .nil))
  (.cons (.for_ (.nm 3) (.rng (.blt .len (.cons (.var 4) .nil))) (.cons (.set 9 (.bin .mul (.str [32]) (.bin .add (.int 1) (.bin .mod (.idx (.var 1) (.bin .add (.int 16) (.var 3))) (.int 3)))))
    (.cons (.set 10 (.bm .split (.call "_law_text" (.cons (.idx (.var 4) (.var 3)) .nil)) (.cons (.str [32]) .nil)))
    (.cons (.set 11 (.bin .add (.bin .mul (.str [32]) (.bin .mod (.bin .fdiv (.idx (.var 1) (.bin .add (.int 16) (.var 3))) (.int 3)) (.int 3))) (.bm .join (.var 9) (.cons (.var 10) .nil))))
    (.cons (.app 8 (.bin .add (.var 11) (.bin .mul (.str [32]) (.bin .mod (.bin .fdiv (.idx (.var 1) (.bin .add (.int 16) (.var 3))) (.int 9)) (.int 2)))))
    (.cons (.ite (.cmp .eq (.bin .mod (.bin .fdiv (.idx (.var 1) (.bin .add (.int 16) (.var 3))) (.int 18)) (.int 4)) (.int 1)) (.cons (.app 8 (.bin .mul (.str [32]) (.bin .mod (.bin .fdiv (.idx (.var 1) (.bin .add (.int 16) (.var 3))) (.int 72)) (.int 3))))
      .nil) .nil)
    .nil))))))
  (.cons (.set 12 (.bin .add (.bm .join (.str [10]) (.cons (.var 8) .nil)) (.bin .mul (.str [10]) (.bin .mod (.idx (.var 1) (.int 30)) (.int 2)))))
  (.cons (.ite (.cmp .eq (.bin .mod (.idx (.var 1) (.int 31)) (.int 2)) (.int 1)) (.cons (.set 12 (.call "_law_spoilt" (.cons (.var 12) (.cons (.idx (.var 1) (.int 32)) .nil))))
    (.cons (.ite (.cmp .eq (.bin .mod (.idx (.var 1) (.int 33)) (.int 3)) (.int 1)) (.cons (.set 12 (.call "_law_spoilt" (.cons (.var 12) (.cons (.idx (.var 1) (.int 34)) .nil))))
      .nil) .nil)
    .nil)) .nil)
  (.cons (.for_ (.nm 13) (.lst (.cons (.var 6) (.cons (.var 12) (.cons (.var 6) .nil)))) (.cons (.set 14 (.call "_law_due" (.cons (.var 13) .nil)))
    (.cons (.set 15 .non)
    (.cons (.set 16 (.lst .nil))
    (.cons (.tryk (.cons (.set 16 (.call "read_deeds" (.cons (.var 13) .nil)))
      .nil) "LoopError" 17 15)
    (.cons (.ite (.cmp .isnot (.var 15) .non) (.cons (.ite (.or (.cmp .ne (.call "_law_class" (.cons (.var 15) .nil)) (.str [78, 111, 84, 101, 120, 116])) (.cmp .ne (.fld (.var 15) "line") (.var 14))) (.cons (.ret (.bl false))
        .nil) .nil)
      .nil) (.cons (.ite (.bor (.or (.not (.blt .isinstance (.cons (.var 16) (.cons (.tyn "list") .nil)))) (.cmp .ne (.comp (.nm 18) (.var 16) (.meth "told" (.var 18) .nil)) (.var 14)))) (.cons (.ret (.bl false))
        .nil) .nil)
      .nil))
    (.cons (.app 16 (.str [120]))
    .nil)))))))
  (.cons (.ret (.bl true))
  .nil)))))))))))⟩
def fd__law_class : FD := ⟨1, 3, [false],
  (.cons (.set 1 (.lst (.cons (.blt .isinstance (.cons (.var 0) (.cons (.glb "NoDeed") .nil))) (.cons (.blt .isinstance (.cons (.var 0) (.cons (.glb "NoYarn") .nil))) (.cons (.blt .isinstance (.cons (.var 0) (.cons (.glb "NoWay") .nil))) (.cons (.blt .isinstance (.cons (.var 0) (.cons (.glb "NoLoop") .nil))) .nil))))))
  (.cons (.set 1 (.bin .add (.var 1) (.lst (.cons (.blt .isinstance (.cons (.var 0) (.cons (.glb "NoNeedle") .nil))) (.cons (.blt .isinstance (.cons (.var 0) (.cons (.glb "TooMany") .nil))) (.cons (.blt .isinstance (.cons (.var 0) (.cons (.glb "TooFar") .nil))) (.cons (.blt .isinstance (.cons (.var 0) (.cons (.glb "NoText") .nil))) .nil)))))))
  (.cons (.set 1 (.bin .add (.var 1) (.lst (.cons (.blt .isinstance (.cons (.var 0) (.cons (.glb "NoPiece") .nil))) (.cons (.blt .isinstance (.cons (.var 0) (.cons (.glb "NoName") .nil))) (.cons (.blt .isinstance (.cons (.var 0) (.cons (.glb "NoRow") .nil))) .nil))))))
  (.cons (.set 2 (.lst (.cons (.str [78, 111, 68, 101, 101, 100]) (.cons (.str [78, 111, 89, 97, 114, 110]) (.cons (.str [78, 111, 87, 97, 121]) (.cons (.str [78, 111, 76, 111, 111, 112]) (.cons (.str [78, 111, 78, 101, 101, 100, 108, 101]) (.cons (.str [84, 111, 111, 77, 97, 110, 121]) (.cons (.str [84, 111, 111, 70, 97, 114]) (.cons (.str [78, 111, 84, 101, 120, 116]) (.cons (.str [78, 111, 80, 105, 101, 99, 101]) (.cons (.str [78, 111, 78, 97, 109, 101]) .nil))))))))))))
  (.cons (.ite (.or (.cmp .ne (.bm .count (.var 1) (.cons (.bl true) .nil)) (.int 1)) (.not (.blt .isinstance (.cons (.var 0) (.cons (.tyn "ValueError") .nil))))) (.cons (.ret (.str [111, 116, 104, 101, 114]))
    .nil) .nil)
  (.cons (.ret (.idx (.bin .add (.var 2) (.lst (.cons (.str [78, 111, 82, 111, 119]) .nil))) (.bm .index (.var 1) (.cons (.bl true) .nil))))
  .nil))))))⟩
def fd__law_draws : FD := ⟨2, 7, [false, false],
  (.cons (.set 2 (.lst .nil))
  (.cons (.set 3 (.int 7))
  (.cons (.for_ (.nm 4) (.rng (.var 1)) (.cons (.set 5 (.int 0))
    (.cons (.ite (.cmp .gt (.blt .len (.cons (.var 0) .nil)) (.int 0)) (.cons (.set 5 (.idx (.var 0) (.bin .mod (.var 4) (.blt .len (.cons (.var 0) .nil)))))
      .nil) .nil)
    (.cons (.set 3 (.bin .mod (.bin .add (.bin .add (.bin .add (.bin .mul (.var 3) (.int 48271)) (.var 5)) (.var 4)) (.int 1)) (.int 2147483647)))
    (.cons (.set 6 (.bin .mod (.bin .add (.bin .mul (.var 3) (.var 3)) (.bin .mul (.int 16807) (.var 3))) (.int 2147483629)))
    (.cons (.app 2 (.bin .mod (.bin .add (.bin .mul (.var 6) (.var 6)) (.bin .mul (.int 16807) (.var 6))) (.int 2147483629)))
    .nil))))))
  (.cons (.ret (.var 2))
  .nil))))⟩
def fd__law_due : FD := ⟨1, 6, [false],
  (.cons (.set 1 (.bm .split (.var 0) (.cons (.str [10]) .nil)))
  (.cons (.set 2 (.lst .nil))
  (.cons (.for_ (.nm 3) (.rng (.blt .len (.cons (.var 1) .nil))) (.cons (.set 4 (.cmpi (.nm 5) (.bm .split (.idx (.var 1) (.var 3)) (.cons (.str [32]) .nil)) (.cmp .ne (.var 5) (.str [])) (.var 5)))
    (.cons (.ite (.cmp .ne (.var 4) (.lst .nil)) (.cons (.app 2 (.call "_law_row" (.cons (.var 4) .nil)))
      (.cons (.ite (.cmp .is_ (.idv 2 (.neg (.int 1))) .non) (.cons (.ret (.var 3))
        .nil) .nil)
      .nil)) .nil)
    .nil)))
  (.cons (.ret (.var 2))
  .nil))))⟩
def fd__law_spoilt : FD := ⟨2, 5, [false, false],
  (.cons (.set 2 (.bin .mod (.bin .fdiv (.var 1) (.int 4)) (.bin .add (.blt .len (.cons (.var 0) .nil)) (.int 1))))
  (.cons (.set 3 (.idx (.str [43, 43, 45, 45, 32, 102, 98, 48, 57, 97, 90, 10, 46]) (.bin .mod (.bin .fdiv (.var 1) (.int 8000)) (.int 13))))
  (.cons (.ite (.cmp .eq (.bin .mod (.var 1) (.int 4)) (.int 0)) (.cons (.ret (.bin .add (.bin .add (.slc (.var 0) .emp (.var 2)) (.var 3)) (.slc (.var 0) (.var 2) .emp)))
    .nil) .nil)
  (.cons (.ite (.cmp .eq (.bin .mod (.var 1) (.int 4)) (.int 1)) (.cons (.ret (.bin .add (.bin .add (.slc (.var 0) .emp (.var 2)) (.var 3)) (.slc (.var 0) (.bin .add (.var 2) (.int 1)) .emp)))
    .nil) .nil)
  (.cons (.ite (.cmp .eq (.bin .mod (.var 1) (.int 4)) (.int 2)) (.cons (.ret (.bin .add (.slc (.var 0) .emp (.var 2)) (.slc (.var 0) (.bin .add (.var 2) (.int 1)) .emp)))
    .nil) .nil)
  (.cons (.set 4 (.lst (.cons (.str [107, 110, 105, 116]) (.cons (.str [103, 111]) (.cons (.str [107, 110, 105, 116, 32, 43, 32, 102, 50, 52, 32, 97]) (.cons (.str [115, 108, 105, 100, 101, 32, 52]) (.cons (.str [115, 108, 105, 100, 101, 32, 45, 48]) (.cons (.str [115, 108, 105, 100, 101, 32, 48, 51]) (.cons (.str [109, 111, 118, 101, 32, 53]) (.cons (.str [109, 111, 118, 101, 32, 102, 32, 53]) (.cons (.str [99, 111, 109, 101, 32, 97, 32, 45, 49]) .nil)))))))))))
  (.cons (.set 4 (.bin .add (.var 4) (.lst (.cons (.str [115, 108, 105, 100, 101, 32, 43, 50]) (.cons (.str [99, 111, 109, 101, 32, 65, 32, 51]) (.cons (.str [107, 110, 105, 116, 32, 43, 32, 70, 53, 32, 97]) (.cons (.str [71, 111, 32, 97]) (.cons (.str [109, 105, 115, 115, 32, 43, 32, 43, 52, 32, 97]) (.cons (.str [99, 111, 109, 101, 32, 97, 32, 43, 48]) .nil)))))))))
  (.cons (.ret (.bin .add (.var 0) (.idx (.bin .add (.var 4) (.lst (.cons (.str [103, 111, 32, 97, 32, 98]) (.cons (.str [116, 117, 99, 107, 32, 102, 53, 32, 43, 32, 97]) (.cons (.str [109, 105, 115, 115, 32, 43, 32, 102, 52, 32, 97]) (.cons (.str [111, 102, 102, 32, 102, 48, 53]) (.cons (.str [107, 110, 105, 116, 32, 43, 32, 102, 53, 32, 97, 98, 99, 100, 101]) .nil))))))) (.bin .mod (.bin .fdiv (.var 1) (.int 4)) (.int 20)))))
  .nil))))))))⟩
def fd__law_text : FD := ⟨1, 2, [false],
  (.cons (.ite (.cmp .in_ (.idx (.var 0) (.int 0)) (.lst (.cons (.str [107, 110, 105, 116]) (.cons (.str [116, 117, 99, 107]) .nil)))) (.cons (.ret (.bm .join (.str [32]) (.cons (.lst (.cons (.idx (.var 0) (.int 0)) (.cons (.idx (.var 0) (.int 1)) (.cons (.bin .add (.idx (.var 0) (.int 2)) (.blt .str (.cons (.idx (.var 0) (.int 3)) .nil))) (.cons (.idx (.var 0) (.int 4)) .nil))))) .nil)))
    .nil) .nil)
  (.cons (.ite (.cmp .in_ (.idx (.var 0) (.int 0)) (.lst (.cons (.str [109, 111, 118, 101]) (.cons (.str [111, 102, 102]) .nil)))) (.cons (.ret (.bin .add (.bin .add (.bin .add (.idx (.var 0) (.int 0)) (.str [32])) (.idx (.var 0) (.int 1))) (.blt .str (.cons (.idx (.var 0) (.int 2)) .nil))))
    .nil) .nil)
  (.cons (.ret (.bm .join (.str [32]) (.cons (.comp (.nm 1) (.var 0) (.blt .str (.cons (.var 1) .nil))) .nil)))
  .nil)))⟩
def fd__law_told : FD := ⟨2, 8, [false, false],
  (.cons (.set 2 (.idx (.lst (.cons (.str [107, 110, 105, 116]) (.cons (.str [116, 117, 99, 107]) (.cons (.str [109, 111, 118, 101]) (.cons (.str [115, 108, 105, 100, 101]) (.cons (.str [109, 105, 115, 115]) (.cons (.str [99, 111, 109, 101]) (.cons (.str [103, 111]) (.cons (.str [111, 102, 102]) (.cons (.str [107, 110, 105, 116]) (.cons (.str [107, 110, 105, 116]) (.cons (.str [116, 117, 99, 107]) (.cons (.str [109, 111, 118, 101]) .nil))))))))))))) (.bin .mod (.var 0) (.int 12))))
  (.cons (.set 3 (.bin .fdiv (.var 0) (.int 12)))
  (.cons (.set 4 (.idx (.var 1) (.bin .mod (.var 3) (.blt .len (.cons (.var 1) .nil)))))
  (.cons (.set 5 (.idx (.str [43, 45]) (.bin .mod (.bin .fdiv (.var 3) (.int 4)) (.int 2))))
  (.cons (.set 6 (.idx (.str [102, 98]) (.bin .fdiv (.bin .mod (.bin .fdiv (.var 3) (.int 8)) (.int 3)) (.int 2))))
  (.cons (.set 7 (.bin .mod (.bin .fdiv (.var 3) (.int 24)) (.int 24)))
  (.cons (.ite (.cmp .in_ (.var 2) (.lst (.cons (.str [107, 110, 105, 116]) (.cons (.str [116, 117, 99, 107]) .nil)))) (.cons (.ret (.tup (.cons (.var 2) (.cons (.var 5) (.cons (.var 6) (.cons (.var 7) (.cons (.var 4) .nil)))))))
    .nil) .nil)
  (.cons (.ite (.cmp .in_ (.var 2) (.lst (.cons (.str [109, 111, 118, 101]) (.cons (.str [111, 102, 102]) .nil)))) (.cons (.ret (.tup (.cons (.var 2) (.cons (.var 6) (.cons (.var 7) .nil)))))
    .nil) .nil)
  (.cons (.ite (.cmp .eq (.var 2) (.str [115, 108, 105, 100, 101])) (.cons (.ret (.tup (.cons (.var 2) (.cons (.bin .sub (.bin .mod (.var 3) (.int 7)) (.int 3)) .nil))))
    .nil) .nil)
  (.cons (.ite (.cmp .eq (.var 2) (.str [109, 105, 115, 115])) (.cons (.ret (.tup (.cons (.var 2) (.cons (.var 5) (.cons (.var 7) (.cons (.var 4) .nil))))))
    .nil) .nil)
  (.cons (.ite (.cmp .eq (.var 2) (.str [99, 111, 109, 101])) (.cons (.ret (.tup (.cons (.var 2) (.cons (.var 4) (.cons (.bin .mod (.bin .fdiv (.var 3) (.int 24)) (.int 25)) .nil)))))
    .nil) .nil)
  (.cons (.ret (.tup (.cons (.var 2) (.cons (.var 4) .nil))))
  .nil))))))))))))⟩
def fd__law_yarn_by : FD := ⟨2, 6, [false, false],
  (.cons (.set 2 (.str [97, 98, 99, 100, 101, 102, 103, 104, 105, 106, 107, 108, 109, 110, 111, 112, 113, 114, 115, 116, 117, 118, 119, 120, 121, 122]))
  (.cons (.ite (.cmp .eq (.bin .mod (.var 0) (.int 3)) (.int 0)) (.cons (.ret (.bin .mul (.idx (.var 2) (.bin .mod (.bin .fdiv (.var 0) (.int 3)) (.int 26))) (.bin .add (.int 1) (.bin .mod (.var 1) (.int 4)))))
    .nil) .nil)
  (.cons (.set 3 (.bin .mod (.bin .fdiv (.var 0) (.int 3)) (.int 4)))
  (.cons (.set 4 (.str []))
  (.cons (.for_ (.nm 5) (.rng (.bin .add (.bin .add (.var 3) (.int 1)) (.bin .mod (.bin .fdiv (.var 0) (.int 12)) (.bin .sub (.int 4) (.var 3))))) (.cons (.ite (.cmp .eq (.var 5) (.var 3)) (.cons (.set 4 (.bin .add (.var 4) (.idx (.var 2) (.bin .mod (.bin .add (.bin .fdiv (.var 0) (.int 48)) (.var 1)) (.int 26)))))
      .nil) (.cons (.set 4 (.bin .add (.var 4) (.idx (.var 2) (.bin .mod (.bin .add (.bin .fdiv (.var 0) (.int 5)) (.bin .mul (.var 5) (.bin .add (.int 1) (.bin .mod (.var 0) (.int 5))))) (.int 26)))))
      .nil))
    .nil))
  (.cons (.ret (.var 4))
  .nil))))))⟩
def fd_deed_of : FD := ⟨1, 2, [false],
  (.cons (.set 1 .non)
  (.cons (.ite (.and (.blt .isinstance (.cons (.var 0) (.cons (.tyn "tuple") .nil))) (.and (.cmp .gt (.blt .len (.cons (.var 0) .nil)) (.int 1)) (.blt .isinstance (.cons (.idx (.var 0) (.int 0)) (.cons (.tyn "str") .nil))))) (.cons (.set 1 (.call "made_of" (.cons (.idx (.var 0) (.int 0)) (.cons (.slc (.var 0) (.int 1) .emp) .nil))))
    .nil) .nil)
  (.cons (.ite (.cmp .is_ (.var 1) .non) (.cons (.raise "NoDeed" (.cons (.str [110, 111, 32, 100, 101, 101, 100]) .nil))
    .nil) .nil)
  (.cons (.ret (.var 1))
  .nil))))⟩
def fd_deeds_written : FD := ⟨1, 2, [false],
  (.cons (.ret (.bm .join (.str []) (.cons (.comp (.nm 1) (.var 0) (.bin .add (.meth "written" (.var 1) .nil) (.str [10]))) .nil)))
  .nil)⟩
def fd_read_deeds : FD := ⟨1, 7, [false],
  (.cons (.set 1 (.lst .nil))
  (.cons (.for_ (.tp [2, 3]) (.enu (.bm .split (.var 0) (.cons (.str [10]) .nil))) (.cons (.set 4 (.cmpi (.nm 6) (.bm .split (.var 3) (.cons (.str [32]) .nil)) (.cmp .ne (.var 6) (.str [])) (.var 6)))
    (.cons (.ite (.cmp .eq (.var 4) (.lst .nil)) (.cons .cnt
      .nil) .nil)
    (.cons (.set 5 (.call "deed_in" (.cons (.var 4) .nil)))
    (.cons (.ite (.cmp .is_ (.var 5) .non) (.cons (.raise "NoText" (.cons (.str [110, 111, 32, 100, 101, 101, 100]) (.cons (.var 2) .nil)))
      .nil) .nil)
    (.cons (.app 1 (.var 5))
    .nil))))))
  (.cons (.ret (.take 1))
  .nil)))⟩
def fd__law_row : FD := ⟨1, 8, [false],
  (.cons (.set 1 (.idx (.var 0) (.int 0)))
  (.cons (.set 2 (.dget (.disp [.s [107, 110, 105, 116], .s [116, 117, 99, 107], .s [109, 111, 118, 101], .s [111, 102, 102], .s [115, 108, 105, 100, 101], .s [109, 105, 115, 115], .s [99, 111, 109, 101], .s [103, 111]] (.cons (.int 4) (.cons (.int 4) (.cons (.int 2) (.cons (.int 2) (.cons (.int 2) (.cons (.int 4) (.cons (.int 3) (.cons (.int 2) .nil))))))))) (.var 1) (.int 0)))
  (.cons (.ite (.cmp .ne (.blt .len (.cons (.var 0) .nil)) (.var 2)) (.cons (.ret .non)
    .nil) .nil)
  (.cons (.ite (.and (.cmp .in_ (.var 1) (.lst (.cons (.str [107, 110, 105, 116]) (.cons (.str [116, 117, 99, 107]) (.cons (.str [109, 105, 115, 115]) (.cons (.str [99, 111, 109, 101]) (.cons (.str [103, 111]) .nil))))))) (.not (.call "_law_is_yarn" (.cons (.idx (.var 0) (.idx (.lst (.cons (.int 1) (.cons (.neg (.int 1)) .nil))) (.blt .int (.cons (.cmp .ne (.var 1) (.str [99, 111, 109, 101])) .nil)))) .nil)))) (.cons (.ret .non)
    .nil) .nil)
  (.cons (.ite (.and (.cmp .in_ (.var 1) (.lst (.cons (.str [107, 110, 105, 116]) (.cons (.str [116, 117, 99, 107]) (.cons (.str [109, 105, 115, 115]) .nil))))) (.cmp .notin (.idx (.var 0) (.int 1)) (.lst (.cons (.str [43]) (.cons (.str [45]) .nil))))) (.cons (.ret .non)
    .nil) .nil)
  (.cons (.ite (.cmp .in_ (.var 1) (.lst (.cons (.str [107, 110, 105, 116]) (.cons (.str [116, 117, 99, 107]) .nil)))) (.cons (.set 3 (.call "_law_needle" (.cons (.idx (.var 0) (.int 2)) .nil)))
    (.cons (.ret (.ife (.cmp .is_ (.var 3) .non) .non (.bin .add (.bin .add (.tup (.cons (.var 1) (.cons (.idx (.var 0) (.int 1)) .nil))) (.var 3)) (.tup (.cons (.idx (.var 0) (.int 3)) .nil)))))
    .nil)) .nil)
  (.cons (.ite (.cmp .in_ (.var 1) (.lst (.cons (.str [109, 111, 118, 101]) (.cons (.str [111, 102, 102]) .nil)))) (.cons (.set 3 (.call "_law_needle" (.cons (.idx (.var 0) (.int 1)) .nil)))
    (.cons (.ret (.ife (.cmp .is_ (.var 3) .non) .non (.bin .add (.tup (.cons (.var 1) .nil)) (.var 3))))
    .nil)) .nil)
  (.cons (.ite (.cmp .eq (.var 1) (.str [103, 111])) (.cons (.ret (.tup (.cons (.var 1) (.cons (.idx (.var 0) (.int 1)) .nil))))
    .nil) .nil)
  (.cons (.set 4 (.idx (.disp [.s [115, 108, 105, 100, 101], .s [109, 105, 115, 115], .s [99, 111, 109, 101]] (.cons (.int 1) (.cons (.int 2) (.cons (.int 2) .nil)))) (.var 1)))
  (.cons (.unp [5, 6] (.idx (.disp [.s [115, 108, 105, 100, 101], .s [109, 105, 115, 115], .s [99, 111, 109, 101]] (.cons (.tup (.cons (.neg (.int 3)) (.cons (.int 3) .nil))) (.cons (.tup (.cons (.int 0) (.cons (.int 23) .nil))) (.cons (.tup (.cons (.int 0) (.cons (.int 24) .nil))) .nil)))) (.var 1)))
  (.cons (.set 7 (.call "_law_number" (.cons (.idx (.var 0) (.var 4)) (.cons (.var 5) (.cons (.var 6) .nil)))))
  (.cons (.ite (.cmp .is_ (.var 7) .non) (.cons (.ret .non)
    .nil) .nil)
  (.cons (.ret (.bin .add (.bin .add (.blt .tuple (.cons (.slc (.var 0) .emp (.var 4)) .nil)) (.tup (.cons (.var 7) .nil))) (.blt .tuple (.cons (.slc (.var 0) (.bin .add (.var 4) (.int 1)) .emp) .nil))))
  .nil)))))))))))))⟩
def fd_made_of : FD := ⟨2, 3, [false, false],
  (.cons (.set 2 (.blt .len (.cons (.var 1) .nil)))
  (.cons (.ite (.and (.cmp .eq (.var 0) (.str [99, 111, 109, 101])) (.and (.cmp .eq (.var 2) (.int 2)) (.and (.call "is_yarn" (.cons (.idx (.var 1) (.int 0)) .nil)) (.call "is_between" (.cons (.idx (.var 1) (.int 1)) (.cons (.int 0) (.cons (.glb "WIDE") .nil))))))) (.cons (.ret (.mk "Come" (.cons (.idx (.var 1) (.int 0)) (.cons (.idx (.var 1) (.int 1)) .nil))))
    .nil) .nil)
  (.cons (.ite (.and (.cmp .eq (.var 0) (.str [103, 111])) (.and (.cmp .eq (.var 2) (.int 1)) (.call "is_yarn" (.cons (.idx (.var 1) (.int 0)) .nil)))) (.cons (.ret (.mk "Go" (.cons (.idx (.var 1) (.int 0)) .nil)))
    .nil) .nil)
  (.cons (.ite (.and (.cmp .in_ (.var 0) (.tup (.cons (.str [107, 110, 105, 116]) (.cons (.str [116, 117, 99, 107]) .nil)))) (.cmp .eq (.var 2) (.int 4))) (.cons (.ite (.and (.call "is_way" (.cons (.idx (.var 1) (.int 0)) .nil)) (.and (.call "is_side" (.cons (.idx (.var 1) (.int 1)) .nil)) (.and (.call "is_number" (.cons (.idx (.var 1) (.int 2)) .nil)) (.call "is_yarn" (.cons (.idx (.var 1) (.int 3)) .nil))))) (.cons (.ite (.cmp .eq (.var 0) (.str [107, 110, 105, 116])) (.cons (.ret (.mk "Knit" (.cons (.idx (.var 1) (.int 0)) (.cons (.idx (.var 1) (.int 1)) (.cons (.idx (.var 1) (.int 2)) (.cons (.idx (.var 1) (.int 3)) .nil))))))
        .nil) .nil)
      (.cons (.ret (.mk "Tuck" (.cons (.idx (.var 1) (.int 0)) (.cons (.idx (.var 1) (.int 1)) (.cons (.idx (.var 1) (.int 2)) (.cons (.idx (.var 1) (.int 3)) .nil))))))
      .nil)) .nil)
    .nil) .nil)
  (.cons (.ite (.and (.cmp .eq (.var 0) (.str [109, 105, 115, 115])) (.and (.cmp .eq (.var 2) (.int 3)) (.and (.call "is_way" (.cons (.idx (.var 1) (.int 0)) .nil)) (.and (.call "is_number" (.cons (.idx (.var 1) (.int 1)) .nil)) (.call "is_yarn" (.cons (.idx (.var 1) (.int 2)) .nil)))))) (.cons (.ret (.mk "Miss" (.cons (.idx (.var 1) (.int 0)) (.cons (.idx (.var 1) (.int 1)) (.cons (.idx (.var 1) (.int 2)) .nil)))))
    .nil) .nil)
  (.cons (.ite (.and (.cmp .in_ (.var 0) (.tup (.cons (.str [109, 111, 118, 101]) (.cons (.str [111, 102, 102]) .nil)))) (.and (.cmp .eq (.var 2) (.int 2)) (.and (.call "is_side" (.cons (.idx (.var 1) (.int 0)) .nil)) (.call "is_number" (.cons (.idx (.var 1) (.int 1)) .nil))))) (.cons (.ite (.cmp .eq (.var 0) (.str [109, 111, 118, 101])) (.cons (.ret (.mk "Move" (.cons (.idx (.var 1) (.int 0)) (.cons (.idx (.var 1) (.int 1)) .nil))))
      .nil) .nil)
    (.cons (.ret (.mk "Off" (.cons (.idx (.var 1) (.int 0)) (.cons (.idx (.var 1) (.int 1)) .nil))))
    .nil)) .nil)
  (.cons (.ite (.and (.cmp .eq (.var 0) (.str [115, 108, 105, 100, 101])) (.and (.cmp .eq (.var 2) (.int 1)) (.call "is_between" (.cons (.idx (.var 1) (.int 0)) (.cons (.bin .sub (.int 0) (.glb "MOST_SLIDE")) (.cons (.glb "MOST_SLIDE") .nil)))))) (.cons (.ret (.mk "Slide" (.cons (.idx (.var 1) (.int 0)) .nil)))
    .nil) .nil)
  (.cons (.ret .non)
  .nil))))))))⟩
def fd_deed_in : FD := ⟨1, 5, [false],
  (.cons (.set 1 (.lst .nil))
  (.cons (.for_ (.nm 2) (.rng2 (.int 1) (.blt .len (.cons (.var 0) .nil))) (.cons (.set 3 (.call "needle_in" (.cons (.idx (.var 0) (.var 2)) .nil)))
    (.cons (.set 4 (.call "number_of" (.cons (.idx (.var 0) (.var 2)) (.cons (.neg (.int 99)) (.cons (.int 99) .nil)))))
    (.cons (.ite (.and (.cmp .in_ (.idx (.var 0) (.int 0)) (.tup (.cons (.str [107, 110, 105, 116]) (.cons (.str [116, 117, 99, 107]) (.cons (.str [109, 111, 118, 101]) (.cons (.str [111, 102, 102]) .nil)))))) (.cmp .eq (.var 2) (.bin .sub (.bin .sub (.blt .len (.cons (.var 0) .nil)) (.int 1)) (.blt .int (.cons (.cmp .in_ (.idx (.var 0) (.int 0)) (.tup (.cons (.str [107, 110, 105, 116]) (.cons (.str [116, 117, 99, 107]) .nil)))) .nil))))) (.cons (.ite (.cmp .is_ (.var 3) .non) (.cons (.ret .non)
        .nil) .nil)
      (.cons (.ext 1 (.lst (.cons (.idx (.var 3) (.int 0)) (.cons (.idx (.var 3) (.int 1)) .nil))))
      .nil)) (.cons (.ite (.cmp .isnot (.var 4) .non) (.cons (.app 1 (.var 4))
        .nil) (.cons (.app 1 (.idx (.var 0) (.var 2)))
        .nil))
      .nil))
    .nil))))
  (.cons (.ret (.call "made_of" (.cons (.idx (.var 0) (.int 0)) (.cons (.blt .tuple (.cons (.var 1) .nil)) .nil))))
  .nil)))⟩
def fd__law_is_yarn : FD := ⟨1, 2, [false],
  (.cons (.ret (.and (.chn .le .le (.int 1) (.blt .len (.cons (.var 0) .nil)) (.int 4)) (.blt .all (.cons (.comp (.nm 1) (.var 0) (.cmp .in_ (.var 1) (.str [97, 98, 99, 100, 101, 102, 103, 104, 105, 106, 107, 108, 109, 110, 111, 112, 113, 114, 115, 116, 117, 118, 119, 120, 121, 122]))) .nil))))
  .nil)⟩
def fd__law_needle : FD := ⟨1, 2, [false],
  (.cons (.set 1 (.call "_law_number" (.cons (.slc (.var 0) (.int 1) .emp) (.cons (.int 0) (.cons (.int 23) .nil)))))
  (.cons (.ite (.or (.cmp .notin (.slc (.var 0) .emp (.int 1)) (.lst (.cons (.str [102]) (.cons (.str [98]) .nil)))) (.cmp .is_ (.var 1) .non)) (.cons (.ret .non)
    .nil) .nil)
  (.cons (.ret (.tup (.cons (.slc (.var 0) .emp (.int 1)) (.cons (.var 1) .nil))))
  .nil)))⟩
def fd__law_number : FD := ⟨3, 5, [false, false, false],
  (.cons (.set 3 (.var 0))
  (.cons (.ite (.cmp .eq (.slc (.var 0) .emp (.int 1)) (.str [45])) (.cons (.set 3 (.slc (.var 0) (.int 1) .emp))
    .nil) .nil)
  (.cons (.ite (.or (.cmp .eq (.var 3) (.str [])) (.or (.cmp .gt (.blt .len (.cons (.var 3) .nil)) (.int 4)) (.not (.blt .all (.cons (.comp (.nm 4) (.var 3) (.cmp .in_ (.var 4) (.str [48, 49, 50, 51, 52, 53, 54, 55, 56, 57]))) .nil))))) (.cons (.ret .non)
    .nil) .nil)
  (.cons (.ite (.or (.and (.cmp .gt (.blt .len (.cons (.var 3) .nil)) (.int 1)) (.cmp .eq (.idx (.var 3) (.int 0)) (.str [48]))) (.or (.cmp .eq (.var 0) (.str [45, 48])) (.not (.chn .le .le (.var 1) (.blt .int (.cons (.var 0) .nil)) (.var 2))))) (.cons (.ret .non)
    .nil) .nil)
  (.cons (.ret (.blt .int (.cons (.var 0) .nil)))
  .nil)))))⟩
def fd_is_between : FD := ⟨3, 3, [false, false, false],
  (.cons (.ret (.and (.blt .isinstance (.cons (.var 0) (.cons (.tyn "int") .nil))) (.and (.not (.blt .isinstance (.cons (.var 0) (.cons (.tyn "bool") .nil)))) (.chn .le .le (.var 1) (.var 0) (.var 2)))))
  .nil)⟩
def fd_is_number : FD := ⟨1, 1, [false],
  (.cons (.ret (.call "is_between" (.cons (.var 0) (.cons (.int 0) (.cons (.bin .sub (.glb "WIDE") (.int 1)) .nil)))))
  .nil)⟩
def fd_is_side : FD := ⟨1, 1, [false],
  (.cons (.ret (.and (.blt .isinstance (.cons (.var 0) (.cons (.tyn "str") .nil))) (.cmp .in_ (.var 0) (.tup (.cons (.str [102]) (.cons (.str [98]) .nil))))))
  .nil)⟩
def fd_is_way : FD := ⟨1, 1, [false],
  (.cons (.ret (.and (.blt .isinstance (.cons (.var 0) (.cons (.tyn "str") .nil))) (.cmp .in_ (.var 0) (.tup (.cons (.str [43]) (.cons (.str [45]) .nil))))))
  .nil)⟩
def fd_is_yarn : FD := ⟨1, 2, [false],
  (.cons (.ite (.or (.not (.blt .isinstance (.cons (.var 0) (.cons (.tyn "str") .nil)))) (.not (.chn .le .le (.int 1) (.blt .len (.cons (.var 0) .nil)) (.glb "MOST_SIGNS")))) (.cons (.ret (.bl false))
    .nil) .nil)
  (.cons (.ret (.blt .all (.cons (.comp (.nm 1) (.var 0) (.cmp .in_ (.var 1) (.glb "SMALL"))) .nil)))
  .nil))⟩
def fd_Comeu_initu : FD := ⟨3, 3, [true, false, false],
  (.cons (.setf 0 "yarn" (.var 1))
  (.cons (.setf 0 "place" (.var 2))
  .nil))⟩
def fd_Deed_told : FD := ⟨1, 1, [false],
  (.cons (.ret (.bin .add (.tup (.cons (.meth "word" (.var 0) .nil) .nil)) (.meth "bears" (.var 0) .nil)))
  .nil)⟩
def fd_Deed_written : FD := ⟨1, 2, [false],
  (.cons (.ret (.bm .join (.str [32]) (.cons (.bin .add (.lst (.cons (.meth "word" (.var 0) .nil) .nil)) (.comp (.nm 1) (.meth "bears" (.var 0) .nil) (.blt .str (.cons (.var 1) .nil)))) .nil)))
  .nil)⟩
def fd_Gou_initu : FD := ⟨2, 2, [true, false],
  (.cons (.setf 0 "yarn" (.var 1))
  .nil)⟩
def fd_Loopingu_initu : FD := ⟨5, 5, [true, false, false, false, false],
  (.cons (.setf 0 "way" (.var 1))
  (.cons (.setf 0 "side" (.var 2))
  (.cons (.setf 0 "n" (.var 3))
  (.cons (.setf 0 "yarn" (.var 4))
  .nil))))⟩
def fd_Looping_written : FD := ⟨1, 1, [false],
  (.cons (.ret (.bm .join (.str [32]) (.cons (.lst (.cons (.meth "word" (.var 0) .nil) (.cons (.fld (.var 0) "way") (.cons (.bin .add (.fld (.var 0) "side") (.blt .str (.cons (.fld (.var 0) "n") .nil))) (.cons (.fld (.var 0) "yarn") .nil))))) .nil)))
  .nil)⟩
def fd_Missu_initu : FD := ⟨4, 4, [true, false, false, false],
  (.cons (.setf 0 "way" (.var 1))
  (.cons (.setf 0 "n" (.var 2))
  (.cons (.setf 0 "yarn" (.var 3))
  .nil)))⟩
def fd_OfNeedleu_initu : FD := ⟨3, 3, [true, false, false],
  (.cons (.setf 0 "side" (.var 1))
  (.cons (.setf 0 "n" (.var 2))
  .nil))⟩
def fd_OfNeedle_written : FD := ⟨1, 1, [false],
  (.cons (.ret (.bin .add (.bin .add (.bin .add (.meth "word" (.var 0) .nil) (.str [32])) (.fld (.var 0) "side")) (.blt .str (.cons (.fld (.var 0) "n") .nil))))
  .nil)⟩
def fd_Slideu_initu : FD := ⟨2, 2, [true, false],
  (.cons (.setf 0 "k" (.var 1))
  .nil)⟩
def fd_needle_in : FD := ⟨1, 2, [false],
  (.cons (.set 1 (.call "number_of" (.cons (.slc (.var 0) (.int 1) .emp) (.cons (.int 0) (.cons (.bin .sub (.glb "WIDE") (.int 1)) .nil)))))
  (.cons (.ite (.or (.cmp .is_ (.var 1) .non) (.not (.call "is_side" (.cons (.slc (.var 0) .emp (.int 1)) .nil)))) (.cons (.ret .non)
    .nil) .nil)
  (.cons (.ret (.tup (.cons (.idx (.var 0) (.int 0)) (.cons (.var 1) .nil))))
  .nil)))⟩
def fd_number_of : FD := ⟨3, 6, [false, false, false],
  (.cons (.set 3 (.var 0))
  (.cons (.ite (.bm .startswith (.var 0) (.cons (.str [45]) .nil)) (.cons (.set 3 (.slc (.var 0) (.int 1) .emp))
    .nil) .nil)
  (.cons (.ite (.or (.not (.chn .le .le (.int 1) (.blt .len (.cons (.var 3) .nil)) (.int 4))) (.not (.blt .all (.cons (.comp (.nm 4) (.var 3) (.cmp .in_ (.var 4) (.str [48, 49, 50, 51, 52, 53, 54, 55, 56, 57]))) .nil)))) (.cons (.ret .non)
    .nil) .nil)
  (.cons (.set 5 (.blt .int (.cons (.var 3) .nil)))
  (.cons (.ite (.bm .startswith (.var 0) (.cons (.str [45]) .nil)) (.cons (.set 5 (.bin .sub (.int 0) (.var 5)))
    .nil) .nil)
  (.cons (.ite (.or (.cmp .ne (.blt .str (.cons (.var 5) .nil)) (.var 0)) (.not (.chn .le .le (.var 1) (.var 5) (.var 2)))) (.cons (.ret .non)
    .nil) .nil)
  (.cons (.ret (.var 5))
  .nil)))))))⟩
def fd_Come_bears : FD := ⟨1, 1, [false],
  (.cons (.ret (.tup (.cons (.fld (.var 0) "yarn") (.cons (.fld (.var 0) "place") .nil))))
  .nil)⟩
def fd_Come_word : FD := ⟨1, 1, [false],
  (.cons (.ret (.str [99, 111, 109, 101]))
  .nil)⟩
def fd_Go_bears : FD := ⟨1, 1, [false],
  (.cons (.ret (.tup (.cons (.fld (.var 0) "yarn") .nil)))
  .nil)⟩
def fd_Go_word : FD := ⟨1, 1, [false],
  (.cons (.ret (.str [103, 111]))
  .nil)⟩
def fd_Looping_bears : FD := ⟨1, 1, [false],
  (.cons (.ret (.tup (.cons (.fld (.var 0) "way") (.cons (.fld (.var 0) "side") (.cons (.fld (.var 0) "n") (.cons (.fld (.var 0) "yarn") .nil))))))
  .nil)⟩
def fd_Knit_word : FD := ⟨1, 1, [false],
  (.cons (.ret (.str [107, 110, 105, 116]))
  .nil)⟩
def fd_Miss_bears : FD := ⟨1, 1, [false],
  (.cons (.ret (.tup (.cons (.fld (.var 0) "way") (.cons (.fld (.var 0) "n") (.cons (.fld (.var 0) "yarn") .nil)))))
  .nil)⟩
def fd_Miss_word : FD := ⟨1, 1, [false],
  (.cons (.ret (.str [109, 105, 115, 115]))
  .nil)⟩
def fd_OfNeedle_bears : FD := ⟨1, 1, [false],
  (.cons (.ret (.tup (.cons (.fld (.var 0) "side") (.cons (.fld (.var 0) "n") .nil))))
  .nil)⟩
def fd_Move_word : FD := ⟨1, 1, [false],
  (.cons (.ret (.str [109, 111, 118, 101]))
  .nil)⟩
def fd_Off_word : FD := ⟨1, 1, [false],
  (.cons (.ret (.str [111, 102, 102]))
  .nil)⟩
def fd_Slide_bears : FD := ⟨1, 1, [false],
  (.cons (.ret (.tup (.cons (.fld (.var 0) "k") .nil)))
  .nil)⟩
def fd_Slide_word : FD := ⟨1, 1, [false],
  (.cons (.ret (.str [115, 108, 105, 100, 101]))
  .nil)⟩
def fd_Tuck_word : FD := ⟨1, 1, [false],
  (.cons (.ret (.str [116, 117, 99, 107]))
  .nil)⟩
def ptL : List (String × FD) := [("law", fd_law), ("_law_class", fd__law_class), ("_law_draws", fd__law_draws), ("_law_due", fd__law_due), ("_law_spoilt", fd__law_spoilt), ("_law_text", fd__law_text), ("_law_told", fd__law_told), ("_law_yarn_by", fd__law_yarn_by), ("deed_of", fd_deed_of), ("deeds_written", fd_deeds_written), ("read_deeds", fd_read_deeds), ("_law_row", fd__law_row), ("made_of", fd_made_of), ("deed_in", fd_deed_in), ("_law_is_yarn", fd__law_is_yarn), ("_law_needle", fd__law_needle), ("_law_number", fd__law_number), ("is_between", fd_is_between), ("is_number", fd_is_number), ("is_side", fd_is_side), ("is_way", fd_is_way), ("is_yarn", fd_is_yarn), ("Come.__init__", fd_Comeu_initu), ("Deed.told", fd_Deed_told), ("Deed.written", fd_Deed_written), ("Go.__init__", fd_Gou_initu), ("Looping.__init__", fd_Loopingu_initu), ("Looping.written", fd_Looping_written), ("Miss.__init__", fd_Missu_initu), ("OfNeedle.__init__", fd_OfNeedleu_initu), ("OfNeedle.written", fd_OfNeedle_written), ("Slide.__init__", fd_Slideu_initu), ("needle_in", fd_needle_in), ("number_of", fd_number_of), ("Come.bears", fd_Come_bears), ("Come.word", fd_Come_word), ("Go.bears", fd_Go_bears), ("Go.word", fd_Go_word), ("Looping.bears", fd_Looping_bears), ("Knit.word", fd_Knit_word), ("Miss.bears", fd_Miss_bears), ("Miss.word", fd_Miss_word), ("OfNeedle.bears", fd_OfNeedle_bears), ("Move.word", fd_Move_word), ("Off.word", fd_Off_word), ("Slide.bears", fd_Slide_bears), ("Slide.word", fd_Slide_word), ("Tuck.word", fd_Tuck_word)]
def pt : String → Option FD := fun q => ptL.lookup q
def tbG : List (String × D) := [("NoRow", .cls "NoRow"), ("NoName", .cls "NoName"), ("NoPiece", .cls "NoPiece"), ("NoText", .cls "NoText"), ("TooFar", .cls "TooFar"), ("TooMany", .cls "TooMany"), ("NoNeedle", .cls "NoNeedle"), ("NoLoop", .cls "NoLoop"), ("NoWay", .cls "NoWay"), ("NoYarn", .cls "NoYarn"), ("NoDeed", .cls "NoDeed"), ("MOST_SLIDE", .int 3), ("WIDE", .int 24), ("SMALL", .str [97, 98, 99, 100, 101, 102, 103, 104, 105, 106, 107, 108, 109, 110, 111, 112, 113, 114, 115, 116, 117, 118, 119, 120, 121, 122]), ("MOST_SIGNS", .int 4)]
def tbM : List ((String × String) × String) := [(("Come", "bears"), "Come.bears"), (("Come", "told"), "Deed.told"), (("Come", "word"), "Come.word"), (("Come", "written"), "Deed.written"), (("Go", "bears"), "Go.bears"), (("Go", "told"), "Deed.told"), (("Go", "word"), "Go.word"), (("Go", "written"), "Deed.written"), (("Knit", "bears"), "Looping.bears"), (("Knit", "told"), "Deed.told"), (("Knit", "word"), "Knit.word"), (("Knit", "written"), "Looping.written"), (("Miss", "bears"), "Miss.bears"), (("Miss", "told"), "Deed.told"), (("Miss", "word"), "Miss.word"), (("Miss", "written"), "Deed.written"), (("Move", "bears"), "OfNeedle.bears"), (("Move", "told"), "Deed.told"), (("Move", "word"), "Move.word"), (("Move", "written"), "OfNeedle.written"), (("Off", "bears"), "OfNeedle.bears"), (("Off", "told"), "Deed.told"), (("Off", "word"), "Off.word"), (("Off", "written"), "OfNeedle.written"), (("Slide", "bears"), "Slide.bears"), (("Slide", "told"), "Deed.told"), (("Slide", "word"), "Slide.word"), (("Slide", "written"), "Deed.written"), (("Tuck", "bears"), "Looping.bears"), (("Tuck", "told"), "Deed.told"), (("Tuck", "word"), "Tuck.word"), (("Tuck", "written"), "Looping.written")]
def tbI : List (String × String) := [("Come", "Come.__init__"), ("Go", "Go.__init__"), ("Knit", "Looping.__init__"), ("Miss", "Miss.__init__"), ("Move", "OfNeedle.__init__"), ("Off", "OfNeedle.__init__"), ("Slide", "Slide.__init__"), ("Tuck", "Looping.__init__")]
def tbS : List ((String × String) × Bool) := []
def tbF : List String := ["law", "_law_class", "_law_draws", "_law_due", "_law_spoilt", "_law_text", "_law_told", "_law_yarn_by", "deed_of", "deeds_written", "read_deeds", "_law_row", "made_of", "deed_in", "_law_is_yarn", "_law_needle", "_law_number", "is_between", "is_number", "is_side", "is_way", "is_yarn", "needle_in", "number_of"]
def tbA : List (String × String) := [("Come", "yarn"), ("Come", "place"), ("Go", "yarn"), ("Knit", "way"), ("Knit", "side"), ("Knit", "n"), ("Knit", "yarn"), ("Miss", "way"), ("Miss", "n"), ("Miss", "yarn"), ("Move", "side"), ("Move", "n"), ("Off", "side"), ("Off", "n"), ("Slide", "k"), ("Tuck", "way"), ("Tuck", "side"), ("Tuck", "n"), ("Tuck", "yarn")]
def tbXL : List (String × Nat) := [("NoDeed", 0), ("NoText", 1)]
def tbXE : List String := ["LoopError"]
def tbXN : List (String × Nat) := [("NoDeed", 1), ("NoText", 2)]
def tbXI : List ((String × String) × Bool) := [(("NoDeed", "LoopError"), true), (("NoDeed", "NoDeed"), true), (("NoDeed", "NoLoop"), false), (("NoDeed", "NoName"), false), (("NoDeed", "NoNeedle"), false), (("NoDeed", "NoPiece"), false), (("NoDeed", "NoRow"), false), (("NoDeed", "NoText"), false), (("NoDeed", "NoWay"), false), (("NoDeed", "NoYarn"), false), (("NoDeed", "TooFar"), false), (("NoDeed", "TooMany"), false), (("NoText", "LoopError"), true), (("NoText", "NoDeed"), false), (("NoText", "NoLoop"), false), (("NoText", "NoName"), false), (("NoText", "NoNeedle"), false), (("NoText", "NoPiece"), false), (("NoText", "NoRow"), false), (("NoText", "NoText"), true), (("NoText", "NoWay"), false), (("NoText", "NoYarn"), false), (("NoText", "TooFar"), false), (("NoText", "TooMany"), false)]
def tbXF : List (String × String) := [("NoDeed", "number"), ("NoText", "number"), ("NoText", "line")]
def tb : T where
  glob := fun x => tbG.lookup x
  meth := fun c m => tbM.lookup (c, m)
  init := fun c => tbI.lookup c
  isa := fun c C => tbS.lookup (c, C)
  isFn := fun f => tbF.contains f
  fld := fun c f => tbA.contains (c, f)
  xc := fun c xs => match tbXL.lookup c with
    | some 0 => xcL c xs
    | some 1 => xcT c xs
    | some 2 => xcP c xs
    | _ => none
  xn := fun c n => tbXN.contains (c, n)
  isx := fun c C => tbXI.lookup (c, C)
  fldx := fun c f => tbXF.contains (c, f)
  exn := fun c => tbXE.contains c
@[simp] theorem pt_law : pt "law" = some fd_law := rfl
@[simp] theorem pt__law_class : pt "_law_class" = some fd__law_class := rfl
@[simp] theorem pt__law_draws : pt "_law_draws" = some fd__law_draws := rfl
@[simp] theorem pt__law_due : pt "_law_due" = some fd__law_due := rfl
@[simp] theorem pt__law_spoilt : pt "_law_spoilt" = some fd__law_spoilt := rfl
@[simp] theorem pt__law_text : pt "_law_text" = some fd__law_text := rfl
@[simp] theorem pt__law_told : pt "_law_told" = some fd__law_told := rfl
@[simp] theorem pt__law_yarn_by : pt "_law_yarn_by" = some fd__law_yarn_by := rfl
@[simp] theorem pt_deed_of : pt "deed_of" = some fd_deed_of := rfl
@[simp] theorem pt_deeds_written : pt "deeds_written" = some fd_deeds_written := rfl
@[simp] theorem pt_read_deeds : pt "read_deeds" = some fd_read_deeds := rfl
@[simp] theorem pt__law_row : pt "_law_row" = some fd__law_row := rfl
@[simp] theorem pt_made_of : pt "made_of" = some fd_made_of := rfl
@[simp] theorem pt_deed_in : pt "deed_in" = some fd_deed_in := rfl
@[simp] theorem pt__law_is_yarn : pt "_law_is_yarn" = some fd__law_is_yarn := rfl
@[simp] theorem pt__law_needle : pt "_law_needle" = some fd__law_needle := rfl
@[simp] theorem pt__law_number : pt "_law_number" = some fd__law_number := rfl
@[simp] theorem pt_is_between : pt "is_between" = some fd_is_between := rfl
@[simp] theorem pt_is_number : pt "is_number" = some fd_is_number := rfl
@[simp] theorem pt_is_side : pt "is_side" = some fd_is_side := rfl
@[simp] theorem pt_is_way : pt "is_way" = some fd_is_way := rfl
@[simp] theorem pt_is_yarn : pt "is_yarn" = some fd_is_yarn := rfl
@[simp] theorem pt_Comeu_initu : pt "Come.__init__" = some fd_Comeu_initu := rfl
@[simp] theorem pt_Deed_told : pt "Deed.told" = some fd_Deed_told := rfl
@[simp] theorem pt_Deed_written : pt "Deed.written" = some fd_Deed_written := rfl
@[simp] theorem pt_Gou_initu : pt "Go.__init__" = some fd_Gou_initu := rfl
@[simp] theorem pt_Loopingu_initu : pt "Looping.__init__" = some fd_Loopingu_initu := rfl
@[simp] theorem pt_Looping_written : pt "Looping.written" = some fd_Looping_written := rfl
@[simp] theorem pt_Missu_initu : pt "Miss.__init__" = some fd_Missu_initu := rfl
@[simp] theorem pt_OfNeedleu_initu : pt "OfNeedle.__init__" = some fd_OfNeedleu_initu := rfl
@[simp] theorem pt_OfNeedle_written : pt "OfNeedle.written" = some fd_OfNeedle_written := rfl
@[simp] theorem pt_Slideu_initu : pt "Slide.__init__" = some fd_Slideu_initu := rfl
@[simp] theorem pt_needle_in : pt "needle_in" = some fd_needle_in := rfl
@[simp] theorem pt_number_of : pt "number_of" = some fd_number_of := rfl
@[simp] theorem pt_Come_bears : pt "Come.bears" = some fd_Come_bears := rfl
@[simp] theorem pt_Come_word : pt "Come.word" = some fd_Come_word := rfl
@[simp] theorem pt_Go_bears : pt "Go.bears" = some fd_Go_bears := rfl
@[simp] theorem pt_Go_word : pt "Go.word" = some fd_Go_word := rfl
@[simp] theorem pt_Looping_bears : pt "Looping.bears" = some fd_Looping_bears := rfl
@[simp] theorem pt_Knit_word : pt "Knit.word" = some fd_Knit_word := rfl
@[simp] theorem pt_Miss_bears : pt "Miss.bears" = some fd_Miss_bears := rfl
@[simp] theorem pt_Miss_word : pt "Miss.word" = some fd_Miss_word := rfl
@[simp] theorem pt_OfNeedle_bears : pt "OfNeedle.bears" = some fd_OfNeedle_bears := rfl
@[simp] theorem pt_Move_word : pt "Move.word" = some fd_Move_word := rfl
@[simp] theorem pt_Off_word : pt "Off.word" = some fd_Off_word := rfl
@[simp] theorem pt_Slide_bears : pt "Slide.bears" = some fd_Slide_bears := rfl
@[simp] theorem pt_Slide_word : pt "Slide.word" = some fd_Slide_word := rfl
@[simp] theorem pt_Tuck_word : pt "Tuck.word" = some fd_Tuck_word := rfl
@[simp] theorem tg_0 : tb.glob "NoRow" = some (.cls "NoRow") := rfl
@[simp] theorem tg_1 : tb.glob "NoName" = some (.cls "NoName") := rfl
@[simp] theorem tg_2 : tb.glob "NoPiece" = some (.cls "NoPiece") := rfl
@[simp] theorem tg_3 : tb.glob "NoText" = some (.cls "NoText") := rfl
@[simp] theorem tg_4 : tb.glob "TooFar" = some (.cls "TooFar") := rfl
@[simp] theorem tg_5 : tb.glob "TooMany" = some (.cls "TooMany") := rfl
@[simp] theorem tg_6 : tb.glob "NoNeedle" = some (.cls "NoNeedle") := rfl
@[simp] theorem tg_7 : tb.glob "NoLoop" = some (.cls "NoLoop") := rfl
@[simp] theorem tg_8 : tb.glob "NoWay" = some (.cls "NoWay") := rfl
@[simp] theorem tg_9 : tb.glob "NoYarn" = some (.cls "NoYarn") := rfl
@[simp] theorem tg_10 : tb.glob "NoDeed" = some (.cls "NoDeed") := rfl
@[simp] theorem tg_11 : tb.glob "MOST_SLIDE" = some (.int 3) := rfl
@[simp] theorem tg_12 : tb.glob "WIDE" = some (.int 24) := rfl
@[simp] theorem tg_13 : tb.glob "SMALL" = some (.str [97, 98, 99, 100, 101, 102, 103, 104, 105, 106, 107, 108, 109, 110, 111, 112, 113, 114, 115, 116, 117, 118, 119, 120, 121, 122]) := rfl
@[simp] theorem tg_14 : tb.glob "MOST_SIGNS" = some (.int 4) := rfl
@[simp] theorem tm_0 : tb.meth "Come" "bears" = some "Come.bears" := rfl
@[simp] theorem tm_1 : tb.meth "Come" "told" = some "Deed.told" := rfl
@[simp] theorem tm_2 : tb.meth "Come" "word" = some "Come.word" := rfl
@[simp] theorem tm_3 : tb.meth "Come" "written" = some "Deed.written" := rfl
@[simp] theorem tm_4 : tb.meth "Go" "bears" = some "Go.bears" := rfl
@[simp] theorem tm_5 : tb.meth "Go" "told" = some "Deed.told" := rfl
@[simp] theorem tm_6 : tb.meth "Go" "word" = some "Go.word" := rfl
@[simp] theorem tm_7 : tb.meth "Go" "written" = some "Deed.written" := rfl
@[simp] theorem tm_8 : tb.meth "Knit" "bears" = some "Looping.bears" := rfl
@[simp] theorem tm_9 : tb.meth "Knit" "told" = some "Deed.told" := rfl
@[simp] theorem tm_10 : tb.meth "Knit" "word" = some "Knit.word" := rfl
@[simp] theorem tm_11 : tb.meth "Knit" "written" = some "Looping.written" := rfl
@[simp] theorem tm_12 : tb.meth "Miss" "bears" = some "Miss.bears" := rfl
@[simp] theorem tm_13 : tb.meth "Miss" "told" = some "Deed.told" := rfl
@[simp] theorem tm_14 : tb.meth "Miss" "word" = some "Miss.word" := rfl
@[simp] theorem tm_15 : tb.meth "Miss" "written" = some "Deed.written" := rfl
@[simp] theorem tm_16 : tb.meth "Move" "bears" = some "OfNeedle.bears" := rfl
@[simp] theorem tm_17 : tb.meth "Move" "told" = some "Deed.told" := rfl
@[simp] theorem tm_18 : tb.meth "Move" "word" = some "Move.word" := rfl
@[simp] theorem tm_19 : tb.meth "Move" "written" = some "OfNeedle.written" := rfl
@[simp] theorem tm_20 : tb.meth "Off" "bears" = some "OfNeedle.bears" := rfl
@[simp] theorem tm_21 : tb.meth "Off" "told" = some "Deed.told" := rfl
@[simp] theorem tm_22 : tb.meth "Off" "word" = some "Off.word" := rfl
@[simp] theorem tm_23 : tb.meth "Off" "written" = some "OfNeedle.written" := rfl
@[simp] theorem tm_24 : tb.meth "Slide" "bears" = some "Slide.bears" := rfl
@[simp] theorem tm_25 : tb.meth "Slide" "told" = some "Deed.told" := rfl
@[simp] theorem tm_26 : tb.meth "Slide" "word" = some "Slide.word" := rfl
@[simp] theorem tm_27 : tb.meth "Slide" "written" = some "Deed.written" := rfl
@[simp] theorem tm_28 : tb.meth "Tuck" "bears" = some "Looping.bears" := rfl
@[simp] theorem tm_29 : tb.meth "Tuck" "told" = some "Deed.told" := rfl
@[simp] theorem tm_30 : tb.meth "Tuck" "word" = some "Tuck.word" := rfl
@[simp] theorem tm_31 : tb.meth "Tuck" "written" = some "Looping.written" := rfl
@[simp] theorem ti_0 : tb.init "Come" = some "Come.__init__" := rfl
@[simp] theorem ti_1 : tb.init "Go" = some "Go.__init__" := rfl
@[simp] theorem ti_2 : tb.init "Knit" = some "Looping.__init__" := rfl
@[simp] theorem ti_3 : tb.init "Miss" = some "Miss.__init__" := rfl
@[simp] theorem ti_4 : tb.init "Move" = some "OfNeedle.__init__" := rfl
@[simp] theorem ti_5 : tb.init "Off" = some "OfNeedle.__init__" := rfl
@[simp] theorem ti_6 : tb.init "Slide" = some "Slide.__init__" := rfl
@[simp] theorem ti_7 : tb.init "Tuck" = some "Looping.__init__" := rfl
@[simp] theorem tf_0 : tb.isFn "law" = true := rfl
@[simp] theorem tf_1 : tb.isFn "_law_class" = true := rfl
@[simp] theorem tf_2 : tb.isFn "_law_draws" = true := rfl
@[simp] theorem tf_3 : tb.isFn "_law_due" = true := rfl
@[simp] theorem tf_4 : tb.isFn "_law_spoilt" = true := rfl
@[simp] theorem tf_5 : tb.isFn "_law_text" = true := rfl
@[simp] theorem tf_6 : tb.isFn "_law_told" = true := rfl
@[simp] theorem tf_7 : tb.isFn "_law_yarn_by" = true := rfl
@[simp] theorem tf_8 : tb.isFn "deed_of" = true := rfl
@[simp] theorem tf_9 : tb.isFn "deeds_written" = true := rfl
@[simp] theorem tf_10 : tb.isFn "read_deeds" = true := rfl
@[simp] theorem tf_11 : tb.isFn "_law_row" = true := rfl
@[simp] theorem tf_12 : tb.isFn "made_of" = true := rfl
@[simp] theorem tf_13 : tb.isFn "deed_in" = true := rfl
@[simp] theorem tf_14 : tb.isFn "_law_is_yarn" = true := rfl
@[simp] theorem tf_15 : tb.isFn "_law_needle" = true := rfl
@[simp] theorem tf_16 : tb.isFn "_law_number" = true := rfl
@[simp] theorem tf_17 : tb.isFn "is_between" = true := rfl
@[simp] theorem tf_18 : tb.isFn "is_number" = true := rfl
@[simp] theorem tf_19 : tb.isFn "is_side" = true := rfl
@[simp] theorem tf_20 : tb.isFn "is_way" = true := rfl
@[simp] theorem tf_21 : tb.isFn "is_yarn" = true := rfl
@[simp] theorem tf_22 : tb.isFn "needle_in" = true := rfl
@[simp] theorem tf_23 : tb.isFn "number_of" = true := rfl
@[simp] theorem ta_0 : tb.fld "Come" "yarn" = true := rfl
@[simp] theorem ta_1 : tb.fld "Come" "place" = true := rfl
@[simp] theorem ta_2 : tb.fld "Go" "yarn" = true := rfl
@[simp] theorem ta_3 : tb.fld "Knit" "way" = true := rfl
@[simp] theorem ta_4 : tb.fld "Knit" "side" = true := rfl
@[simp] theorem ta_5 : tb.fld "Knit" "n" = true := rfl
@[simp] theorem ta_6 : tb.fld "Knit" "yarn" = true := rfl
@[simp] theorem ta_7 : tb.fld "Miss" "way" = true := rfl
@[simp] theorem ta_8 : tb.fld "Miss" "n" = true := rfl
@[simp] theorem ta_9 : tb.fld "Miss" "yarn" = true := rfl
@[simp] theorem ta_10 : tb.fld "Move" "side" = true := rfl
@[simp] theorem ta_11 : tb.fld "Move" "n" = true := rfl
@[simp] theorem ta_12 : tb.fld "Off" "side" = true := rfl
@[simp] theorem ta_13 : tb.fld "Off" "n" = true := rfl
@[simp] theorem ta_14 : tb.fld "Slide" "k" = true := rfl
@[simp] theorem ta_15 : tb.fld "Tuck" "way" = true := rfl
@[simp] theorem ta_16 : tb.fld "Tuck" "side" = true := rfl
@[simp] theorem ta_17 : tb.fld "Tuck" "n" = true := rfl
@[simp] theorem ta_18 : tb.fld "Tuck" "yarn" = true := rfl
@[simp] theorem txi_0 : tb.isx "NoDeed" "LoopError" = some true := rfl
@[simp] theorem txi_1 : tb.isx "NoDeed" "NoDeed" = some true := rfl
@[simp] theorem txi_2 : tb.isx "NoDeed" "NoLoop" = some false := rfl
@[simp] theorem txi_3 : tb.isx "NoDeed" "NoName" = some false := rfl
@[simp] theorem txi_4 : tb.isx "NoDeed" "NoNeedle" = some false := rfl
@[simp] theorem txi_5 : tb.isx "NoDeed" "NoPiece" = some false := rfl
@[simp] theorem txi_6 : tb.isx "NoDeed" "NoRow" = some false := rfl
@[simp] theorem txi_7 : tb.isx "NoDeed" "NoText" = some false := rfl
@[simp] theorem txi_8 : tb.isx "NoDeed" "NoWay" = some false := rfl
@[simp] theorem txi_9 : tb.isx "NoDeed" "NoYarn" = some false := rfl
@[simp] theorem txi_10 : tb.isx "NoDeed" "TooFar" = some false := rfl
@[simp] theorem txi_11 : tb.isx "NoDeed" "TooMany" = some false := rfl
@[simp] theorem txi_12 : tb.isx "NoText" "LoopError" = some true := rfl
@[simp] theorem txi_13 : tb.isx "NoText" "NoDeed" = some false := rfl
@[simp] theorem txi_14 : tb.isx "NoText" "NoLoop" = some false := rfl
@[simp] theorem txi_15 : tb.isx "NoText" "NoName" = some false := rfl
@[simp] theorem txi_16 : tb.isx "NoText" "NoNeedle" = some false := rfl
@[simp] theorem txi_17 : tb.isx "NoText" "NoPiece" = some false := rfl
@[simp] theorem txi_18 : tb.isx "NoText" "NoRow" = some false := rfl
@[simp] theorem txi_19 : tb.isx "NoText" "NoText" = some true := rfl
@[simp] theorem txi_20 : tb.isx "NoText" "NoWay" = some false := rfl
@[simp] theorem txi_21 : tb.isx "NoText" "NoYarn" = some false := rfl
@[simp] theorem txi_22 : tb.isx "NoText" "TooFar" = some false := rfl
@[simp] theorem txi_23 : tb.isx "NoText" "TooMany" = some false := rfl
@[simp] theorem txn_0 : tb.xn "NoDeed" 1 = true := rfl
@[simp] theorem txn_1 : tb.xn "NoText" 2 = true := rfl
@[simp] theorem txc_0 (xs : List D) : tb.xc "NoDeed" xs = xcL "NoDeed" xs := rfl
@[simp] theorem txc_1 (xs : List D) : tb.xc "NoText" xs = xcT "NoText" xs := rfl
@[simp] theorem txf_0 : tb.fldx "NoDeed" "number" = true := rfl
@[simp] theorem txf_1 : tb.fldx "NoText" "number" = true := rfl
@[simp] theorem txf_2 : tb.fldx "NoText" "line" = true := rfl
end Kn

set_option Elab.async false
set_option linter.all false
set_option maxRecDepth 100000
set_option maxHeartbeats 4000000
/-! the top (printed by gen.py). -/
namespace Kn
open PySem L2
theorem cx_false {P : Program} {w : World} {H : Hp} {s : Shared} {e : Value} {s' : Shared} {o : List PySem.Env} (h : L2.CX P w o H s (fun _ _ _ => False) e s') : False := by
  obtain ⟨_, _, _, _, _, _, _, _, _, _, _, _, z⟩ := h
  exact z
theorem kit_c {K : PySem.W.Frag} {c C : Addr} {b : Bool} (h1 : PySem.W.isClsIn K C = true) (h2 : PySem.W.typeIn K (.ref C) = some (.type "type")) (h3 : PySem.W.subIn K (.ref c) (.ref C) = some b) : PySem.W.kitCls K (.ref c) (.ref C) = some b := by
  have e : (PySem.W.clsIn K C).isSome = true := h1
  unfold PySem.W.kitCls
  simp only [e, h2, Bool.true_and, beq_self_eq_true, if_true]
  exact h3
theorem kit_t {K : PySem.W.Frag} {c C : Addr} (h1 : PySem.W.isClsIn K C = true) (h2 : PySem.W.typeIn K (.ref C) = some (.type "type")) (h3 : PySem.W.subIn K (.ref c) (.ref C) = some true) : PySem.W.kitOne K (.ref c) (.ref C) = some true := by
  unfold PySem.W.kitOne
  split
  · rfl
  · exact kit_c h1 h2 h3
theorem kit_f {K : PySem.W.Frag} {c C : Addr} (h1 : PySem.W.isClsIn K C = true) (h2 : PySem.W.typeIn K (.ref C) = some (.type "type")) (h3 : PySem.W.subIn K (.ref c) (.ref C) = some false) (h4 : (Value.ref c == Value.ref C) = false) : PySem.W.kitOne K (.ref c) (.ref C) = some false := by
  unfold PySem.W.kitOne
  rw [if_neg (by rw [h4]; exact Bool.false_ne_true)]
  exact kit_c h1 h2 h3
theorem mem_lk {α β : Type} [BEq α] [LawfulBEq α] {a : α} {b : β} : ∀ {l : List (α × β)}, l.lookup a = some b → (a, b) ∈ l
  | [], h => by simp at h
  | (k, v) :: r, h => by
    rw [List.lookup_cons] at h
    cases hk : a == k with
    | true =>
      rw [hk] at h
      cases h
      rw [eq_of_beq hk]
      exact List.mem_cons_self
    | false =>
      rw [hk] at h
      exact List.mem_cons_of_mem _ (mem_lk h)
theorem law_sp {K : PySem.W.Frag} {cl : String → Option Addr} {t : T} {PT : String → Option FD} {n : Nat} {vs : List V} {H : Hp} {Q : VK} {E : XK} (LT : ∀ ns : List Int, ns.length ≤ 63 → ∃ outs, callN t PT n "law" [.d (.arg ns)] = .ok (.d (.bl true)) outs)
    (h : ∃ (a : Addr) (ns : List Int), vs = [.ref a] ∧ SqL K H a (ns.map V.int) ∧ ns.length ≤ 63 ∧ ∀ H', Q (.bl true) H') : spF K cl (callN t PT n) "law" vs H Q E := by
  obtain ⟨a, ns, rfl, hS, hl, q⟩ := h
  obtain ⟨outs, e⟩ := LT ns hl
  refine ⟨fun _ => False, [.d (.arg ns)], [], ⟨[], [], rfl, fun a => by simp, (fun a h => nomatch h), fun a h => False.elim h, ?_, ORs.nil, (fun p h => nomatch h)⟩, ?_⟩
  · rw [List.map_cons, List.map_cons]
    unfold OE
    refine ⟨_, _, [], [], rfl, rfl, ⟨.ref a, rfl, ?_⟩, by unfold List.map OE; exact ⟨rfl, rfl⟩⟩
    unfold OR VR
    refine ⟨⟨a, rfl, ?_⟩, rfl⟩
    rcases hS with h | h
    · exact .inr ⟨h, fun z => by rcases z with z | z <;> cases z⟩
    · exact .inl (.inr h)
  · rw [e]
    intro v H' f' _ r'
    obtain ⟨fe, ft, _, _, _, _, _, q2, _⟩ := r'
    unfold ORs at q2
    obtain ⟨w', ws', f1, f2, e1, e2, h1, h2⟩ := q2
    cases e1
    unfold OR at h1
    rw [h1.1.blE]
    exact q H'
/-! ### what the top has written -/
def topS (i : Nat) : Stmt := PySem.Challenge.pw_loopmill_k03_deeds_in_texts.main.body.getD i (.Pass ⟨0, 0, 0, 0⟩)
def inCls (s : Stmt) : List Stmt := match s with
  | .ClassDef _ _ _ b _ _ _ _ _ _ _ => b
  | _ => []
abbrev s_law : Stmt := topS 54
def N_law : List Str := ["_law_script", "_law_draws_here", "_law_yarns", "_law_k", "_law_deeds", "_law_draw", "_law_text_here", "_law_told_here", "_law_rows", "_law_far", "_law_words", "_law_row_here", "_law_other", "_law_some", "_law_due_here", "_law_fault", "_law_found", "_law_e", "_law_deed"]
def P_law : List Str := ["_law_script"]
theorem sc_law : FnScope N_law P_law (defScope s_law) := C8.fnScope_by (by decide +kernel)
theorem ck_law : ckL N_law fd_law.body (defScope s_law) (defBody s_law) = true := by decide +kernel
abbrev s__law_class : Stmt := topS 47
def N__law_class : List Str := ["_law_e", "_law_some", "_law_names"]
def P__law_class : List Str := ["_law_e"]
theorem sc__law_class : FnScope N__law_class P__law_class (defScope s__law_class) := C8.fnScope_by (by decide +kernel)
theorem ck__law_class : ckL N__law_class fd__law_class.body (defScope s__law_class) (defBody s__law_class) = true := by decide +kernel
abbrev s__law_draws : Stmt := topS 43
def N__law_draws : List Str := ["_law_script", "_law_many", "_law_found", "_law_more", "_law_k", "_law_cell", "_law_mixed"]
def P__law_draws : List Str := ["_law_script", "_law_many"]
theorem sc__law_draws : FnScope N__law_draws P__law_draws (defScope s__law_draws) := C8.fnScope_by (by decide +kernel)
theorem ck__law_draws : ckL N__law_draws fd__law_draws.body (defScope s__law_draws) (defBody s__law_draws) = true := by decide +kernel
abbrev s__law_due : Stmt := topS 52
def N__law_due : List Str := ["_law_text_here", "_law_rows", "_law_found", "_law_k", "_law_words", "_law_word"]
def P__law_due : List Str := ["_law_text_here"]
theorem sc__law_due : FnScope N__law_due P__law_due (defScope s__law_due) := C8.fnScope_by (by decide +kernel)
theorem ck__law_due : ckL N__law_due fd__law_due.body (defScope s__law_due) (defBody s__law_due) = true := by decide +kernel
abbrev s__law_spoilt : Stmt := topS 53
def N__law_spoilt : List Str := ["_law_text_here", "_law_draw", "_law_at", "_law_sign", "_law_some"]
def P__law_spoilt : List Str := ["_law_text_here", "_law_draw"]
theorem sc__law_spoilt : FnScope N__law_spoilt P__law_spoilt (defScope s__law_spoilt) := C8.fnScope_by (by decide +kernel)
theorem ck__law_spoilt : ckL N__law_spoilt fd__law_spoilt.body (defScope s__law_spoilt) (defBody s__law_spoilt) = true := by decide +kernel
abbrev s__law_text : Stmt := topS 46
def N__law_text : List Str := ["_law_told_here", "_law_one"]
def P__law_text : List Str := ["_law_told_here"]
theorem sc__law_text : FnScope N__law_text P__law_text (defScope s__law_text) := C8.fnScope_by (by decide +kernel)
theorem ck__law_text : ckL N__law_text fd__law_text.body (defScope s__law_text) (defBody s__law_text) = true := by decide +kernel
abbrev s__law_told : Stmt := topS 45
def N__law_told : List Str := ["_law_draw", "_law_yarns", "_law_word", "_law_rest", "_law_yarn", "_law_way", "_law_side", "_law_n"]
def P__law_told : List Str := ["_law_draw", "_law_yarns"]
theorem sc__law_told : FnScope N__law_told P__law_told (defScope s__law_told) := C8.fnScope_by (by decide +kernel)
theorem ck__law_told : ckL N__law_told fd__law_told.body (defScope s__law_told) (defBody s__law_told) = true := by decide +kernel
abbrev s__law_yarn_by : Stmt := topS 44
def N__law_yarn_by : List Str := ["_law_shape", "_law_k", "_law_letters", "_law_place", "_law_yarn", "_law_turn"]
def P__law_yarn_by : List Str := ["_law_shape", "_law_k"]
theorem sc__law_yarn_by : FnScope N__law_yarn_by P__law_yarn_by (defScope s__law_yarn_by) := C8.fnScope_by (by decide +kernel)
theorem ck__law_yarn_by : ckL N__law_yarn_by fd__law_yarn_by.body (defScope s__law_yarn_by) (defBody s__law_yarn_by) = true := by decide +kernel
abbrev s_deed_of : Stmt := topS 37
def N_deed_of : List Str := ["told", "found"]
def P_deed_of : List Str := ["told"]
theorem sc_deed_of : FnScope N_deed_of P_deed_of (defScope s_deed_of) := C8.fnScope_by (by decide +kernel)
theorem ck_deed_of : ckL N_deed_of fd_deed_of.body (defScope s_deed_of) (defBody s_deed_of) = true := by decide +kernel
abbrev s_deeds_written : Stmt := topS 40
def N_deeds_written : List Str := ["deeds", "deed"]
def P_deeds_written : List Str := ["deeds"]
theorem sc_deeds_written : FnScope N_deeds_written P_deeds_written (defScope s_deeds_written) := C8.fnScope_by (by decide +kernel)
theorem ck_deeds_written : ckL N_deeds_written fd_deeds_written.body (defScope s_deeds_written) (defBody s_deeds_written) = true := by decide +kernel
abbrev s_read_deeds : Stmt := topS 41
def N_read_deeds : List Str := ["text", "found", "line", "row", "words", "deed", "word"]
def P_read_deeds : List Str := ["text"]
theorem sc_read_deeds : FnScope N_read_deeds P_read_deeds (defScope s_read_deeds) := C8.fnScope_by (by decide +kernel)
theorem ck_read_deeds : ckL N_read_deeds fd_read_deeds.body (defScope s_read_deeds) (defBody s_read_deeds) = true := by decide +kernel
abbrev s__law_row : Stmt := topS 51
def N__law_row : List Str := ["_law_words", "_law_word", "_law_many", "_law_needle_here", "_law_place", "_law_low", "_law_high", "_law_number_here"]
def P__law_row : List Str := ["_law_words"]
theorem sc__law_row : FnScope N__law_row P__law_row (defScope s__law_row) := C8.fnScope_by (by decide +kernel)
theorem ck__law_row : ckL N__law_row fd__law_row.body (defScope s__law_row) (defBody s__law_row) = true := by decide +kernel
abbrev s_made_of : Stmt := topS 36
def N_made_of : List Str := ["word", "bears", "many"]
def P_made_of : List Str := ["word", "bears"]
theorem sc_made_of : FnScope N_made_of P_made_of (defScope s_made_of) := C8.fnScope_by (by decide +kernel)
theorem ck_made_of : ckL N_made_of fd_made_of.body (defScope s_made_of) (defBody s_made_of) = true := by decide +kernel
abbrev s_deed_in : Stmt := topS 39
def N_deed_in : List Str := ["words", "bears", "k", "needle", "number"]
def P_deed_in : List Str := ["words"]
theorem sc_deed_in : FnScope N_deed_in P_deed_in (defScope s_deed_in) := C8.fnScope_by (by decide +kernel)
theorem ck_deed_in : ckL N_deed_in fd_deed_in.body (defScope s_deed_in) (defBody s_deed_in) = true := by decide +kernel
abbrev s__law_is_yarn : Stmt := topS 49
def N__law_is_yarn : List Str := ["_law_word", "_law_sign"]
def P__law_is_yarn : List Str := ["_law_word"]
theorem sc__law_is_yarn : FnScope N__law_is_yarn P__law_is_yarn (defScope s__law_is_yarn) := C8.fnScope_by (by decide +kernel)
theorem ck__law_is_yarn : ckL N__law_is_yarn fd__law_is_yarn.body (defScope s__law_is_yarn) (defBody s__law_is_yarn) = true := by decide +kernel
abbrev s__law_needle : Stmt := topS 50
def N__law_needle : List Str := ["_law_word", "_law_number_here"]
def P__law_needle : List Str := ["_law_word"]
theorem sc__law_needle : FnScope N__law_needle P__law_needle (defScope s__law_needle) := C8.fnScope_by (by decide +kernel)
theorem ck__law_needle : ckL N__law_needle fd__law_needle.body (defScope s__law_needle) (defBody s__law_needle) = true := by decide +kernel
abbrev s__law_number : Stmt := topS 48
def N__law_number : List Str := ["_law_word", "_law_low", "_law_high", "_law_figures", "_law_sign"]
def P__law_number : List Str := ["_law_word", "_law_low", "_law_high"]
theorem sc__law_number : FnScope N__law_number P__law_number (defScope s__law_number) := C8.fnScope_by (by decide +kernel)
theorem ck__law_number : ckL N__law_number fd__law_number.body (defScope s__law_number) (defBody s__law_number) = true := by decide +kernel
abbrev s_is_between : Stmt := topS 17
def N_is_between : List Str := ["thing", "low", "high"]
def P_is_between : List Str := ["thing", "low", "high"]
theorem sc_is_between : FnScope N_is_between P_is_between (defScope s_is_between) := C8.fnScope_by (by decide +kernel)
theorem ck_is_between : ckL N_is_between fd_is_between.body (defScope s_is_between) (defBody s_is_between) = true := by decide +kernel
abbrev s_is_number : Stmt := topS 35
def N_is_number : List Str := ["thing"]
def P_is_number : List Str := ["thing"]
theorem sc_is_number : FnScope N_is_number P_is_number (defScope s_is_number) := C8.fnScope_by (by decide +kernel)
theorem ck_is_number : ckL N_is_number fd_is_number.body (defScope s_is_number) (defBody s_is_number) = true := by decide +kernel
abbrev s_is_side : Stmt := topS 19
def N_is_side : List Str := ["thing"]
def P_is_side : List Str := ["thing"]
theorem sc_is_side : FnScope N_is_side P_is_side (defScope s_is_side) := C8.fnScope_by (by decide +kernel)
theorem ck_is_side : ckL N_is_side fd_is_side.body (defScope s_is_side) (defBody s_is_side) = true := by decide +kernel
abbrev s_is_way : Stmt := topS 20
def N_is_way : List Str := ["thing"]
def P_is_way : List Str := ["thing"]
theorem sc_is_way : FnScope N_is_way P_is_way (defScope s_is_way) := C8.fnScope_by (by decide +kernel)
theorem ck_is_way : ckL N_is_way fd_is_way.body (defScope s_is_way) (defBody s_is_way) = true := by decide +kernel
abbrev s_is_yarn : Stmt := topS 18
def N_is_yarn : List Str := ["thing", "sign"]
def P_is_yarn : List Str := ["thing"]
theorem sc_is_yarn : FnScope N_is_yarn P_is_yarn (defScope s_is_yarn) := C8.fnScope_by (by decide +kernel)
theorem ck_is_yarn : ckL N_is_yarn fd_is_yarn.body (defScope s_is_yarn) (defBody s_is_yarn) = true := by decide +kernel
abbrev s_Comeu_initu : Stmt := (inCls (topS 25)).getD 0 (.Pass ⟨0, 0, 0, 0⟩)
def N_Comeu_initu : List Str := ["self", "yarn", "place"]
def P_Comeu_initu : List Str := ["self", "yarn", "place"]
theorem sc_Comeu_initu : FnScope N_Comeu_initu P_Comeu_initu (defScope s_Comeu_initu) := C8.fnScope_by (by decide +kernel)
theorem ck_Comeu_initu : ckL N_Comeu_initu fd_Comeu_initu.body (defScope s_Comeu_initu) (defBody s_Comeu_initu) = true := by decide +kernel
abbrev s_Deed_told : Stmt := (inCls (topS 24)).getD 2 (.Pass ⟨0, 0, 0, 0⟩)
def N_Deed_told : List Str := ["self"]
def P_Deed_told : List Str := ["self"]
theorem sc_Deed_told : FnScope N_Deed_told P_Deed_told (defScope s_Deed_told) := C8.fnScope_by (by decide +kernel)
theorem ck_Deed_told : ckL N_Deed_told fd_Deed_told.body (defScope s_Deed_told) (defBody s_Deed_told) = true := by decide +kernel
abbrev s_Deed_written : Stmt := (inCls (topS 24)).getD 3 (.Pass ⟨0, 0, 0, 0⟩)
def N_Deed_written : List Str := ["self", "one"]
def P_Deed_written : List Str := ["self"]
theorem sc_Deed_written : FnScope N_Deed_written P_Deed_written (defScope s_Deed_written) := C8.fnScope_by (by decide +kernel)
theorem ck_Deed_written : ckL N_Deed_written fd_Deed_written.body (defScope s_Deed_written) (defBody s_Deed_written) = true := by decide +kernel
abbrev s_Gou_initu : Stmt := (inCls (topS 26)).getD 0 (.Pass ⟨0, 0, 0, 0⟩)
def N_Gou_initu : List Str := ["self", "yarn"]
def P_Gou_initu : List Str := ["self", "yarn"]
theorem sc_Gou_initu : FnScope N_Gou_initu P_Gou_initu (defScope s_Gou_initu) := C8.fnScope_by (by decide +kernel)
theorem ck_Gou_initu : ckL N_Gou_initu fd_Gou_initu.body (defScope s_Gou_initu) (defBody s_Gou_initu) = true := by decide +kernel
abbrev s_Loopingu_initu : Stmt := (inCls (topS 27)).getD 0 (.Pass ⟨0, 0, 0, 0⟩)
def N_Loopingu_initu : List Str := ["self", "way", "side", "n", "yarn"]
def P_Loopingu_initu : List Str := ["self", "way", "side", "n", "yarn"]
theorem sc_Loopingu_initu : FnScope N_Loopingu_initu P_Loopingu_initu (defScope s_Loopingu_initu) := C8.fnScope_by (by decide +kernel)
theorem ck_Loopingu_initu : ckL N_Loopingu_initu fd_Loopingu_initu.body (defScope s_Loopingu_initu) (defBody s_Loopingu_initu) = true := by decide +kernel
abbrev s_Looping_written : Stmt := (inCls (topS 27)).getD 2 (.Pass ⟨0, 0, 0, 0⟩)
def N_Looping_written : List Str := ["self"]
def P_Looping_written : List Str := ["self"]
theorem sc_Looping_written : FnScope N_Looping_written P_Looping_written (defScope s_Looping_written) := C8.fnScope_by (by decide +kernel)
theorem ck_Looping_written : ckL N_Looping_written fd_Looping_written.body (defScope s_Looping_written) (defBody s_Looping_written) = true := by decide +kernel
abbrev s_Missu_initu : Stmt := (inCls (topS 30)).getD 0 (.Pass ⟨0, 0, 0, 0⟩)
def N_Missu_initu : List Str := ["self", "way", "n", "yarn"]
def P_Missu_initu : List Str := ["self", "way", "n", "yarn"]
theorem sc_Missu_initu : FnScope N_Missu_initu P_Missu_initu (defScope s_Missu_initu) := C8.fnScope_by (by decide +kernel)
theorem ck_Missu_initu : ckL N_Missu_initu fd_Missu_initu.body (defScope s_Missu_initu) (defBody s_Missu_initu) = true := by decide +kernel
abbrev s_OfNeedleu_initu : Stmt := (inCls (topS 31)).getD 0 (.Pass ⟨0, 0, 0, 0⟩)
def N_OfNeedleu_initu : List Str := ["self", "side", "n"]
def P_OfNeedleu_initu : List Str := ["self", "side", "n"]
theorem sc_OfNeedleu_initu : FnScope N_OfNeedleu_initu P_OfNeedleu_initu (defScope s_OfNeedleu_initu) := C8.fnScope_by (by decide +kernel)
theorem ck_OfNeedleu_initu : ckL N_OfNeedleu_initu fd_OfNeedleu_initu.body (defScope s_OfNeedleu_initu) (defBody s_OfNeedleu_initu) = true := by decide +kernel
abbrev s_OfNeedle_written : Stmt := (inCls (topS 31)).getD 2 (.Pass ⟨0, 0, 0, 0⟩)
def N_OfNeedle_written : List Str := ["self"]
def P_OfNeedle_written : List Str := ["self"]
theorem sc_OfNeedle_written : FnScope N_OfNeedle_written P_OfNeedle_written (defScope s_OfNeedle_written) := C8.fnScope_by (by decide +kernel)
theorem ck_OfNeedle_written : ckL N_OfNeedle_written fd_OfNeedle_written.body (defScope s_OfNeedle_written) (defBody s_OfNeedle_written) = true := by decide +kernel
abbrev s_Slideu_initu : Stmt := (inCls (topS 34)).getD 0 (.Pass ⟨0, 0, 0, 0⟩)
def N_Slideu_initu : List Str := ["self", "k"]
def P_Slideu_initu : List Str := ["self", "k"]
theorem sc_Slideu_initu : FnScope N_Slideu_initu P_Slideu_initu (defScope s_Slideu_initu) := C8.fnScope_by (by decide +kernel)
theorem ck_Slideu_initu : ckL N_Slideu_initu fd_Slideu_initu.body (defScope s_Slideu_initu) (defBody s_Slideu_initu) = true := by decide +kernel
abbrev s_needle_in : Stmt := topS 38
def N_needle_in : List Str := ["word", "number"]
def P_needle_in : List Str := ["word"]
theorem sc_needle_in : FnScope N_needle_in P_needle_in (defScope s_needle_in) := C8.fnScope_by (by decide +kernel)
theorem ck_needle_in : ckL N_needle_in fd_needle_in.body (defScope s_needle_in) (defBody s_needle_in) = true := by decide +kernel
abbrev s_number_of : Stmt := topS 21
def N_number_of : List Str := ["word", "low", "high", "figures", "sign", "number"]
def P_number_of : List Str := ["word", "low", "high"]
theorem sc_number_of : FnScope N_number_of P_number_of (defScope s_number_of) := C8.fnScope_by (by decide +kernel)
theorem ck_number_of : ckL N_number_of fd_number_of.body (defScope s_number_of) (defBody s_number_of) = true := by decide +kernel
abbrev s_Come_bears : Stmt := (inCls (topS 25)).getD 2 (.Pass ⟨0, 0, 0, 0⟩)
def N_Come_bears : List Str := ["self"]
def P_Come_bears : List Str := ["self"]
theorem sc_Come_bears : FnScope N_Come_bears P_Come_bears (defScope s_Come_bears) := C8.fnScope_by (by decide +kernel)
theorem ck_Come_bears : ckL N_Come_bears fd_Come_bears.body (defScope s_Come_bears) (defBody s_Come_bears) = true := by decide +kernel
abbrev s_Come_word : Stmt := (inCls (topS 25)).getD 1 (.Pass ⟨0, 0, 0, 0⟩)
def N_Come_word : List Str := ["self"]
def P_Come_word : List Str := ["self"]
theorem sc_Come_word : FnScope N_Come_word P_Come_word (defScope s_Come_word) := C8.fnScope_by (by decide +kernel)
theorem ck_Come_word : ckL N_Come_word fd_Come_word.body (defScope s_Come_word) (defBody s_Come_word) = true := by decide +kernel
abbrev s_Go_bears : Stmt := (inCls (topS 26)).getD 2 (.Pass ⟨0, 0, 0, 0⟩)
def N_Go_bears : List Str := ["self"]
def P_Go_bears : List Str := ["self"]
theorem sc_Go_bears : FnScope N_Go_bears P_Go_bears (defScope s_Go_bears) := C8.fnScope_by (by decide +kernel)
theorem ck_Go_bears : ckL N_Go_bears fd_Go_bears.body (defScope s_Go_bears) (defBody s_Go_bears) = true := by decide +kernel
abbrev s_Go_word : Stmt := (inCls (topS 26)).getD 1 (.Pass ⟨0, 0, 0, 0⟩)
def N_Go_word : List Str := ["self"]
def P_Go_word : List Str := ["self"]
theorem sc_Go_word : FnScope N_Go_word P_Go_word (defScope s_Go_word) := C8.fnScope_by (by decide +kernel)
theorem ck_Go_word : ckL N_Go_word fd_Go_word.body (defScope s_Go_word) (defBody s_Go_word) = true := by decide +kernel
abbrev s_Looping_bears : Stmt := (inCls (topS 27)).getD 1 (.Pass ⟨0, 0, 0, 0⟩)
def N_Looping_bears : List Str := ["self"]
def P_Looping_bears : List Str := ["self"]
theorem sc_Looping_bears : FnScope N_Looping_bears P_Looping_bears (defScope s_Looping_bears) := C8.fnScope_by (by decide +kernel)
theorem ck_Looping_bears : ckL N_Looping_bears fd_Looping_bears.body (defScope s_Looping_bears) (defBody s_Looping_bears) = true := by decide +kernel
abbrev s_Knit_word : Stmt := (inCls (topS 28)).getD 0 (.Pass ⟨0, 0, 0, 0⟩)
def N_Knit_word : List Str := ["self"]
def P_Knit_word : List Str := ["self"]
theorem sc_Knit_word : FnScope N_Knit_word P_Knit_word (defScope s_Knit_word) := C8.fnScope_by (by decide +kernel)
theorem ck_Knit_word : ckL N_Knit_word fd_Knit_word.body (defScope s_Knit_word) (defBody s_Knit_word) = true := by decide +kernel
abbrev s_Miss_bears : Stmt := (inCls (topS 30)).getD 2 (.Pass ⟨0, 0, 0, 0⟩)
def N_Miss_bears : List Str := ["self"]
def P_Miss_bears : List Str := ["self"]
theorem sc_Miss_bears : FnScope N_Miss_bears P_Miss_bears (defScope s_Miss_bears) := C8.fnScope_by (by decide +kernel)
theorem ck_Miss_bears : ckL N_Miss_bears fd_Miss_bears.body (defScope s_Miss_bears) (defBody s_Miss_bears) = true := by decide +kernel
abbrev s_Miss_word : Stmt := (inCls (topS 30)).getD 1 (.Pass ⟨0, 0, 0, 0⟩)
def N_Miss_word : List Str := ["self"]
def P_Miss_word : List Str := ["self"]
theorem sc_Miss_word : FnScope N_Miss_word P_Miss_word (defScope s_Miss_word) := C8.fnScope_by (by decide +kernel)
theorem ck_Miss_word : ckL N_Miss_word fd_Miss_word.body (defScope s_Miss_word) (defBody s_Miss_word) = true := by decide +kernel
abbrev s_OfNeedle_bears : Stmt := (inCls (topS 31)).getD 1 (.Pass ⟨0, 0, 0, 0⟩)
def N_OfNeedle_bears : List Str := ["self"]
def P_OfNeedle_bears : List Str := ["self"]
theorem sc_OfNeedle_bears : FnScope N_OfNeedle_bears P_OfNeedle_bears (defScope s_OfNeedle_bears) := C8.fnScope_by (by decide +kernel)
theorem ck_OfNeedle_bears : ckL N_OfNeedle_bears fd_OfNeedle_bears.body (defScope s_OfNeedle_bears) (defBody s_OfNeedle_bears) = true := by decide +kernel
abbrev s_Move_word : Stmt := (inCls (topS 32)).getD 0 (.Pass ⟨0, 0, 0, 0⟩)
def N_Move_word : List Str := ["self"]
def P_Move_word : List Str := ["self"]
theorem sc_Move_word : FnScope N_Move_word P_Move_word (defScope s_Move_word) := C8.fnScope_by (by decide +kernel)
theorem ck_Move_word : ckL N_Move_word fd_Move_word.body (defScope s_Move_word) (defBody s_Move_word) = true := by decide +kernel
abbrev s_Off_word : Stmt := (inCls (topS 33)).getD 0 (.Pass ⟨0, 0, 0, 0⟩)
def N_Off_word : List Str := ["self"]
def P_Off_word : List Str := ["self"]
theorem sc_Off_word : FnScope N_Off_word P_Off_word (defScope s_Off_word) := C8.fnScope_by (by decide +kernel)
theorem ck_Off_word : ckL N_Off_word fd_Off_word.body (defScope s_Off_word) (defBody s_Off_word) = true := by decide +kernel
abbrev s_Slide_bears : Stmt := (inCls (topS 34)).getD 2 (.Pass ⟨0, 0, 0, 0⟩)
def N_Slide_bears : List Str := ["self"]
def P_Slide_bears : List Str := ["self"]
theorem sc_Slide_bears : FnScope N_Slide_bears P_Slide_bears (defScope s_Slide_bears) := C8.fnScope_by (by decide +kernel)
theorem ck_Slide_bears : ckL N_Slide_bears fd_Slide_bears.body (defScope s_Slide_bears) (defBody s_Slide_bears) = true := by decide +kernel
abbrev s_Slide_word : Stmt := (inCls (topS 34)).getD 1 (.Pass ⟨0, 0, 0, 0⟩)
def N_Slide_word : List Str := ["self"]
def P_Slide_word : List Str := ["self"]
theorem sc_Slide_word : FnScope N_Slide_word P_Slide_word (defScope s_Slide_word) := C8.fnScope_by (by decide +kernel)
theorem ck_Slide_word : ckL N_Slide_word fd_Slide_word.body (defScope s_Slide_word) (defBody s_Slide_word) = true := by decide +kernel
abbrev s_Tuck_word : Stmt := (inCls (topS 29)).getD 0 (.Pass ⟨0, 0, 0, 0⟩)
def N_Tuck_word : List Str := ["self"]
def P_Tuck_word : List Str := ["self"]
theorem sc_Tuck_word : FnScope N_Tuck_word P_Tuck_word (defScope s_Tuck_word) := C8.fnScope_by (by decide +kernel)
theorem ck_Tuck_word : ckL N_Tuck_word fd_Tuck_word.body (defScope s_Tuck_word) (defBody s_Tuck_word) = true := by decide +kernel
abbrev s_LE : Stmt := (inCls (topS 1)).getD 0 (.Pass ⟨0, 0, 0, 0⟩)
theorem sc_LE : FnScope ["self", "words", "number"] ["self", "words", "number"] (defScope s_LE) := C8.fnScope_by (by decide +kernel)
theorem lb_LE : leB "ValueError" "number" (defScope s_LE) (defBody s_LE) = true := by decide +kernel
abbrev s_NT : Stmt := (inCls (topS 9)).getD 0 (.Pass ⟨0, 0, 0, 0⟩)
theorem sc_NT : FnScope ["self", "words", "line"] ["self", "words", "line"] (defScope s_NT) := C8.fnScope_by (by decide +kernel)
theorem lb_NT : leB "LoopError" "line" (defScope s_NT) (defBody s_NT) = true := by decide +kernel
def spLaw (K : PySem.W.Frag) : Sp := fun vs H Q _ => ∃ (a : Addr) (ns : List Int), vs = [.ref a] ∧ SqL K H a (ns.map V.int) ∧ ns.length ≤ 63 ∧ ∀ H', Q (.bl true) H'
theorem all_mk {l : PySem.W.OpenLaw} {w : World} {K : PySem.W.Frag} {h : Heap} {mg : Str → Option Value} {fa f0 f1 f2 f3 f4 f5 f6 f7 f8 f9 f10 f11 f12 f13 f14 f15 f16 f17 f18 f19 f20 f21 f22 f23 f24 f25 f26 f27 f28 f29 f30 f31 f32 f33 f34 f35 f36 f37 f38 f39 f40 f41 f42 f43 f44 f45 f46 f47 C0 C1 C2 C3 C4 C5 C6 C7 C8 C9 C10 C11 C12 C13 C14 C15 C16 C17 C18 C19 : Addr} (X : K.In h) (G : h.Ns mainGlobals mg) (hfa : mg "law" = some (.ref fa))
    {od0 an0 od1 an1 od2 an2 od3 an3 od4 an4 od5 an5 od6 an6 od7 an7 od8 an8 od9 an9 od10 an10 od11 an11 od12 an12 od13 an13 od14 an14 od15 an15 od16 an16 od17 an17 od18 an18 od19 an19 od20 an20 od21 an21 od22 an22 od23 an23 od24 an24 od25 an25 od26 an26 od27 an27 od28 an28 od29 an29 od30 an30 od31 an31 od32 an32 od33 an33 od34 an34 od35 an35 od36 an36 od37 an37 od38 an38 od39 an39 od40 an40 od41 an41 od42 an42 od43 an43 od44 an44 od45 an45 od46 an46 od47 an47 : Option Addr} {sl0 sl1 sl2 sl3 sl4 sl5 sl6 sl7 sl8 sl9 sl10 sl11 sl12 sl13 sl14 sl15 sl16 sl17 sl18 sl19 sl20 sl21 sl22 sl23 sl24 sl25 sl26 sl27 sl28 sl29 sl30 sl31 sl32 sl33 sl34 sl35 sl36 sl37 sl38 sl39 sl40 sl41 sl42 sl43 sl44 sl45 sl46 sl47 : Array (Option Value)} {oc0 kV0 dc0 pm0 cd0 ct0 oc1 kV1 dc1 pm1 cd1 ct1 oc2 kV2 dc2 pm2 cd2 ct2 oc3 kV3 dc3 pm3 cd3 ct3 oc4 kV4 dc4 pm4 cd4 ct4 oc5 kV5 dc5 pm5 cd5 ct5 oc6 kV6 dc6 pm6 cd6 ct6 oc7 kV7 dc7 pm7 cd7 ct7 oc8 kV8 dc8 pm8 cd8 ct8 oc9 kV9 dc9 pm9 cd9 ct9 oc10 kV10 dc10 pm10 cd10 ct10 oc11 kV11 dc11 pm11 cd11 ct11 oc12 kV12 dc12 pm12 cd12 ct12 oc13 kV13 dc13 pm13 cd13 ct13 oc14 kV14 dc14 pm14 cd14 ct14 oc15 kV15 dc15 pm15 cd15 ct15 oc16 kV16 dc16 pm16 cd16 ct16 oc17 kV17 dc17 pm17 cd17 ct17 oc18 kV18 dc18 pm18 cd18 ct18 oc19 kV19 dc19 pm19 cd19 ct19 oc20 kV20 dc20 pm20 cd20 ct20 oc21 kV21 dc21 pm21 cd21 ct21 oc22 kV22 dc22 pm22 cd22 ct22 oc23 kV23 dc23 pm23 cd23 ct23 oc24 kV24 dc24 pm24 cd24 ct24 oc25 kV25 dc25 pm25 cd25 ct25 oc26 kV26 dc26 pm26 cd26 ct26 oc27 kV27 dc27 pm27 cd27 ct27 oc28 kV28 dc28 pm28 cd28 ct28 oc29 kV29 dc29 pm29 cd29 ct29 oc30 kV30 dc30 pm30 cd30 ct30 oc31 kV31 dc31 pm31 cd31 ct31 oc32 kV32 dc32 pm32 cd32 ct32 oc33 kV33 dc33 pm33 cd33 ct33 oc34 kV34 dc34 pm34 cd34 ct34 oc35 kV35 dc35 pm35 cd35 ct35 oc36 kV36 dc36 pm36 cd36 ct36 oc37 kV37 dc37 pm37 cd37 ct37 oc38 kV38 dc38 pm38 cd38 ct38 oc39 kV39 dc39 pm39 cd39 ct39 oc40 kV40 dc40 pm40 cd40 ct40 oc41 kV41 dc41 pm41 cd41 ct41 oc42 kV42 dc42 pm42 cd42 ct42 oc43 kV43 dc43 pm43 cd43 ct43 oc44 kV44 dc44 pm44 cd44 ct44 oc45 kV45 dc45 pm45 cd45 ct45 oc46 kV46 dc46 pm46 cd46 ct46 oc47 kV47 dc47 pm47 cd47 ct47 : Value} {tk11 tk12 tk13 tk14 : Tok} {fX dT : Addr} {odX anX tdX : Option Addr} {ocX kVX dcX pmX cdX ctX tcX : Value} {slX tsX : Array (Option Value)} {tnX : Nat} {fXT dTT : Addr} {odXT anXT tdXT : Option Addr} {ocXT kVXT dcXT pmXT cdXT ctXT tcXT : Value} {slXT tsXT : Array (Option Value)} {tnXT : Nat} {xnm6 xq6 : Str} {xN6 : Addr} {xbs6 : List Value} {xsn6 : List Str} {xsub6 : List Value} {xab6 : Bool} {xcol6 : Option Bool} {xdd6 : Option Addr} {xm6a xm6b xm6c xm6d xm6e : Option Value} {xnm12 xq12 : Str} {xN12 : Addr} {xbs12 : List Value} {xsn12 : List Str} {xsub12 : List Value} {xab12 : Bool} {xcol12 : Option Bool} {xdd12 : Option Addr} {xm12a xm12b xm12c xm12d xm12e : Option Value}
    (aC0 : PySem.W.nsIn K mainGlobals "Come" = some (some (.ref C0)))
    (aC1 : PySem.W.nsIn K mainGlobals "Go" = some (some (.ref C1)))
    (aC2 : PySem.W.nsIn K mainGlobals "Knit" = some (some (.ref C2)))
    (aC3 : PySem.W.nsIn K mainGlobals "LoopError" = some (some (.ref C3)))
    (aC4 : PySem.W.nsIn K mainGlobals "Miss" = some (some (.ref C4)))
    (aC5 : PySem.W.nsIn K mainGlobals "Move" = some (some (.ref C5)))
    (aC6 : PySem.W.nsIn K mainGlobals "NoDeed" = some (some (.ref C6)))
    (aC7 : PySem.W.nsIn K mainGlobals "NoLoop" = some (some (.ref C7)))
    (aC8 : PySem.W.nsIn K mainGlobals "NoName" = some (some (.ref C8)))
    (aC9 : PySem.W.nsIn K mainGlobals "NoNeedle" = some (some (.ref C9)))
    (aC10 : PySem.W.nsIn K mainGlobals "NoPiece" = some (some (.ref C10)))
    (aC11 : PySem.W.nsIn K mainGlobals "NoRow" = some (some (.ref C11)))
    (aC12 : PySem.W.nsIn K mainGlobals "NoText" = some (some (.ref C12)))
    (aC13 : PySem.W.nsIn K mainGlobals "NoWay" = some (some (.ref C13)))
    (aC14 : PySem.W.nsIn K mainGlobals "NoYarn" = some (some (.ref C14)))
    (aC15 : PySem.W.nsIn K mainGlobals "Off" = some (some (.ref C15)))
    (aC16 : PySem.W.nsIn K mainGlobals "Slide" = some (some (.ref C16)))
    (aC17 : PySem.W.nsIn K mainGlobals "TooFar" = some (some (.ref C17)))
    (aC18 : PySem.W.nsIn K mainGlobals "TooMany" = some (some (.ref C18)))
    (aC19 : PySem.W.nsIn K mainGlobals "Tuck" = some (some (.ref C19)))
    (a0 : PySem.W.nsIn K mainGlobals "law" = some (some (.ref f0)))
    (a1 : PySem.W.nsIn K mainGlobals "_law_class" = some (some (.ref f1)))
    (a2 : PySem.W.nsIn K mainGlobals "_law_draws" = some (some (.ref f2)))
    (a3 : PySem.W.nsIn K mainGlobals "_law_due" = some (some (.ref f3)))
    (a4 : PySem.W.nsIn K mainGlobals "_law_spoilt" = some (some (.ref f4)))
    (a5 : PySem.W.nsIn K mainGlobals "_law_text" = some (some (.ref f5)))
    (a6 : PySem.W.nsIn K mainGlobals "_law_told" = some (some (.ref f6)))
    (a7 : PySem.W.nsIn K mainGlobals "_law_yarn_by" = some (some (.ref f7)))
    (a8 : PySem.W.nsIn K mainGlobals "deed_of" = some (some (.ref f8)))
    (a9 : PySem.W.nsIn K mainGlobals "deeds_written" = some (some (.ref f9)))
    (a10 : PySem.W.nsIn K mainGlobals "read_deeds" = some (some (.ref f10)))
    (a11 : PySem.W.nsIn K mainGlobals "_law_row" = some (some (.ref f11)))
    (a12 : PySem.W.nsIn K mainGlobals "made_of" = some (some (.ref f12)))
    (a13 : PySem.W.nsIn K mainGlobals "deed_in" = some (some (.ref f13)))
    (a14 : PySem.W.nsIn K mainGlobals "_law_is_yarn" = some (some (.ref f14)))
    (a15 : PySem.W.nsIn K mainGlobals "_law_needle" = some (some (.ref f15)))
    (a16 : PySem.W.nsIn K mainGlobals "_law_number" = some (some (.ref f16)))
    (a17 : PySem.W.nsIn K mainGlobals "is_between" = some (some (.ref f17)))
    (a18 : PySem.W.nsIn K mainGlobals "is_number" = some (some (.ref f18)))
    (a19 : PySem.W.nsIn K mainGlobals "is_side" = some (some (.ref f19)))
    (a20 : PySem.W.nsIn K mainGlobals "is_way" = some (some (.ref f20)))
    (a21 : PySem.W.nsIn K mainGlobals "is_yarn" = some (some (.ref f21)))
    (a32 : PySem.W.nsIn K mainGlobals "needle_in" = some (some (.ref f32)))
    (a33 : PySem.W.nsIn K mainGlobals "number_of" = some (some (.ref f33)))
    (m0 : PySem.W.findIn K (.ref C0) "bears" = some (some (.ref f34)))
    (m1 : PySem.W.findIn K (.ref C0) "told" = some (some (.ref f23)))
    (m2 : PySem.W.findIn K (.ref C0) "word" = some (some (.ref f35)))
    (m3 : PySem.W.findIn K (.ref C0) "written" = some (some (.ref f24)))
    (m4 : PySem.W.findIn K (.ref C1) "bears" = some (some (.ref f36)))
    (m5 : PySem.W.findIn K (.ref C1) "told" = some (some (.ref f23)))
    (m6 : PySem.W.findIn K (.ref C1) "word" = some (some (.ref f37)))
    (m7 : PySem.W.findIn K (.ref C1) "written" = some (some (.ref f24)))
    (m8 : PySem.W.findIn K (.ref C2) "bears" = some (some (.ref f38)))
    (m9 : PySem.W.findIn K (.ref C2) "told" = some (some (.ref f23)))
    (m10 : PySem.W.findIn K (.ref C2) "word" = some (some (.ref f39)))
    (m11 : PySem.W.findIn K (.ref C2) "written" = some (some (.ref f27)))
    (m12 : PySem.W.findIn K (.ref C4) "bears" = some (some (.ref f40)))
    (m13 : PySem.W.findIn K (.ref C4) "told" = some (some (.ref f23)))
    (m14 : PySem.W.findIn K (.ref C4) "word" = some (some (.ref f41)))
    (m15 : PySem.W.findIn K (.ref C4) "written" = some (some (.ref f24)))
    (m16 : PySem.W.findIn K (.ref C5) "bears" = some (some (.ref f42)))
    (m17 : PySem.W.findIn K (.ref C5) "told" = some (some (.ref f23)))
    (m18 : PySem.W.findIn K (.ref C5) "word" = some (some (.ref f43)))
    (m19 : PySem.W.findIn K (.ref C5) "written" = some (some (.ref f30)))
    (m20 : PySem.W.findIn K (.ref C15) "bears" = some (some (.ref f42)))
    (m21 : PySem.W.findIn K (.ref C15) "told" = some (some (.ref f23)))
    (m22 : PySem.W.findIn K (.ref C15) "word" = some (some (.ref f44)))
    (m23 : PySem.W.findIn K (.ref C15) "written" = some (some (.ref f30)))
    (m24 : PySem.W.findIn K (.ref C16) "bears" = some (some (.ref f45)))
    (m25 : PySem.W.findIn K (.ref C16) "told" = some (some (.ref f23)))
    (m26 : PySem.W.findIn K (.ref C16) "word" = some (some (.ref f46)))
    (m27 : PySem.W.findIn K (.ref C16) "written" = some (some (.ref f24)))
    (m28 : PySem.W.findIn K (.ref C19) "bears" = some (some (.ref f38)))
    (m29 : PySem.W.findIn K (.ref C19) "told" = some (some (.ref f23)))
    (m30 : PySem.W.findIn K (.ref C19) "word" = some (some (.ref f47)))
    (m31 : PySem.W.findIn K (.ref C19) "written" = some (some (.ref f27)))
    (n0 : PySem.W.findIn K (.ref C0) "__init__" = some (some (.ref f22)))
    (n1 : PySem.W.findIn K (.ref C1) "__init__" = some (some (.ref f25)))
    (n2 : PySem.W.findIn K (.ref C2) "__init__" = some (some (.ref f26)))
    (n3 : PySem.W.findIn K (.ref C4) "__init__" = some (some (.ref f28)))
    (n4 : PySem.W.findIn K (.ref C5) "__init__" = some (some (.ref f29)))
    (n5 : PySem.W.findIn K (.ref C15) "__init__" = some (some (.ref f29)))
    (n6 : PySem.W.findIn K (.ref C16) "__init__" = some (some (.ref f31)))
    (n7 : PySem.W.findIn K (.ref C19) "__init__" = some (some (.ref f26)))
    (l0 : K.lookup f0 = some ⟨oc0, od0, .func (PySem.W.fnOf "law" "law" (defArgs s_law) (defBody s_law) (defScope s_law) .none kV0 dc0 pm0 an0 cd0 ct0), sl0⟩)
    (c0 : PySem.W.codeIn K cd0 "law" = true)
    (k0 : PySem.W.keepIn K (.ref f0) = true)
    (l1 : K.lookup f1 = some ⟨oc1, od1, .func (PySem.W.fnOf "_law_class" "_law_class" (defArgs s__law_class) (defBody s__law_class) (defScope s__law_class) .none kV1 dc1 pm1 an1 cd1 ct1), sl1⟩)
    (c1 : PySem.W.codeIn K cd1 "_law_class" = true)
    (k1 : PySem.W.keepIn K (.ref f1) = true)
    (l2 : K.lookup f2 = some ⟨oc2, od2, .func (PySem.W.fnOf "_law_draws" "_law_draws" (defArgs s__law_draws) (defBody s__law_draws) (defScope s__law_draws) .none kV2 dc2 pm2 an2 cd2 ct2), sl2⟩)
    (c2 : PySem.W.codeIn K cd2 "_law_draws" = true)
    (k2 : PySem.W.keepIn K (.ref f2) = true)
    (l3 : K.lookup f3 = some ⟨oc3, od3, .func (PySem.W.fnOf "_law_due" "_law_due" (defArgs s__law_due) (defBody s__law_due) (defScope s__law_due) .none kV3 dc3 pm3 an3 cd3 ct3), sl3⟩)
    (c3 : PySem.W.codeIn K cd3 "_law_due" = true)
    (k3 : PySem.W.keepIn K (.ref f3) = true)
    (l4 : K.lookup f4 = some ⟨oc4, od4, .func (PySem.W.fnOf "_law_spoilt" "_law_spoilt" (defArgs s__law_spoilt) (defBody s__law_spoilt) (defScope s__law_spoilt) .none kV4 dc4 pm4 an4 cd4 ct4), sl4⟩)
    (c4 : PySem.W.codeIn K cd4 "_law_spoilt" = true)
    (k4 : PySem.W.keepIn K (.ref f4) = true)
    (l5 : K.lookup f5 = some ⟨oc5, od5, .func (PySem.W.fnOf "_law_text" "_law_text" (defArgs s__law_text) (defBody s__law_text) (defScope s__law_text) .none kV5 dc5 pm5 an5 cd5 ct5), sl5⟩)
    (c5 : PySem.W.codeIn K cd5 "_law_text" = true)
    (k5 : PySem.W.keepIn K (.ref f5) = true)
    (l6 : K.lookup f6 = some ⟨oc6, od6, .func (PySem.W.fnOf "_law_told" "_law_told" (defArgs s__law_told) (defBody s__law_told) (defScope s__law_told) .none kV6 dc6 pm6 an6 cd6 ct6), sl6⟩)
    (c6 : PySem.W.codeIn K cd6 "_law_told" = true)
    (k6 : PySem.W.keepIn K (.ref f6) = true)
    (l7 : K.lookup f7 = some ⟨oc7, od7, .func (PySem.W.fnOf "_law_yarn_by" "_law_yarn_by" (defArgs s__law_yarn_by) (defBody s__law_yarn_by) (defScope s__law_yarn_by) .none kV7 dc7 pm7 an7 cd7 ct7), sl7⟩)
    (c7 : PySem.W.codeIn K cd7 "_law_yarn_by" = true)
    (k7 : PySem.W.keepIn K (.ref f7) = true)
    (l8 : K.lookup f8 = some ⟨oc8, od8, .func (PySem.W.fnOf "deed_of" "deed_of" (defArgs s_deed_of) (defBody s_deed_of) (defScope s_deed_of) .none kV8 dc8 pm8 an8 cd8 ct8), sl8⟩)
    (c8 : PySem.W.codeIn K cd8 "deed_of" = true)
    (k8 : PySem.W.keepIn K (.ref f8) = true)
    (l9 : K.lookup f9 = some ⟨oc9, od9, .func (PySem.W.fnOf "deeds_written" "deeds_written" (defArgs s_deeds_written) (defBody s_deeds_written) (defScope s_deeds_written) .none kV9 dc9 pm9 an9 cd9 ct9), sl9⟩)
    (c9 : PySem.W.codeIn K cd9 "deeds_written" = true)
    (k9 : PySem.W.keepIn K (.ref f9) = true)
    (l10 : K.lookup f10 = some ⟨oc10, od10, .func (PySem.W.fnOf "read_deeds" "read_deeds" (defArgs s_read_deeds) (defBody s_read_deeds) (defScope s_read_deeds) .none kV10 dc10 pm10 an10 cd10 ct10), sl10⟩)
    (c10 : PySem.W.codeIn K cd10 "read_deeds" = true)
    (k10 : PySem.W.keepIn K (.ref f10) = true)
    (l11 : K.lookup f11 = some ⟨oc11, od11, .func (PySem.W.fnOf "_law_row" "_law_row" (defArgs s__law_row) (defBody s__law_row) (defScope s__law_row) .none kV11 dc11 pm11 an11 cd11 ct11), sl11⟩)
    (c11 : PySem.W.codeIn K cd11 "_law_row" = true)
    (k11 : PySem.W.keepIn K (.ref f11) = true)
    (l12 : K.lookup f12 = some ⟨oc12, od12, .func (PySem.W.fnOf "made_of" "made_of" (defArgs s_made_of) (defBody s_made_of) (defScope s_made_of) .none kV12 dc12 pm12 an12 cd12 ct12), sl12⟩)
    (c12 : PySem.W.codeIn K cd12 "made_of" = true)
    (k12 : PySem.W.keepIn K (.ref f12) = true)
    (l13 : K.lookup f13 = some ⟨oc13, od13, .func (PySem.W.fnOf "deed_in" "deed_in" (defArgs s_deed_in) (defBody s_deed_in) (defScope s_deed_in) .none kV13 dc13 pm13 an13 cd13 ct13), sl13⟩)
    (c13 : PySem.W.codeIn K cd13 "deed_in" = true)
    (k13 : PySem.W.keepIn K (.ref f13) = true)
    (l14 : K.lookup f14 = some ⟨oc14, od14, .func (PySem.W.fnOf "_law_is_yarn" "_law_is_yarn" (defArgs s__law_is_yarn) (defBody s__law_is_yarn) (defScope s__law_is_yarn) .none kV14 dc14 pm14 an14 cd14 ct14), sl14⟩)
    (c14 : PySem.W.codeIn K cd14 "_law_is_yarn" = true)
    (k14 : PySem.W.keepIn K (.ref f14) = true)
    (l15 : K.lookup f15 = some ⟨oc15, od15, .func (PySem.W.fnOf "_law_needle" "_law_needle" (defArgs s__law_needle) (defBody s__law_needle) (defScope s__law_needle) .none kV15 dc15 pm15 an15 cd15 ct15), sl15⟩)
    (c15 : PySem.W.codeIn K cd15 "_law_needle" = true)
    (k15 : PySem.W.keepIn K (.ref f15) = true)
    (l16 : K.lookup f16 = some ⟨oc16, od16, .func (PySem.W.fnOf "_law_number" "_law_number" (defArgs s__law_number) (defBody s__law_number) (defScope s__law_number) .none kV16 dc16 pm16 an16 cd16 ct16), sl16⟩)
    (c16 : PySem.W.codeIn K cd16 "_law_number" = true)
    (k16 : PySem.W.keepIn K (.ref f16) = true)
    (l17 : K.lookup f17 = some ⟨oc17, od17, .func (PySem.W.fnOf "is_between" "is_between" (defArgs s_is_between) (defBody s_is_between) (defScope s_is_between) .none kV17 dc17 pm17 an17 cd17 ct17), sl17⟩)
    (c17 : PySem.W.codeIn K cd17 "is_between" = true)
    (k17 : PySem.W.keepIn K (.ref f17) = true)
    (l18 : K.lookup f18 = some ⟨oc18, od18, .func (PySem.W.fnOf "is_number" "is_number" (defArgs s_is_number) (defBody s_is_number) (defScope s_is_number) .none kV18 dc18 pm18 an18 cd18 ct18), sl18⟩)
    (c18 : PySem.W.codeIn K cd18 "is_number" = true)
    (k18 : PySem.W.keepIn K (.ref f18) = true)
    (l19 : K.lookup f19 = some ⟨oc19, od19, .func (PySem.W.fnOf "is_side" "is_side" (defArgs s_is_side) (defBody s_is_side) (defScope s_is_side) .none kV19 dc19 pm19 an19 cd19 ct19), sl19⟩)
    (c19 : PySem.W.codeIn K cd19 "is_side" = true)
    (k19 : PySem.W.keepIn K (.ref f19) = true)
    (l20 : K.lookup f20 = some ⟨oc20, od20, .func (PySem.W.fnOf "is_way" "is_way" (defArgs s_is_way) (defBody s_is_way) (defScope s_is_way) .none kV20 dc20 pm20 an20 cd20 ct20), sl20⟩)
    (c20 : PySem.W.codeIn K cd20 "is_way" = true)
    (k20 : PySem.W.keepIn K (.ref f20) = true)
    (l21 : K.lookup f21 = some ⟨oc21, od21, .func (PySem.W.fnOf "is_yarn" "is_yarn" (defArgs s_is_yarn) (defBody s_is_yarn) (defScope s_is_yarn) .none kV21 dc21 pm21 an21 cd21 ct21), sl21⟩)
    (c21 : PySem.W.codeIn K cd21 "is_yarn" = true)
    (k21 : PySem.W.keepIn K (.ref f21) = true)
    (l22 : K.lookup f22 = some ⟨oc22, od22, .func (PySem.W.fnOf "__init__" "Come.__init__" (defArgs s_Comeu_initu) (defBody s_Comeu_initu) (defScope s_Comeu_initu) .none kV22 dc22 pm22 an22 cd22 ct22), sl22⟩)
    (c22 : PySem.W.codeIn K cd22 "Come.__init__" = true)
    (k22 : PySem.W.keepIn K (.ref f22) = true)
    (i22 : PySem.W.isFn K (.ref f22) = true)
    (l23 : K.lookup f23 = some ⟨oc23, od23, .func (PySem.W.fnOf "told" "Deed.told" (defArgs s_Deed_told) (defBody s_Deed_told) (defScope s_Deed_told) .none kV23 dc23 pm23 an23 cd23 ct23), sl23⟩)
    (c23 : PySem.W.codeIn K cd23 "Deed.told" = true)
    (k23 : PySem.W.keepIn K (.ref f23) = true)
    (i23 : PySem.W.isFn K (.ref f23) = true)
    (l24 : K.lookup f24 = some ⟨oc24, od24, .func (PySem.W.fnOf "written" "Deed.written" (defArgs s_Deed_written) (defBody s_Deed_written) (defScope s_Deed_written) .none kV24 dc24 pm24 an24 cd24 ct24), sl24⟩)
    (c24 : PySem.W.codeIn K cd24 "Deed.written" = true)
    (k24 : PySem.W.keepIn K (.ref f24) = true)
    (i24 : PySem.W.isFn K (.ref f24) = true)
    (l25 : K.lookup f25 = some ⟨oc25, od25, .func (PySem.W.fnOf "__init__" "Go.__init__" (defArgs s_Gou_initu) (defBody s_Gou_initu) (defScope s_Gou_initu) .none kV25 dc25 pm25 an25 cd25 ct25), sl25⟩)
    (c25 : PySem.W.codeIn K cd25 "Go.__init__" = true)
    (k25 : PySem.W.keepIn K (.ref f25) = true)
    (i25 : PySem.W.isFn K (.ref f25) = true)
    (l26 : K.lookup f26 = some ⟨oc26, od26, .func (PySem.W.fnOf "__init__" "Looping.__init__" (defArgs s_Loopingu_initu) (defBody s_Loopingu_initu) (defScope s_Loopingu_initu) .none kV26 dc26 pm26 an26 cd26 ct26), sl26⟩)
    (c26 : PySem.W.codeIn K cd26 "Looping.__init__" = true)
    (k26 : PySem.W.keepIn K (.ref f26) = true)
    (i26 : PySem.W.isFn K (.ref f26) = true)
    (l27 : K.lookup f27 = some ⟨oc27, od27, .func (PySem.W.fnOf "written" "Looping.written" (defArgs s_Looping_written) (defBody s_Looping_written) (defScope s_Looping_written) .none kV27 dc27 pm27 an27 cd27 ct27), sl27⟩)
    (c27 : PySem.W.codeIn K cd27 "Looping.written" = true)
    (k27 : PySem.W.keepIn K (.ref f27) = true)
    (i27 : PySem.W.isFn K (.ref f27) = true)
    (l28 : K.lookup f28 = some ⟨oc28, od28, .func (PySem.W.fnOf "__init__" "Miss.__init__" (defArgs s_Missu_initu) (defBody s_Missu_initu) (defScope s_Missu_initu) .none kV28 dc28 pm28 an28 cd28 ct28), sl28⟩)
    (c28 : PySem.W.codeIn K cd28 "Miss.__init__" = true)
    (k28 : PySem.W.keepIn K (.ref f28) = true)
    (i28 : PySem.W.isFn K (.ref f28) = true)
    (l29 : K.lookup f29 = some ⟨oc29, od29, .func (PySem.W.fnOf "__init__" "OfNeedle.__init__" (defArgs s_OfNeedleu_initu) (defBody s_OfNeedleu_initu) (defScope s_OfNeedleu_initu) .none kV29 dc29 pm29 an29 cd29 ct29), sl29⟩)
    (c29 : PySem.W.codeIn K cd29 "OfNeedle.__init__" = true)
    (k29 : PySem.W.keepIn K (.ref f29) = true)
    (i29 : PySem.W.isFn K (.ref f29) = true)
    (l30 : K.lookup f30 = some ⟨oc30, od30, .func (PySem.W.fnOf "written" "OfNeedle.written" (defArgs s_OfNeedle_written) (defBody s_OfNeedle_written) (defScope s_OfNeedle_written) .none kV30 dc30 pm30 an30 cd30 ct30), sl30⟩)
    (c30 : PySem.W.codeIn K cd30 "OfNeedle.written" = true)
    (k30 : PySem.W.keepIn K (.ref f30) = true)
    (i30 : PySem.W.isFn K (.ref f30) = true)
    (l31 : K.lookup f31 = some ⟨oc31, od31, .func (PySem.W.fnOf "__init__" "Slide.__init__" (defArgs s_Slideu_initu) (defBody s_Slideu_initu) (defScope s_Slideu_initu) .none kV31 dc31 pm31 an31 cd31 ct31), sl31⟩)
    (c31 : PySem.W.codeIn K cd31 "Slide.__init__" = true)
    (k31 : PySem.W.keepIn K (.ref f31) = true)
    (i31 : PySem.W.isFn K (.ref f31) = true)
    (l32 : K.lookup f32 = some ⟨oc32, od32, .func (PySem.W.fnOf "needle_in" "needle_in" (defArgs s_needle_in) (defBody s_needle_in) (defScope s_needle_in) .none kV32 dc32 pm32 an32 cd32 ct32), sl32⟩)
    (c32 : PySem.W.codeIn K cd32 "needle_in" = true)
    (k32 : PySem.W.keepIn K (.ref f32) = true)
    (l33 : K.lookup f33 = some ⟨oc33, od33, .func (PySem.W.fnOf "number_of" "number_of" (defArgs s_number_of) (defBody s_number_of) (defScope s_number_of) .none kV33 dc33 pm33 an33 cd33 ct33), sl33⟩)
    (c33 : PySem.W.codeIn K cd33 "number_of" = true)
    (k33 : PySem.W.keepIn K (.ref f33) = true)
    (l34 : K.lookup f34 = some ⟨oc34, od34, .func (PySem.W.fnOf "bears" "Come.bears" (defArgs s_Come_bears) (defBody s_Come_bears) (defScope s_Come_bears) .none kV34 dc34 pm34 an34 cd34 ct34), sl34⟩)
    (c34 : PySem.W.codeIn K cd34 "Come.bears" = true)
    (k34 : PySem.W.keepIn K (.ref f34) = true)
    (i34 : PySem.W.isFn K (.ref f34) = true)
    (l35 : K.lookup f35 = some ⟨oc35, od35, .func (PySem.W.fnOf "word" "Come.word" (defArgs s_Come_word) (defBody s_Come_word) (defScope s_Come_word) .none kV35 dc35 pm35 an35 cd35 ct35), sl35⟩)
    (c35 : PySem.W.codeIn K cd35 "Come.word" = true)
    (k35 : PySem.W.keepIn K (.ref f35) = true)
    (i35 : PySem.W.isFn K (.ref f35) = true)
    (l36 : K.lookup f36 = some ⟨oc36, od36, .func (PySem.W.fnOf "bears" "Go.bears" (defArgs s_Go_bears) (defBody s_Go_bears) (defScope s_Go_bears) .none kV36 dc36 pm36 an36 cd36 ct36), sl36⟩)
    (c36 : PySem.W.codeIn K cd36 "Go.bears" = true)
    (k36 : PySem.W.keepIn K (.ref f36) = true)
    (i36 : PySem.W.isFn K (.ref f36) = true)
    (l37 : K.lookup f37 = some ⟨oc37, od37, .func (PySem.W.fnOf "word" "Go.word" (defArgs s_Go_word) (defBody s_Go_word) (defScope s_Go_word) .none kV37 dc37 pm37 an37 cd37 ct37), sl37⟩)
    (c37 : PySem.W.codeIn K cd37 "Go.word" = true)
    (k37 : PySem.W.keepIn K (.ref f37) = true)
    (i37 : PySem.W.isFn K (.ref f37) = true)
    (l38 : K.lookup f38 = some ⟨oc38, od38, .func (PySem.W.fnOf "bears" "Looping.bears" (defArgs s_Looping_bears) (defBody s_Looping_bears) (defScope s_Looping_bears) .none kV38 dc38 pm38 an38 cd38 ct38), sl38⟩)
    (c38 : PySem.W.codeIn K cd38 "Looping.bears" = true)
    (k38 : PySem.W.keepIn K (.ref f38) = true)
    (i38 : PySem.W.isFn K (.ref f38) = true)
    (l39 : K.lookup f39 = some ⟨oc39, od39, .func (PySem.W.fnOf "word" "Knit.word" (defArgs s_Knit_word) (defBody s_Knit_word) (defScope s_Knit_word) .none kV39 dc39 pm39 an39 cd39 ct39), sl39⟩)
    (c39 : PySem.W.codeIn K cd39 "Knit.word" = true)
    (k39 : PySem.W.keepIn K (.ref f39) = true)
    (i39 : PySem.W.isFn K (.ref f39) = true)
    (l40 : K.lookup f40 = some ⟨oc40, od40, .func (PySem.W.fnOf "bears" "Miss.bears" (defArgs s_Miss_bears) (defBody s_Miss_bears) (defScope s_Miss_bears) .none kV40 dc40 pm40 an40 cd40 ct40), sl40⟩)
    (c40 : PySem.W.codeIn K cd40 "Miss.bears" = true)
    (k40 : PySem.W.keepIn K (.ref f40) = true)
    (i40 : PySem.W.isFn K (.ref f40) = true)
    (l41 : K.lookup f41 = some ⟨oc41, od41, .func (PySem.W.fnOf "word" "Miss.word" (defArgs s_Miss_word) (defBody s_Miss_word) (defScope s_Miss_word) .none kV41 dc41 pm41 an41 cd41 ct41), sl41⟩)
    (c41 : PySem.W.codeIn K cd41 "Miss.word" = true)
    (k41 : PySem.W.keepIn K (.ref f41) = true)
    (i41 : PySem.W.isFn K (.ref f41) = true)
    (l42 : K.lookup f42 = some ⟨oc42, od42, .func (PySem.W.fnOf "bears" "OfNeedle.bears" (defArgs s_OfNeedle_bears) (defBody s_OfNeedle_bears) (defScope s_OfNeedle_bears) .none kV42 dc42 pm42 an42 cd42 ct42), sl42⟩)
    (c42 : PySem.W.codeIn K cd42 "OfNeedle.bears" = true)
    (k42 : PySem.W.keepIn K (.ref f42) = true)
    (i42 : PySem.W.isFn K (.ref f42) = true)
    (l43 : K.lookup f43 = some ⟨oc43, od43, .func (PySem.W.fnOf "word" "Move.word" (defArgs s_Move_word) (defBody s_Move_word) (defScope s_Move_word) .none kV43 dc43 pm43 an43 cd43 ct43), sl43⟩)
    (c43 : PySem.W.codeIn K cd43 "Move.word" = true)
    (k43 : PySem.W.keepIn K (.ref f43) = true)
    (i43 : PySem.W.isFn K (.ref f43) = true)
    (l44 : K.lookup f44 = some ⟨oc44, od44, .func (PySem.W.fnOf "word" "Off.word" (defArgs s_Off_word) (defBody s_Off_word) (defScope s_Off_word) .none kV44 dc44 pm44 an44 cd44 ct44), sl44⟩)
    (c44 : PySem.W.codeIn K cd44 "Off.word" = true)
    (k44 : PySem.W.keepIn K (.ref f44) = true)
    (i44 : PySem.W.isFn K (.ref f44) = true)
    (l45 : K.lookup f45 = some ⟨oc45, od45, .func (PySem.W.fnOf "bears" "Slide.bears" (defArgs s_Slide_bears) (defBody s_Slide_bears) (defScope s_Slide_bears) .none kV45 dc45 pm45 an45 cd45 ct45), sl45⟩)
    (c45 : PySem.W.codeIn K cd45 "Slide.bears" = true)
    (k45 : PySem.W.keepIn K (.ref f45) = true)
    (i45 : PySem.W.isFn K (.ref f45) = true)
    (l46 : K.lookup f46 = some ⟨oc46, od46, .func (PySem.W.fnOf "word" "Slide.word" (defArgs s_Slide_word) (defBody s_Slide_word) (defScope s_Slide_word) .none kV46 dc46 pm46 an46 cd46 ct46), sl46⟩)
    (c46 : PySem.W.codeIn K cd46 "Slide.word" = true)
    (k46 : PySem.W.keepIn K (.ref f46) = true)
    (i46 : PySem.W.isFn K (.ref f46) = true)
    (l47 : K.lookup f47 = some ⟨oc47, od47, .func (PySem.W.fnOf "word" "Tuck.word" (defArgs s_Tuck_word) (defBody s_Tuck_word) (defScope s_Tuck_word) .none kV47 dc47 pm47 an47 cd47 ct47), sl47⟩)
    (c47 : PySem.W.codeIn K cd47 "Tuck.word" = true)
    (k47 : PySem.W.keepIn K (.ref f47) = true)
    (i47 : PySem.W.isFn K (.ref f47) = true)
    (pg0 : PySem.W.plainGet K C0 Str.empty = true)
    (hd0 : PySem.W.hasDictIn K C0 = true)
    (po0 : PySem.W.plainOver K C0 = true)
    (sa0 : PySem.W.findIn K (.ref C0) "__setattr__" = some (some (.builtin "object.__setattr__")))
    (mk0 : PySem.W.makesIn K C0 = true)
    (kc0 : PySem.W.keepIn K (.ref C0) = true)
    (nf0_yarn : PySem.W.findIn K (.ref C0) "yarn" = some none)
    (nf0_place : PySem.W.findIn K (.ref C0) "place" = some none)
    (pg1 : PySem.W.plainGet K C1 Str.empty = true)
    (hd1 : PySem.W.hasDictIn K C1 = true)
    (po1 : PySem.W.plainOver K C1 = true)
    (sa1 : PySem.W.findIn K (.ref C1) "__setattr__" = some (some (.builtin "object.__setattr__")))
    (mk1 : PySem.W.makesIn K C1 = true)
    (kc1 : PySem.W.keepIn K (.ref C1) = true)
    (nf1_yarn : PySem.W.findIn K (.ref C1) "yarn" = some none)
    (pg2 : PySem.W.plainGet K C2 Str.empty = true)
    (hd2 : PySem.W.hasDictIn K C2 = true)
    (po2 : PySem.W.plainOver K C2 = true)
    (sa2 : PySem.W.findIn K (.ref C2) "__setattr__" = some (some (.builtin "object.__setattr__")))
    (mk2 : PySem.W.makesIn K C2 = true)
    (kc2 : PySem.W.keepIn K (.ref C2) = true)
    (nf2_way : PySem.W.findIn K (.ref C2) "way" = some none)
    (nf2_side : PySem.W.findIn K (.ref C2) "side" = some none)
    (nf2_n : PySem.W.findIn K (.ref C2) "n" = some none)
    (nf2_yarn : PySem.W.findIn K (.ref C2) "yarn" = some none)
    (pg4 : PySem.W.plainGet K C4 Str.empty = true)
    (hd4 : PySem.W.hasDictIn K C4 = true)
    (po4 : PySem.W.plainOver K C4 = true)
    (sa4 : PySem.W.findIn K (.ref C4) "__setattr__" = some (some (.builtin "object.__setattr__")))
    (mk4 : PySem.W.makesIn K C4 = true)
    (kc4 : PySem.W.keepIn K (.ref C4) = true)
    (nf4_way : PySem.W.findIn K (.ref C4) "way" = some none)
    (nf4_n : PySem.W.findIn K (.ref C4) "n" = some none)
    (nf4_yarn : PySem.W.findIn K (.ref C4) "yarn" = some none)
    (pg5 : PySem.W.plainGet K C5 Str.empty = true)
    (hd5 : PySem.W.hasDictIn K C5 = true)
    (po5 : PySem.W.plainOver K C5 = true)
    (sa5 : PySem.W.findIn K (.ref C5) "__setattr__" = some (some (.builtin "object.__setattr__")))
    (mk5 : PySem.W.makesIn K C5 = true)
    (kc5 : PySem.W.keepIn K (.ref C5) = true)
    (nf5_side : PySem.W.findIn K (.ref C5) "side" = some none)
    (nf5_n : PySem.W.findIn K (.ref C5) "n" = some none)
    (pg15 : PySem.W.plainGet K C15 Str.empty = true)
    (hd15 : PySem.W.hasDictIn K C15 = true)
    (po15 : PySem.W.plainOver K C15 = true)
    (sa15 : PySem.W.findIn K (.ref C15) "__setattr__" = some (some (.builtin "object.__setattr__")))
    (mk15 : PySem.W.makesIn K C15 = true)
    (kc15 : PySem.W.keepIn K (.ref C15) = true)
    (nf15_side : PySem.W.findIn K (.ref C15) "side" = some none)
    (nf15_n : PySem.W.findIn K (.ref C15) "n" = some none)
    (pg16 : PySem.W.plainGet K C16 Str.empty = true)
    (hd16 : PySem.W.hasDictIn K C16 = true)
    (po16 : PySem.W.plainOver K C16 = true)
    (sa16 : PySem.W.findIn K (.ref C16) "__setattr__" = some (some (.builtin "object.__setattr__")))
    (mk16 : PySem.W.makesIn K C16 = true)
    (kc16 : PySem.W.keepIn K (.ref C16) = true)
    (nf16_k : PySem.W.findIn K (.ref C16) "k" = some none)
    (pg19 : PySem.W.plainGet K C19 Str.empty = true)
    (hd19 : PySem.W.hasDictIn K C19 = true)
    (po19 : PySem.W.plainOver K C19 = true)
    (sa19 : PySem.W.findIn K (.ref C19) "__setattr__" = some (some (.builtin "object.__setattr__")))
    (mk19 : PySem.W.makesIn K C19 = true)
    (kc19 : PySem.W.keepIn K (.ref C19) = true)
    (nf19_way : PySem.W.findIn K (.ref C19) "way" = some none)
    (nf19_side : PySem.W.findIn K (.ref C19) "side" = some none)
    (nf19_n : PySem.W.findIn K (.ref C19) "n" = some none)
    (nf19_yarn : PySem.W.findIn K (.ref C19) "yarn" = some none)
    (xl6 : K.lookup C6 = some (excClassObj xnm6 xq6 C6 xN6 xbs6 [.ref C3, .type "ValueError", .type "Exception", .type "BaseException", .type "object"] true xsn6 xsub6 xab6 xcol6 xdd6 xm6a xm6b xm6c xm6d xm6e "ValueError.__new__"))
    (xsa6 : PySem.W.findIn K (.ref C6) "__setattr__" = some (some (.builtin "object.__setattr__")))
    (xkc6 : PySem.W.keepIn K (.ref C6) = true)
    (xga6 : PySem.W.findIn K (.ref C6) "__getattribute__" = some (some (.builtin "BaseException.__getattribute__")))
    (xgg6 : PySem.W.findIn K (.ref C6) "__getattr__" = some none)
    (xha6 : PySem.W.findIn K (.ref C6) "__class__" = some (some (.builtin "object.__class__")))
    (xhm6 : PySem.W.mroIn K C6 (.type "object") = some true)
    (xve6 : PySem.W.subIn K (.ref C6) (.type "ValueError") = some true)
    (xin6 : PySem.W.findIn K (.ref C6) "__init__" = some (some (.ref fX)))
    (xnf6 : PySem.W.findIn K (.ref C6) "number" = some none)
    (xl12 : K.lookup C12 = some (excClassObj xnm12 xq12 C12 xN12 xbs12 [.ref C3, .type "ValueError", .type "Exception", .type "BaseException", .type "object"] true xsn12 xsub12 xab12 xcol12 xdd12 xm12a xm12b xm12c xm12d xm12e "ValueError.__new__"))
    (xsa12 : PySem.W.findIn K (.ref C12) "__setattr__" = some (some (.builtin "object.__setattr__")))
    (xkc12 : PySem.W.keepIn K (.ref C12) = true)
    (xga12 : PySem.W.findIn K (.ref C12) "__getattribute__" = some (some (.builtin "BaseException.__getattribute__")))
    (xgg12 : PySem.W.findIn K (.ref C12) "__getattr__" = some none)
    (xha12 : PySem.W.findIn K (.ref C12) "__class__" = some (some (.builtin "object.__class__")))
    (xhm12 : PySem.W.mroIn K C12 (.type "object") = some true)
    (xve12 : PySem.W.subIn K (.ref C12) (.type "ValueError") = some true)
    (xin12 : PySem.W.findIn K (.ref C12) "__init__" = some (some (.ref fXT)))
    (xnf12 : PySem.W.findIn K (.ref C12) "number" = some none)
    (xnf12line : PySem.W.findIn K (.ref C12) "line" = some none)
    (bR : PySem.W.readsIn K C3 (.type "type") = true)
    (bG : PySem.W.specialIn K (.ref C3) "__getattribute__" = some (some (.builtin "type.__getattribute__")))
    (bF : PySem.W.findCls K (.ref C3) (.type "type") "__init__" = some (.val (.ref fX)))
    (lXT : K.lookup fXT = some ⟨ocXT, odXT, .func (PySem.W.fnOf "__init__" "NoText.__init__" (defArgs s_NT) (defBody s_NT) (defScope s_NT) (.ref dTT) kVXT dcXT pmXT anXT cdXT ctXT), slXT⟩)
    (cXT : PySem.W.codeIn K cdXT "NoText.__init__" = true)
    (kXT : PySem.W.keepIn K (.ref fXT) = true)
    (dXT : K.lookup dTT = some ⟨tcXT, tdXT, .seq #[.none] tnXT, tsXT⟩)
    (tXT : PySem.W.typeIn K (.ref fXT) = some (.type "function"))
    (lX : K.lookup fX = some ⟨ocX, odX, .func (PySem.W.fnOf "__init__" "LoopError.__init__" (defArgs s_LE) (defBody s_LE) (defScope s_LE) (.ref dT) kVX dcX pmX anX cdX ctX), slX⟩)
    (cX : PySem.W.codeIn K cdX "LoopError.__init__" = true)
    (kX : PySem.W.keepIn K (.ref fX) = true)
    (dX : K.lookup dT = some ⟨tcX, tdX, .seq #[.none] tnX, tsX⟩)
    (tX : PySem.W.typeIn K (.ref fX) = some (.type "function"))
    (vX : PySem.W.findCls K (.type "ValueError") (.type "type") "__init__" = some (.val (.builtin "ValueError.__init__")))
    (xbe3 : PySem.W.subIn K (.ref C3) (.type "BaseException") = some true)
    (xty3 : PySem.W.typeIn K (.ref C3) = some (.type "type"))
    (xhd3 : PySem.W.hasDictIn K C3 = true)
    (xic3 : PySem.W.isClsIn K C3 = true)
    (xbe6 : PySem.W.subIn K (.ref C6) (.type "BaseException") = some true)
    (xty6 : PySem.W.typeIn K (.ref C6) = some (.type "type"))
    (xhd6 : PySem.W.hasDictIn K C6 = true)
    (xic6 : PySem.W.isClsIn K C6 = true)
    (xbe7 : PySem.W.subIn K (.ref C7) (.type "BaseException") = some true)
    (xty7 : PySem.W.typeIn K (.ref C7) = some (.type "type"))
    (xhd7 : PySem.W.hasDictIn K C7 = true)
    (xic7 : PySem.W.isClsIn K C7 = true)
    (xbe8 : PySem.W.subIn K (.ref C8) (.type "BaseException") = some true)
    (xty8 : PySem.W.typeIn K (.ref C8) = some (.type "type"))
    (xhd8 : PySem.W.hasDictIn K C8 = true)
    (xic8 : PySem.W.isClsIn K C8 = true)
    (xbe9 : PySem.W.subIn K (.ref C9) (.type "BaseException") = some true)
    (xty9 : PySem.W.typeIn K (.ref C9) = some (.type "type"))
    (xhd9 : PySem.W.hasDictIn K C9 = true)
    (xic9 : PySem.W.isClsIn K C9 = true)
    (xbe10 : PySem.W.subIn K (.ref C10) (.type "BaseException") = some true)
    (xty10 : PySem.W.typeIn K (.ref C10) = some (.type "type"))
    (xhd10 : PySem.W.hasDictIn K C10 = true)
    (xic10 : PySem.W.isClsIn K C10 = true)
    (xbe11 : PySem.W.subIn K (.ref C11) (.type "BaseException") = some true)
    (xty11 : PySem.W.typeIn K (.ref C11) = some (.type "type"))
    (xhd11 : PySem.W.hasDictIn K C11 = true)
    (xic11 : PySem.W.isClsIn K C11 = true)
    (xbe12 : PySem.W.subIn K (.ref C12) (.type "BaseException") = some true)
    (xty12 : PySem.W.typeIn K (.ref C12) = some (.type "type"))
    (xhd12 : PySem.W.hasDictIn K C12 = true)
    (xic12 : PySem.W.isClsIn K C12 = true)
    (xbe13 : PySem.W.subIn K (.ref C13) (.type "BaseException") = some true)
    (xty13 : PySem.W.typeIn K (.ref C13) = some (.type "type"))
    (xhd13 : PySem.W.hasDictIn K C13 = true)
    (xic13 : PySem.W.isClsIn K C13 = true)
    (xbe14 : PySem.W.subIn K (.ref C14) (.type "BaseException") = some true)
    (xty14 : PySem.W.typeIn K (.ref C14) = some (.type "type"))
    (xhd14 : PySem.W.hasDictIn K C14 = true)
    (xic14 : PySem.W.isClsIn K C14 = true)
    (xbe17 : PySem.W.subIn K (.ref C17) (.type "BaseException") = some true)
    (xty17 : PySem.W.typeIn K (.ref C17) = some (.type "type"))
    (xhd17 : PySem.W.hasDictIn K C17 = true)
    (xic17 : PySem.W.isClsIn K C17 = true)
    (xbe18 : PySem.W.subIn K (.ref C18) (.type "BaseException") = some true)
    (xty18 : PySem.W.typeIn K (.ref C18) = some (.type "type"))
    (xhd18 : PySem.W.hasDictIn K C18 = true)
    (xic18 : PySem.W.isClsIn K C18 = true)
    (xp0 : PySem.W.subIn K (.ref C6) (.ref C3) = some true)
    (xp1 : PySem.W.subIn K (.ref C6) (.ref C6) = some true)
    (xp2 : PySem.W.subIn K (.ref C6) (.ref C7) = some false)
    (xne2 : (Value.ref C6 == Value.ref C7) = false)
    (xp3 : PySem.W.subIn K (.ref C6) (.ref C8) = some false)
    (xne3 : (Value.ref C6 == Value.ref C8) = false)
    (xp4 : PySem.W.subIn K (.ref C6) (.ref C9) = some false)
    (xne4 : (Value.ref C6 == Value.ref C9) = false)
    (xp5 : PySem.W.subIn K (.ref C6) (.ref C10) = some false)
    (xne5 : (Value.ref C6 == Value.ref C10) = false)
    (xp6 : PySem.W.subIn K (.ref C6) (.ref C11) = some false)
    (xne6 : (Value.ref C6 == Value.ref C11) = false)
    (xp7 : PySem.W.subIn K (.ref C6) (.ref C12) = some false)
    (xne7 : (Value.ref C6 == Value.ref C12) = false)
    (xp8 : PySem.W.subIn K (.ref C6) (.ref C13) = some false)
    (xne8 : (Value.ref C6 == Value.ref C13) = false)
    (xp9 : PySem.W.subIn K (.ref C6) (.ref C14) = some false)
    (xne9 : (Value.ref C6 == Value.ref C14) = false)
    (xp10 : PySem.W.subIn K (.ref C6) (.ref C17) = some false)
    (xne10 : (Value.ref C6 == Value.ref C17) = false)
    (xp11 : PySem.W.subIn K (.ref C6) (.ref C18) = some false)
    (xne11 : (Value.ref C6 == Value.ref C18) = false)
    (xp12 : PySem.W.subIn K (.ref C12) (.ref C3) = some true)
    (xp13 : PySem.W.subIn K (.ref C12) (.ref C6) = some false)
    (xne13 : (Value.ref C12 == Value.ref C6) = false)
    (xp14 : PySem.W.subIn K (.ref C12) (.ref C7) = some false)
    (xne14 : (Value.ref C12 == Value.ref C7) = false)
    (xp15 : PySem.W.subIn K (.ref C12) (.ref C8) = some false)
    (xne15 : (Value.ref C12 == Value.ref C8) = false)
    (xp16 : PySem.W.subIn K (.ref C12) (.ref C9) = some false)
    (xne16 : (Value.ref C12 == Value.ref C9) = false)
    (xp17 : PySem.W.subIn K (.ref C12) (.ref C10) = some false)
    (xne17 : (Value.ref C12 == Value.ref C10) = false)
    (xp18 : PySem.W.subIn K (.ref C12) (.ref C11) = some false)
    (xne18 : (Value.ref C12 == Value.ref C11) = false)
    (xp19 : PySem.W.subIn K (.ref C12) (.ref C12) = some true)
    (xp20 : PySem.W.subIn K (.ref C12) (.ref C13) = some false)
    (xne20 : (Value.ref C12 == Value.ref C13) = false)
    (xp21 : PySem.W.subIn K (.ref C12) (.ref C14) = some false)
    (xne21 : (Value.ref C12 == Value.ref C14) = false)
    (xp22 : PySem.W.subIn K (.ref C12) (.ref C17) = some false)
    (xne22 : (Value.ref C12 == Value.ref C17) = false)
    (xp23 : PySem.W.subIn K (.ref C12) (.ref C18) = some false)
    (xne23 : (Value.ref C12 == Value.ref C18) = false)
    (xg : PySem.W.specialIn K (.builtin "object.__class__") "__get__" = some (some (.builtin "getset_descriptor.__get__")))
    (xt : PySem.W.takesIn K (.builtin "object.__class__") = some true)
    (g11 : PySem.W.nsIn K mainGlobals "MOST_SLIDE" = some (some (.int 3 tk11)))
    (g12 : PySem.W.nsIn K mainGlobals "WIDE" = some (some (.int 24 tk12)))
    (g13 : PySem.W.nsIn K mainGlobals "SMALL" = some (some (.str (mkS [97, 98, 99, 100, 101, 102, 103, 104, 105, 106, 107, 108, 109, 110, 111, 112, 113, 114, 115, 116, 117, 118, 119, 120, 121, 122]) tk13)))
    (g14 : PySem.W.nsIn K mainGlobals "MOST_SIGNS" = some (some (.int 4 tk14)))
    (z_len : PySem.W.nsIn K mainGlobals "len" = some none)
    (z_str : PySem.W.nsIn K mainGlobals "str" = some none)
    (z_int : PySem.W.nsIn K mainGlobals "int" = some none)
    (z_abs : PySem.W.nsIn K mainGlobals "abs" = some none)
    (z_max : PySem.W.nsIn K mainGlobals "max" = some none)
    (z_min : PySem.W.nsIn K mainGlobals "min" = some none)
    (z_all : PySem.W.nsIn K mainGlobals "all" = some none)
    (z_any : PySem.W.nsIn K mainGlobals "any" = some none)
    (z_list : PySem.W.nsIn K mainGlobals "list" = some none)
    (z_tuple : PySem.W.nsIn K mainGlobals "tuple" = some none)
    (z_isinstance : PySem.W.nsIn K mainGlobals "isinstance" = some none)
    (z_bool : PySem.W.nsIn K mainGlobals "bool" = some none)
    (z_ValueError : PySem.W.nsIn K mainGlobals "ValueError" = some none)
    (z_range : PySem.W.nsIn K mainGlobals "range" = some none)
    (z_enumerate : PySem.W.nsIn K mainGlobals "enumerate" = some none)
    (LT : ∀ ns : List Int, ns.length ≤ 63 → ∃ outs, callN tb pt 8 "law" [.d (.arg ns)] = .ok (.d (.bl true)) outs) :
    ∃ fd : FuncData, (∀ (s : Shared) (v : Value), BindsTo s fd ⟨[v], []⟩ [("_law_script", v)]) ∧ ∀ base : Heap, K.In base → base.Ns mainGlobals mg → FnOk l.prog w K mg base (L2.CX l.prog w) (2 * 8 + 10) fa fd ["_law_script"] (spLaw K) := by
  have e := hfa.symm.trans (PySem.W.mg_of X G a0)
  cases e
  let clL : List (String × Addr) := [("Come", C0), ("Go", C1), ("Knit", C2), ("LoopError", C3), ("Miss", C4), ("Move", C5), ("NoDeed", C6), ("NoLoop", C7), ("NoName", C8), ("NoNeedle", C9), ("NoPiece", C10), ("NoRow", C11), ("NoText", C12), ("NoWay", C13), ("NoYarn", C14), ("Off", C15), ("Slide", C16), ("TooFar", C17), ("TooMany", C18), ("Tuck", C19)]
  have F0 := fun_mk (st := s_law) l0 c0 k0
  have b0 := F0.binds (ps := P_law) fun _ _ _ _ _ _ us hl => match us, hl with | [_], _ => rfl
  have E0 : EntOk K pt ⟨"law", fa, _, P_law, fd_law⟩ := ⟨rfl, b0, _, _, _, _, F0, sc_law, rfl, rfl, rfl, Nat.le_of_ble_eq_true rfl, ck_law⟩
  have F1 := fun_mk (st := s__law_class) l1 c1 k1
  have b1 := F1.binds (ps := P__law_class) fun _ _ _ _ _ _ us hl => match us, hl with | [_], _ => rfl
  have E1 : EntOk K pt ⟨"_law_class", f1, _, P__law_class, fd__law_class⟩ := ⟨rfl, b1, _, _, _, _, F1, sc__law_class, rfl, rfl, rfl, Nat.le_of_ble_eq_true rfl, ck__law_class⟩
  have F2 := fun_mk (st := s__law_draws) l2 c2 k2
  have b2 := F2.binds (ps := P__law_draws) fun _ _ _ _ _ _ us hl => match us, hl with | [_, _], _ => rfl
  have E2 : EntOk K pt ⟨"_law_draws", f2, _, P__law_draws, fd__law_draws⟩ := ⟨rfl, b2, _, _, _, _, F2, sc__law_draws, rfl, rfl, rfl, Nat.le_of_ble_eq_true rfl, ck__law_draws⟩
  have F3 := fun_mk (st := s__law_due) l3 c3 k3
  have b3 := F3.binds (ps := P__law_due) fun _ _ _ _ _ _ us hl => match us, hl with | [_], _ => rfl
  have E3 : EntOk K pt ⟨"_law_due", f3, _, P__law_due, fd__law_due⟩ := ⟨rfl, b3, _, _, _, _, F3, sc__law_due, rfl, rfl, rfl, Nat.le_of_ble_eq_true rfl, ck__law_due⟩
  have F4 := fun_mk (st := s__law_spoilt) l4 c4 k4
  have b4 := F4.binds (ps := P__law_spoilt) fun _ _ _ _ _ _ us hl => match us, hl with | [_, _], _ => rfl
  have E4 : EntOk K pt ⟨"_law_spoilt", f4, _, P__law_spoilt, fd__law_spoilt⟩ := ⟨rfl, b4, _, _, _, _, F4, sc__law_spoilt, rfl, rfl, rfl, Nat.le_of_ble_eq_true rfl, ck__law_spoilt⟩
  have F5 := fun_mk (st := s__law_text) l5 c5 k5
  have b5 := F5.binds (ps := P__law_text) fun _ _ _ _ _ _ us hl => match us, hl with | [_], _ => rfl
  have E5 : EntOk K pt ⟨"_law_text", f5, _, P__law_text, fd__law_text⟩ := ⟨rfl, b5, _, _, _, _, F5, sc__law_text, rfl, rfl, rfl, Nat.le_of_ble_eq_true rfl, ck__law_text⟩
  have F6 := fun_mk (st := s__law_told) l6 c6 k6
  have b6 := F6.binds (ps := P__law_told) fun _ _ _ _ _ _ us hl => match us, hl with | [_, _], _ => rfl
  have E6 : EntOk K pt ⟨"_law_told", f6, _, P__law_told, fd__law_told⟩ := ⟨rfl, b6, _, _, _, _, F6, sc__law_told, rfl, rfl, rfl, Nat.le_of_ble_eq_true rfl, ck__law_told⟩
  have F7 := fun_mk (st := s__law_yarn_by) l7 c7 k7
  have b7 := F7.binds (ps := P__law_yarn_by) fun _ _ _ _ _ _ us hl => match us, hl with | [_, _], _ => rfl
  have E7 : EntOk K pt ⟨"_law_yarn_by", f7, _, P__law_yarn_by, fd__law_yarn_by⟩ := ⟨rfl, b7, _, _, _, _, F7, sc__law_yarn_by, rfl, rfl, rfl, Nat.le_of_ble_eq_true rfl, ck__law_yarn_by⟩
  have F8 := fun_mk (st := s_deed_of) l8 c8 k8
  have b8 := F8.binds (ps := P_deed_of) fun _ _ _ _ _ _ us hl => match us, hl with | [_], _ => rfl
  have E8 : EntOk K pt ⟨"deed_of", f8, _, P_deed_of, fd_deed_of⟩ := ⟨rfl, b8, _, _, _, _, F8, sc_deed_of, rfl, rfl, rfl, Nat.le_of_ble_eq_true rfl, ck_deed_of⟩
  have F9 := fun_mk (st := s_deeds_written) l9 c9 k9
  have b9 := F9.binds (ps := P_deeds_written) fun _ _ _ _ _ _ us hl => match us, hl with | [_], _ => rfl
  have E9 : EntOk K pt ⟨"deeds_written", f9, _, P_deeds_written, fd_deeds_written⟩ := ⟨rfl, b9, _, _, _, _, F9, sc_deeds_written, rfl, rfl, rfl, Nat.le_of_ble_eq_true rfl, ck_deeds_written⟩
  have F10 := fun_mk (st := s_read_deeds) l10 c10 k10
  have b10 := F10.binds (ps := P_read_deeds) fun _ _ _ _ _ _ us hl => match us, hl with | [_], _ => rfl
  have E10 : EntOk K pt ⟨"read_deeds", f10, _, P_read_deeds, fd_read_deeds⟩ := ⟨rfl, b10, _, _, _, _, F10, sc_read_deeds, rfl, rfl, rfl, Nat.le_of_ble_eq_true rfl, ck_read_deeds⟩
  have F11 := fun_mk (st := s__law_row) l11 c11 k11
  have b11 := F11.binds (ps := P__law_row) fun _ _ _ _ _ _ us hl => match us, hl with | [_], _ => rfl
  have E11 : EntOk K pt ⟨"_law_row", f11, _, P__law_row, fd__law_row⟩ := ⟨rfl, b11, _, _, _, _, F11, sc__law_row, rfl, rfl, rfl, Nat.le_of_ble_eq_true rfl, ck__law_row⟩
  have F12 := fun_mk (st := s_made_of) l12 c12 k12
  have b12 := F12.binds (ps := P_made_of) fun _ _ _ _ _ _ us hl => match us, hl with | [_, _], _ => rfl
  have E12 : EntOk K pt ⟨"made_of", f12, _, P_made_of, fd_made_of⟩ := ⟨rfl, b12, _, _, _, _, F12, sc_made_of, rfl, rfl, rfl, Nat.le_of_ble_eq_true rfl, ck_made_of⟩
  have F13 := fun_mk (st := s_deed_in) l13 c13 k13
  have b13 := F13.binds (ps := P_deed_in) fun _ _ _ _ _ _ us hl => match us, hl with | [_], _ => rfl
  have E13 : EntOk K pt ⟨"deed_in", f13, _, P_deed_in, fd_deed_in⟩ := ⟨rfl, b13, _, _, _, _, F13, sc_deed_in, rfl, rfl, rfl, Nat.le_of_ble_eq_true rfl, ck_deed_in⟩
  have F14 := fun_mk (st := s__law_is_yarn) l14 c14 k14
  have b14 := F14.binds (ps := P__law_is_yarn) fun _ _ _ _ _ _ us hl => match us, hl with | [_], _ => rfl
  have E14 : EntOk K pt ⟨"_law_is_yarn", f14, _, P__law_is_yarn, fd__law_is_yarn⟩ := ⟨rfl, b14, _, _, _, _, F14, sc__law_is_yarn, rfl, rfl, rfl, Nat.le_of_ble_eq_true rfl, ck__law_is_yarn⟩
  have F15 := fun_mk (st := s__law_needle) l15 c15 k15
  have b15 := F15.binds (ps := P__law_needle) fun _ _ _ _ _ _ us hl => match us, hl with | [_], _ => rfl
  have E15 : EntOk K pt ⟨"_law_needle", f15, _, P__law_needle, fd__law_needle⟩ := ⟨rfl, b15, _, _, _, _, F15, sc__law_needle, rfl, rfl, rfl, Nat.le_of_ble_eq_true rfl, ck__law_needle⟩
  have F16 := fun_mk (st := s__law_number) l16 c16 k16
  have b16 := F16.binds (ps := P__law_number) fun _ _ _ _ _ _ us hl => match us, hl with | [_, _, _], _ => rfl
  have E16 : EntOk K pt ⟨"_law_number", f16, _, P__law_number, fd__law_number⟩ := ⟨rfl, b16, _, _, _, _, F16, sc__law_number, rfl, rfl, rfl, Nat.le_of_ble_eq_true rfl, ck__law_number⟩
  have F17 := fun_mk (st := s_is_between) l17 c17 k17
  have b17 := F17.binds (ps := P_is_between) fun _ _ _ _ _ _ us hl => match us, hl with | [_, _, _], _ => rfl
  have E17 : EntOk K pt ⟨"is_between", f17, _, P_is_between, fd_is_between⟩ := ⟨rfl, b17, _, _, _, _, F17, sc_is_between, rfl, rfl, rfl, Nat.le_of_ble_eq_true rfl, ck_is_between⟩
  have F18 := fun_mk (st := s_is_number) l18 c18 k18
  have b18 := F18.binds (ps := P_is_number) fun _ _ _ _ _ _ us hl => match us, hl with | [_], _ => rfl
  have E18 : EntOk K pt ⟨"is_number", f18, _, P_is_number, fd_is_number⟩ := ⟨rfl, b18, _, _, _, _, F18, sc_is_number, rfl, rfl, rfl, Nat.le_of_ble_eq_true rfl, ck_is_number⟩
  have F19 := fun_mk (st := s_is_side) l19 c19 k19
  have b19 := F19.binds (ps := P_is_side) fun _ _ _ _ _ _ us hl => match us, hl with | [_], _ => rfl
  have E19 : EntOk K pt ⟨"is_side", f19, _, P_is_side, fd_is_side⟩ := ⟨rfl, b19, _, _, _, _, F19, sc_is_side, rfl, rfl, rfl, Nat.le_of_ble_eq_true rfl, ck_is_side⟩
  have F20 := fun_mk (st := s_is_way) l20 c20 k20
  have b20 := F20.binds (ps := P_is_way) fun _ _ _ _ _ _ us hl => match us, hl with | [_], _ => rfl
  have E20 : EntOk K pt ⟨"is_way", f20, _, P_is_way, fd_is_way⟩ := ⟨rfl, b20, _, _, _, _, F20, sc_is_way, rfl, rfl, rfl, Nat.le_of_ble_eq_true rfl, ck_is_way⟩
  have F21 := fun_mk (st := s_is_yarn) l21 c21 k21
  have b21 := F21.binds (ps := P_is_yarn) fun _ _ _ _ _ _ us hl => match us, hl with | [_], _ => rfl
  have E21 : EntOk K pt ⟨"is_yarn", f21, _, P_is_yarn, fd_is_yarn⟩ := ⟨rfl, b21, _, _, _, _, F21, sc_is_yarn, rfl, rfl, rfl, Nat.le_of_ble_eq_true rfl, ck_is_yarn⟩
  have F22 := fun_mk (st := s_Comeu_initu) l22 c22 k22
  have b22 := F22.binds (ps := P_Comeu_initu) fun _ _ _ _ _ _ us hl => match us, hl with | [_, _, _], _ => rfl
  have E22 : EntOk K pt ⟨"Come.__init__", f22, _, P_Comeu_initu, fd_Comeu_initu⟩ := ⟨rfl, b22, _, _, _, _, F22, sc_Comeu_initu, rfl, rfl, rfl, Nat.le_of_ble_eq_true rfl, ck_Comeu_initu⟩
  have F23 := fun_mk (st := s_Deed_told) l23 c23 k23
  have b23 := F23.binds (ps := P_Deed_told) fun _ _ _ _ _ _ us hl => match us, hl with | [_], _ => rfl
  have E23 : EntOk K pt ⟨"Deed.told", f23, _, P_Deed_told, fd_Deed_told⟩ := ⟨rfl, b23, _, _, _, _, F23, sc_Deed_told, rfl, rfl, rfl, Nat.le_of_ble_eq_true rfl, ck_Deed_told⟩
  have F24 := fun_mk (st := s_Deed_written) l24 c24 k24
  have b24 := F24.binds (ps := P_Deed_written) fun _ _ _ _ _ _ us hl => match us, hl with | [_], _ => rfl
  have E24 : EntOk K pt ⟨"Deed.written", f24, _, P_Deed_written, fd_Deed_written⟩ := ⟨rfl, b24, _, _, _, _, F24, sc_Deed_written, rfl, rfl, rfl, Nat.le_of_ble_eq_true rfl, ck_Deed_written⟩
  have F25 := fun_mk (st := s_Gou_initu) l25 c25 k25
  have b25 := F25.binds (ps := P_Gou_initu) fun _ _ _ _ _ _ us hl => match us, hl with | [_, _], _ => rfl
  have E25 : EntOk K pt ⟨"Go.__init__", f25, _, P_Gou_initu, fd_Gou_initu⟩ := ⟨rfl, b25, _, _, _, _, F25, sc_Gou_initu, rfl, rfl, rfl, Nat.le_of_ble_eq_true rfl, ck_Gou_initu⟩
  have F26 := fun_mk (st := s_Loopingu_initu) l26 c26 k26
  have b26 := F26.binds (ps := P_Loopingu_initu) fun _ _ _ _ _ _ us hl => match us, hl with | [_, _, _, _, _], _ => rfl
  have E26 : EntOk K pt ⟨"Looping.__init__", f26, _, P_Loopingu_initu, fd_Loopingu_initu⟩ := ⟨rfl, b26, _, _, _, _, F26, sc_Loopingu_initu, rfl, rfl, rfl, Nat.le_of_ble_eq_true rfl, ck_Loopingu_initu⟩
  have F27 := fun_mk (st := s_Looping_written) l27 c27 k27
  have b27 := F27.binds (ps := P_Looping_written) fun _ _ _ _ _ _ us hl => match us, hl with | [_], _ => rfl
  have E27 : EntOk K pt ⟨"Looping.written", f27, _, P_Looping_written, fd_Looping_written⟩ := ⟨rfl, b27, _, _, _, _, F27, sc_Looping_written, rfl, rfl, rfl, Nat.le_of_ble_eq_true rfl, ck_Looping_written⟩
  have F28 := fun_mk (st := s_Missu_initu) l28 c28 k28
  have b28 := F28.binds (ps := P_Missu_initu) fun _ _ _ _ _ _ us hl => match us, hl with | [_, _, _, _], _ => rfl
  have E28 : EntOk K pt ⟨"Miss.__init__", f28, _, P_Missu_initu, fd_Missu_initu⟩ := ⟨rfl, b28, _, _, _, _, F28, sc_Missu_initu, rfl, rfl, rfl, Nat.le_of_ble_eq_true rfl, ck_Missu_initu⟩
  have F29 := fun_mk (st := s_OfNeedleu_initu) l29 c29 k29
  have b29 := F29.binds (ps := P_OfNeedleu_initu) fun _ _ _ _ _ _ us hl => match us, hl with | [_, _, _], _ => rfl
  have E29 : EntOk K pt ⟨"OfNeedle.__init__", f29, _, P_OfNeedleu_initu, fd_OfNeedleu_initu⟩ := ⟨rfl, b29, _, _, _, _, F29, sc_OfNeedleu_initu, rfl, rfl, rfl, Nat.le_of_ble_eq_true rfl, ck_OfNeedleu_initu⟩
  have F30 := fun_mk (st := s_OfNeedle_written) l30 c30 k30
  have b30 := F30.binds (ps := P_OfNeedle_written) fun _ _ _ _ _ _ us hl => match us, hl with | [_], _ => rfl
  have E30 : EntOk K pt ⟨"OfNeedle.written", f30, _, P_OfNeedle_written, fd_OfNeedle_written⟩ := ⟨rfl, b30, _, _, _, _, F30, sc_OfNeedle_written, rfl, rfl, rfl, Nat.le_of_ble_eq_true rfl, ck_OfNeedle_written⟩
  have F31 := fun_mk (st := s_Slideu_initu) l31 c31 k31
  have b31 := F31.binds (ps := P_Slideu_initu) fun _ _ _ _ _ _ us hl => match us, hl with | [_, _], _ => rfl
  have E31 : EntOk K pt ⟨"Slide.__init__", f31, _, P_Slideu_initu, fd_Slideu_initu⟩ := ⟨rfl, b31, _, _, _, _, F31, sc_Slideu_initu, rfl, rfl, rfl, Nat.le_of_ble_eq_true rfl, ck_Slideu_initu⟩
  have F32 := fun_mk (st := s_needle_in) l32 c32 k32
  have b32 := F32.binds (ps := P_needle_in) fun _ _ _ _ _ _ us hl => match us, hl with | [_], _ => rfl
  have E32 : EntOk K pt ⟨"needle_in", f32, _, P_needle_in, fd_needle_in⟩ := ⟨rfl, b32, _, _, _, _, F32, sc_needle_in, rfl, rfl, rfl, Nat.le_of_ble_eq_true rfl, ck_needle_in⟩
  have F33 := fun_mk (st := s_number_of) l33 c33 k33
  have b33 := F33.binds (ps := P_number_of) fun _ _ _ _ _ _ us hl => match us, hl with | [_, _, _], _ => rfl
  have E33 : EntOk K pt ⟨"number_of", f33, _, P_number_of, fd_number_of⟩ := ⟨rfl, b33, _, _, _, _, F33, sc_number_of, rfl, rfl, rfl, Nat.le_of_ble_eq_true rfl, ck_number_of⟩
  have F34 := fun_mk (st := s_Come_bears) l34 c34 k34
  have b34 := F34.binds (ps := P_Come_bears) fun _ _ _ _ _ _ us hl => match us, hl with | [_], _ => rfl
  have E34 : EntOk K pt ⟨"Come.bears", f34, _, P_Come_bears, fd_Come_bears⟩ := ⟨rfl, b34, _, _, _, _, F34, sc_Come_bears, rfl, rfl, rfl, Nat.le_of_ble_eq_true rfl, ck_Come_bears⟩
  have F35 := fun_mk (st := s_Come_word) l35 c35 k35
  have b35 := F35.binds (ps := P_Come_word) fun _ _ _ _ _ _ us hl => match us, hl with | [_], _ => rfl
  have E35 : EntOk K pt ⟨"Come.word", f35, _, P_Come_word, fd_Come_word⟩ := ⟨rfl, b35, _, _, _, _, F35, sc_Come_word, rfl, rfl, rfl, Nat.le_of_ble_eq_true rfl, ck_Come_word⟩
  have F36 := fun_mk (st := s_Go_bears) l36 c36 k36
  have b36 := F36.binds (ps := P_Go_bears) fun _ _ _ _ _ _ us hl => match us, hl with | [_], _ => rfl
  have E36 : EntOk K pt ⟨"Go.bears", f36, _, P_Go_bears, fd_Go_bears⟩ := ⟨rfl, b36, _, _, _, _, F36, sc_Go_bears, rfl, rfl, rfl, Nat.le_of_ble_eq_true rfl, ck_Go_bears⟩
  have F37 := fun_mk (st := s_Go_word) l37 c37 k37
  have b37 := F37.binds (ps := P_Go_word) fun _ _ _ _ _ _ us hl => match us, hl with | [_], _ => rfl
  have E37 : EntOk K pt ⟨"Go.word", f37, _, P_Go_word, fd_Go_word⟩ := ⟨rfl, b37, _, _, _, _, F37, sc_Go_word, rfl, rfl, rfl, Nat.le_of_ble_eq_true rfl, ck_Go_word⟩
  have F38 := fun_mk (st := s_Looping_bears) l38 c38 k38
  have b38 := F38.binds (ps := P_Looping_bears) fun _ _ _ _ _ _ us hl => match us, hl with | [_], _ => rfl
  have E38 : EntOk K pt ⟨"Looping.bears", f38, _, P_Looping_bears, fd_Looping_bears⟩ := ⟨rfl, b38, _, _, _, _, F38, sc_Looping_bears, rfl, rfl, rfl, Nat.le_of_ble_eq_true rfl, ck_Looping_bears⟩
  have F39 := fun_mk (st := s_Knit_word) l39 c39 k39
  have b39 := F39.binds (ps := P_Knit_word) fun _ _ _ _ _ _ us hl => match us, hl with | [_], _ => rfl
  have E39 : EntOk K pt ⟨"Knit.word", f39, _, P_Knit_word, fd_Knit_word⟩ := ⟨rfl, b39, _, _, _, _, F39, sc_Knit_word, rfl, rfl, rfl, Nat.le_of_ble_eq_true rfl, ck_Knit_word⟩
  have F40 := fun_mk (st := s_Miss_bears) l40 c40 k40
  have b40 := F40.binds (ps := P_Miss_bears) fun _ _ _ _ _ _ us hl => match us, hl with | [_], _ => rfl
  have E40 : EntOk K pt ⟨"Miss.bears", f40, _, P_Miss_bears, fd_Miss_bears⟩ := ⟨rfl, b40, _, _, _, _, F40, sc_Miss_bears, rfl, rfl, rfl, Nat.le_of_ble_eq_true rfl, ck_Miss_bears⟩
  have F41 := fun_mk (st := s_Miss_word) l41 c41 k41
  have b41 := F41.binds (ps := P_Miss_word) fun _ _ _ _ _ _ us hl => match us, hl with | [_], _ => rfl
  have E41 : EntOk K pt ⟨"Miss.word", f41, _, P_Miss_word, fd_Miss_word⟩ := ⟨rfl, b41, _, _, _, _, F41, sc_Miss_word, rfl, rfl, rfl, Nat.le_of_ble_eq_true rfl, ck_Miss_word⟩
  have F42 := fun_mk (st := s_OfNeedle_bears) l42 c42 k42
  have b42 := F42.binds (ps := P_OfNeedle_bears) fun _ _ _ _ _ _ us hl => match us, hl with | [_], _ => rfl
  have E42 : EntOk K pt ⟨"OfNeedle.bears", f42, _, P_OfNeedle_bears, fd_OfNeedle_bears⟩ := ⟨rfl, b42, _, _, _, _, F42, sc_OfNeedle_bears, rfl, rfl, rfl, Nat.le_of_ble_eq_true rfl, ck_OfNeedle_bears⟩
  have F43 := fun_mk (st := s_Move_word) l43 c43 k43
  have b43 := F43.binds (ps := P_Move_word) fun _ _ _ _ _ _ us hl => match us, hl with | [_], _ => rfl
  have E43 : EntOk K pt ⟨"Move.word", f43, _, P_Move_word, fd_Move_word⟩ := ⟨rfl, b43, _, _, _, _, F43, sc_Move_word, rfl, rfl, rfl, Nat.le_of_ble_eq_true rfl, ck_Move_word⟩
  have F44 := fun_mk (st := s_Off_word) l44 c44 k44
  have b44 := F44.binds (ps := P_Off_word) fun _ _ _ _ _ _ us hl => match us, hl with | [_], _ => rfl
  have E44 : EntOk K pt ⟨"Off.word", f44, _, P_Off_word, fd_Off_word⟩ := ⟨rfl, b44, _, _, _, _, F44, sc_Off_word, rfl, rfl, rfl, Nat.le_of_ble_eq_true rfl, ck_Off_word⟩
  have F45 := fun_mk (st := s_Slide_bears) l45 c45 k45
  have b45 := F45.binds (ps := P_Slide_bears) fun _ _ _ _ _ _ us hl => match us, hl with | [_], _ => rfl
  have E45 : EntOk K pt ⟨"Slide.bears", f45, _, P_Slide_bears, fd_Slide_bears⟩ := ⟨rfl, b45, _, _, _, _, F45, sc_Slide_bears, rfl, rfl, rfl, Nat.le_of_ble_eq_true rfl, ck_Slide_bears⟩
  have F46 := fun_mk (st := s_Slide_word) l46 c46 k46
  have b46 := F46.binds (ps := P_Slide_word) fun _ _ _ _ _ _ us hl => match us, hl with | [_], _ => rfl
  have E46 : EntOk K pt ⟨"Slide.word", f46, _, P_Slide_word, fd_Slide_word⟩ := ⟨rfl, b46, _, _, _, _, F46, sc_Slide_word, rfl, rfl, rfl, Nat.le_of_ble_eq_true rfl, ck_Slide_word⟩
  have F47 := fun_mk (st := s_Tuck_word) l47 c47 k47
  have b47 := F47.binds (ps := P_Tuck_word) fun _ _ _ _ _ _ us hl => match us, hl with | [_], _ => rfl
  have E47 : EntOk K pt ⟨"Tuck.word", f47, _, P_Tuck_word, fd_Tuck_word⟩ := ⟨rfl, b47, _, _, _, _, F47, sc_Tuck_word, rfl, rfl, rfl, Nat.le_of_ble_eq_true rfl, ck_Tuck_word⟩
  have K0 : Cls K C0 := ⟨pg0, hd0, po0, sa0⟩
  have K1 : Cls K C1 := ⟨pg1, hd1, po1, sa1⟩
  have K2 : Cls K C2 := ⟨pg2, hd2, po2, sa2⟩
  have K4 : Cls K C4 := ⟨pg4, hd4, po4, sa4⟩
  have K5 : Cls K C5 := ⟨pg5, hd5, po5, sa5⟩
  have K15 : Cls K C15 := ⟨pg15, hd15, po15, sa15⟩
  have K16 : Cls K C16 := ⟨pg16, hd16, po16, sa16⟩
  have K19 : Cls K C19 := ⟨pg19, hd19, po19, sa19⟩
  have cl0 : clL.lookup "Come" = some C0 := rfl
  have cl1 : clL.lookup "Go" = some C1 := rfl
  have cl2 : clL.lookup "Knit" = some C2 := rfl
  have cl3 : clL.lookup "LoopError" = some C3 := rfl
  have cl4 : clL.lookup "Miss" = some C4 := rfl
  have cl5 : clL.lookup "Move" = some C5 := rfl
  have cl6 : clL.lookup "NoDeed" = some C6 := rfl
  have cl7 : clL.lookup "NoLoop" = some C7 := rfl
  have cl8 : clL.lookup "NoName" = some C8 := rfl
  have cl9 : clL.lookup "NoNeedle" = some C9 := rfl
  have cl10 : clL.lookup "NoPiece" = some C10 := rfl
  have cl11 : clL.lookup "NoRow" = some C11 := rfl
  have cl12 : clL.lookup "NoText" = some C12 := rfl
  have cl13 : clL.lookup "NoWay" = some C13 := rfl
  have cl14 : clL.lookup "NoYarn" = some C14 := rfl
  have cl15 : clL.lookup "Off" = some C15 := rfl
  have cl16 : clL.lookup "Slide" = some C16 := rfl
  have cl17 : clL.lookup "TooFar" = some C17 := rfl
  have cl18 : clL.lookup "TooMany" = some C18 := rfl
  have cl19 : clL.lookup "Tuck" = some C19 := rfl
  have FX : FunD K "__init__" "LoopError.__init__" (defArgs s_LE) (defBody s_LE) (defScope s_LE) [.non] [] fX _ := ⟨⟨_, _, _, _, _, _, _, _, _, _, rfl, lX, cX, .inr ⟨by simp, dT, _, [.none], _, rfl, dX, rfl, .cons rfl .nil⟩, .inl rfl⟩, kX⟩
  have bX1 := FX.binds1 (ps := ["self", "words", "number"]) 2 0 (by simp) rfl fun _ _ _ _ _ _ _ us its h1 h2 => match us, its, h1, h2 with | [_, _], [_], _, _ => ⟨_, rfl, rfl⟩
  have bX2 := FX.binds1 (ps := ["self", "words", "number"]) 3 1 (by simp) rfl fun _ _ _ _ _ _ _ us its h1 h2 => match us, its, h1, h2 with | [_, _, _], [_], _, _ => ⟨_, rfl, rfl⟩
  have BI : ∀ base : Heap, BaseI l.prog w K mg base "LoopError" := fun base => by
    obtain ⟨ds, r1, r2⟩ := bX1
    exact ⟨C3, fX, _, ds, PySem.W.mg_of X G aC3, ⟨bR, bG⟩, bF, kX, le_ok 3 FX sc_LE lb_LE (PySem.W.mg_none_of X G z_ValueError) vX, r1, r2⟩
  have FXT : FunD K "__init__" "NoText.__init__" (defArgs s_NT) (defBody s_NT) (defScope s_NT) [.non] [] fXT _ := ⟨⟨_, _, _, _, _, _, _, _, _, _, rfl, lXT, cXT, .inr ⟨by simp, dTT, _, [.none], _, rfl, dXT, rfl, .cons rfl .nil⟩, .inl rfl⟩, kXT⟩
  have bT1 := FXT.binds1 (ps := ["self", "words", "line"]) 2 0 (by simp) rfl fun _ _ _ _ _ _ _ us its h1 h2 => match us, its, h1, h2 with | [_, _], [_], _, _ => ⟨_, rfl, rfl⟩
  have bT2 := FXT.binds1 (ps := ["self", "words", "line"]) 3 1 (by simp) rfl fun _ _ _ _ _ _ _ us its h1 h2 => match us, its, h1, h2 with | [_, _, _], [_], _, _ => ⟨_, rfl, rfl⟩
  have XO6 : OexC K C6 := ⟨⟨_, _, _, _, _, _, _, _, _, _, _, _, _, _, _, xl6, by rfl⟩, xsa6, xbe6, xty6, xkc6⟩
  have XK6 : XcK K C6 := ⟨xga6, xgg6, xbe6, xhd6, xha6, xg, xt, xhm6, xic6⟩
  have XO12 : OexC K C12 := ⟨⟨_, _, _, _, _, _, _, _, _, _, _, _, _, _, _, xl12, by rfl⟩, xsa12, xbe12, xty12, xkc12⟩
  have XK12 : XcK K C12 := ⟨xga12, xgg12, xbe12, xhd12, xha12, xg, xt, xhm12, xic12⟩
  have Z : Top K mg (fun c => clL.lookup c) tb pt := by
    refine ⟨?glob, ?blt, ?tyn, ?isx, ?xcl, ?rng, ?enm, ?isa, ?fn, ?meth, ?init, ?fld⟩
    case glob =>
      intro x d hx
      have hx : tbG.lookup x = some d := hx
      have hm := mem_lk hx
      simp only [tbG, List.mem_cons, List.not_mem_nil, or_false, Prod.mk.injEq] at hm
      rcases hm with ⟨rfl, rfl⟩ | ⟨rfl, rfl⟩ | ⟨rfl, rfl⟩ | ⟨rfl, rfl⟩ | ⟨rfl, rfl⟩ | ⟨rfl, rfl⟩ | ⟨rfl, rfl⟩ | ⟨rfl, rfl⟩ | ⟨rfl, rfl⟩ | ⟨rfl, rfl⟩ | ⟨rfl, rfl⟩ | ⟨rfl, rfl⟩ | ⟨rfl, rfl⟩ | ⟨rfl, rfl⟩ | ⟨rfl, rfl⟩
      · exact ⟨_, .ref C11, PySem.W.mg_of X G aC11, rfl, fun A H => by unfold VR; exact ⟨C11, cl11, rfl⟩⟩
      · exact ⟨_, .ref C8, PySem.W.mg_of X G aC8, rfl, fun A H => by unfold VR; exact ⟨C8, cl8, rfl⟩⟩
      · exact ⟨_, .ref C10, PySem.W.mg_of X G aC10, rfl, fun A H => by unfold VR; exact ⟨C10, cl10, rfl⟩⟩
      · exact ⟨_, .ref C12, PySem.W.mg_of X G aC12, rfl, fun A H => by unfold VR; exact ⟨C12, cl12, rfl⟩⟩
      · exact ⟨_, .ref C17, PySem.W.mg_of X G aC17, rfl, fun A H => by unfold VR; exact ⟨C17, cl17, rfl⟩⟩
      · exact ⟨_, .ref C18, PySem.W.mg_of X G aC18, rfl, fun A H => by unfold VR; exact ⟨C18, cl18, rfl⟩⟩
      · exact ⟨_, .ref C9, PySem.W.mg_of X G aC9, rfl, fun A H => by unfold VR; exact ⟨C9, cl9, rfl⟩⟩
      · exact ⟨_, .ref C7, PySem.W.mg_of X G aC7, rfl, fun A H => by unfold VR; exact ⟨C7, cl7, rfl⟩⟩
      · exact ⟨_, .ref C13, PySem.W.mg_of X G aC13, rfl, fun A H => by unfold VR; exact ⟨C13, cl13, rfl⟩⟩
      · exact ⟨_, .ref C14, PySem.W.mg_of X G aC14, rfl, fun A H => by unfold VR; exact ⟨C14, cl14, rfl⟩⟩
      · exact ⟨_, .ref C6, PySem.W.mg_of X G aC6, rfl, fun A H => by unfold VR; exact ⟨C6, cl6, rfl⟩⟩
      · exact ⟨_, .int 3, PySem.W.mg_of X G g11, ⟨_, rfl⟩, fun A H => VR.int⟩
      · exact ⟨_, .int 24, PySem.W.mg_of X G g12, ⟨_, rfl⟩, fun A H => VR.int⟩
      · exact ⟨_, .str (mkS [97, 98, 99, 100, 101, 102, 103, 104, 105, 106, 107, 108, 109, 110, 111, 112, 113, 114, 115, 116, 117, 118, 119, 120, 121, 122]), PySem.W.mg_of X G g13, ⟨_, rfl⟩, fun A H => VR.str⟩
      · exact ⟨_, .int 4, PySem.W.mg_of X G g14, ⟨_, rfl⟩, fun A H => VR.int⟩
    case blt =>
      intro b
      cases b
      · exact PySem.W.mg_none_of X G z_len
      · exact PySem.W.mg_none_of X G z_str
      · exact PySem.W.mg_none_of X G z_int
      · exact PySem.W.mg_none_of X G z_abs
      · exact PySem.W.mg_none_of X G z_max
      · exact PySem.W.mg_none_of X G z_min
      · exact PySem.W.mg_none_of X G z_all
      · exact PySem.W.mg_none_of X G z_any
      · exact PySem.W.mg_none_of X G z_list
      · exact PySem.W.mg_none_of X G z_tuple
      · exact PySem.W.mg_none_of X G z_isinstance
    case tyn =>
      intro n hn
      have hn : n = "int" ∨ n = "str" ∨ n = "bool" ∨ n = "tuple" ∨ n = "list" ∨ n = "ValueError" := by simpa [tys] using hn
      rcases hn with rfl | rfl | rfl | rfl | rfl | rfl
      · exact PySem.W.mg_none_of X G z_int
      · exact PySem.W.mg_none_of X G z_str
      · exact PySem.W.mg_none_of X G z_bool
      · exact PySem.W.mg_none_of X G z_tuple
      · exact PySem.W.mg_none_of X G z_list
      · exact PySem.W.mg_none_of X G z_ValueError
    case isx =>
      constructor
      · intro c C b a A hx h1 h2
        have hx : tbXI.lookup (c, C) = some b := hx
        have hm := mem_lk hx
        simp only [tbXI, List.mem_cons, List.not_mem_nil, or_false, Prod.mk.injEq] at hm
        rcases hm with ⟨⟨rfl, rfl⟩, rfl⟩ | ⟨⟨rfl, rfl⟩, rfl⟩ | ⟨⟨rfl, rfl⟩, rfl⟩ | ⟨⟨rfl, rfl⟩, rfl⟩ | ⟨⟨rfl, rfl⟩, rfl⟩ | ⟨⟨rfl, rfl⟩, rfl⟩ | ⟨⟨rfl, rfl⟩, rfl⟩ | ⟨⟨rfl, rfl⟩, rfl⟩ | ⟨⟨rfl, rfl⟩, rfl⟩ | ⟨⟨rfl, rfl⟩, rfl⟩ | ⟨⟨rfl, rfl⟩, rfl⟩ | ⟨⟨rfl, rfl⟩, rfl⟩ | ⟨⟨rfl, rfl⟩, rfl⟩ | ⟨⟨rfl, rfl⟩, rfl⟩ | ⟨⟨rfl, rfl⟩, rfl⟩ | ⟨⟨rfl, rfl⟩, rfl⟩ | ⟨⟨rfl, rfl⟩, rfl⟩ | ⟨⟨rfl, rfl⟩, rfl⟩ | ⟨⟨rfl, rfl⟩, rfl⟩ | ⟨⟨rfl, rfl⟩, rfl⟩ | ⟨⟨rfl, rfl⟩, rfl⟩ | ⟨⟨rfl, rfl⟩, rfl⟩ | ⟨⟨rfl, rfl⟩, rfl⟩ | ⟨⟨rfl, rfl⟩, rfl⟩
        · cases (show some C6 = some a from h1)
          cases (show some C3 = some A from h2)
          exact ⟨kit_t xic3 xty3 xp0, exm_r xbe3 xhd3 xty3 xp0⟩
        · cases (show some C6 = some a from h1)
          cases (show some C6 = some A from h2)
          exact ⟨kit_t xic6 xty6 xp1, exm_r xbe6 xhd6 xty6 xp1⟩
        · cases (show some C6 = some a from h1)
          cases (show some C7 = some A from h2)
          exact ⟨kit_f xic7 xty7 xp2 xne2, exm_r xbe7 xhd7 xty7 xp2⟩
        · cases (show some C6 = some a from h1)
          cases (show some C8 = some A from h2)
          exact ⟨kit_f xic8 xty8 xp3 xne3, exm_r xbe8 xhd8 xty8 xp3⟩
        · cases (show some C6 = some a from h1)
          cases (show some C9 = some A from h2)
          exact ⟨kit_f xic9 xty9 xp4 xne4, exm_r xbe9 xhd9 xty9 xp4⟩
        · cases (show some C6 = some a from h1)
          cases (show some C10 = some A from h2)
          exact ⟨kit_f xic10 xty10 xp5 xne5, exm_r xbe10 xhd10 xty10 xp5⟩
        · cases (show some C6 = some a from h1)
          cases (show some C11 = some A from h2)
          exact ⟨kit_f xic11 xty11 xp6 xne6, exm_r xbe11 xhd11 xty11 xp6⟩
        · cases (show some C6 = some a from h1)
          cases (show some C12 = some A from h2)
          exact ⟨kit_f xic12 xty12 xp7 xne7, exm_r xbe12 xhd12 xty12 xp7⟩
        · cases (show some C6 = some a from h1)
          cases (show some C13 = some A from h2)
          exact ⟨kit_f xic13 xty13 xp8 xne8, exm_r xbe13 xhd13 xty13 xp8⟩
        · cases (show some C6 = some a from h1)
          cases (show some C14 = some A from h2)
          exact ⟨kit_f xic14 xty14 xp9 xne9, exm_r xbe14 xhd14 xty14 xp9⟩
        · cases (show some C6 = some a from h1)
          cases (show some C17 = some A from h2)
          exact ⟨kit_f xic17 xty17 xp10 xne10, exm_r xbe17 xhd17 xty17 xp10⟩
        · cases (show some C6 = some a from h1)
          cases (show some C18 = some A from h2)
          exact ⟨kit_f xic18 xty18 xp11 xne11, exm_r xbe18 xhd18 xty18 xp11⟩
        · cases (show some C12 = some a from h1)
          cases (show some C3 = some A from h2)
          exact ⟨kit_t xic3 xty3 xp12, exm_r xbe3 xhd3 xty3 xp12⟩
        · cases (show some C12 = some a from h1)
          cases (show some C6 = some A from h2)
          exact ⟨kit_f xic6 xty6 xp13 xne13, exm_r xbe6 xhd6 xty6 xp13⟩
        · cases (show some C12 = some a from h1)
          cases (show some C7 = some A from h2)
          exact ⟨kit_f xic7 xty7 xp14 xne14, exm_r xbe7 xhd7 xty7 xp14⟩
        · cases (show some C12 = some a from h1)
          cases (show some C8 = some A from h2)
          exact ⟨kit_f xic8 xty8 xp15 xne15, exm_r xbe8 xhd8 xty8 xp15⟩
        · cases (show some C12 = some a from h1)
          cases (show some C9 = some A from h2)
          exact ⟨kit_f xic9 xty9 xp16 xne16, exm_r xbe9 xhd9 xty9 xp16⟩
        · cases (show some C12 = some a from h1)
          cases (show some C10 = some A from h2)
          exact ⟨kit_f xic10 xty10 xp17 xne17, exm_r xbe10 xhd10 xty10 xp17⟩
        · cases (show some C12 = some a from h1)
          cases (show some C11 = some A from h2)
          exact ⟨kit_f xic11 xty11 xp18 xne18, exm_r xbe11 xhd11 xty11 xp18⟩
        · cases (show some C12 = some a from h1)
          cases (show some C12 = some A from h2)
          exact ⟨kit_t xic12 xty12 xp19, exm_r xbe12 xhd12 xty12 xp19⟩
        · cases (show some C12 = some a from h1)
          cases (show some C13 = some A from h2)
          exact ⟨kit_f xic13 xty13 xp20 xne20, exm_r xbe13 xhd13 xty13 xp20⟩
        · cases (show some C12 = some a from h1)
          cases (show some C14 = some A from h2)
          exact ⟨kit_f xic14 xty14 xp21 xne21, exm_r xbe14 xhd14 xty14 xp21⟩
        · cases (show some C12 = some a from h1)
          cases (show some C17 = some A from h2)
          exact ⟨kit_f xic17 xty17 xp22 xne22, exm_r xbe17 xhd17 xty17 xp22⟩
        · cases (show some C12 = some a from h1)
          cases (show some C18 = some A from h2)
          exact ⟨kit_f xic18 xty18 xp23 xne23, exm_r xbe18 xhd18 xty18 xp23⟩
      · intro c C b a hx h1
        have hx : tbXI.lookup (c, C) = some b := hx
        have hm := mem_lk hx
        simp only [tbXI, List.mem_cons, List.not_mem_nil, or_false, Prod.mk.injEq] at hm
        rcases hm with ⟨⟨rfl, rfl⟩, rfl⟩ | ⟨⟨rfl, rfl⟩, rfl⟩ | ⟨⟨rfl, rfl⟩, rfl⟩ | ⟨⟨rfl, rfl⟩, rfl⟩ | ⟨⟨rfl, rfl⟩, rfl⟩ | ⟨⟨rfl, rfl⟩, rfl⟩ | ⟨⟨rfl, rfl⟩, rfl⟩ | ⟨⟨rfl, rfl⟩, rfl⟩ | ⟨⟨rfl, rfl⟩, rfl⟩ | ⟨⟨rfl, rfl⟩, rfl⟩ | ⟨⟨rfl, rfl⟩, rfl⟩ | ⟨⟨rfl, rfl⟩, rfl⟩ | ⟨⟨rfl, rfl⟩, rfl⟩ | ⟨⟨rfl, rfl⟩, rfl⟩ | ⟨⟨rfl, rfl⟩, rfl⟩ | ⟨⟨rfl, rfl⟩, rfl⟩ | ⟨⟨rfl, rfl⟩, rfl⟩ | ⟨⟨rfl, rfl⟩, rfl⟩ | ⟨⟨rfl, rfl⟩, rfl⟩ | ⟨⟨rfl, rfl⟩, rfl⟩ | ⟨⟨rfl, rfl⟩, rfl⟩ | ⟨⟨rfl, rfl⟩, rfl⟩ | ⟨⟨rfl, rfl⟩, rfl⟩ | ⟨⟨rfl, rfl⟩, rfl⟩
        · cases (show some C6 = some a from h1)
          exact ⟨XK6, kit_ve xve6⟩
        · cases (show some C6 = some a from h1)
          exact ⟨XK6, kit_ve xve6⟩
        · cases (show some C6 = some a from h1)
          exact ⟨XK6, kit_ve xve6⟩
        · cases (show some C6 = some a from h1)
          exact ⟨XK6, kit_ve xve6⟩
        · cases (show some C6 = some a from h1)
          exact ⟨XK6, kit_ve xve6⟩
        · cases (show some C6 = some a from h1)
          exact ⟨XK6, kit_ve xve6⟩
        · cases (show some C6 = some a from h1)
          exact ⟨XK6, kit_ve xve6⟩
        · cases (show some C6 = some a from h1)
          exact ⟨XK6, kit_ve xve6⟩
        · cases (show some C6 = some a from h1)
          exact ⟨XK6, kit_ve xve6⟩
        · cases (show some C6 = some a from h1)
          exact ⟨XK6, kit_ve xve6⟩
        · cases (show some C6 = some a from h1)
          exact ⟨XK6, kit_ve xve6⟩
        · cases (show some C6 = some a from h1)
          exact ⟨XK6, kit_ve xve6⟩
        · cases (show some C12 = some a from h1)
          exact ⟨XK12, kit_ve xve12⟩
        · cases (show some C12 = some a from h1)
          exact ⟨XK12, kit_ve xve12⟩
        · cases (show some C12 = some a from h1)
          exact ⟨XK12, kit_ve xve12⟩
        · cases (show some C12 = some a from h1)
          exact ⟨XK12, kit_ve xve12⟩
        · cases (show some C12 = some a from h1)
          exact ⟨XK12, kit_ve xve12⟩
        · cases (show some C12 = some a from h1)
          exact ⟨XK12, kit_ve xve12⟩
        · cases (show some C12 = some a from h1)
          exact ⟨XK12, kit_ve xve12⟩
        · cases (show some C12 = some a from h1)
          exact ⟨XK12, kit_ve xve12⟩
        · cases (show some C12 = some a from h1)
          exact ⟨XK12, kit_ve xve12⟩
        · cases (show some C12 = some a from h1)
          exact ⟨XK12, kit_ve xve12⟩
        · cases (show some C12 = some a from h1)
          exact ⟨XK12, kit_ve xve12⟩
        · cases (show some C12 = some a from h1)
          exact ⟨XK12, kit_ve xve12⟩
      · intro c f a hx h1
        have hm : (c, f) ∈ tbXF := by simpa using (show tbXF.contains (c, f) = true from hx)
        simp only [tbXF, List.mem_cons, List.not_mem_nil, or_false, Prod.mk.injEq] at hm
        rcases hm with ⟨rfl, rfl⟩ | ⟨rfl, rfl⟩ | ⟨rfl, rfl⟩
        · cases (show some C6 = some a from h1)
          exact ⟨XK6, xnf6⟩
        · cases (show some C12 = some a from h1)
          exact ⟨XK12, xnf12⟩
        · cases (show some C12 = some a from h1)
          exact ⟨XK12, xnf12line⟩
    case xcl =>
      intro c hx
      have hm : c ∈ tbXE := by simpa using (show tbXE.contains c = true from hx)
      simp only [tbXE, List.mem_cons, List.not_mem_nil, or_false] at hm
      rcases hm with rfl
      · exact ⟨C3, cl3, PySem.W.mg_of X G aC3⟩
    case rng => exact PySem.W.mg_none_of X G z_range
    case enm => exact PySem.W.mg_none_of X G z_enumerate
    case isa =>
      exact ⟨fun c C b a A hx => (nomatch (show none = some b from hx)), fun c C b a hx => (nomatch (show none = some b from hx))⟩
    case fn =>
      intro f hf
      have hm : f ∈ tbF := by simpa using (show tbF.contains f = true from hf)
      simp only [tbF, List.mem_cons, List.not_mem_nil, or_false] at hm
      rcases hm with rfl | rfl | rfl | rfl | rfl | rfl | rfl | rfl | rfl | rfl | rfl | rfl | rfl | rfl | rfl | rfl | rfl | rfl | rfl | rfl | rfl | rfl | rfl | rfl
      · exact ⟨_, E0, rfl, PySem.W.mg_of X G a0, k0⟩
      · exact ⟨_, E1, rfl, PySem.W.mg_of X G a1, k1⟩
      · exact ⟨_, E2, rfl, PySem.W.mg_of X G a2, k2⟩
      · exact ⟨_, E3, rfl, PySem.W.mg_of X G a3, k3⟩
      · exact ⟨_, E4, rfl, PySem.W.mg_of X G a4, k4⟩
      · exact ⟨_, E5, rfl, PySem.W.mg_of X G a5, k5⟩
      · exact ⟨_, E6, rfl, PySem.W.mg_of X G a6, k6⟩
      · exact ⟨_, E7, rfl, PySem.W.mg_of X G a7, k7⟩
      · exact ⟨_, E8, rfl, PySem.W.mg_of X G a8, k8⟩
      · exact ⟨_, E9, rfl, PySem.W.mg_of X G a9, k9⟩
      · exact ⟨_, E10, rfl, PySem.W.mg_of X G a10, k10⟩
      · exact ⟨_, E11, rfl, PySem.W.mg_of X G a11, k11⟩
      · exact ⟨_, E12, rfl, PySem.W.mg_of X G a12, k12⟩
      · exact ⟨_, E13, rfl, PySem.W.mg_of X G a13, k13⟩
      · exact ⟨_, E14, rfl, PySem.W.mg_of X G a14, k14⟩
      · exact ⟨_, E15, rfl, PySem.W.mg_of X G a15, k15⟩
      · exact ⟨_, E16, rfl, PySem.W.mg_of X G a16, k16⟩
      · exact ⟨_, E17, rfl, PySem.W.mg_of X G a17, k17⟩
      · exact ⟨_, E18, rfl, PySem.W.mg_of X G a18, k18⟩
      · exact ⟨_, E19, rfl, PySem.W.mg_of X G a19, k19⟩
      · exact ⟨_, E20, rfl, PySem.W.mg_of X G a20, k20⟩
      · exact ⟨_, E21, rfl, PySem.W.mg_of X G a21, k21⟩
      · exact ⟨_, E32, rfl, PySem.W.mg_of X G a32, k32⟩
      · exact ⟨_, E33, rfl, PySem.W.mg_of X G a33, k33⟩
    case meth =>
      intro c m q C hx h1
      have hx : tbM.lookup (c, m) = some q := hx
      have hm := mem_lk hx
      simp only [tbM, List.mem_cons, List.not_mem_nil, or_false, Prod.mk.injEq] at hm
      rcases hm with ⟨⟨rfl, rfl⟩, rfl⟩ | ⟨⟨rfl, rfl⟩, rfl⟩ | ⟨⟨rfl, rfl⟩, rfl⟩ | ⟨⟨rfl, rfl⟩, rfl⟩ | ⟨⟨rfl, rfl⟩, rfl⟩ | ⟨⟨rfl, rfl⟩, rfl⟩ | ⟨⟨rfl, rfl⟩, rfl⟩ | ⟨⟨rfl, rfl⟩, rfl⟩ | ⟨⟨rfl, rfl⟩, rfl⟩ | ⟨⟨rfl, rfl⟩, rfl⟩ | ⟨⟨rfl, rfl⟩, rfl⟩ | ⟨⟨rfl, rfl⟩, rfl⟩ | ⟨⟨rfl, rfl⟩, rfl⟩ | ⟨⟨rfl, rfl⟩, rfl⟩ | ⟨⟨rfl, rfl⟩, rfl⟩ | ⟨⟨rfl, rfl⟩, rfl⟩ | ⟨⟨rfl, rfl⟩, rfl⟩ | ⟨⟨rfl, rfl⟩, rfl⟩ | ⟨⟨rfl, rfl⟩, rfl⟩ | ⟨⟨rfl, rfl⟩, rfl⟩ | ⟨⟨rfl, rfl⟩, rfl⟩ | ⟨⟨rfl, rfl⟩, rfl⟩ | ⟨⟨rfl, rfl⟩, rfl⟩ | ⟨⟨rfl, rfl⟩, rfl⟩ | ⟨⟨rfl, rfl⟩, rfl⟩ | ⟨⟨rfl, rfl⟩, rfl⟩ | ⟨⟨rfl, rfl⟩, rfl⟩ | ⟨⟨rfl, rfl⟩, rfl⟩ | ⟨⟨rfl, rfl⟩, rfl⟩ | ⟨⟨rfl, rfl⟩, rfl⟩ | ⟨⟨rfl, rfl⟩, rfl⟩ | ⟨⟨rfl, rfl⟩, rfl⟩
      · cases (show some C0 = some C from h1)
        exact ⟨K0, _, E34, rfl, m0, i34, k34⟩
      · cases (show some C0 = some C from h1)
        exact ⟨K0, _, E23, rfl, m1, i23, k23⟩
      · cases (show some C0 = some C from h1)
        exact ⟨K0, _, E35, rfl, m2, i35, k35⟩
      · cases (show some C0 = some C from h1)
        exact ⟨K0, _, E24, rfl, m3, i24, k24⟩
      · cases (show some C1 = some C from h1)
        exact ⟨K1, _, E36, rfl, m4, i36, k36⟩
      · cases (show some C1 = some C from h1)
        exact ⟨K1, _, E23, rfl, m5, i23, k23⟩
      · cases (show some C1 = some C from h1)
        exact ⟨K1, _, E37, rfl, m6, i37, k37⟩
      · cases (show some C1 = some C from h1)
        exact ⟨K1, _, E24, rfl, m7, i24, k24⟩
      · cases (show some C2 = some C from h1)
        exact ⟨K2, _, E38, rfl, m8, i38, k38⟩
      · cases (show some C2 = some C from h1)
        exact ⟨K2, _, E23, rfl, m9, i23, k23⟩
      · cases (show some C2 = some C from h1)
        exact ⟨K2, _, E39, rfl, m10, i39, k39⟩
      · cases (show some C2 = some C from h1)
        exact ⟨K2, _, E27, rfl, m11, i27, k27⟩
      · cases (show some C4 = some C from h1)
        exact ⟨K4, _, E40, rfl, m12, i40, k40⟩
      · cases (show some C4 = some C from h1)
        exact ⟨K4, _, E23, rfl, m13, i23, k23⟩
      · cases (show some C4 = some C from h1)
        exact ⟨K4, _, E41, rfl, m14, i41, k41⟩
      · cases (show some C4 = some C from h1)
        exact ⟨K4, _, E24, rfl, m15, i24, k24⟩
      · cases (show some C5 = some C from h1)
        exact ⟨K5, _, E42, rfl, m16, i42, k42⟩
      · cases (show some C5 = some C from h1)
        exact ⟨K5, _, E23, rfl, m17, i23, k23⟩
      · cases (show some C5 = some C from h1)
        exact ⟨K5, _, E43, rfl, m18, i43, k43⟩
      · cases (show some C5 = some C from h1)
        exact ⟨K5, _, E30, rfl, m19, i30, k30⟩
      · cases (show some C15 = some C from h1)
        exact ⟨K15, _, E42, rfl, m20, i42, k42⟩
      · cases (show some C15 = some C from h1)
        exact ⟨K15, _, E23, rfl, m21, i23, k23⟩
      · cases (show some C15 = some C from h1)
        exact ⟨K15, _, E44, rfl, m22, i44, k44⟩
      · cases (show some C15 = some C from h1)
        exact ⟨K15, _, E30, rfl, m23, i30, k30⟩
      · cases (show some C16 = some C from h1)
        exact ⟨K16, _, E45, rfl, m24, i45, k45⟩
      · cases (show some C16 = some C from h1)
        exact ⟨K16, _, E23, rfl, m25, i23, k23⟩
      · cases (show some C16 = some C from h1)
        exact ⟨K16, _, E46, rfl, m26, i46, k46⟩
      · cases (show some C16 = some C from h1)
        exact ⟨K16, _, E24, rfl, m27, i24, k24⟩
      · cases (show some C19 = some C from h1)
        exact ⟨K19, _, E38, rfl, m28, i38, k38⟩
      · cases (show some C19 = some C from h1)
        exact ⟨K19, _, E23, rfl, m29, i23, k23⟩
      · cases (show some C19 = some C from h1)
        exact ⟨K19, _, E47, rfl, m30, i47, k47⟩
      · cases (show some C19 = some C from h1)
        exact ⟨K19, _, E27, rfl, m31, i27, k27⟩
    case init =>
      intro c q hx
      have hx : tbI.lookup c = some q := hx
      have hm := mem_lk hx
      simp only [tbI, List.mem_cons, List.not_mem_nil, or_false, Prod.mk.injEq] at hm
      rcases hm with ⟨rfl, rfl⟩ | ⟨rfl, rfl⟩ | ⟨rfl, rfl⟩ | ⟨rfl, rfl⟩ | ⟨rfl, rfl⟩ | ⟨rfl, rfl⟩ | ⟨rfl, rfl⟩ | ⟨rfl, rfl⟩
      · exact ⟨C0, _, cl0, PySem.W.mg_of X G aC0, E22, rfl, mk0, n0, i22, kc0⟩
      · exact ⟨C1, _, cl1, PySem.W.mg_of X G aC1, E25, rfl, mk1, n1, i25, kc1⟩
      · exact ⟨C2, _, cl2, PySem.W.mg_of X G aC2, E26, rfl, mk2, n2, i26, kc2⟩
      · exact ⟨C4, _, cl4, PySem.W.mg_of X G aC4, E28, rfl, mk4, n3, i28, kc4⟩
      · exact ⟨C5, _, cl5, PySem.W.mg_of X G aC5, E29, rfl, mk5, n4, i29, kc5⟩
      · exact ⟨C15, _, cl15, PySem.W.mg_of X G aC15, E29, rfl, mk15, n5, i29, kc15⟩
      · exact ⟨C16, _, cl16, PySem.W.mg_of X G aC16, E31, rfl, mk16, n6, i31, kc16⟩
      · exact ⟨C19, _, cl19, PySem.W.mg_of X G aC19, E26, rfl, mk19, n7, i26, kc19⟩
    case fld =>
      intro c f C hx h1
      have hm : (c, f) ∈ tbA := by simpa using (show tbA.contains (c, f) = true from hx)
      simp only [tbA, List.mem_cons, List.not_mem_nil, or_false, Prod.mk.injEq] at hm
      rcases hm with ⟨rfl, rfl⟩ | ⟨rfl, rfl⟩ | ⟨rfl, rfl⟩ | ⟨rfl, rfl⟩ | ⟨rfl, rfl⟩ | ⟨rfl, rfl⟩ | ⟨rfl, rfl⟩ | ⟨rfl, rfl⟩ | ⟨rfl, rfl⟩ | ⟨rfl, rfl⟩ | ⟨rfl, rfl⟩ | ⟨rfl, rfl⟩ | ⟨rfl, rfl⟩ | ⟨rfl, rfl⟩ | ⟨rfl, rfl⟩ | ⟨rfl, rfl⟩ | ⟨rfl, rfl⟩ | ⟨rfl, rfl⟩ | ⟨rfl, rfl⟩
      · cases (show some C0 = some C from h1)
        exact ⟨K0, nf0_yarn⟩
      · cases (show some C0 = some C from h1)
        exact ⟨K0, nf0_place⟩
      · cases (show some C1 = some C from h1)
        exact ⟨K1, nf1_yarn⟩
      · cases (show some C2 = some C from h1)
        exact ⟨K2, nf2_way⟩
      · cases (show some C2 = some C from h1)
        exact ⟨K2, nf2_side⟩
      · cases (show some C2 = some C from h1)
        exact ⟨K2, nf2_n⟩
      · cases (show some C2 = some C from h1)
        exact ⟨K2, nf2_yarn⟩
      · cases (show some C4 = some C from h1)
        exact ⟨K4, nf4_way⟩
      · cases (show some C4 = some C from h1)
        exact ⟨K4, nf4_n⟩
      · cases (show some C4 = some C from h1)
        exact ⟨K4, nf4_yarn⟩
      · cases (show some C5 = some C from h1)
        exact ⟨K5, nf5_side⟩
      · cases (show some C5 = some C from h1)
        exact ⟨K5, nf5_n⟩
      · cases (show some C15 = some C from h1)
        exact ⟨K15, nf15_side⟩
      · cases (show some C15 = some C from h1)
        exact ⟨K15, nf15_n⟩
      · cases (show some C16 = some C from h1)
        exact ⟨K16, nf16_k⟩
      · cases (show some C19 = some C from h1)
        exact ⟨K19, nf19_way⟩
      · cases (show some C19 = some C from h1)
        exact ⟨K19, nf19_side⟩
      · cases (show some C19 = some C from h1)
        exact ⟨K19, nf19_n⟩
      · cases (show some C19 = some C from h1)
        exact ⟨K19, nf19_yarn⟩
  have ZX : ∀ base : Heap, ∀ c n, tb.xn c n = true → XMk l.prog w K mg base (fun c => clL.lookup c) tb.xc c n := by
    intro base c n hx
    have hm : (c, n) ∈ tbXN := by simpa using (show tbXN.contains (c, n) = true from hx)
    simp only [tbXN, List.mem_cons, List.not_mem_nil, or_false, Prod.mk.injEq] at hm
    rcases hm with ⟨rfl, rfl⟩ | ⟨rfl, rfl⟩
    · exact xmk_L (by decide) (by funext xs; rfl) FX (le_ok 9 FX sc_LE lb_LE (PySem.W.mg_none_of X G z_ValueError) vX) bX1 bX2 cl6 (PySem.W.mg_of X G aC6) XO6 xin6 tX xnf6
    · exact xmk_T (by decide) (by funext xs; rfl) (nt_ok FXT sc_NT lb_NT (BI base)) bT1 bT2 cl12 (PySem.W.mg_of X G aC12) XO12 xin12 tXT xnf12 xnf12line
  refine ⟨_, fun s v => .of_eq rfl, fun base _ _ => FnOk.imp (top_fn (P := l.prog) (w := w) (base := base) Z (ZX base) 8 _ E0) fun vs H Q E hq => ?_⟩
  exact law_sp LT hq
end Kn

set_option Elab.async false
set_option linter.all false
set_option maxRecDepth 100000
set_option maxHeartbeats 4000000
/-! GD: deeds: what is_yarn .. deed_of compute, of any thing. -/
namespace Kn
open PySem L2
theorem callN_at {q : String} {fd : FD} (n : Nat) {ss : List SV} (h : pt q = some fd) : callN tb pt (n + 1) q ss = runF tb (callN tb pt n) fd ss := by
  show (match pt q with
    | some fd => runF tb (callN tb pt n) fd ss
    | none => .no) = _
  rw [h]
/-- things that may be asked for -/
def okP : D → Bool
  | .str s => decide (s.length ≤ 1000)
  | .non => true
  | .bl _ => true
  | .int _ => true
  | .tup _ => true
  | .lst _ => true
  | .dk _ _ => true
  | _ => false
def yarnD : D → Bool
  | .str s => yarnB s
  | _ => false
def btwD (lo hi : Int) : D → Bool
  | .int i => decide (lo ≤ i) && decide (i ≤ hi)
  | _ => false
def sideD : D → Bool
  | .str s => decide (s = [102]) || decide (s = [98])
  | _ => false
def wayD : D → Bool
  | .str s => decide (s = [43]) || decide (s = [45])
  | _ => false
theorem beqL (a b : List Nat) : (a == b) = decide (a = b) := by
  by_cases h : a = b <;> simp [h]
theorem cqS (a b : List Nat) : cmpD .eq (.str a) (.str b) = some (decide (a = b)) := by simp [cmpD, eqD, flat, eqvD, beqL]
theorem in2 (w a b : List Nat) : cmpD .in_ (.str w) (.tup [.str a, .str b]) = some (decide (w = a) || decide (w = b)) := by
  simp only [cmpD, inD, flat, List.all_cons, List.all_nil, Bool.and_self, if_true, List.any_cons, List.any_nil, Bool.or_false, eqvD]
  have e : ∀ x y : List Nat, (x == y) = decide (y = x) := fun x y => by
    by_cases h : x = y
    · subst h; simp
    · have h2 : ¬ y = x := fun z => h z.symm
      simp [h, h2]
  rw [e, e]
theorem is_between_at (n : Nat) (x : D) (lo hi : Int) (h : okP x = true) : callN tb pt (n + 1) "is_between" [.d x, .d (.int lo), .d (.int hi)] = .ok (.d (.bl (btwD lo hi x))) [none, none, none] := by
  cases x with
  | int i =>
    by_cases h1 : lo ≤ i
    · by_cases h2 : i ≤ hi <;> simp [callN, fd_is_between, runF, modesOk, Kn.exec, ev, evs, thenF, R.bind, R.of, frzs, frz, roOf, outsOf, bltD, isaD, bts, kind, cmpD, btwD, h1, h2]
    · simp [callN, fd_is_between, runF, modesOk, Kn.exec, ev, evs, thenF, R.bind, R.of, frzs, frz, roOf, outsOf, bltD, isaD, bts, kind, cmpD, btwD, h1]
  | ty _ => cases h
  | cls _ => cases h
  | arg _ => cases h
  | ins _ _ _ => cases h
  | exc _ _ _ => cases h
  | _ => simp [callN, fd_is_between, runF, modesOk, Kn.exec, ev, evs, thenF, R.bind, R.of, frzs, frz, roOf, outsOf, bltD, isaD, bts, kind, cmpD, btwD]
theorem yarn_comp {F : String → List SV → Cr} (el : E) (hel : ∀ c : Nat, ∀ z, ev tb F el [z, some (.d (.str [c]))] = .ok (.d (.bl (decide (c ∈ sm)))) [z, some (.d (.str [c]))]) (s : List Nat) (hl : s.length ≤ 4) :
    ev tb F (.comp (.nm 1) (.var 0) el) [some (.d (.str s)), none] = .ok (.lst (s.map fun c => .d (.bl (decide (c ∈ sm))))) [some (.d (.str s)), none] := by
  have key : ev tb F (.comp (.nm 1) (.var 0) el) [some (.d (.str s)), none] = .ok (.lst ((s.map fun c => D.str [c]).map fun d => .d (.bl (match d with | .str [c] => decide (c ∈ sm) | _ => false)))) [some (.d (.str s)), none] := ?_
  · rw [List.map_map] at key
    exact key
  refine comp_ok (B := [some (.d (.str s)), none]) (ρ1 := [some (.d (.str s)), none]) (ds := s.map fun c => D.str [c]) (fun d => .bl (match d with | .str [c] => decide (c ∈ sm) | _ => false)) ?_ ?_ ?_ ?_ fun d hd => ?_
  · simp [evi, ev, R.bind, R.of, itemsD, frz]
  · simp [slotsT, freeAt]
  · simp [lim]; omega
  · simp [slotsT, wipeE]
  · obtain ⟨c, _, rfl⟩ := List.mem_map.mp hd
    refine ⟨_, [some (.d (.str s)), some (.d (.str [c]))], rfl, ?_, ?_⟩
    · exact hel c _
    · simp [slotsT, wipeE]
theorem is_yarn_at (n : Nat) (x : D) (h : okP x = true) : callN tb pt (n + 1) "is_yarn" [.d x] = .ok (.d (.bl (yarnD x))) [none] := by
  cases x with
  | str s =>
    have hs : s.length ≤ 1000 := by simpa [okP] using h
    have h0 : s.length ≤ lim := by simp [lim]; omega
    by_cases h1 : 1 ≤ s.length
    · by_cases h2 : s.length ≤ 4
      · have hc := yarn_comp (F := callN tb pt n) (.cmp .in_ (.var 1) (.glb "SMALL")) (fun c z => by simp [ev, R.bind, frz, cmpD, inD, sm]) s h2
        have h1' : (1 : Int) ≤ (s.length : Int) := by omega
        have h2' : (s.length : Int) ≤ 4 := by omega
        simp only [callN, pt_is_yarn]
        unfold fd_is_yarn
        generalize hE : E.comp (.nm 1) (.var 0) (.cmp .in_ (.var 1) (.glb "SMALL")) = e0 at hc ⊢
        simp [runF, modesOk, Kn.exec, ev, evs, thenF, R.bind, R.of, frzs, frz, roOf, outsOf, bltD, isaD, bts, kind, cmpD, h0, h1', h2', hc, frzs_map, bls_map, yarnD, yarnB, h1, h2, Function.comp_def]
      · have h2' : ¬ (s.length : Int) ≤ 4 := by omega
        have h1' : (1 : Int) ≤ (s.length : Int) := by omega
        simp [callN, fd_is_yarn, runF, modesOk, Kn.exec, ev, evs, thenF, R.bind, R.of, frzs, frz, roOf, outsOf, bltD, isaD, bts, kind, cmpD, h0, h1', h2', yarnD, yarnB, h2]
    · have h1' : ¬ (1 : Int) ≤ (s.length : Int) := by omega
      simp [callN, fd_is_yarn, runF, modesOk, Kn.exec, ev, evs, thenF, R.bind, R.of, frzs, frz, roOf, outsOf, bltD, isaD, bts, kind, cmpD, h0, h1', yarnD, yarnB, h1]
  | ty _ => cases h
  | cls _ => cases h
  | arg _ => cases h
  | ins _ _ _ => cases h
  | exc _ _ _ => cases h
  | _ => simp [callN, fd_is_yarn, runF, modesOk, Kn.exec, ev, evs, thenF, R.bind, R.of, frzs, frz, roOf, outsOf, bltD, isaD, bts, kind, cmpD, yarnD]
theorem is_side_at (n : Nat) (x : D) (h : okP x = true) : callN tb pt (n + 1) "is_side" [.d x] = .ok (.d (.bl (sideD x))) [none] := by
  cases x with
  | str s => simp [callN, fd_is_side, runF, modesOk, Kn.exec, ev, evs, thenF, R.bind, R.of, frzs, frz, roOf, outsOf, bltD, isaD, bts, kind, in2, sideD, lim]
  | ty _ => cases h
  | cls _ => cases h
  | arg _ => cases h
  | ins _ _ _ => cases h
  | exc _ _ _ => cases h
  | _ => simp [callN, fd_is_side, runF, modesOk, Kn.exec, ev, evs, thenF, R.bind, R.of, frzs, frz, roOf, outsOf, bltD, isaD, bts, kind, cmpD, sideD]
theorem is_way_at (n : Nat) (x : D) (h : okP x = true) : callN tb pt (n + 1) "is_way" [.d x] = .ok (.d (.bl (wayD x))) [none] := by
  cases x with
  | str s => simp [callN, fd_is_way, runF, modesOk, Kn.exec, ev, evs, thenF, R.bind, R.of, frzs, frz, roOf, outsOf, bltD, isaD, bts, kind, in2, wayD, lim]
  | ty _ => cases h
  | cls _ => cases h
  | arg _ => cases h
  | ins _ _ _ => cases h
  | exc _ _ _ => cases h
  | _ => simp [callN, fd_is_way, runF, modesOk, Kn.exec, ev, evs, thenF, R.bind, R.of, frzs, frz, roOf, outsOf, bltD, isaD, bts, kind, cmpD, wayD]
theorem is_number_at (n : Nat) (x : D) (h : okP x = true) : callN tb pt (n + 2) "is_number" [.d x] = .ok (.d (.bl (btwD 0 23 x))) [none] := by
  have h := is_between_at n x 0 23 h
  rw [callN_at (n + 1) pt_is_number]
  generalize callN tb pt (n + 1) = F at h ⊢
  simp [fd_is_number, runF, modesOk, Kn.exec, ev, evs, thenF, R.bind, R.of, frzs, frz, roOf, outsOf, binD, ofCr, h]
end Kn

set_option Elab.async false
set_option linter.all false
set_option maxRecDepth 100000
set_option maxHeartbeats 4000000
/-! GM: deeds: made_of, deed_of, told, of any thing (printed by gm.py). -/
namespace Kn
open PySem L2
abbrev Md := Option (String × List String × List D)
def m_come : List D → Md
  | [a, b] => if (yarnD a) && (btwD 0 24 b) then some ("Come", ["yarn", "place"], [a, b]) else none
  | _ => none
def m_go : List D → Md
  | [a] => if (yarnD a) then some ("Go", ["yarn"], [a]) else none
  | _ => none
def m_knit : List D → Md
  | [a, b, c, d] => if (wayD a) && (sideD b) && (btwD 0 23 c) && (yarnD d) then some ("Knit", ["way", "side", "n", "yarn"], [a, b, c, d]) else none
  | _ => none
def m_tuck : List D → Md
  | [a, b, c, d] => if (wayD a) && (sideD b) && (btwD 0 23 c) && (yarnD d) then some ("Tuck", ["way", "side", "n", "yarn"], [a, b, c, d]) else none
  | _ => none
def m_miss : List D → Md
  | [a, b, c] => if (wayD a) && (btwD 0 23 b) && (yarnD c) then some ("Miss", ["way", "n", "yarn"], [a, b, c]) else none
  | _ => none
def m_move : List D → Md
  | [a, b] => if (sideD a) && (btwD 0 23 b) then some ("Move", ["side", "n"], [a, b]) else none
  | _ => none
def m_off : List D → Md
  | [a, b] => if (sideD a) && (btwD 0 23 b) then some ("Off", ["side", "n"], [a, b]) else none
  | _ => none
def m_slide : List D → Md
  | [a] => if (btwD (-3) 3 a) then some ("Slide", ["k"], [a]) else none
  | _ => none
def madeD (w : List Nat) (xs : List D) : Md := if w = [99, 111, 109, 101] then m_come xs else if w = [103, 111] then m_go xs else if w = [107, 110, 105, 116] then m_knit xs else if w = [116, 117, 99, 107] then m_tuck xs else if w = [109, 105, 115, 115] then m_miss xs else if w = [109, 111, 118, 101] then m_move xs else if w = [111, 102, 102] then m_off xs else if w = [115, 108, 105, 100, 101] then m_slide xs else none
def crM : Md → Cr
  | some (c, ns, ys) => .ok (.ins c ns (ys.map .d)) [none, none]
  | none => .ok (.d .non) [none, none]
theorem mi_come (n : Nat) (a b : D) : callN tb pt (n + 1) "Come.__init__" [.ins "Come" [] [], .d a, .d b] = .ok (.d .non) [some (.ins "Come" ["yarn", "place"] [.d a, .d b]), none, none] := by
  simp [callN, fd_Comeu_initu, runF, modesOk, Kn.exec, ev, evs, thenF, R.bind, R.of, frzs, frz, roOf, outsOf, putN]
theorem mi_go (n : Nat) (a : D) : callN tb pt (n + 1) "Go.__init__" [.ins "Go" [] [], .d a] = .ok (.d .non) [some (.ins "Go" ["yarn"] [.d a]), none] := by
  simp [callN, fd_Gou_initu, runF, modesOk, Kn.exec, ev, evs, thenF, R.bind, R.of, frzs, frz, roOf, outsOf, putN]
theorem mi_knit (n : Nat) (a b c d : D) : callN tb pt (n + 1) "Looping.__init__" [.ins "Knit" [] [], .d a, .d b, .d c, .d d] = .ok (.d .non) [some (.ins "Knit" ["way", "side", "n", "yarn"] [.d a, .d b, .d c, .d d]), none, none, none, none] := by
  simp [callN, fd_Loopingu_initu, runF, modesOk, Kn.exec, ev, evs, thenF, R.bind, R.of, frzs, frz, roOf, outsOf, putN]
theorem mi_tuck (n : Nat) (a b c d : D) : callN tb pt (n + 1) "Looping.__init__" [.ins "Tuck" [] [], .d a, .d b, .d c, .d d] = .ok (.d .non) [some (.ins "Tuck" ["way", "side", "n", "yarn"] [.d a, .d b, .d c, .d d]), none, none, none, none] := by
  simp [callN, fd_Loopingu_initu, runF, modesOk, Kn.exec, ev, evs, thenF, R.bind, R.of, frzs, frz, roOf, outsOf, putN]
theorem mi_miss (n : Nat) (a b c : D) : callN tb pt (n + 1) "Miss.__init__" [.ins "Miss" [] [], .d a, .d b, .d c] = .ok (.d .non) [some (.ins "Miss" ["way", "n", "yarn"] [.d a, .d b, .d c]), none, none, none] := by
  simp [callN, fd_Missu_initu, runF, modesOk, Kn.exec, ev, evs, thenF, R.bind, R.of, frzs, frz, roOf, outsOf, putN]
theorem mi_move (n : Nat) (a b : D) : callN tb pt (n + 1) "OfNeedle.__init__" [.ins "Move" [] [], .d a, .d b] = .ok (.d .non) [some (.ins "Move" ["side", "n"] [.d a, .d b]), none, none] := by
  simp [callN, fd_OfNeedleu_initu, runF, modesOk, Kn.exec, ev, evs, thenF, R.bind, R.of, frzs, frz, roOf, outsOf, putN]
theorem mi_off (n : Nat) (a b : D) : callN tb pt (n + 1) "OfNeedle.__init__" [.ins "Off" [] [], .d a, .d b] = .ok (.d .non) [some (.ins "Off" ["side", "n"] [.d a, .d b]), none, none] := by
  simp [callN, fd_OfNeedleu_initu, runF, modesOk, Kn.exec, ev, evs, thenF, R.bind, R.of, frzs, frz, roOf, outsOf, putN]
theorem mi_slide (n : Nat) (a : D) : callN tb pt (n + 1) "Slide.__init__" [.ins "Slide" [] [], .d a] = .ok (.d .non) [some (.ins "Slide" ["k"] [.d a]), none] := by
  simp [callN, fd_Slideu_initu, runF, modesOk, Kn.exec, ev, evs, thenF, R.bind, R.of, frzs, frz, roOf, outsOf, putN]
theorem mk_come (k : Nat) (xs : List D) (hx : ∀ x ∈ xs, okP x = true) : callN tb pt (k + 3) "made_of" [.d (.str [99, 111, 109, 101]), .d (.tup xs)] = crM (m_come xs) := by
  by_cases hl : xs.length = 2
  · obtain ⟨a, b, rfl⟩ : ∃ a b, xs = [a, b] := by
      match xs, hl with
      | [a, b], _ => exact ⟨a, b, rfl⟩
    have i0 := mi_come (k + 1) a b
    have p0 := is_yarn_at (k + 1) a (hx a (by simp))
    have p1 := is_between_at (k + 1) b 0 24 (hx b (by simp))
    rw [callN_at (k + 2) pt_made_of]
    generalize callN tb pt (k + 2) = F at i0 p0 p1 ⊢
    unfold m_come
    cases h0 : yarnD a <;> cases h1 : btwD 0 24 b <;> simp [fd_made_of, i0, p0, p1, h0, h1, crM, runF, modesOk, Kn.exec, ev, evs, thenF, R.bind, R.of, frzs, frz, roOf, outsOf, idxD, atI, ixN, ofMk, ofCr, putN, lim, bltD, cqS, cqI, in2, binD]
  · have hl2 : ¬ ((xs.length : Int) = 2) := by omega
    have e : m_come xs = none := by
      unfold m_come
      split
      · simp at hl
      · rfl
    rw [callN_at (k + 2) pt_made_of, e]
    generalize callN tb pt (k + 2) = F
    simp [fd_made_of, crM, hl2, runF, modesOk, Kn.exec, ev, evs, thenF, R.bind, R.of, frzs, frz, roOf, outsOf, idxD, atI, ixN, ofMk, ofCr, putN, lim, bltD, cqS, cqI, in2, binD]
theorem mk_go (k : Nat) (xs : List D) (hx : ∀ x ∈ xs, okP x = true) : callN tb pt (k + 3) "made_of" [.d (.str [103, 111]), .d (.tup xs)] = crM (m_go xs) := by
  by_cases hl : xs.length = 1
  · obtain ⟨a, rfl⟩ : ∃ a, xs = [a] := by
      match xs, hl with
      | [a], _ => exact ⟨a, rfl⟩
    have i0 := mi_go (k + 1) a
    have p0 := is_yarn_at (k + 1) a (hx a (by simp))
    rw [callN_at (k + 2) pt_made_of]
    generalize callN tb pt (k + 2) = F at i0 p0 ⊢
    unfold m_go
    cases h0 : yarnD a <;> simp [fd_made_of, i0, p0, h0, crM, runF, modesOk, Kn.exec, ev, evs, thenF, R.bind, R.of, frzs, frz, roOf, outsOf, idxD, atI, ixN, ofMk, ofCr, putN, lim, bltD, cqS, cqI, in2, binD]
  · have hl2 : ¬ ((xs.length : Int) = 1) := by omega
    have e : m_go xs = none := by
      unfold m_go
      split
      · simp at hl
      · rfl
    rw [callN_at (k + 2) pt_made_of, e]
    generalize callN tb pt (k + 2) = F
    simp [fd_made_of, crM, hl2, runF, modesOk, Kn.exec, ev, evs, thenF, R.bind, R.of, frzs, frz, roOf, outsOf, idxD, atI, ixN, ofMk, ofCr, putN, lim, bltD, cqS, cqI, in2, binD]
theorem mk_knit (k : Nat) (xs : List D) (hx : ∀ x ∈ xs, okP x = true) : callN tb pt (k + 3) "made_of" [.d (.str [107, 110, 105, 116]), .d (.tup xs)] = crM (m_knit xs) := by
  by_cases hl : xs.length = 4
  · obtain ⟨a, b, c, d, rfl⟩ : ∃ a b c d, xs = [a, b, c, d] := by
      match xs, hl with
      | [a, b, c, d], _ => exact ⟨a, b, c, d, rfl⟩
    have i0 := mi_knit (k + 1) a b c d
    have p0 := is_way_at (k + 1) a (hx a (by simp))
    have p1 := is_side_at (k + 1) b (hx b (by simp))
    have p2 := is_number_at k c (hx c (by simp))
    have p3 := is_yarn_at (k + 1) d (hx d (by simp))
    rw [callN_at (k + 2) pt_made_of]
    generalize callN tb pt (k + 2) = F at i0 p0 p1 p2 p3 ⊢
    unfold m_knit
    cases h0 : wayD a <;> cases h1 : sideD b <;> cases h2 : btwD 0 23 c <;> cases h3 : yarnD d <;> simp [fd_made_of, i0, p0, p1, p2, p3, h0, h1, h2, h3, crM, runF, modesOk, Kn.exec, ev, evs, thenF, R.bind, R.of, frzs, frz, roOf, outsOf, idxD, atI, ixN, ofMk, ofCr, putN, lim, bltD, cqS, cqI, in2, binD]
  · have hl2 : ¬ ((xs.length : Int) = 4) := by omega
    have e : m_knit xs = none := by
      unfold m_knit
      split
      · simp at hl
      · rfl
    rw [callN_at (k + 2) pt_made_of, e]
    generalize callN tb pt (k + 2) = F
    simp [fd_made_of, crM, hl2, runF, modesOk, Kn.exec, ev, evs, thenF, R.bind, R.of, frzs, frz, roOf, outsOf, idxD, atI, ixN, ofMk, ofCr, putN, lim, bltD, cqS, cqI, in2, binD]
theorem mk_tuck (k : Nat) (xs : List D) (hx : ∀ x ∈ xs, okP x = true) : callN tb pt (k + 3) "made_of" [.d (.str [116, 117, 99, 107]), .d (.tup xs)] = crM (m_tuck xs) := by
  by_cases hl : xs.length = 4
  · obtain ⟨a, b, c, d, rfl⟩ : ∃ a b c d, xs = [a, b, c, d] := by
      match xs, hl with
      | [a, b, c, d], _ => exact ⟨a, b, c, d, rfl⟩
    have i0 := mi_tuck (k + 1) a b c d
    have p0 := is_way_at (k + 1) a (hx a (by simp))
    have p1 := is_side_at (k + 1) b (hx b (by simp))
    have p2 := is_number_at k c (hx c (by simp))
    have p3 := is_yarn_at (k + 1) d (hx d (by simp))
    rw [callN_at (k + 2) pt_made_of]
    generalize callN tb pt (k + 2) = F at i0 p0 p1 p2 p3 ⊢
    unfold m_tuck
    cases h0 : wayD a <;> cases h1 : sideD b <;> cases h2 : btwD 0 23 c <;> cases h3 : yarnD d <;> simp [fd_made_of, i0, p0, p1, p2, p3, h0, h1, h2, h3, crM, runF, modesOk, Kn.exec, ev, evs, thenF, R.bind, R.of, frzs, frz, roOf, outsOf, idxD, atI, ixN, ofMk, ofCr, putN, lim, bltD, cqS, cqI, in2, binD]
  · have hl2 : ¬ ((xs.length : Int) = 4) := by omega
    have e : m_tuck xs = none := by
      unfold m_tuck
      split
      · simp at hl
      · rfl
    rw [callN_at (k + 2) pt_made_of, e]
    generalize callN tb pt (k + 2) = F
    simp [fd_made_of, crM, hl2, runF, modesOk, Kn.exec, ev, evs, thenF, R.bind, R.of, frzs, frz, roOf, outsOf, idxD, atI, ixN, ofMk, ofCr, putN, lim, bltD, cqS, cqI, in2, binD]
theorem mk_miss (k : Nat) (xs : List D) (hx : ∀ x ∈ xs, okP x = true) : callN tb pt (k + 3) "made_of" [.d (.str [109, 105, 115, 115]), .d (.tup xs)] = crM (m_miss xs) := by
  by_cases hl : xs.length = 3
  · obtain ⟨a, b, c, rfl⟩ : ∃ a b c, xs = [a, b, c] := by
      match xs, hl with
      | [a, b, c], _ => exact ⟨a, b, c, rfl⟩
    have i0 := mi_miss (k + 1) a b c
    have p0 := is_way_at (k + 1) a (hx a (by simp))
    have p1 := is_number_at k b (hx b (by simp))
    have p2 := is_yarn_at (k + 1) c (hx c (by simp))
    rw [callN_at (k + 2) pt_made_of]
    generalize callN tb pt (k + 2) = F at i0 p0 p1 p2 ⊢
    unfold m_miss
    cases h0 : wayD a <;> cases h1 : btwD 0 23 b <;> cases h2 : yarnD c <;> simp [fd_made_of, i0, p0, p1, p2, h0, h1, h2, crM, runF, modesOk, Kn.exec, ev, evs, thenF, R.bind, R.of, frzs, frz, roOf, outsOf, idxD, atI, ixN, ofMk, ofCr, putN, lim, bltD, cqS, cqI, in2, binD]
  · have hl2 : ¬ ((xs.length : Int) = 3) := by omega
    have e : m_miss xs = none := by
      unfold m_miss
      split
      · simp at hl
      · rfl
    rw [callN_at (k + 2) pt_made_of, e]
    generalize callN tb pt (k + 2) = F
    simp [fd_made_of, crM, hl2, runF, modesOk, Kn.exec, ev, evs, thenF, R.bind, R.of, frzs, frz, roOf, outsOf, idxD, atI, ixN, ofMk, ofCr, putN, lim, bltD, cqS, cqI, in2, binD]
theorem mk_move (k : Nat) (xs : List D) (hx : ∀ x ∈ xs, okP x = true) : callN tb pt (k + 3) "made_of" [.d (.str [109, 111, 118, 101]), .d (.tup xs)] = crM (m_move xs) := by
  by_cases hl : xs.length = 2
  · obtain ⟨a, b, rfl⟩ : ∃ a b, xs = [a, b] := by
      match xs, hl with
      | [a, b], _ => exact ⟨a, b, rfl⟩
    have i0 := mi_move (k + 1) a b
    have p0 := is_side_at (k + 1) a (hx a (by simp))
    have p1 := is_number_at k b (hx b (by simp))
    rw [callN_at (k + 2) pt_made_of]
    generalize callN tb pt (k + 2) = F at i0 p0 p1 ⊢
    unfold m_move
    cases h0 : sideD a <;> cases h1 : btwD 0 23 b <;> simp [fd_made_of, i0, p0, p1, h0, h1, crM, runF, modesOk, Kn.exec, ev, evs, thenF, R.bind, R.of, frzs, frz, roOf, outsOf, idxD, atI, ixN, ofMk, ofCr, putN, lim, bltD, cqS, cqI, in2, binD]
  · have hl2 : ¬ ((xs.length : Int) = 2) := by omega
    have e : m_move xs = none := by
      unfold m_move
      split
      · simp at hl
      · rfl
    rw [callN_at (k + 2) pt_made_of, e]
    generalize callN tb pt (k + 2) = F
    simp [fd_made_of, crM, hl2, runF, modesOk, Kn.exec, ev, evs, thenF, R.bind, R.of, frzs, frz, roOf, outsOf, idxD, atI, ixN, ofMk, ofCr, putN, lim, bltD, cqS, cqI, in2, binD]
theorem mk_off (k : Nat) (xs : List D) (hx : ∀ x ∈ xs, okP x = true) : callN tb pt (k + 3) "made_of" [.d (.str [111, 102, 102]), .d (.tup xs)] = crM (m_off xs) := by
  by_cases hl : xs.length = 2
  · obtain ⟨a, b, rfl⟩ : ∃ a b, xs = [a, b] := by
      match xs, hl with
      | [a, b], _ => exact ⟨a, b, rfl⟩
    have i0 := mi_off (k + 1) a b
    have p0 := is_side_at (k + 1) a (hx a (by simp))
    have p1 := is_number_at k b (hx b (by simp))
    rw [callN_at (k + 2) pt_made_of]
    generalize callN tb pt (k + 2) = F at i0 p0 p1 ⊢
    unfold m_off
    cases h0 : sideD a <;> cases h1 : btwD 0 23 b <;> simp [fd_made_of, i0, p0, p1, h0, h1, crM, runF, modesOk, Kn.exec, ev, evs, thenF, R.bind, R.of, frzs, frz, roOf, outsOf, idxD, atI, ixN, ofMk, ofCr, putN, lim, bltD, cqS, cqI, in2, binD]
  · have hl2 : ¬ ((xs.length : Int) = 2) := by omega
    have e : m_off xs = none := by
      unfold m_off
      split
      · simp at hl
      · rfl
    rw [callN_at (k + 2) pt_made_of, e]
    generalize callN tb pt (k + 2) = F
    simp [fd_made_of, crM, hl2, runF, modesOk, Kn.exec, ev, evs, thenF, R.bind, R.of, frzs, frz, roOf, outsOf, idxD, atI, ixN, ofMk, ofCr, putN, lim, bltD, cqS, cqI, in2, binD]
theorem mk_slide (k : Nat) (xs : List D) (hx : ∀ x ∈ xs, okP x = true) : callN tb pt (k + 3) "made_of" [.d (.str [115, 108, 105, 100, 101]), .d (.tup xs)] = crM (m_slide xs) := by
  by_cases hl : xs.length = 1
  · obtain ⟨a, rfl⟩ : ∃ a, xs = [a] := by
      match xs, hl with
      | [a], _ => exact ⟨a, rfl⟩
    have i0 := mi_slide (k + 1) a
    have p0 := is_between_at (k + 1) a (-3) 3 (hx a (by simp))
    rw [callN_at (k + 2) pt_made_of]
    generalize callN tb pt (k + 2) = F at i0 p0 ⊢
    unfold m_slide
    cases h0 : btwD (-3) 3 a <;> simp [fd_made_of, i0, p0, h0, crM, runF, modesOk, Kn.exec, ev, evs, thenF, R.bind, R.of, frzs, frz, roOf, outsOf, idxD, atI, ixN, ofMk, ofCr, putN, lim, bltD, cqS, cqI, in2, binD]
  · have hl2 : ¬ ((xs.length : Int) = 1) := by omega
    have e : m_slide xs = none := by
      unfold m_slide
      split
      · simp at hl
      · rfl
    rw [callN_at (k + 2) pt_made_of, e]
    generalize callN tb pt (k + 2) = F
    simp [fd_made_of, crM, hl2, runF, modesOk, Kn.exec, ev, evs, thenF, R.bind, R.of, frzs, frz, roOf, outsOf, idxD, atI, ixN, ofMk, ofCr, putN, lim, bltD, cqS, cqI, in2, binD]
theorem made_of_at (k : Nat) (w : List Nat) (xs : List D) (hx : ∀ x ∈ xs, okP x = true) : callN tb pt (k + 3) "made_of" [.d (.str w), .d (.tup xs)] = crM (madeD w xs) := by
  unfold madeD
  by_cases h0 : w = [99, 111, 109, 101]
  · subst h0
    simpa using mk_come k xs hx
  by_cases h1 : w = [103, 111]
  · subst h1
    simpa using mk_go k xs hx
  by_cases h2 : w = [107, 110, 105, 116]
  · subst h2
    simpa using mk_knit k xs hx
  by_cases h3 : w = [116, 117, 99, 107]
  · subst h3
    simpa using mk_tuck k xs hx
  by_cases h4 : w = [109, 105, 115, 115]
  · subst h4
    simpa using mk_miss k xs hx
  by_cases h5 : w = [109, 111, 118, 101]
  · subst h5
    simpa using mk_move k xs hx
  by_cases h6 : w = [111, 102, 102]
  · subst h6
    simpa using mk_off k xs hx
  by_cases h7 : w = [115, 108, 105, 100, 101]
  · subst h7
    simpa using mk_slide k xs hx
  simp only [h0, h1, h2, h3, h4, h5, h6, h7, if_false]
  rw [callN_at (k + 2) pt_made_of]
  generalize callN tb pt (k + 2) = F
  simp [fd_made_of, crM, h0, h1, h2, h3, h4, h5, h6, h7, runF, modesOk, Kn.exec, ev, evs, thenF, R.bind, R.of, frzs, frz, roOf, outsOf, idxD, atI, ixN, ofMk, ofCr, putN, lim, bltD, cqS, cqI, in2, binD]
def deedM : D → Md
  | .tup (.str w :: b :: r) => madeD w (b :: r)
  | _ => none
/-- a thing that deed_of may be asked for -/
def okT : D → Bool
  | .tup xs => xs.all okP && decide (xs.length ≤ 1000)
  | x => okP x
def crD : Md → Cr
  | some (c, ns, ys) => .ok (.d (.ins c ns ys)) [none]
  | none => .exc ⟨"NoDeed", ["number"], [.int (-1)]⟩
theorem cut1 (x : D) (xs : List D) : slcD (.tup (x :: xs)) (some 1) none = some (.d (.tup xs)) := by simp [slcD, cutL, HT.sIx]
def dfB : S := (match fd_deed_of.body with | .cons _ r => r | s => s)
/-- behind the look for a made deed -/
theorem deed_end (k : Nat) (x y : D) (z : Md) (hy : y = (match z with | some (c, ns, ys) => .ins c ns ys | none => .non)) (sv : SV) (hs : frz sv = y)
    (h : Kn.exec tb (callN tb pt k) [] (nthS fd_deed_of.body 1) [some (.d x), some (.d .non)] = .nx [some (.d x), some sv]) : callN tb pt (k + 1) "deed_of" [.d x] = crD z := by
  rw [callN_at k pt_deed_of]
  generalize callN tb pt k = F at h ⊢
  obtain ⟨s1, hs1, hb⟩ : ∃ s1, s1 = nthS fd_deed_of.body 1 ∧ fd_deed_of.body = .cons (.set 1 .non) (.cons s1 (.cons (.ite (.cmp .is_ (.var 1) .non) (.cons (.raise "NoDeed" (.cons (.str [110, 111, 32, 100, 101, 101, 100]) .nil)) .nil) .nil) (.cons (.ret (.var 1)) .nil))) := ⟨_, rfl, rfl⟩
  rw [← hs1] at h
  unfold runF
  rw [if_pos ⟨rfl, by decide, rfl, rfl⟩, hb]
  have hr : roOf fd_deed_of.io 0 = [] := rfl
  have hio : ∀ ρ, outsOf fd_deed_of.io (some (.d x) :: ρ) = [none] := fun ρ => rfl
  have hρ : [SV.d x].map some ++ List.replicate (fd_deed_of.n - fd_deed_of.np) none = [some (.d x), none] := rfl
  rw [hr, hρ]
  cases z with
  | none =>
    simp only at hy
    subst hy
    cases sv with
    | d w =>
      simp only [frz] at hs
      subst hs
      simp [Kn.exec, h, ev, evs, R.bind, thenF, frz, frzs, cmpD, isN, lenE, xcL, crD, hio]
    | lst _ => simp only [frz] at hs; cases hs
    | ins _ _ _ => simp only [frz] at hs; cases hs
    | dk _ _ => simp only [frz] at hs; cases hs
  | some z =>
    obtain ⟨c, ns, ys⟩ := z
    simp only at hy
    subst hy
    cases sv with
    | d w =>
      simp only [frz] at hs
      subst hs
      simp [Kn.exec, h, ev, evs, R.bind, thenF, frz, frzs, cmpD, isN, crD, hio]
    | lst _ => simp only [frz] at hs; cases hs
    | ins c2 ns2 xs2 =>
      simp only [frz] at hs
      cases hs
      simp [Kn.exec, h, ev, evs, R.bind, thenF, frz, frzs, cmpD, isN, crD, hio]
    | dk _ _ => simp only [frz] at hs; cases hs
theorem deed_of_at (k : Nat) (x : D) (h : okT x = true) : callN tb pt (k + 4) "deed_of" [.d x] = crD (deedM x) := by
  have no : ∀ x : D, (isaD tb x (.ty "tuple") = some false) → callN tb pt (k + 4) "deed_of" [.d x] = crD none := fun x hx => by
    refine deed_end (k + 3) x .non none rfl (.d .non) rfl ?_
    generalize callN tb pt (k + 3) = F
    simp [fd_deed_of, nthS, hx, Kn.exec, ev, evs, thenF, R.bind, R.of, frzs, frz, bltD]
  cases x with
  | tup xs =>
    have hx : ∀ x ∈ xs, okP x = true := by
      have h1 : (xs.all okP && decide (xs.length ≤ 1000)) = true := h
      rw [Bool.and_eq_true] at h1
      exact List.all_eq_true.mp h1.1
    match xs with
    | [] =>
      refine deed_end (k + 3) _ .non none rfl (.d .non) rfl ?_
      generalize callN tb pt (k + 3) = F
      simp [fd_deed_of, nthS, Kn.exec, ev, evs, thenF, R.bind, R.of, frzs, frz, bltD, isaD, bts, kind, cmpD]
    | [a] =>
      have e : deedM (.tup [a]) = none := by cases a <;> rfl
      rw [e]
      refine deed_end (k + 3) _ .non none rfl (.d .non) rfl ?_
      generalize callN tb pt (k + 3) = F
      simp [fd_deed_of, nthS, Kn.exec, ev, evs, thenF, R.bind, R.of, frzs, frz, bltD, isaD, bts, kind, cmpD]
    | a :: b :: r =>
      have hl : (1 : Int) < (r.length : Int) + 1 + 1 := by omega
      have ha := hx a List.mem_cons_self
      have hi : idxD (.tup (a :: b :: r)) (.int 0) = some a := atI_nat (j := 0) rfl
      cases a with
      | str w =>
        have m0 := made_of_at k w (b :: r) fun x hx2 => hx x (List.mem_cons_of_mem _ hx2)
        have hfr : ∀ z : Md, ∃ sv o, crM z = .ok sv o ∧ frz sv = (match z with | some (c, ns, ys) => .ins c ns ys | none => .non) := fun z => by
          match z with
          | none => exact ⟨_, _, rfl, rfl⟩
          | some (c, ns, ys) => exact ⟨_, _, rfl, by simp only [frz, frzs_dd]⟩
        obtain ⟨sv, o, e1, e2⟩ := hfr (madeD w (b :: r))
        refine deed_end (k + 3) _ _ (deedM (.tup (.str w :: b :: r))) rfl sv e2 ?_
        rw [e1] at m0
        generalize callN tb pt (k + 3) = F at m0 ⊢
        simp [fd_deed_of, nthS, m0, hi, cut1, Kn.exec, ev, evs, thenF, R.bind, R.of, frzs, frz, bltD, isaD, bts, kind, cmpD, hl, ofCr]
      | ty _ => cases ha
      | cls _ => cases ha
      | arg _ => cases ha
      | ins _ _ _ => cases ha
      | exc _ _ _ => cases ha
      | _ =>
        refine deed_end (k + 3) _ .non none rfl (.d .non) rfl ?_
        generalize callN tb pt (k + 3) = F
        simp [fd_deed_of, nthS, hi, Kn.exec, ev, evs, thenF, R.bind, R.of, frzs, frz, bltD, isaD, bts, kind, cmpD, hl]
  | ty _ => cases h
  | cls _ => cases h
  | arg _ => cases h
  | ins _ _ _ => cases h
  | exc _ _ _ => cases h
  | _ => exact no _ (by simp [isaD, bts, kind])
theorem gw_come (n : Nat) (xs : List D) (ns : List String) : callN tb pt (n + 1) "Come.word" [.d (.ins "Come" ns xs)] = .ok (.d (.str [99, 111, 109, 101])) [none] := by
  simp [callN, fd_Come_word, runF, modesOk, Kn.exec, ev, evs, thenF, R.bind, roOf, outsOf]
theorem gb_come (n : Nat) (a b : D) : callN tb pt (n + 1) "Come.bears" [.d (.ins "Come" ["yarn", "place"] [a, b])] = .ok (.d (.tup [a, b])) [none] := by
  simp [callN, fd_Come_bears, runF, modesOk, Kn.exec, ev, evs, thenF, R.bind, R.of, frzs, frz, roOf, outsOf, fldD, fieldD, lim]
theorem gt_come (n : Nat) (a b : D) : callN tb pt (n + 2) "Deed.told" [.d (.ins "Come" ["yarn", "place"] [a, b])] = .ok (.d (.tup [.str [99, 111, 109, 101], a, b])) [none] := by
  have a0 := gw_come n [a, b] ["yarn", "place"]
  have a1 := gb_come n a b
  rw [callN_at (n + 1) pt_Deed_told]
  generalize callN tb pt (n + 1) = F at a0 a1 ⊢
  simp [fd_Deed_told, a0, a1, runF, modesOk, Kn.exec, ev, evs, thenF, R.bind, R.of, frzs, frz, roOf, outsOf, ofCr, binD, lim]
theorem gw_go (n : Nat) (xs : List D) (ns : List String) : callN tb pt (n + 1) "Go.word" [.d (.ins "Go" ns xs)] = .ok (.d (.str [103, 111])) [none] := by
  simp [callN, fd_Go_word, runF, modesOk, Kn.exec, ev, evs, thenF, R.bind, roOf, outsOf]
theorem gb_go (n : Nat) (a : D) : callN tb pt (n + 1) "Go.bears" [.d (.ins "Go" ["yarn"] [a])] = .ok (.d (.tup [a])) [none] := by
  simp [callN, fd_Go_bears, runF, modesOk, Kn.exec, ev, evs, thenF, R.bind, R.of, frzs, frz, roOf, outsOf, fldD, fieldD, lim]
theorem gt_go (n : Nat) (a : D) : callN tb pt (n + 2) "Deed.told" [.d (.ins "Go" ["yarn"] [a])] = .ok (.d (.tup [.str [103, 111], a])) [none] := by
  have a0 := gw_go n [a] ["yarn"]
  have a1 := gb_go n a
  rw [callN_at (n + 1) pt_Deed_told]
  generalize callN tb pt (n + 1) = F at a0 a1 ⊢
  simp [fd_Deed_told, a0, a1, runF, modesOk, Kn.exec, ev, evs, thenF, R.bind, R.of, frzs, frz, roOf, outsOf, ofCr, binD, lim]
theorem gw_knit (n : Nat) (xs : List D) (ns : List String) : callN tb pt (n + 1) "Knit.word" [.d (.ins "Knit" ns xs)] = .ok (.d (.str [107, 110, 105, 116])) [none] := by
  simp [callN, fd_Knit_word, runF, modesOk, Kn.exec, ev, evs, thenF, R.bind, roOf, outsOf]
theorem gb_knit (n : Nat) (a b c d : D) : callN tb pt (n + 1) "Looping.bears" [.d (.ins "Knit" ["way", "side", "n", "yarn"] [a, b, c, d])] = .ok (.d (.tup [a, b, c, d])) [none] := by
  simp [callN, fd_Looping_bears, runF, modesOk, Kn.exec, ev, evs, thenF, R.bind, R.of, frzs, frz, roOf, outsOf, fldD, fieldD, lim]
theorem gt_knit (n : Nat) (a b c d : D) : callN tb pt (n + 2) "Deed.told" [.d (.ins "Knit" ["way", "side", "n", "yarn"] [a, b, c, d])] = .ok (.d (.tup [.str [107, 110, 105, 116], a, b, c, d])) [none] := by
  have a0 := gw_knit n [a, b, c, d] ["way", "side", "n", "yarn"]
  have a1 := gb_knit n a b c d
  rw [callN_at (n + 1) pt_Deed_told]
  generalize callN tb pt (n + 1) = F at a0 a1 ⊢
  simp [fd_Deed_told, a0, a1, runF, modesOk, Kn.exec, ev, evs, thenF, R.bind, R.of, frzs, frz, roOf, outsOf, ofCr, binD, lim]
theorem gw_tuck (n : Nat) (xs : List D) (ns : List String) : callN tb pt (n + 1) "Tuck.word" [.d (.ins "Tuck" ns xs)] = .ok (.d (.str [116, 117, 99, 107])) [none] := by
  simp [callN, fd_Tuck_word, runF, modesOk, Kn.exec, ev, evs, thenF, R.bind, roOf, outsOf]
theorem gb_tuck (n : Nat) (a b c d : D) : callN tb pt (n + 1) "Looping.bears" [.d (.ins "Tuck" ["way", "side", "n", "yarn"] [a, b, c, d])] = .ok (.d (.tup [a, b, c, d])) [none] := by
  simp [callN, fd_Looping_bears, runF, modesOk, Kn.exec, ev, evs, thenF, R.bind, R.of, frzs, frz, roOf, outsOf, fldD, fieldD, lim]
theorem gt_tuck (n : Nat) (a b c d : D) : callN tb pt (n + 2) "Deed.told" [.d (.ins "Tuck" ["way", "side", "n", "yarn"] [a, b, c, d])] = .ok (.d (.tup [.str [116, 117, 99, 107], a, b, c, d])) [none] := by
  have a0 := gw_tuck n [a, b, c, d] ["way", "side", "n", "yarn"]
  have a1 := gb_tuck n a b c d
  rw [callN_at (n + 1) pt_Deed_told]
  generalize callN tb pt (n + 1) = F at a0 a1 ⊢
  simp [fd_Deed_told, a0, a1, runF, modesOk, Kn.exec, ev, evs, thenF, R.bind, R.of, frzs, frz, roOf, outsOf, ofCr, binD, lim]
theorem gw_miss (n : Nat) (xs : List D) (ns : List String) : callN tb pt (n + 1) "Miss.word" [.d (.ins "Miss" ns xs)] = .ok (.d (.str [109, 105, 115, 115])) [none] := by
  simp [callN, fd_Miss_word, runF, modesOk, Kn.exec, ev, evs, thenF, R.bind, roOf, outsOf]
theorem gb_miss (n : Nat) (a b c : D) : callN tb pt (n + 1) "Miss.bears" [.d (.ins "Miss" ["way", "n", "yarn"] [a, b, c])] = .ok (.d (.tup [a, b, c])) [none] := by
  simp [callN, fd_Miss_bears, runF, modesOk, Kn.exec, ev, evs, thenF, R.bind, R.of, frzs, frz, roOf, outsOf, fldD, fieldD, lim]
theorem gt_miss (n : Nat) (a b c : D) : callN tb pt (n + 2) "Deed.told" [.d (.ins "Miss" ["way", "n", "yarn"] [a, b, c])] = .ok (.d (.tup [.str [109, 105, 115, 115], a, b, c])) [none] := by
  have a0 := gw_miss n [a, b, c] ["way", "n", "yarn"]
  have a1 := gb_miss n a b c
  rw [callN_at (n + 1) pt_Deed_told]
  generalize callN tb pt (n + 1) = F at a0 a1 ⊢
  simp [fd_Deed_told, a0, a1, runF, modesOk, Kn.exec, ev, evs, thenF, R.bind, R.of, frzs, frz, roOf, outsOf, ofCr, binD, lim]
theorem gw_move (n : Nat) (xs : List D) (ns : List String) : callN tb pt (n + 1) "Move.word" [.d (.ins "Move" ns xs)] = .ok (.d (.str [109, 111, 118, 101])) [none] := by
  simp [callN, fd_Move_word, runF, modesOk, Kn.exec, ev, evs, thenF, R.bind, roOf, outsOf]
theorem gb_move (n : Nat) (a b : D) : callN tb pt (n + 1) "OfNeedle.bears" [.d (.ins "Move" ["side", "n"] [a, b])] = .ok (.d (.tup [a, b])) [none] := by
  simp [callN, fd_OfNeedle_bears, runF, modesOk, Kn.exec, ev, evs, thenF, R.bind, R.of, frzs, frz, roOf, outsOf, fldD, fieldD, lim]
theorem gt_move (n : Nat) (a b : D) : callN tb pt (n + 2) "Deed.told" [.d (.ins "Move" ["side", "n"] [a, b])] = .ok (.d (.tup [.str [109, 111, 118, 101], a, b])) [none] := by
  have a0 := gw_move n [a, b] ["side", "n"]
  have a1 := gb_move n a b
  rw [callN_at (n + 1) pt_Deed_told]
  generalize callN tb pt (n + 1) = F at a0 a1 ⊢
  simp [fd_Deed_told, a0, a1, runF, modesOk, Kn.exec, ev, evs, thenF, R.bind, R.of, frzs, frz, roOf, outsOf, ofCr, binD, lim]
theorem gw_off (n : Nat) (xs : List D) (ns : List String) : callN tb pt (n + 1) "Off.word" [.d (.ins "Off" ns xs)] = .ok (.d (.str [111, 102, 102])) [none] := by
  simp [callN, fd_Off_word, runF, modesOk, Kn.exec, ev, evs, thenF, R.bind, roOf, outsOf]
theorem gb_off (n : Nat) (a b : D) : callN tb pt (n + 1) "OfNeedle.bears" [.d (.ins "Off" ["side", "n"] [a, b])] = .ok (.d (.tup [a, b])) [none] := by
  simp [callN, fd_OfNeedle_bears, runF, modesOk, Kn.exec, ev, evs, thenF, R.bind, R.of, frzs, frz, roOf, outsOf, fldD, fieldD, lim]
theorem gt_off (n : Nat) (a b : D) : callN tb pt (n + 2) "Deed.told" [.d (.ins "Off" ["side", "n"] [a, b])] = .ok (.d (.tup [.str [111, 102, 102], a, b])) [none] := by
  have a0 := gw_off n [a, b] ["side", "n"]
  have a1 := gb_off n a b
  rw [callN_at (n + 1) pt_Deed_told]
  generalize callN tb pt (n + 1) = F at a0 a1 ⊢
  simp [fd_Deed_told, a0, a1, runF, modesOk, Kn.exec, ev, evs, thenF, R.bind, R.of, frzs, frz, roOf, outsOf, ofCr, binD, lim]
theorem gw_slide (n : Nat) (xs : List D) (ns : List String) : callN tb pt (n + 1) "Slide.word" [.d (.ins "Slide" ns xs)] = .ok (.d (.str [115, 108, 105, 100, 101])) [none] := by
  simp [callN, fd_Slide_word, runF, modesOk, Kn.exec, ev, evs, thenF, R.bind, roOf, outsOf]
theorem gb_slide (n : Nat) (a : D) : callN tb pt (n + 1) "Slide.bears" [.d (.ins "Slide" ["k"] [a])] = .ok (.d (.tup [a])) [none] := by
  simp [callN, fd_Slide_bears, runF, modesOk, Kn.exec, ev, evs, thenF, R.bind, R.of, frzs, frz, roOf, outsOf, fldD, fieldD, lim]
theorem gt_slide (n : Nat) (a : D) : callN tb pt (n + 2) "Deed.told" [.d (.ins "Slide" ["k"] [a])] = .ok (.d (.tup [.str [115, 108, 105, 100, 101], a])) [none] := by
  have a0 := gw_slide n [a] ["k"]
  have a1 := gb_slide n a
  rw [callN_at (n + 1) pt_Deed_told]
  generalize callN tb pt (n + 1) = F at a0 a1 ⊢
  simp [fd_Deed_told, a0, a1, runF, modesOk, Kn.exec, ev, evs, thenF, R.bind, R.of, frzs, frz, roOf, outsOf, ofCr, binD, lim]
/-- what a made deed is -/
inductive MadeOf : D → String → List String → List D → Prop
  | come (a b : D) (h : ((yarnD a) && (btwD 0 24 b)) = true) : MadeOf (.tup [.str [99, 111, 109, 101], a, b]) "Come" ["yarn", "place"] [a, b]
  | go (a : D) (h : ((yarnD a)) = true) : MadeOf (.tup [.str [103, 111], a]) "Go" ["yarn"] [a]
  | knit (a b c d : D) (h : ((wayD a) && (sideD b) && (btwD 0 23 c) && (yarnD d)) = true) : MadeOf (.tup [.str [107, 110, 105, 116], a, b, c, d]) "Knit" ["way", "side", "n", "yarn"] [a, b, c, d]
  | tuck (a b c d : D) (h : ((wayD a) && (sideD b) && (btwD 0 23 c) && (yarnD d)) = true) : MadeOf (.tup [.str [116, 117, 99, 107], a, b, c, d]) "Tuck" ["way", "side", "n", "yarn"] [a, b, c, d]
  | miss (a b c : D) (h : ((wayD a) && (btwD 0 23 b) && (yarnD c)) = true) : MadeOf (.tup [.str [109, 105, 115, 115], a, b, c]) "Miss" ["way", "n", "yarn"] [a, b, c]
  | move (a b : D) (h : ((sideD a) && (btwD 0 23 b)) = true) : MadeOf (.tup [.str [109, 111, 118, 101], a, b]) "Move" ["side", "n"] [a, b]
  | off (a b : D) (h : ((sideD a) && (btwD 0 23 b)) = true) : MadeOf (.tup [.str [111, 102, 102], a, b]) "Off" ["side", "n"] [a, b]
  | slide (a : D) (h : ((btwD (-3) 3 a)) = true) : MadeOf (.tup [.str [115, 108, 105, 100, 101], a]) "Slide" ["k"] [a]
theorem made_inv {x : D} {c : String} {ns : List String} {ys : List D} (h : deedM x = some (c, ns, ys)) : MadeOf x c ns ys := by
  unfold deedM at h
  split at h
  · rename_i w b r
    unfold madeD at h
    by_cases h0 : w = [99, 111, 109, 101]
    · subst h0
      simp at h
      unfold m_come at h
      split at h
      · split at h
        · rename_i e hc
          cases e
          cases h
          exact .come _ _ hc
        · cases h
      · cases h
    by_cases h1 : w = [103, 111]
    · subst h1
      simp at h
      unfold m_go at h
      split at h
      · split at h
        · rename_i e hc
          cases e
          cases h
          exact .go _ hc
        · cases h
      · cases h
    by_cases h2 : w = [107, 110, 105, 116]
    · subst h2
      simp at h
      unfold m_knit at h
      split at h
      · split at h
        · rename_i e hc
          cases e
          cases h
          exact .knit _ _ _ _ hc
        · cases h
      · cases h
    by_cases h3 : w = [116, 117, 99, 107]
    · subst h3
      simp at h
      unfold m_tuck at h
      split at h
      · split at h
        · rename_i e hc
          cases e
          cases h
          exact .tuck _ _ _ _ hc
        · cases h
      · cases h
    by_cases h4 : w = [109, 105, 115, 115]
    · subst h4
      simp at h
      unfold m_miss at h
      split at h
      · split at h
        · rename_i e hc
          cases e
          cases h
          exact .miss _ _ _ hc
        · cases h
      · cases h
    by_cases h5 : w = [109, 111, 118, 101]
    · subst h5
      simp at h
      unfold m_move at h
      split at h
      · split at h
        · rename_i e hc
          cases e
          cases h
          exact .move _ _ hc
        · cases h
      · cases h
    by_cases h6 : w = [111, 102, 102]
    · subst h6
      simp at h
      unfold m_off at h
      split at h
      · split at h
        · rename_i e hc
          cases e
          cases h
          exact .off _ _ hc
        · cases h
      · cases h
    by_cases h7 : w = [115, 108, 105, 100, 101]
    · subst h7
      simp at h
      unfold m_slide at h
      split at h
      · split at h
        · rename_i e hc
          cases e
          cases h
          exact .slide _ hc
        · cases h
      · cases h
    simp [h0, h1, h2, h3, h4, h5, h6, h7] at h
  · cases h
theorem told_at (n : Nat) {x : D} {c : String} {ns : List String} {ys : List D} (h : MadeOf x c ns ys) : tb.meth c "told" = some "Deed.told" ∧ "told" ∉ ns ∧ callN tb pt (n + 2) "Deed.told" [.d (.ins c ns ys)] = .ok (.d x) [none] := by
  cases h with
  | come a b h => exact ⟨rfl, by simp, gt_come n a b⟩
  | go a h => exact ⟨rfl, by simp, gt_go n a⟩
  | knit a b c d h => exact ⟨rfl, by simp, gt_knit n a b c d⟩
  | tuck a b c d h => exact ⟨rfl, by simp, gt_tuck n a b c d⟩
  | miss a b c h => exact ⟨rfl, by simp, gt_miss n a b c⟩
  | move a b h => exact ⟨rfl, by simp, gt_move n a b⟩
  | off a b h => exact ⟨rfl, by simp, gt_off n a b⟩
  | slide a h => exact ⟨rfl, by simp, gt_slide n a⟩
end Kn

set_option Elab.async false
set_option linter.all false
set_option maxRecDepth 100000
set_option maxHeartbeats 4000000
/-! GL: what the laws' own defs draw: numbers, yarns, deeds' tuples. -/
namespace Kn
open PySem L2
theorem run_rt {q : String} {fd : FD} (n : Nat) {ss : List SV} {v : SV} {ρ' : Env} (h : pt q = some fd) (h1 : ss.length = fd.np ∧ fd.np ≤ fd.n ∧ fd.io.length = fd.np ∧ modesOk fd.io ss = true) (hx : Kn.exec tb (callN tb pt n) (roOf fd.io 0) fd.body (ss.map some ++ List.replicate (fd.n - fd.np) none) = .rt v ρ') : ∃ o, callN tb pt (n + 1) q ss = .ok v o := by
  rw [callN_at n h]
  unfold runF
  rw [if_pos h1, hx]
  exact ⟨_, rfl⟩
def drB : S := bodyS (nthS fd__law_draws.body 2)
theorem draw_turn (F : String → List SV → Cr) (ns : List Int) (M : Option SV) (ds : List Int) (m j : Int) (b c : Option SV) (hl : ds.length < 1000) :
    ∃ (d m' : Int) (b' c' : Option SV), 0 ≤ d ∧ Kn.exec tb F [] drB [some (.d (.arg ns)), M, some (.lst (ds.map fun z => .d (.int z))), some (.d (.int m)), some (.d (.int j)), b, c] =
      .nx [some (.d (.arg ns)), M, some (.lst ((ds ++ [d]).map fun z => .d (.int z))), some (.d (.int m')), some (.d (.int j)), b', c'] := by
  obtain ⟨z, hz⟩ : ∃ z : Int, (if 0 < ns.length then atI ns (j % (ns.length : Int)) = some z else z = 0) := by
    by_cases h0 : 0 < ns.length
    · obtain ⟨z, hz⟩ := atI_mod ns j h0
      exact ⟨z, by rw [if_pos h0]; exact hz⟩
    · exact ⟨0, by rw [if_neg h0]⟩
  obtain ⟨m2, hm2⟩ : ∃ m2, m2 = (m * 48271 + z + j + 1) % 2147483647 := ⟨_, rfl⟩
  have q1 : -18446744073709551616 < m2 := by omega
  have q2 : m2 < 18446744073709551616 := by omega
  obtain ⟨m3, hm3⟩ : ∃ m3, m3 = (m2 * m2 + 16807 * m2) % 2147483629 := ⟨_, rfl⟩
  have q3 : 0 ≤ m3 := by rw [hm3]; exact Int.emod_nonneg _ (by decide)
  have q4 : m3 < 2147483629 := by rw [hm3]; exact Int.emod_lt_of_pos _ (by decide)
  have q5 : -18446744073709551616 < m3 := by omega
  have q6 : m3 < 18446744073709551616 := by omega
  have len : ∀ ρ : Env, ρ[0]? = some (some (.d (.arg ns))) → ev tb F (.blt .len (.cons (.var 0) .nil)) ρ = .ok (.d (.int ns.length)) ρ := fun ρ h => blt1_ev (var_ev h) rfl
  refine ⟨(m3 * m3 + 16807 * m3) % 2147483629, m2, some (.d (.int z)), some (.d (.int m3)), Int.emod_nonneg _ (by decide), ?_⟩
  refine st_nx (G := fun x => x = _) (ρ1 := [some (.d (.arg ns)), M, some (.lst (ds.map fun z => .d (.int z))), some (.d (.int m)), some (.d (.int j)), some (.d (.int 0)), c]) (set_ok int_ev rfl) ?_
  refine st_nx (G := fun x => x = _) (ρ1 := [some (.d (.arg ns)), M, some (.lst (ds.map fun z => .d (.int z))), some (.d (.int m)), some (.d (.int j)), some (.d (.int z)), c]) ?_ ?_
  · by_cases h0 : 0 < ns.length
    · rw [if_pos h0] at hz
      have h0' : (0 : Int) < (ns.length : Int) := by omega
      refine ite_t (cmp_ev (r := true) (len _ rfl) int_ev (by rw [frz, frz, cgI, decide_eq_true h0'])) (one_nx (set_ok (idx_ev (var_ev rfl) (bin_ev (var_ev rfl) (len _ rfl) (bM _ _ h0')) ?_) rfl))
      show (atI ns (j % (ns.length : Int))).map D.int = some (.int z)
      rw [hz]
      rfl
    · rw [if_neg h0] at hz
      subst hz
      have h0' : ¬ (0 : Int) < (ns.length : Int) := by omega
      exact ite_f (cmp_ev (r := false) (len _ rfl) int_ev (by rw [frz, frz, cgI, decide_eq_false h0'])) (by simp only [Kn.exec])
  refine st_nx (G := fun x => x = _) (ρ1 := [some (.d (.arg ns)), M, some (.lst (ds.map fun z => .d (.int z))), some (.d (.int ((m * 48271 + z + j + 1) % 2147483647))), some (.d (.int j)), some (.d (.int z)), c])
    (set_ok (bin_ev (bin_ev (bin_ev (bin_ev (bin_ev (var_ev rfl) int_ev (bX _ _ (by decide) (by decide))) (var_ev rfl) (bA _ _)) (var_ev rfl) (bA _ _)) int_ev (bA _ _)) int_ev (bM _ _ (by decide))) rfl) ?_
  rw [← hm2]
  refine st_nx (G := fun x => x = _) (ρ1 := [some (.d (.arg ns)), M, some (.lst (ds.map fun z => .d (.int z))), some (.d (.int m2)), some (.d (.int j)), some (.d (.int z)), some (.d (.int ((m2 * m2 + 16807 * m2) % 2147483629)))])
    (set_ok (bin_ev (bin_ev (bin_ev (var_ev rfl) (var_ev rfl) (bX _ _ q1 q2)) (bin_ev int_ev (var_ev rfl) (bX _ _ q1 q2)) (bA _ _)) int_ev (bM _ _ (by decide))) rfl) ?_
  rw [← hm3]
  refine st_nx (G := fun x => x = _) (ρ1 := [some (.d (.arg ns)), M, some (.lst ((ds.map fun z => .d (.int z)) ++ [.d (.int ((m3 * m3 + 16807 * m3) % 2147483629))])), some (.d (.int m2)), some (.d (.int j)), some (.d (.int z)), some (.d (.int m3))])
    (app_ok (xs0 := ds.map fun z => .d (.int z)) rfl (bin_ev (bin_ev (bin_ev (var_ev rfl) (var_ev rfl) (bX _ _ q5 q6)) (bin_ev int_ev (var_ev rfl) (bX _ _ q5 q6)) (bA _ _)) int_ev (bM _ _ (by decide))) rfl (by rw [List.length_map]; exact Nat.lt_trans hl (by decide))) ?_
  rw [List.map_append]
  simp only [Kn.exec, List.map_cons, List.map_nil]
def GDr (many : Nat) (x : Fl) : Prop := ∃ ds : List Int, ds.length = many ∧ (∀ d ∈ ds, 0 ≤ d) ∧ ∃ ρ', x = .rt (.d (.lst (ds.map .int))) ρ'
theorem draws (n : Nat) (ns : List Int) (many : Nat) (hmany : many ≤ 1000) : ∃ ds : List Int, ds.length = many ∧ (∀ d ∈ ds, 0 ≤ d) ∧ ∃ o, callN tb pt (n + 1) "_law_draws" [.d (.arg ns), .d (.int (many : Nat))] = .ok (.d (.lst (ds.map .int))) o := by
  have key : GDr many (Kn.exec tb (callN tb pt n) [] fd__law_draws.body ([SV.d (.arg ns), .d (.int (many : Nat))].map some ++ List.replicate (fd__law_draws.n - fd__law_draws.np) none)) := by
    generalize callN tb pt n = F
    have b1 : (-1000000000000 : Int) < (many : Int) := by omega
    have b2 : (many : Int) < 1000000000000 := by omega
    refine st_nx (ρ1 := [some (.d (.arg ns)), some (.d (.int (many : Nat))), some (.lst []), none, none, none, none]) (by simp [fd__law_draws, Kn.exec, ev, evs, thenF, R.bind, lim, roOf]) ?_
    refine st_nx (ρ1 := [some (.d (.arg ns)), some (.d (.int (many : Nat))), some (.lst []), some (.d (.int 7)), none, none, none]) (set_ok int_ev rfl) ?_
    refine st_for (ds := rngD 0 (many : Nat)) (ρ1 := [some (.d (.arg ns)), some (.d (.int (many : Nat))), some (.lst []), some (.d (.int 7)), none, none, none]) (fun i ρ => ∃ (ds : List Int) (m : Int) (a b c : Option SV), ρ = [some (.d (.arg ns)), some (.d (.int (many : Nat))), some (.lst (ds.map fun z => .d (.int z))), some (.d (.int m)), a, b, c] ∧ ds.length = i ∧ ∀ d ∈ ds, 0 ≤ d) ?_ rfl ⟨[], 7, none, none, none, rfl, rfl, by simp⟩ ?_ ?_
    · exact rng_evi (var_ev rfl) rfl ⟨b1, b2⟩
    · rintro d hd i ρ hi ⟨ds, m, a, b, c, rfl, hl, hp⟩
      rw [rngD_len'] at hi
      obtain ⟨j, hj, rfl⟩ := List.mem_map.mp hd
      obtain ⟨d, m', b', c', hd0, e⟩ := draw_turn F ns (some (.d (.int (many : Nat)))) ds m (0 + (j : Int)) b c (by omega)
      refine ⟨_, rfl, _, e, ds ++ [d], m', _, b', c', rfl, by simp [hl], fun x hx => ?_⟩
      rcases List.mem_append.mp hx with hx | hx
      · exact hp x hx
      · rw [List.mem_singleton.mp hx]
        exact hd0
    · rintro ρ' ⟨ds, m, a, b, c, rfl, hl, hp⟩
      have hl : ds.length = many := by rw [hl, rngD_len']; omega
      refine st_rt (v := .d (.lst (ds.map .int))) (ρ1 := [some (.d (.arg ns)), some (.d (.int (many : Nat))), some (.d (.lst (ds.map .int))), some (.d (.int m)), a, b, c]) (by simp [Kn.exec, ev, thenF, frz, frzs_map]) ⟨ds, hl, hp, _, rfl⟩
  obtain ⟨ds, h1, h2, ρ', h3⟩ := key
  exact ⟨ds, h1, h2, run_rt n pt__law_draws ⟨rfl, by decide, rfl, rfl⟩ h3⟩
def YP (y : List Nat) : Prop := 1 ≤ y.length ∧ y.length ≤ 4 ∧ ∀ c ∈ y, c ∈ sm
theorem YP.b {y : List Nat} (h : YP y) : yarnB y = true ∧ y.length ≤ 4 ∧ y.all (fun c => decide (c < 1114112)) = true := by
  obtain ⟨h1, h2, h3⟩ := h
  refine ⟨?_, h2, ?_⟩
  · unfold yarnB
    simp only [decide_eq_true h1, decide_eq_true h2, Bool.true_and, List.all_eq_true, decide_eq_true_eq]
    exact h3
  · simp only [List.all_eq_true, decide_eq_true_eq]
    exact fun c hc => sm_small c (h3 c hc)
theorem letter (x : Int) : ∃ c ∈ sm, idxD (.str sm) (.int (x % 26)) = some (.str [c]) := by
  have h1 : 0 ≤ x % 26 := Int.emod_nonneg _ (by decide)
  have h2 : x % 26 < 26 := Int.emod_lt_of_pos _ (by decide)
  obtain ⟨j, hj⟩ : ∃ j : Nat, x % 26 = j := ⟨(x % 26).toNat, by omega⟩
  rw [hj]
  have hl : j < sm.length := by
    show j < 26
    omega
  refine ⟨sm[j], List.getElem_mem hl, ?_⟩
  have e : idxD (.str sm) (.int (j : Int)) = (if sm.length ≤ lim then (atI sm (j : Int)).map fun c => .str [c] else none) := rfl
  rw [e, if_pos (show sm.length ≤ lim from Nat.le_of_ble_eq_true rfl), atI_nat (List.getElem?_eq_getElem hl)]
  rfl
def GY (x : Fl) : Prop := ∃ y, YP y ∧ ∃ ρ', x = .rt (.d (.str y)) ρ'
theorem yarn_turn (F : String → List SV → Cr) (sh k p : Int) (y : List Nat) (j : Nat) (hl2 : y.length ≤ 1000) : ∃ c, c ∈ sm ∧ Kn.exec tb F [] (.cons (.ite (.cmp .eq (.var 5) (.var 3)) (.cons (.set 4 (.bin .add (.var 4) (.idx (.var 2) (.bin .mod (.bin .add (.bin .fdiv (.var 0) (.int 48)) (.var 1)) (.int 26))))) .nil) (.cons (.set 4 (.bin .add (.var 4) (.idx (.var 2) (.bin .mod (.bin .add (.bin .fdiv (.var 0) (.int 5)) (.bin .mul (.var 5) (.bin .add (.int 1) (.bin .mod (.var 0) (.int 5))))) (.int 26))))) .nil)) .nil) [some (.d (.int sh)), some (.d (.int k)), some (.d (.str sm)), some (.d (.int p)), some (.d (.str y)), some (.d (.int j))] = .nx [some (.d (.int sh)), some (.d (.int k)), some (.d (.str sm)), some (.d (.int p)), some (.d (.str (y ++ [c]))), some (.d (.int j))] := by
  by_cases hjp : (j : Int) = p
  · have hjp : ((j : Int) == p) = true := by simpa using hjp
    obtain ⟨c, hc, e⟩ := letter (sh / 48 + k)
    have bpp := bP y [c] hl2 (by simp)
    refine ⟨c, hc, one_nx (ite_t (ρ1 := [some (.d (.int sh)), some (.d (.int k)), some (.d (.str sm)), some (.d (.int p)), some (.d (.str y)), some (.d (.int j))]) ?_ (one_nx (set_ok (v := .d (.str (y ++ [c]))) (ρ1 := [some (.d (.int sh)), some (.d (.int k)), some (.d (.str sm)), some (.d (.int p)), some (.d (.str y)), some (.d (.int j))]) ?_ ?_)))⟩
    · simp [ev, R.bind, frz, cmpD, eqD, flat, eqvD, hjp]
    · simp [ev, R.bind, R.of, frz, bM, bF, bA, e, bpp]
    · rfl
  · have hjp : ((j : Int) == p) = false := by simpa using hjp
    obtain ⟨d5, hd⟩ : ∃ d, binD .fdiv (.int sh) (.int 5) = some (.d (.int d)) := ⟨_, bF _ _ (by decide) (by decide)⟩
    obtain ⟨m5, hm5, hm⟩ : ∃ m, (0 ≤ m ∧ m < 5) ∧ binD .mod (.int sh) (.int 5) = some (.d (.int m)) := ⟨_, ⟨Int.emod_nonneg _ (by decide), Int.emod_lt_of_pos _ (by decide)⟩, bM _ _ (by decide)⟩
    obtain ⟨q, hq, hb⟩ : ∃ q, (-100 < q ∧ q < 100) ∧ binD .add (.int 1) (.int m5) = some (.d (.int q)) := ⟨_, by omega, bA _ _⟩
    obtain ⟨r, hr⟩ : ∃ r, binD .mul (.int (j : Int)) (.int q) = some (.d (.int r)) := ⟨_, bX _ _ (by omega) (by omega)⟩
    obtain ⟨u, hu⟩ : ∃ u, binD .add (.int d5) (.int r) = some (.d (.int u)) := ⟨_, bA _ _⟩
    obtain ⟨c, hc, e⟩ := letter u
    have h26 := bM u 26 (by decide)
    have bpp := bP y [c] hl2 (by simp)
    refine ⟨c, hc, one_nx (ite_f (ρ1 := [some (.d (.int sh)), some (.d (.int k)), some (.d (.str sm)), some (.d (.int p)), some (.d (.str y)), some (.d (.int j))]) ?_ (one_nx (set_ok (v := .d (.str (y ++ [c]))) (ρ1 := [some (.d (.int sh)), some (.d (.int k)), some (.d (.str sm)), some (.d (.int p)), some (.d (.str y)), some (.d (.int j))]) ?_ ?_)))⟩
    · simp [ev, R.bind, frz, cmpD, eqD, flat, eqvD, hjp]
    · exact bin_ev (var_ev rfl) (idx_ev (var_ev rfl) (bin_ev (bin_ev (bin_ev (var_ev rfl) int_ev hd) (bin_ev (var_ev rfl) (bin_ev int_ev (bin_ev (var_ev rfl) int_ev hm) hb) hr) hu) int_ev h26) e) bpp
    · rfl
theorem yarn_by (n : Nat) (sh k : Int) (h : 0 ≤ sh) (h0 : 0 ≤ k) (h1 : k ≤ 2) : ∃ y, YP y ∧ ∃ o, callN tb pt (n + 1) "_law_yarn_by" [.d (.int sh), .d (.int k)] = .ok (.d (.str y)) o := by
  have key : GY (Kn.exec tb (callN tb pt n) [] fd__law_yarn_by.body ([SV.d (.int sh), .d (.int k)].map some ++ List.replicate (fd__law_yarn_by.n - fd__law_yarn_by.np) none)) := by
    generalize callN tb pt n = F
    refine st_nx (ρ1 := [some (.d (.int sh)), some (.d (.int k)), some (.d (.str sm)), none, none, none]) (by simp [fd__law_yarn_by, Kn.exec, ev, thenF, sm]) ?_
    by_cases h3 : sh % 3 = 0
    · obtain ⟨c, hc, e⟩ := letter (sh / 3)
      have k1 : 0 ≤ 1 + k % 4 := by omega
      have k2 : 1 + k % 4 ≤ 1000 := by omega
      refine st_rt (v := .d (.str (reps (1 + k % 4).toNat [c]))) (ρ1 := [some (.d (.int sh)), some (.d (.int k)), some (.d (.str sm)), none, none, none]) (by simp [Kn.exec, ev, thenF, R.bind, R.of, frz, bM, bF, bA, cmpD, eqD, flat, eqvD, h3, e, bR, k1, k2]) ⟨_, ⟨?_, ?_, ?_⟩, _, rfl⟩
      · rw [reps_len]; omega
      · rw [reps_len]; omega
      · intro d hd
        rw [mul_mem hd]
        exact hc
    · have h3 : (sh % 3 == 0) = false := by simpa using h3
      obtain ⟨p, hp⟩ : ∃ p, p = sh / 3 % 4 := ⟨_, rfl⟩
      have p0 : 0 ≤ p := by omega
      have p1 : p ≤ 3 := by omega
      refine st_nx (ρ1 := [some (.d (.int sh)), some (.d (.int k)), some (.d (.str sm)), none, none, none]) (by simp [Kn.exec, ev, thenF, R.bind, R.of, frz, bM, bF, bA, cmpD, eqD, flat, eqvD, h3]) ?_
      refine st_nx (ρ1 := [some (.d (.int sh)), some (.d (.int k)), some (.d (.str sm)), some (.d (.int p)), none, none]) (by simp [Kn.exec, ev, thenF, R.bind, R.of, frz, bM, bF, bA, hp]) ?_
      refine st_nx (ρ1 := [some (.d (.int sh)), some (.d (.int k)), some (.d (.str sm)), some (.d (.int p)), some (.d (.str [])), none]) (by simp [Kn.exec, ev, thenF, R.bind, R.of, frz]) ?_
      obtain ⟨m, hm⟩ : ∃ m, m = sh / 12 % (4 - p) := ⟨_, rfl⟩
      have d0 : 0 < 4 - p := by omega
      have d1 : 4 - p < 1073741824 := by omega
      have m0 : 0 ≤ m := by rw [hm]; exact Int.emod_nonneg _ (by omega)
      have m1 : m < 4 - p := by rw [hm]; exact Int.emod_lt_of_pos _ d0
      refine st_for (ds := rngD 0 (p + 1 + m)) (ρ1 := [some (.d (.int sh)), some (.d (.int k)), some (.d (.str sm)), some (.d (.int p)), some (.d (.str [])), none]) (fun i ρ => ∃ (y : List Nat) (a : Option SV), ρ = [some (.d (.int sh)), some (.d (.int k)), some (.d (.str sm)), some (.d (.int p)), some (.d (.str y)), a] ∧ y.length = i ∧ ∀ c ∈ y, c ∈ sm) ?_ rfl ⟨[], none, rfl, rfl, by simp⟩ ?_ ?_
      · have c1 : -1000000000000 < p + 1 + m := by omega
        have c2 : p + 1 + m < 1000000000000 := by omega
        have bm := bM (sh / 12) (4 - p) d0
        rw [← hm] at bm
        simp [evi, ev, R.bind, R.of, frz, itemsD, bm, bA, bS, bF, c1, c2]
      · rintro d hd i ρ hi ⟨y, a, rfl, hl, hy⟩
        rw [rngD_len'] at hi
        obtain ⟨j, hj, rfl⟩ := List.mem_map.mp hd
        simp only [Int.zero_add]
        have hl2 : y.length ≤ 1000 := by omega
        refine ⟨[some (.d (.int sh)), some (.d (.int k)), some (.d (.str sm)), some (.d (.int p)), some (.d (.str y)), some (.d (.int j))], by simp [bindT], ?_⟩
        obtain ⟨c, hc, e⟩ := yarn_turn F sh k p y j hl2
        refine ⟨_, e, y ++ [c], _, rfl, by simp [hl], fun d hd => ?_⟩
        rcases List.mem_append.mp hd with hd | hd
        · exact hy d hd
        · rw [List.mem_singleton.mp hd]; exact hc
      · rintro ρ' ⟨y, a, rfl, hl, hy⟩
        rw [rngD_len'] at hl
        exact st_rt (v := .d (.str y)) (ρ1 := [some (.d (.int sh)), some (.d (.int k)), some (.d (.str sm)), some (.d (.int p)), some (.d (.str y)), a]) (by simp [Kn.exec, ev, thenF]) ⟨y, ⟨by omega, by omega, hy⟩, _, rfl⟩
  obtain ⟨y, hy, ρ', h3⟩ := key
  exact ⟨y, hy, run_rt n pt__law_yarn_by ⟨rfl, by decide, rfl, rfl⟩ h3⟩
inductive Told : D → Prop
  | knit (w sd y : List Nat) (k : Int) (hw : w = [43] ∨ w = [45]) (hs : sd = [102] ∨ sd = [98]) (h0 : 0 ≤ k) (h1 : k ≤ 23) (hy : YP y) : Told (.tup [.str [107, 110, 105, 116], .str w, .str sd, .int k, .str y])
  | tuck (w sd y : List Nat) (k : Int) (hw : w = [43] ∨ w = [45]) (hs : sd = [102] ∨ sd = [98]) (h0 : 0 ≤ k) (h1 : k ≤ 23) (hy : YP y) : Told (.tup [.str [116, 117, 99, 107], .str w, .str sd, .int k, .str y])
  | move (sd : List Nat) (k : Int) (hs : sd = [102] ∨ sd = [98]) (h0 : 0 ≤ k) (h1 : k ≤ 23) : Told (.tup [.str [109, 111, 118, 101], .str sd, .int k])
  | off (sd : List Nat) (k : Int) (hs : sd = [102] ∨ sd = [98]) (h0 : 0 ≤ k) (h1 : k ≤ 23) : Told (.tup [.str [111, 102, 102], .str sd, .int k])
  | slide (k : Int) (h0 : -3 ≤ k) (h1 : k ≤ 3) : Told (.tup [.str [115, 108, 105, 100, 101], .int k])
  | miss (w y : List Nat) (k : Int) (hw : w = [43] ∨ w = [45]) (h0 : 0 ≤ k) (h1 : k ≤ 23) (hy : YP y) : Told (.tup [.str [109, 105, 115, 115], .str w, .int k, .str y])
  | come (y : List Nat) (k : Int) (hy : YP y) (h0 : 0 ≤ k) (h1 : k ≤ 24) : Told (.tup [.str [99, 111, 109, 101], .str y, .int k])
  | go (y : List Nat) (hy : YP y) : Told (.tup [.str [103, 111], .str y])
def w12 : List D := [.str [107, 110, 105, 116], .str [116, 117, 99, 107], .str [109, 111, 118, 101], .str [115, 108, 105, 100, 101], .str [109, 105, 115, 115], .str [99, 111, 109, 101], .str [103, 111], .str [111, 102, 102], .str [107, 110, 105, 116], .str [107, 110, 105, 116], .str [116, 117, 99, 107], .str [109, 111, 118, 101]]
def GT0 (x : Fl) : Prop := ∃ t, Told t ∧ ∃ ρ', x = .rt (.d t) ρ'
theorem told_ok (n : Nat) (dr : Int) (y0 y1 y2 : List Nat) (h : 0 ≤ dr) (h0 : YP y0) (h1 : YP y1) (h2 : YP y2) : ∃ t, Told t ∧ ∃ o, callN tb pt (n + 1) "_law_told" [.d (.int dr), .d (.lst [.str y0, .str y1, .str y2])] = .ok (.d t) o := by
  have key : GT0 (Kn.exec tb (callN tb pt n) [] fd__law_told.body ([SV.d (.int dr), .d (.lst [.str y0, .str y1, .str y2])].map some ++ List.replicate (fd__law_told.n - fd__law_told.np) none)) := by
    generalize callN tb pt n = F
    obtain ⟨wd, hwd, ew⟩ := pick w12 12 dr rfl (by decide)
    obtain ⟨r, hr, er⟩ : ∃ r : Int, 0 ≤ r ∧ binD .fdiv (.int dr) (.int 12) = some (.d (.int r)) := ⟨_, Int.ediv_nonneg h (by decide), bF _ _ (by decide) (by decide)⟩
    obtain ⟨yd, hyd, ey⟩ := pick [.str y0, .str y1, .str y2] 3 r rfl (by decide)
    obtain ⟨y, hy, rfl⟩ : ∃ y, YP y ∧ yd = .str y := by
      simp at hyd
      rcases hyd with rfl | rfl | rfl
      · exact ⟨_, h0, rfl⟩
      · exact ⟨_, h1, rfl⟩
      · exact ⟨_, h2, rfl⟩
    obtain ⟨w, hw, e1⟩ : ∃ w, (w = [43] ∨ w = [45]) ∧ idxD (.str [43, 45]) (.int (r / 4 % 2)) = some (.str w) := by
      rcases (show r / 4 % 2 = 0 ∨ r / 4 % 2 = 1 by omega) with e | e <;> rw [e]
      · exact ⟨_, .inl rfl, rfl⟩
      · exact ⟨_, .inr rfl, rfl⟩
    obtain ⟨sd, hs, e2⟩ : ∃ w, (w = [102] ∨ w = [98]) ∧ idxD (.str [102, 98]) (.int (r / 8 % 3 / 2)) = some (.str w) := by
      rcases (show r / 8 % 3 / 2 = 0 ∨ r / 8 % 3 / 2 = 1 by omega) with e | e <;> rw [e]
      · exact ⟨_, .inl rfl, rfl⟩
      · exact ⟨_, .inr rfl, rfl⟩
    obtain ⟨k, hk0, hk1, hk⟩ : ∃ k : Int, 0 ≤ k ∧ k ≤ 23 ∧ k = r / 24 % 24 := ⟨_, by omega, by omega, rfl⟩
    refine st_nx (ρ1 := [some (.d (.int dr)), some (.d (.lst [.str y0, .str y1, .str y2])), some (.d wd), none, none, none, none, none]) (set_ok (v := .d wd) (ρ1 := [some (.d (.int dr)), some (.d (.lst [.str y0, .str y1, .str y2])), none, none, none, none, none, none]) (idx_ev (ρ1 := [some (.d (.int dr)), some (.d (.lst [.str y0, .str y1, .str y2])), none, none, none, none, none, none]) (x := .lst (w12.map .d)) (by simp [ev, evs, R.bind, lim, w12]; rfl) (bin_ev (ρ1 := [some (.d (.int dr)), some (.d (.lst [.str y0, .str y1, .str y2])), none, none, none, none, none, none]) (var_ev rfl) int_ev (bM _ _ (by decide))) ew) rfl) ?_
    refine st_nx (ρ1 := [some (.d (.int dr)), some (.d (.lst [.str y0, .str y1, .str y2])), some (.d wd), some (.d (.int r)), none, none, none, none]) (set_ok (v := .d (.int r)) (ρ1 := [some (.d (.int dr)), some (.d (.lst [.str y0, .str y1, .str y2])), some (.d wd), none, none, none, none, none]) (bin_ev (ρ1 := [some (.d (.int dr)), some (.d (.lst [.str y0, .str y1, .str y2])), some (.d wd), none, none, none, none, none]) (var_ev rfl) int_ev er) rfl) ?_
    refine st_nx (ρ1 := [some (.d (.int dr)), some (.d (.lst [.str y0, .str y1, .str y2])), some (.d wd), some (.d (.int r)), some (.d (.str y)), none, none, none]) (by simp [Kn.exec, ev, evs, thenF, R.bind, R.of, frz, frzs, bltD, bM, idxD, ey]) ?_
    refine st_nx (ρ1 := [some (.d (.int dr)), some (.d (.lst [.str y0, .str y1, .str y2])), some (.d wd), some (.d (.int r)), some (.d (.str y)), some (.d (.str w)), none, none]) (by simp [Kn.exec, ev, evs, thenF, R.bind, R.of, frz, frzs, bltD, bM, bF, e1]) ?_
    refine st_nx (ρ1 := [some (.d (.int dr)), some (.d (.lst [.str y0, .str y1, .str y2])), some (.d wd), some (.d (.int r)), some (.d (.str y)), some (.d (.str w)), some (.d (.str sd)), none]) (by simp [Kn.exec, ev, evs, thenF, R.bind, R.of, frz, frzs, bltD, bM, bF, e2]) ?_
    refine st_nx (ρ1 := [some (.d (.int dr)), some (.d (.lst [.str y0, .str y1, .str y2])), some (.d wd), some (.d (.int r)), some (.d (.str y)), some (.d (.str w)), some (.d (.str sd)), some (.d (.int k))]) (by simp [Kn.exec, ev, evs, thenF, R.bind, R.of, frz, frzs, bltD, bM, bF, hk]) ?_
    simp only [w12, List.mem_cons, List.not_mem_nil, or_false] at hwd
    clear ew er ey e1 e2 hyd hk
    rcases hwd with rfl | rfl | rfl | rfl | rfl | rfl | rfl | rfl | rfl | rfl | rfl | rfl
    · exact st_rt (v := .d (.tup [.str [107, 110, 105, 116], .str w, .str sd, .int k, .str y])) (ρ1 := [some (.d (.int dr)), some (.d (.lst [.str y0, .str y1, .str y2])), some (.d (.str [107, 110, 105, 116])), some (.d (.int r)), some (.d (.str y)), some (.d (.str w)), some (.d (.str sd)), some (.d (.int k))]) (by simp [Kn.exec, ev, evs, thenF, R.bind, R.of, frz, frzs, cmpD, eqD, flat, okD, okDs, eqvD, inD, lim, bM, bF, bS]) ⟨_, Told.knit w sd y k hw hs hk0 hk1 hy, _, rfl⟩
    · exact st_rt (v := .d (.tup [.str [116, 117, 99, 107], .str w, .str sd, .int k, .str y])) (ρ1 := [some (.d (.int dr)), some (.d (.lst [.str y0, .str y1, .str y2])), some (.d (.str [116, 117, 99, 107])), some (.d (.int r)), some (.d (.str y)), some (.d (.str w)), some (.d (.str sd)), some (.d (.int k))]) (by simp [Kn.exec, ev, evs, thenF, R.bind, R.of, frz, frzs, cmpD, eqD, flat, okD, okDs, eqvD, inD, lim, bM, bF, bS]) ⟨_, Told.tuck w sd y k hw hs hk0 hk1 hy, _, rfl⟩
    · refine st_nx (ρ1 := [some (.d (.int dr)), some (.d (.lst [.str y0, .str y1, .str y2])), some (.d (.str [109, 111, 118, 101])), some (.d (.int r)), some (.d (.str y)), some (.d (.str w)), some (.d (.str sd)), some (.d (.int k))]) (by simp [Kn.exec, ev, evs, thenF, R.bind, R.of, frz, frzs, cmpD, eqD, flat, okD, okDs, eqvD, inD, lim, bM, bF, bS]) ?_
      exact st_rt (v := .d (.tup [.str [109, 111, 118, 101], .str sd, .int k])) (ρ1 := [some (.d (.int dr)), some (.d (.lst [.str y0, .str y1, .str y2])), some (.d (.str [109, 111, 118, 101])), some (.d (.int r)), some (.d (.str y)), some (.d (.str w)), some (.d (.str sd)), some (.d (.int k))]) (by simp [Kn.exec, ev, evs, thenF, R.bind, R.of, frz, frzs, cmpD, eqD, flat, okD, okDs, eqvD, inD, lim, bM, bF, bS]) ⟨_, Told.move sd k hs hk0 hk1, _, rfl⟩
    · refine st_nx (ρ1 := [some (.d (.int dr)), some (.d (.lst [.str y0, .str y1, .str y2])), some (.d (.str [115, 108, 105, 100, 101])), some (.d (.int r)), some (.d (.str y)), some (.d (.str w)), some (.d (.str sd)), some (.d (.int k))]) (by simp [Kn.exec, ev, evs, thenF, R.bind, R.of, frz, frzs, cmpD, eqD, flat, okD, okDs, eqvD, inD, lim, bM, bF, bS]) ?_
      refine st_nx (ρ1 := [some (.d (.int dr)), some (.d (.lst [.str y0, .str y1, .str y2])), some (.d (.str [115, 108, 105, 100, 101])), some (.d (.int r)), some (.d (.str y)), some (.d (.str w)), some (.d (.str sd)), some (.d (.int k))]) (by simp [Kn.exec, ev, evs, thenF, R.bind, R.of, frz, frzs, cmpD, eqD, flat, okD, okDs, eqvD, inD, lim, bM, bF, bS]) ?_
      exact st_rt (v := .d (.tup [.str [115, 108, 105, 100, 101], .int (r % 7 - 3)])) (ρ1 := [some (.d (.int dr)), some (.d (.lst [.str y0, .str y1, .str y2])), some (.d (.str [115, 108, 105, 100, 101])), some (.d (.int r)), some (.d (.str y)), some (.d (.str w)), some (.d (.str sd)), some (.d (.int k))]) (by simp [Kn.exec, ev, evs, thenF, R.bind, R.of, frz, frzs, cmpD, eqD, flat, okD, okDs, eqvD, inD, lim, bM, bF, bS]) ⟨_, Told.slide _ (by omega) (by omega), _, rfl⟩
    · refine st_nx (ρ1 := [some (.d (.int dr)), some (.d (.lst [.str y0, .str y1, .str y2])), some (.d (.str [109, 105, 115, 115])), some (.d (.int r)), some (.d (.str y)), some (.d (.str w)), some (.d (.str sd)), some (.d (.int k))]) (by simp [Kn.exec, ev, evs, thenF, R.bind, R.of, frz, frzs, cmpD, eqD, flat, okD, okDs, eqvD, inD, lim, bM, bF, bS]) ?_
      refine st_nx (ρ1 := [some (.d (.int dr)), some (.d (.lst [.str y0, .str y1, .str y2])), some (.d (.str [109, 105, 115, 115])), some (.d (.int r)), some (.d (.str y)), some (.d (.str w)), some (.d (.str sd)), some (.d (.int k))]) (by simp [Kn.exec, ev, evs, thenF, R.bind, R.of, frz, frzs, cmpD, eqD, flat, okD, okDs, eqvD, inD, lim, bM, bF, bS]) ?_
      refine st_nx (ρ1 := [some (.d (.int dr)), some (.d (.lst [.str y0, .str y1, .str y2])), some (.d (.str [109, 105, 115, 115])), some (.d (.int r)), some (.d (.str y)), some (.d (.str w)), some (.d (.str sd)), some (.d (.int k))]) (by simp [Kn.exec, ev, evs, thenF, R.bind, R.of, frz, frzs, cmpD, eqD, flat, okD, okDs, eqvD, inD, lim, bM, bF, bS]) ?_
      exact st_rt (v := .d (.tup [.str [109, 105, 115, 115], .str w, .int k, .str y])) (ρ1 := [some (.d (.int dr)), some (.d (.lst [.str y0, .str y1, .str y2])), some (.d (.str [109, 105, 115, 115])), some (.d (.int r)), some (.d (.str y)), some (.d (.str w)), some (.d (.str sd)), some (.d (.int k))]) (by simp [Kn.exec, ev, evs, thenF, R.bind, R.of, frz, frzs, cmpD, eqD, flat, okD, okDs, eqvD, inD, lim, bM, bF, bS]) ⟨_, Told.miss w y k hw hk0 hk1 hy, _, rfl⟩
    · refine st_nx (ρ1 := [some (.d (.int dr)), some (.d (.lst [.str y0, .str y1, .str y2])), some (.d (.str [99, 111, 109, 101])), some (.d (.int r)), some (.d (.str y)), some (.d (.str w)), some (.d (.str sd)), some (.d (.int k))]) (by simp [Kn.exec, ev, evs, thenF, R.bind, R.of, frz, frzs, cmpD, eqD, flat, okD, okDs, eqvD, inD, lim, bM, bF, bS]) ?_
      refine st_nx (ρ1 := [some (.d (.int dr)), some (.d (.lst [.str y0, .str y1, .str y2])), some (.d (.str [99, 111, 109, 101])), some (.d (.int r)), some (.d (.str y)), some (.d (.str w)), some (.d (.str sd)), some (.d (.int k))]) (by simp [Kn.exec, ev, evs, thenF, R.bind, R.of, frz, frzs, cmpD, eqD, flat, okD, okDs, eqvD, inD, lim, bM, bF, bS]) ?_
      refine st_nx (ρ1 := [some (.d (.int dr)), some (.d (.lst [.str y0, .str y1, .str y2])), some (.d (.str [99, 111, 109, 101])), some (.d (.int r)), some (.d (.str y)), some (.d (.str w)), some (.d (.str sd)), some (.d (.int k))]) (by simp [Kn.exec, ev, evs, thenF, R.bind, R.of, frz, frzs, cmpD, eqD, flat, okD, okDs, eqvD, inD, lim, bM, bF, bS]) ?_
      refine st_nx (ρ1 := [some (.d (.int dr)), some (.d (.lst [.str y0, .str y1, .str y2])), some (.d (.str [99, 111, 109, 101])), some (.d (.int r)), some (.d (.str y)), some (.d (.str w)), some (.d (.str sd)), some (.d (.int k))]) (by simp [Kn.exec, ev, evs, thenF, R.bind, R.of, frz, frzs, cmpD, eqD, flat, okD, okDs, eqvD, inD, lim, bM, bF, bS]) ?_
      exact st_rt (v := .d (.tup [.str [99, 111, 109, 101], .str y, .int (r / 24 % 25)])) (ρ1 := [some (.d (.int dr)), some (.d (.lst [.str y0, .str y1, .str y2])), some (.d (.str [99, 111, 109, 101])), some (.d (.int r)), some (.d (.str y)), some (.d (.str w)), some (.d (.str sd)), some (.d (.int k))]) (by simp [Kn.exec, ev, evs, thenF, R.bind, R.of, frz, frzs, cmpD, eqD, flat, okD, okDs, eqvD, inD, lim, bM, bF, bS]) ⟨_, Told.come y _ hy (by omega) (by omega), _, rfl⟩
    · refine st_nx (ρ1 := [some (.d (.int dr)), some (.d (.lst [.str y0, .str y1, .str y2])), some (.d (.str [103, 111])), some (.d (.int r)), some (.d (.str y)), some (.d (.str w)), some (.d (.str sd)), some (.d (.int k))]) (by simp [Kn.exec, ev, evs, thenF, R.bind, R.of, frz, frzs, cmpD, eqD, flat, okD, okDs, eqvD, inD, lim, bM, bF, bS]) ?_
      refine st_nx (ρ1 := [some (.d (.int dr)), some (.d (.lst [.str y0, .str y1, .str y2])), some (.d (.str [103, 111])), some (.d (.int r)), some (.d (.str y)), some (.d (.str w)), some (.d (.str sd)), some (.d (.int k))]) (by simp [Kn.exec, ev, evs, thenF, R.bind, R.of, frz, frzs, cmpD, eqD, flat, okD, okDs, eqvD, inD, lim, bM, bF, bS]) ?_
      refine st_nx (ρ1 := [some (.d (.int dr)), some (.d (.lst [.str y0, .str y1, .str y2])), some (.d (.str [103, 111])), some (.d (.int r)), some (.d (.str y)), some (.d (.str w)), some (.d (.str sd)), some (.d (.int k))]) (by simp [Kn.exec, ev, evs, thenF, R.bind, R.of, frz, frzs, cmpD, eqD, flat, okD, okDs, eqvD, inD, lim, bM, bF, bS]) ?_
      refine st_nx (ρ1 := [some (.d (.int dr)), some (.d (.lst [.str y0, .str y1, .str y2])), some (.d (.str [103, 111])), some (.d (.int r)), some (.d (.str y)), some (.d (.str w)), some (.d (.str sd)), some (.d (.int k))]) (by simp [Kn.exec, ev, evs, thenF, R.bind, R.of, frz, frzs, cmpD, eqD, flat, okD, okDs, eqvD, inD, lim, bM, bF, bS]) ?_
      refine st_nx (ρ1 := [some (.d (.int dr)), some (.d (.lst [.str y0, .str y1, .str y2])), some (.d (.str [103, 111])), some (.d (.int r)), some (.d (.str y)), some (.d (.str w)), some (.d (.str sd)), some (.d (.int k))]) (by simp [Kn.exec, ev, evs, thenF, R.bind, R.of, frz, frzs, cmpD, eqD, flat, okD, okDs, eqvD, inD, lim, bM, bF, bS]) ?_
      exact st_rt (v := .d (.tup [.str [103, 111], .str y])) (ρ1 := [some (.d (.int dr)), some (.d (.lst [.str y0, .str y1, .str y2])), some (.d (.str [103, 111])), some (.d (.int r)), some (.d (.str y)), some (.d (.str w)), some (.d (.str sd)), some (.d (.int k))]) (by simp [Kn.exec, ev, evs, thenF, R.bind, R.of, frz, frzs, cmpD, eqD, flat, okD, okDs, eqvD, inD, lim, bM, bF, bS]) ⟨_, Told.go y hy, _, rfl⟩
    · refine st_nx (ρ1 := [some (.d (.int dr)), some (.d (.lst [.str y0, .str y1, .str y2])), some (.d (.str [111, 102, 102])), some (.d (.int r)), some (.d (.str y)), some (.d (.str w)), some (.d (.str sd)), some (.d (.int k))]) (by simp [Kn.exec, ev, evs, thenF, R.bind, R.of, frz, frzs, cmpD, eqD, flat, okD, okDs, eqvD, inD, lim, bM, bF, bS]) ?_
      exact st_rt (v := .d (.tup [.str [111, 102, 102], .str sd, .int k])) (ρ1 := [some (.d (.int dr)), some (.d (.lst [.str y0, .str y1, .str y2])), some (.d (.str [111, 102, 102])), some (.d (.int r)), some (.d (.str y)), some (.d (.str w)), some (.d (.str sd)), some (.d (.int k))]) (by simp [Kn.exec, ev, evs, thenF, R.bind, R.of, frz, frzs, cmpD, eqD, flat, okD, okDs, eqvD, inD, lim, bM, bF, bS]) ⟨_, Told.off sd k hs hk0 hk1, _, rfl⟩
    · exact st_rt (v := .d (.tup [.str [107, 110, 105, 116], .str w, .str sd, .int k, .str y])) (ρ1 := [some (.d (.int dr)), some (.d (.lst [.str y0, .str y1, .str y2])), some (.d (.str [107, 110, 105, 116])), some (.d (.int r)), some (.d (.str y)), some (.d (.str w)), some (.d (.str sd)), some (.d (.int k))]) (by simp [Kn.exec, ev, evs, thenF, R.bind, R.of, frz, frzs, cmpD, eqD, flat, okD, okDs, eqvD, inD, lim, bM, bF, bS]) ⟨_, Told.knit w sd y k hw hs hk0 hk1 hy, _, rfl⟩
    · exact st_rt (v := .d (.tup [.str [107, 110, 105, 116], .str w, .str sd, .int k, .str y])) (ρ1 := [some (.d (.int dr)), some (.d (.lst [.str y0, .str y1, .str y2])), some (.d (.str [107, 110, 105, 116])), some (.d (.int r)), some (.d (.str y)), some (.d (.str w)), some (.d (.str sd)), some (.d (.int k))]) (by simp [Kn.exec, ev, evs, thenF, R.bind, R.of, frz, frzs, cmpD, eqD, flat, okD, okDs, eqvD, inD, lim, bM, bF, bS]) ⟨_, Told.knit w sd y k hw hs hk0 hk1 hy, _, rfl⟩
    · exact st_rt (v := .d (.tup [.str [116, 117, 99, 107], .str w, .str sd, .int k, .str y])) (ρ1 := [some (.d (.int dr)), some (.d (.lst [.str y0, .str y1, .str y2])), some (.d (.str [116, 117, 99, 107])), some (.d (.int r)), some (.d (.str y)), some (.d (.str w)), some (.d (.str sd)), some (.d (.int k))]) (by simp [Kn.exec, ev, evs, thenF, R.bind, R.of, frz, frzs, cmpD, eqD, flat, okD, okDs, eqvD, inD, lim, bM, bF, bS]) ⟨_, Told.tuck w sd y k hw hs hk0 hk1 hy, _, rfl⟩
    · refine st_nx (ρ1 := [some (.d (.int dr)), some (.d (.lst [.str y0, .str y1, .str y2])), some (.d (.str [109, 111, 118, 101])), some (.d (.int r)), some (.d (.str y)), some (.d (.str w)), some (.d (.str sd)), some (.d (.int k))]) (by simp [Kn.exec, ev, evs, thenF, R.bind, R.of, frz, frzs, cmpD, eqD, flat, okD, okDs, eqvD, inD, lim, bM, bF, bS]) ?_
      exact st_rt (v := .d (.tup [.str [109, 111, 118, 101], .str sd, .int k])) (ρ1 := [some (.d (.int dr)), some (.d (.lst [.str y0, .str y1, .str y2])), some (.d (.str [109, 111, 118, 101])), some (.d (.int r)), some (.d (.str y)), some (.d (.str w)), some (.d (.str sd)), some (.d (.int k))]) (by simp [Kn.exec, ev, evs, thenF, R.bind, R.of, frz, frzs, cmpD, eqD, flat, okD, okDs, eqvD, inD, lim, bM, bF, bS]) ⟨_, Told.move sd k hs hk0 hk1, _, rfl⟩
  obtain ⟨t, ht, ρ', h3⟩ := key
  exact ⟨t, ht, run_rt n pt__law_told ⟨rfl, by decide, rfl, rfl⟩ h3⟩
end Kn

set_option Elab.async false
set_option linter.all false
set_option maxRecDepth 100000
set_option maxHeartbeats 4000000
/-! NQ: the law's and the program's look at a number's word. -/
namespace Kn
open PySem L2
def optD : Option Int → D
  | some k => .int k
  | none => .non
def GV (v : SV) (x : Fl) : Prop := ∃ ρ', x = .rt v ρ'
theorem len_lim {w : List Nat} (h : w.length ≤ 1000) : w.length ≤ lim := Nat.le_trans h (by decide)
theorem fg_len {w : List Nat} (h : w.length ≤ 1000) : (fg w).length ≤ 1000 := by
  unfold fg
  split
  · rw [List.length_drop]; omega
  · exact h
theorem okF_not {l : List Nat} : (decide (l = []) || (decide ((4 : Int) < (l.length : Int)) || !(l.all dg))) = !okF l := by
  unfold okF
  cases l with
  | nil => rfl
  | cons c r =>
    have e1 : decide ((c :: r) = []) = false := decide_eq_false (fun z => by cases z)
    have e2 : decide (1 ≤ (c :: r).length) = true := decide_eq_true (by simp)
    rw [e1, e2, Bool.false_or, Bool.true_and, Bool.not_and]
    congr 1
    by_cases h : (c :: r).length ≤ 4
    · rw [decide_eq_true h, decide_eq_false (by omega)]
      rfl
    · rw [decide_eq_false h, decide_eq_true (by omega)]
      rfl
theorem okF_not2 {l : List Nat} : (!(decide ((1 : Int) ≤ (l.length : Int)) && decide ((l.length : Int) ≤ 4)) || !(l.all dg)) = !okF l := by
  unfold okF
  rw [← Bool.not_and, Bool.and_assoc]
  congr 2
  · by_cases h : 1 ≤ l.length
    · rw [decide_eq_true h, decide_eq_true (by omega)]
    · rw [decide_eq_false h, decide_eq_false (by omega)]
  · congr 1
    by_cases h : l.length ≤ 4
    · rw [decide_eq_true h, decide_eq_true (by omega)]
    · rw [decide_eq_false h, decide_eq_false (by omega)]
theorem int_w {w : List Nat} (h : okF (fg w) = true) (hl : w.length ≤ 640) : bltD tb .int [.str w] = some (.d (.int (vl w))) := by
  unfold okF at h
  simp only [Bool.and_eq_true, decide_eq_true_eq] at h
  obtain ⟨l1, _, l3⟩ := h
  have hn0 : fg w ≠ [] := fun z => by rw [z] at l1; simp at l1
  show (if w.length ≤ 640 then (PySem.intText? ⟨w.toArray⟩).map fun i => SV.d (.int i) else none) = _
  rw [if_pos hl]
  cases hn : ng w with
  | true =>
    have e0 := fg_ng hn
    have e := int_ng l3 hn0 (by rw [e0, List.length_cons] at hl; omega)
    rw [← e0] at e
    rw [e]
    unfold vl
    rw [if_pos hn]
    rfl
  | false =>
    have e0 : fg w = w := by unfold fg; rw [if_neg (by rw [hn]; exact Bool.false_ne_true)]
    have e := int_dg l3 hn0 (by rw [e0]; exact hl)
    rw [e0] at e
    rw [e]
    unfold vl
    rw [if_neg (by rw [hn]; exact Bool.false_ne_true), e0]
    rfl
theorem int_f {l : List Nat} (h : okF l = true) : bltD tb .int [.str l] = some (.d (.int (valF l))) := by
  unfold okF at h
  simp only [Bool.and_eq_true, decide_eq_true_eq] at h
  obtain ⟨l1, l2, l3⟩ := h
  have hn0 : l ≠ [] := fun z => by rw [z] at l1; simp at l1
  show (if l.length ≤ 640 then (PySem.intText? ⟨l.toArray⟩).map fun i => SV.d (.int i) else none) = _
  rw [if_pos (by omega), int_dg l3 hn0 (by omega)]
  rfl
theorem first_of {l : List Nat} (h : okF l = true) : ∃ c r, l = c :: r ∧ idxD (.str l) (.int 0) = some (.str [c]) := by
  unfold okF at h
  simp only [Bool.and_eq_true, decide_eq_true_eq] at h
  obtain ⟨l1, l2, _⟩ := h
  match l, l1, l2 with
  | c :: r, _, l2 =>
    refine ⟨c, r, rfl, ?_⟩
    have e : idxD (.str (c :: r)) (.int 0) = (if (c :: r).length ≤ lim then (atI (c :: r) 0).map fun c => .str [c] else none) := rfl
    rw [e, if_pos (Nat.le_trans l2 (by decide)), show atI (c :: r) (0 : Int) = some c from atI_nat (j := 0) (List.getElem?_cons_zero)]
    rfl
theorem law_number_at (n : Nat) (w : List Nat) (lo hi : Int) (hl : w.length ≤ 640) : ∃ o, callN tb pt (n + 1) "_law_number" [.d (.str w), .d (.int lo), .d (.int hi)] = .ok (.d (optD (numW w lo hi))) o := by
  have key : GV (.d (optD (numW w lo hi))) (Kn.exec tb (callN tb pt n) [] fd__law_number.body ([SV.d (.str w), .d (.int lo), .d (.int hi)].map some ++ List.replicate (fd__law_number.n - fd__law_number.np) none)) := by
    generalize callN tb pt n = F
    have l1 : w.length ≤ lim := len_lim (by omega)
    have l2 : (fg w).length ≤ lim := len_lim (fg_len (by omega))
    refine st_nx (ρ1 := [some (.d (.str w)), some (.d (.int lo)), some (.d (.int hi)), some (.d (.str w)), none]) (set_to (var_ev rfl) rfl rfl) ?_
    refine st_nx (ρ1 := [some (.d (.str w)), some (.d (.int lo)), some (.d (.int hi)), some (.d (.str (fg w))), none]) ?_ ?_
    · have hc := eq_ev (t := tb) (F := F) (ρ := [some (.d (.str w)), some (.d (.int lo)), some (.d (.int hi)), some (.d (.str w)), none]) (take1_ev (a := .var 0) (var_ev rfl) l1) (str_ev (s := [45])) (eqT _ _)
      by_cases hn : w.take 1 = [45]
      · rw [decide_eq_true hn] at hc
        refine ite_t hc (one_nx (set_to (drop1_ev (var_ev rfl) l1) rfl ?_))
        have : fg w = w.drop 1 := by unfold fg ng; rw [if_pos (decide_eq_true hn)]
        rw [this]
        rfl
      · rw [decide_eq_false hn] at hc
        refine ite_f hc ?_
        have : fg w = w := by unfold fg ng; rw [if_neg (by rw [decide_eq_false hn]; exact Bool.false_ne_true)]
        rw [this]
        exact nil_blk
    have c3 : ∀ ρ : Env, ρ = [some (.d (.str w)), some (.d (.int lo)), some (.d (.int hi)), some (.d (.str (fg w))), none] → ev tb F (.or (.cmp .eq (.var 3) (.str [])) (.or (.cmp .gt (.blt .len (.cons (.var 3) .nil)) (.int 4)) (.not (.blt .all (.cons (.comp (.nm 4) (.var 3) (.cmp .in_ (.var 4) (.str [48, 49, 50, 51, 52, 53, 54, 55, 56, 57]))) .nil))))) ρ = .ok (.d (.bl (!okF (fg w)))) ρ := fun ρ hρ => by
      subst hρ
      rw [← okF_not]
      exact or_ev (eq_ev (var_ev rfl) str_ev (eqT _ _)) fun _ => or_ev (cmp_ev (len_ev (var_ev rfl) l2) int_ev rfl) fun _ => not_ev (all_in rfl (Nat.le_of_ble_eq_true rfl) rfl l2)
    by_cases hk : okF (fg w) = true
    · have c3 := c3 _ rfl
      rw [hk] at c3
      refine st_nx (ite_f c3 nil_blk) ?_
      obtain ⟨c, r, hfg, hix⟩ := first_of hk
      have c4 : ∀ ρ : Env, ρ = [some (.d (.str w)), some (.d (.int lo)), some (.d (.int hi)), some (.d (.str (fg w))), none] → ev tb F (.or (.and (.cmp .gt (.blt .len (.cons (.var 3) .nil)) (.int 1)) (.cmp .eq (.idx (.var 3) (.int 0)) (.str [48]))) (.or (.cmp .eq (.var 0) (.str [45, 48])) (.not (.chn .le .le (.var 1) (.blt .int (.cons (.var 0) .nil)) (.var 2))))) ρ =
          .ok (.d (.bl (!canF (fg w) || (decide (w = [45, 48]) || !(decide (lo ≤ vl w) && decide (vl w ≤ hi)))))) ρ := fun ρ hρ => by
        subst hρ
        have e : (!canF (fg w)) = (decide ((1 : Int) < ((fg w).length : Int)) && decide ([c] = [48])) := by
          unfold canF
          rw [Bool.not_not, hfg]
          congr 1
          by_cases h : 1 < (c :: r).length
          · rw [decide_eq_true h, decide_eq_true (by omega)]
          · rw [decide_eq_false h, decide_eq_false (by omega)]
        rw [e]
        exact or_ev (and_ev (cmp_ev (len_ev (var_ev rfl) l2) int_ev rfl) fun _ => eq_ev (idx_ev (var_ev rfl) int_ev hix) str_ev (eqT _ _)) fun _ => or_ev (eq_ev (var_ev rfl) str_ev (eqT _ _)) fun _ => not_ev (chn_ev (var_ev rfl) (blt1_ev (var_ev rfl) (int_w hk hl)) (var_ev rfl) rfl rfl rfl)
      have c4 := c4 _ rfl
      unfold numW
      rw [if_pos hk, ← Bool.or_assoc] at *
      by_cases h4 : (!canF (fg w) || decide (w = [45, 48]) || !(decide (lo ≤ vl w) && decide (vl w ≤ hi))) = true
      · rw [h4] at c4
        rw [if_pos h4]
        exact st_rt (ite_t c4 (ret_blk (const_ev rfl))) ⟨_, rfl⟩
      · have h4' : (!canF (fg w) || decide (w = [45, 48]) || !(decide (lo ≤ vl w) && decide (vl w ≤ hi))) = false := by simpa using h4
        rw [h4'] at c4
        rw [if_neg h4]
        exact st_nx (ite_f c4 nil_blk) ⟨_, ret_blk (blt1_ev (var_ev rfl) (int_w hk hl))⟩
    · have hk' : okF (fg w) = false := by simpa using hk
      have c3 := c3 _ rfl
      rw [hk'] at c3
      unfold numW
      rw [if_neg hk]
      exact st_rt (ite_t c3 (ret_blk (const_ev rfl))) ⟨_, rfl⟩
  obtain ⟨ρ', h3⟩ := key
  exact run_rt n pt__law_number ⟨rfl, by decide, rfl, rfl⟩ h3
theorem number_of_at (n : Nat) (w : List Nat) (lo hi : Int) (hl : w.length ≤ 640) : ∃ o, callN tb pt (n + 1) "number_of" [.d (.str w), .d (.int lo), .d (.int hi)] = .ok (.d (optD (numP w lo hi))) o := by
  have key : GV (.d (optD (numP w lo hi))) (Kn.exec tb (callN tb pt n) [] fd_number_of.body ([SV.d (.str w), .d (.int lo), .d (.int hi)].map some ++ List.replicate (fd_number_of.n - fd_number_of.np) none)) := by
    generalize callN tb pt n = F
    have l1 : w.length ≤ lim := len_lim (by omega)
    have l2 : (fg w).length ≤ lim := len_lim (fg_len (by omega))
    refine st_nx (ρ1 := [some (.d (.str w)), some (.d (.int lo)), some (.d (.int hi)), some (.d (.str w)), none, none]) (set_to (var_ev rfl) rfl rfl) ?_
    refine st_nx (ρ1 := [some (.d (.str w)), some (.d (.int lo)), some (.d (.int hi)), some (.d (.str (fg w))), none, none]) ?_ ?_
    · have hc := starts_ev (t := tb) (F := F) (p := [45]) (ρ := [some (.d (.str w)), some (.d (.int lo)), some (.d (.int hi)), some (.d (.str w)), none, none]) (a := .var 0) (s := w) (var_ev rfl)
      by_cases hn : w.take 1 = [45]
      · rw [decide_eq_true (show w.take ([45] : List Nat).length = [45] from hn)] at hc
        refine ite_t hc (one_nx (set_to (drop1_ev (var_ev rfl) l1) rfl ?_))
        have : fg w = w.drop 1 := by unfold fg ng; rw [if_pos (decide_eq_true hn)]
        rw [this]
        rfl
      · rw [decide_eq_false (show ¬ w.take ([45] : List Nat).length = [45] from hn)] at hc
        refine ite_f hc ?_
        have : fg w = w := by unfold fg ng; rw [if_neg (by rw [decide_eq_false hn]; exact Bool.false_ne_true)]
        rw [this]
        exact nil_blk
    have c3 : ∀ ρ : Env, ρ = [some (.d (.str w)), some (.d (.int lo)), some (.d (.int hi)), some (.d (.str (fg w))), none, none] → ev tb F (.or (.not (.chn .le .le (.int 1) (.blt .len (.cons (.var 3) .nil)) (.int 4))) (.not (.blt .all (.cons (.comp (.nm 4) (.var 3) (.cmp .in_ (.var 4) (.str [48, 49, 50, 51, 52, 53, 54, 55, 56, 57]))) .nil)))) ρ = .ok (.d (.bl (!okF (fg w)))) ρ := fun ρ hρ => by
      subst hρ
      rw [← okF_not2]
      exact or_ev (not_ev (chn_ev int_ev (len_ev (var_ev rfl) l2) int_ev rfl rfl rfl)) fun _ => not_ev (all_in rfl (Nat.le_of_ble_eq_true rfl) rfl l2)
    unfold numP
    by_cases hk : okF (fg w) = true
    · have c3 := c3 _ rfl
      rw [hk] at c3
      refine st_nx (ite_f c3 nil_blk) ?_
      refine st_nx (ρ1 := [some (.d (.str w)), some (.d (.int lo)), some (.d (.int hi)), some (.d (.str (fg w))), none, some (.d (.int (valF (fg w))))]) (set_to (blt1_ev (var_ev rfl) (int_f hk)) rfl rfl) ?_
      refine st_nx (ρ1 := [some (.d (.str w)), some (.d (.int lo)), some (.d (.int hi)), some (.d (.str (fg w))), none, some (.d (.int (vl w)))]) ?_ ?_
      · have hc := starts_ev (t := tb) (F := F) (p := [45]) (ρ := [some (.d (.str w)), some (.d (.int lo)), some (.d (.int hi)), some (.d (.str (fg w))), none, some (.d (.int (valF (fg w))))]) (a := .var 0) (s := w) (var_ev rfl)
        by_cases hn : w.take 1 = [45]
        · rw [decide_eq_true (show w.take ([45] : List Nat).length = [45] from hn)] at hc
          refine ite_t hc (one_nx (set_to (bin_ev int_ev (var_ev rfl) (bS _ _)) rfl ?_))
          have : vl w = 0 - valF (fg w) := by unfold vl ng; rw [if_pos (decide_eq_true hn)]; omega
          rw [this]
          rfl
        · rw [decide_eq_false (show ¬ w.take ([45] : List Nat).length = [45] from hn)] at hc
          refine ite_f hc ?_
          have : vl w = valF (fg w) := by unfold vl ng; rw [if_neg (by rw [decide_eq_false hn]; exact Bool.false_ne_true)]
          rw [this]
          exact nil_blk
      have hv : (vl w).natAbs < 1000000000000000000 := by
        unfold okF at hk
        simp only [Bool.and_eq_true, decide_eq_true_eq] at hk
        have hb := val_small hk.2.2 hk.2.1
        unfold vl
        split <;> omega
      have c4 : ∀ ρ : Env, ρ = [some (.d (.str w)), some (.d (.int lo)), some (.d (.int hi)), some (.d (.str (fg w))), none, some (.d (.int (vl w)))] → ev tb F (.or (.cmp .ne (.blt .str (.cons (.var 5) .nil)) (.var 0)) (.not (.chn .le .le (.var 1) (.var 5) (.var 2)))) ρ =
          .ok (.d (.bl (!decide (istr (vl w) = w) || !(decide (lo ≤ vl w) && decide (vl w ≤ hi))))) ρ := fun ρ hρ => by
        subst hρ
        exact or_ev (ne_ev (blt1_ev (var_ev rfl) (if_pos hv)) (var_ev rfl) (eqT _ _)) fun _ => not_ev (chn_ev (var_ev rfl) (var_ev rfl) (var_ev rfl) rfl rfl rfl)
      have c4 := c4 _ rfl
      rw [if_pos hk]
      by_cases h4 : (!decide (istr (vl w) = w) || !(decide (lo ≤ vl w) && decide (vl w ≤ hi))) = true
      · rw [h4] at c4
        rw [if_pos h4]
        exact st_rt (ite_t c4 (ret_blk (const_ev rfl))) ⟨_, rfl⟩
      · have h4' : (!decide (istr (vl w) = w) || !(decide (lo ≤ vl w) && decide (vl w ≤ hi))) = false := by simpa using h4
        rw [h4'] at c4
        rw [if_neg h4]
        exact st_nx (ite_f c4 nil_blk) ⟨_, ret_blk (var_ev rfl)⟩
    · have hk' : okF (fg w) = false := by simpa using hk
      have c3 := c3 _ rfl
      rw [hk'] at c3
      rw [if_neg hk]
      exact st_rt (ite_t c3 (ret_blk (const_ev rfl))) ⟨_, rfl⟩
  obtain ⟨ρ', h3⟩ := key
  exact run_rt n pt_number_of ⟨rfl, by decide, rfl, rfl⟩ h3
end Kn

set_option Elab.async false
set_option linter.all false
set_option maxRecDepth 100000
set_option maxHeartbeats 4000000
/-! RW: the law's and the program's look at a needle's word, a yarn's; small tools. -/
namespace Kn
open PySem L2
def okS (w : List Nat) : Bool := w.all fun c => decide (c < 1114112)
theorem inL (w : List Nat) : ∀ (ls : List (List Nat)), okS w = true → ls.all okS = true → inD (.str w) (.lst (ls.map .str)) = some (ls.any fun y => decide (y = w)) := fun ls h h2 => by
  have e : inD (.str w) (.lst (ls.map .str)) = (if okD (.str w) 50 && okDs (ls.map .str) 50 then some ((ls.map D.str).any fun y => eqvD y (.str w)) else none) := rfl
  have e1 : okD (.str w) 50 = true := h
  have e2 : okDs (ls.map .str) 50 = true := by
    clear e
    induction ls with
    | nil => rfl
    | cons a ls ih =>
      rw [List.all_cons, Bool.and_eq_true] at h2
      show (okD (.str a) 50 && okDs (ls.map .str) 50) = true
      rw [ih h2.2]
      show (okS a && true) = true
      rw [h2.1]
      rfl
  rw [e, e1, e2]
  show some _ = _
  rw [List.any_map]
  congr 1
  congr 1
  funext y
  show (y == w) = decide (y = w)
  by_cases h : y = w <;> simp [h]
theorem cinE (x y : D) : cmpD .in_ x y = inD x y := by cases x <;> cases y <;> rfl
theorem cninE (x y : D) : cmpD .notin x y = (inD x y).map (!·) := by cases x <;> cases y <;> rfl
section
variable {t : T} {F : String → List SV → Cr} {ρ ρ1 ρ2 ρ3 : Env}
theorem in_ev {a b : E} {w : List Nat} {ls : List (List Nat)} {y : SV} (h1 : ev t F a ρ = .ok (.d (.str w)) ρ) (h2 : ev t F b ρ = .ok y ρ) (hy : frz y = .lst (ls.map .str)) (hw : okS w = true) (hl : ls.all okS = true) : ev t F (.cmp .in_ a b) ρ = .ok (.d (.bl (ls.any fun y => decide (y = w)))) ρ :=
  cmp_ev h1 h2 (by rw [hy, cinE]; exact inL w ls hw hl)
theorem nin_ev {a b : E} {w : List Nat} {ls : List (List Nat)} {y : SV} (h1 : ev t F a ρ = .ok (.d (.str w)) ρ) (h2 : ev t F b ρ = .ok y ρ) (hy : frz y = .lst (ls.map .str)) (hw : okS w = true) (hl : ls.all okS = true) : ev t F (.cmp .notin a b) ρ = .ok (.d (.bl (!(ls.any fun y => decide (y = w))))) ρ :=
  cmp_ev h1 h2 (by rw [hy, cninE, frz, inL w ls hw hl]; rfl)
theorem disp_ev {ks : List Kx} {es : E} {vs : List SV} (h : ks.Nodup ∧ ks.length ≤ 15 ∧ ks ≠ [] ∧ lenE es = ks.length) (hs : evs t F es ρ = .ok vs ρ1) : ev t F (.disp ks es) ρ = .ok (.dk ks ((frzs vs).map .d)) ρ1 := by
  have e0 : ev t F (.disp ks es) ρ = if ks.Nodup ∧ ks.length ≤ 15 ∧ ks ≠ [] ∧ lenE es = ks.length then (evs t F es ρ).bind fun vs ρ => .ok (.dk ks ((frzs vs).map .d)) ρ else .no := by simp only [ev]
  rw [e0, if_pos h, hs, bind_ok]
theorem dget_ev {a k d : E} {x y z : SV} {ks : List Kx} {xs : List D} {j : Kx} (h1 : ev t F a ρ = .ok x ρ) (hx : frz x = .dk ks xs) (h2 : ev t F k ρ = .ok y ρ) (h3 : ev t F d ρ = .ok z ρ) (hj : kxD (frz y) = some j) : ev t F (.dget a k d) ρ = .ok (.d ((atK j ks xs).getD (frz z))) ρ := by
  have e0 : ev t F (.dget a k d) ρ = (ev t F a ρ).bind fun x ρ => (match frz x with
    | .dk ks xs => (ev t F k ρ).bind fun y ρ => (ev t F d ρ).bind fun z ρ => (match kxD (frz y) with
      | some j => .ok (.d ((atK j ks xs).getD (frz z))) ρ
      | none => .no)
    | _ => .no) := by first | (simp only [ev]; done) | (simp only [ev]; rfl)
  rw [e0, h1, bind_ok, hx]
  show ((ev t F k ρ).bind fun y ρ => (ev t F d ρ).bind fun z ρ => (match kxD (frz y) with
      | some j => R.ok (SV.d ((atK j ks xs).getD (frz z))) ρ
      | none => .no)) = _
  rw [h2, bind_ok, h3, bind_ok, hj]
theorem ife_t {c a b : E} {x : R SV} (h : ev t F c ρ = .ok (.d (.bl true)) ρ1) (k : ev t F a ρ1 = x) : ev t F (.ife c a b) ρ = x := by
  have e0 : ev t F (.ife c a b) ρ = (ev t F c ρ).bind fun x ρ => (match x with
    | .d (.bl true) => ev t F a ρ
    | .d (.bl false) => ev t F b ρ
    | _ => .no) := by first | (simp only [ev]; done) | (simp only [ev]; rfl)
  rw [e0, h, bind_ok]
  exact k
theorem ife_f {c a b : E} {x : R SV} (h : ev t F c ρ = .ok (.d (.bl false)) ρ1) (k : ev t F b ρ1 = x) : ev t F (.ife c a b) ρ = x := by
  have e0 : ev t F (.ife c a b) ρ = (ev t F c ρ).bind fun x ρ => (match x with
    | .d (.bl true) => ev t F a ρ
    | .d (.bl false) => ev t F b ρ
    | _ => .no) := by first | (simp only [ev]; done) | (simp only [ev]; rfl)
  rw [e0, h, bind_ok]
  exact k
end
/-- a needle's word -/
def needD (w : List Nat) : Option (List Nat × Int) := if (decide (w.take 1 = [102]) || decide (w.take 1 = [98])) = true then (numW (w.drop 1) 0 23).map fun k => (w.take 1, k) else none
def needT : Option (List Nat × Int) → D
  | some (s, k) => .tup [.str s, .int k]
  | none => .non
theorem drop_len {w : List Nat} {m : Nat} (h : w.length ≤ m) : (w.drop 1).length ≤ m := by rw [List.length_drop]; omega
theorem okS_take {w : List Nat} (h : okS w = true) : okS (w.take 1) = true := by
  unfold okS at h ⊢
  rw [List.all_eq_true] at h ⊢
  exact fun c hc => h c (List.mem_of_mem_take hc)
theorem law_needle_at (n : Nat) (w : List Nat) (hl : w.length ≤ 640) (hw : okS w = true) : ∃ o, callN tb pt (n + 2) "_law_needle" [.d (.str w)] = .ok (.d (needT (needD w))) o := by
  obtain ⟨o1, e1⟩ := law_number_at n (w.drop 1) 0 23 (drop_len hl)
  have key : GV (.d (needT (needD w))) (Kn.exec tb (callN tb pt (n + 1)) [] fd__law_needle.body ([SV.d (.str w)].map some ++ List.replicate (fd__law_needle.n - fd__law_needle.np) none)) := by
    generalize callN tb pt (n + 1) = F at e1 ⊢
    have l1 : w.length ≤ lim := len_lim (by omega)
    refine st_nx (ρ1 := [some (.d (.str w)), some (.d (optD (numW (w.drop 1) 0 23)))]) (set_to (call_ev (o := o1) rfl (evs_cons (drop1_ev (var_ev rfl) l1) (evs_cons int_ev (evs_cons int_ev evs_nil))) e1) rfl rfl) ?_
    have c1 : ∀ ρ : Env, ρ = [some (.d (.str w)), some (.d (optD (numW (w.drop 1) 0 23)))] → ev tb F (.or (.cmp .notin (.slc (.var 0) .emp (.int 1)) (.lst (.cons (.str [102]) (.cons (.str [98]) .nil)))) (.cmp .is_ (.var 1) .non)) ρ =
        .ok (.d (.bl (!([[102], [98]].any fun y => decide (y = w.take 1)) || isN (optD (numW (w.drop 1) 0 23))))) ρ := fun ρ hρ => by
      subst hρ
      exact or_ev (nin_ev (take1_ev (var_ev rfl) l1) (const_ev rfl) rfl (okS_take hw) rfl) fun _ => is_ev (var_ev rfl) rfl
    have c1 := c1 _ rfl
    have e2 : ([[102], [98]].any fun y => decide (y = w.take 1)) = (decide (w.take 1 = [102]) || decide (w.take 1 = [98])) := by
      simp only [List.any_cons, List.any_nil, Bool.or_false]
      congr 1 <;> (simp only [decide_eq_decide]; exact eq_comm)
    rw [e2] at c1
    unfold needD
    by_cases hs : (decide (w.take 1 = [102]) || decide (w.take 1 = [98])) = true
    · rw [if_pos hs]
      rw [hs] at c1
      cases hq : numW (w.drop 1) 0 23 with
      | none =>
        rw [hq] at c1
        exact st_rt (ite_t c1 (ret_blk (const_ev rfl))) ⟨_, rfl⟩
      | some k =>
        rw [hq] at c1
        exact st_nx (ite_f c1 nil_blk) ⟨_, ret_blk (tup_ev (evs_cons (take1_ev (var_ev rfl) l1) (evs_cons (var_ev rfl) evs_nil)) (Nat.le_of_ble_eq_true rfl))⟩
    · rw [if_neg hs]
      have hs' : (decide (w.take 1 = [102]) || decide (w.take 1 = [98])) = false := by simpa using hs
      rw [hs'] at c1
      exact st_rt (ite_t c1 (ret_blk (const_ev rfl))) ⟨_, rfl⟩
  obtain ⟨ρ', h3⟩ := key
  exact run_rt (n + 1) pt__law_needle ⟨rfl, by decide, rfl, rfl⟩ h3
theorem needle_in_at (n : Nat) (w : List Nat) (hl : w.length ≤ 640) : ∃ o, callN tb pt (n + 2) "needle_in" [.d (.str w)] = .ok (.d (needT (needD w))) o := by
  obtain ⟨o1, e1⟩ := number_of_at n (w.drop 1) 0 23 (drop_len hl)
  rw [num_eq (by decide) (by decide)] at e1
  have e3 := is_side_at n (.str (w.take 1)) (by
    show decide ((w.take 1).length ≤ 1000) = true
    rw [List.length_take]
    exact decide_eq_true (by omega))
  have key : GV (.d (needT (needD w))) (Kn.exec tb (callN tb pt (n + 1)) [] fd_needle_in.body ([SV.d (.str w)].map some ++ List.replicate (fd_needle_in.n - fd_needle_in.np) none)) := by
    generalize callN tb pt (n + 1) = F at e1 e3 ⊢
    have l1 : w.length ≤ lim := len_lim (by omega)
    refine st_nx (ρ1 := [some (.d (.str w)), some (.d (optD (numW (w.drop 1) 0 23)))]) (set_to (call_ev (o := o1) rfl (evs_cons (drop1_ev (var_ev rfl) l1) (evs_cons int_ev (evs_cons (bin_ev (glb_ev rfl) int_ev (bS _ _)) evs_nil))) e1) rfl rfl) ?_
    have c1 : ∀ ρ : Env, ρ = [some (.d (.str w)), some (.d (optD (numW (w.drop 1) 0 23)))] → ev tb F (.or (.cmp .is_ (.var 1) .non) (.not (.call "is_side" (.cons (.slc (.var 0) .emp (.int 1)) .nil)))) ρ =
        .ok (.d (.bl (isN (optD (numW (w.drop 1) 0 23)) || !(decide (w.take 1 = [102]) || decide (w.take 1 = [98]))))) ρ := fun ρ hρ => by
      subst hρ
      exact or_ev (is_ev (var_ev rfl) rfl) fun _ => not_ev (call_ev rfl (evs_cons (take1_ev (var_ev rfl) l1) evs_nil) e3)
    have c1 := c1 _ rfl
    unfold needD
    by_cases hs : (decide (w.take 1 = [102]) || decide (w.take 1 = [98])) = true
    · rw [if_pos hs]
      rw [hs] at c1
      cases hq : numW (w.drop 1) 0 23 with
      | none =>
        rw [hq] at c1
        exact st_rt (ite_t c1 (ret_blk (const_ev rfl))) ⟨_, rfl⟩
      | some k =>
        rw [hq] at c1
        obtain ⟨c, r, rfl⟩ : ∃ c r, w = c :: r := by
          cases w with
          | nil => simp at hs
          | cons c r => exact ⟨c, r, rfl⟩
        have hix : idxD (.str (c :: r)) (.int 0) = some (.str [c]) := by
          have e : idxD (.str (c :: r)) (.int 0) = (if (c :: r).length ≤ lim then (atI (c :: r) 0).map fun c => .str [c] else none) := rfl
          rw [e, if_pos l1, show atI (c :: r) (0 : Int) = some c from atI_nat (j := 0) (List.getElem?_cons_zero)]
          rfl
        exact st_nx (ite_f c1 nil_blk) ⟨_, ret_blk (tup_ev (evs_cons (idx_ev (var_ev rfl) int_ev hix) (evs_cons (var_ev rfl) evs_nil)) (Nat.le_of_ble_eq_true rfl))⟩
    · rw [if_neg hs]
      have hs' : (decide (w.take 1 = [102]) || decide (w.take 1 = [98])) = false := by simpa using hs
      rw [hs', Bool.not_false, Bool.or_true] at c1
      exact st_rt (ite_t c1 (ret_blk (const_ev rfl))) ⟨_, rfl⟩
  obtain ⟨ρ', h3⟩ := key
  exact run_rt (n + 1) pt_needle_in ⟨rfl, by decide, rfl, rfl⟩ h3
theorem law_is_yarn_at (n : Nat) (w : List Nat) (hl : w.length ≤ 640) : ∃ o, callN tb pt (n + 1) "_law_is_yarn" [.d (.str w)] = .ok (.d (.bl (yarnB w))) o := by
  have key : GV (.d (.bl (yarnB w))) (Kn.exec tb (callN tb pt n) [] fd__law_is_yarn.body ([SV.d (.str w)].map some ++ List.replicate (fd__law_is_yarn.n - fd__law_is_yarn.np) none)) := by
    generalize callN tb pt n = F
    have l1 : w.length ≤ lim := len_lim (by omega)
    have e : yarnB w = ((decide ((1 : Int) ≤ (w.length : Int)) && decide ((w.length : Int) ≤ 4)) && w.all fun c => decide (c ∈ sm)) := by
      unfold yarnB
      congr 2
      · by_cases h : 1 ≤ w.length
        · rw [decide_eq_true h, decide_eq_true (by omega)]
        · rw [decide_eq_false h, decide_eq_false (by omega)]
      · by_cases h : w.length ≤ 4
        · rw [decide_eq_true h, decide_eq_true (by omega)]
        · rw [decide_eq_false h, decide_eq_false (by omega)]
    rw [e]
    exact ⟨_, ret_blk (and_ev (chn_ev int_ev (len_ev (var_ev rfl) l1) int_ev rfl rfl rfl) fun _ => all_in rfl (Nat.le_of_ble_eq_true rfl) rfl l1)⟩
  obtain ⟨ρ', h3⟩ := key
  exact run_rt n pt__law_is_yarn ⟨rfl, by decide, rfl, rfl⟩ h3
end Kn

set_option Elab.async false
set_option linter.all false
set_option maxRecDepth 100000
set_option maxHeartbeats 4000000
/-! LR: the law's look at a row of words (printed by glr.py). -/
namespace Kn
open PySem L2
def wayW (a : List Nat) : Bool := decide (a = [43]) || decide (a = [45])
def rw_nd2 (w : List Nat) : List (List Nat) → Option (List D)
  | [a, b, c] => if yarnB c = true then (if wayW a = true then (needD b).map fun p => [.str w, .str a, .str p.1, .int p.2, .str c] else none) else none
  | _ => none
def rw_nd1 (w : List Nat) : List (List Nat) → Option (List D)
  | [a] => (needD a).map fun p => [.str w, .str p.1, .int p.2]
  | _ => none
def rw_slide (w : List Nat) : List (List Nat) → Option (List D)
  | [a] => (numW a (-3) 3).map fun k => [.str w, .int k]
  | _ => none
def rw_miss (w : List Nat) : List (List Nat) → Option (List D)
  | [a, b, c] => if yarnB c = true then (if wayW a = true then (numW b 0 23).map fun k => [.str w, .str a, .int k, .str c] else none) else none
  | _ => none
def rw_come (w : List Nat) : List (List Nat) → Option (List D)
  | [a, b] => if yarnB a = true then (numW b 0 24).map fun k => [.str w, .str a, .int k] else none
  | _ => none
def rw_go (w : List Nat) : List (List Nat) → Option (List D)
  | [a] => if yarnB a = true then some [.str w, .str a] else none
  | _ => none
def rowW (w : List Nat) (r : List (List Nat)) : Option (List D) :=
  if w = [107, 110, 105, 116] then rw_nd2 w r else
  if w = [116, 117, 99, 107] then rw_nd2 w r else
  if w = [109, 111, 118, 101] then rw_nd1 w r else
  if w = [111, 102, 102] then rw_nd1 w r else
  if w = [115, 108, 105, 100, 101] then rw_slide w r else
  if w = [109, 105, 115, 115] then rw_miss w r else
  if w = [99, 111, 109, 101] then rw_come w r else
  if w = [103, 111] then rw_go w r else
  none
def rowT : Option (List D) → D
  | some xs => .tup xs
  | none => .non
def okW (w : List Nat) : Prop := w.length ≤ 640 ∧ okS w = true
def dropS : S → Nat → S
  | s, 0 => s
  | .cons _ r, k + 1 => dropS r k
  | s, _ => s
theorem const_evs {t : T} {F : String → List SV → Cr} {e : E} {vs : List SV} {ρ : Env} (h : constEs e = some vs) : evs t F e ρ = .ok vs ρ := (const_both e).2 vs ρ h
theorem eqI (i j : Int) : eqD (.int i) (.int j) = some (decide (i = j)) := by
  have e : eqD (.int i) (.int j) = some (i == j) := rfl
  rw [e]
  congr 1
abbrev lrW (w : List Nat) (r : List (List Nat)) : Option SV := some (.d (.lst (.str w :: r.map .str)))
def lrK : List Kx := [.s [107, 110, 105, 116], .s [116, 117, 99, 107], .s [109, 111, 118, 101], .s [111, 102, 102], .s [115, 108, 105, 100, 101], .s [109, 105, 115, 115], .s [99, 111, 109, 101], .s [103, 111]]
def lrV : List D := [.int 4, .int 4, .int 2, .int 2, .int 2, .int 4, .int 3, .int 2]
def lrM (w : List Nat) : D := (atK (.s w) lrK lrV).getD (.int 0)
theorem lr_pre {F : String → List SV → Cr} {G : Fl → Prop} (w : List Nat) (r : List (List Nat)) (m : Int) (hm : lrM w = .int m)
    (k : G (Kn.exec tb F [] (dropS fd__law_row.body 2) [lrW w r, some (.d (.str w)), some (.d (.int m)), none, none, none, none, none])) :
    G (Kn.exec tb F [] fd__law_row.body ([SV.d (.lst (.str w :: r.map .str))].map some ++ List.replicate (fd__law_row.n - fd__law_row.np) none)) := by
  refine st_nx (ρ1 := [lrW w r, some (.d (.str w)), none, none, none, none, none, none]) (set_to (idx_ev (var_ev rfl) int_ev (show atI (D.str w :: r.map .str) (0 : Int) = some (.str w) from atI_nat (j := 0) List.getElem?_cons_zero)) rfl rfl) ?_
  refine st_nx (ρ1 := [lrW w r, some (.d (.str w)), some (.d (.int m)), none, none, none, none, none]) (set_to (dget_ev (ks := lrK) (xs := lrV) (j := .s w) (disp_ev (by decide) (const_evs rfl)) rfl (var_ev rfl) int_ev rfl) rfl ?_) k
  show [lrW w r, some (.d (.str w)), some (.d (lrM w)), none, none, none, none, none] = _
  rw [hm]
theorem lr_len {F : String → List SV → Cr} (w : List Nat) (r : List (List Nat)) (m : Int) (v : Option SV) : ev tb F (.cmp .ne (.blt .len (.cons (.var 0) .nil)) (.var 2)) [lrW w r, some (.d (.str w)), some (.d (.int m)), none, none, none, none, none] = .ok (.d (.bl (!decide ((r.length : Int) + 1 = m)))) [lrW w r, some (.d (.str w)), some (.d (.int m)), none, none, none, none, none] := by
  refine ne_ev (blt1_ev (var_ev rfl) (v := .d (.int ((r.length : Int) + 1))) ?_) (var_ev rfl) (eqI _ _)
  show some (SV.d (.int ((D.str w :: r.map .str).length : Int))) = _
  rw [List.length_cons, List.length_map]
  rfl
theorem lr_no {F : String → List SV → Cr} (w : List Nat) (r : List (List Nat)) (m : Int) (hm : lrM w = .int m) (h : (r.length : Int) + 1 ≠ m) :
    GV (.d .non) (Kn.exec tb F [] fd__law_row.body ([SV.d (.lst (.str w :: r.map .str))].map some ++ List.replicate (fd__law_row.n - fd__law_row.np) none)) := by
  refine lr_pre w r m hm ?_
  have hc := lr_len (F := F) w r m none
  rw [decide_eq_false h] at hc
  exact st_rt (ite_t hc (ret_blk (const_ev rfl))) ⟨_, rfl⟩
theorem lr_yes {F : String → List SV → Cr} {G : Fl → Prop} (w : List Nat) (r : List (List Nat)) (m : Int) (hm : lrM w = .int m) (h : (r.length : Int) + 1 = m)
    (k : G (Kn.exec tb F [] (dropS fd__law_row.body 3) [lrW w r, some (.d (.str w)), some (.d (.int m)), none, none, none, none, none])) :
    G (Kn.exec tb F [] fd__law_row.body ([SV.d (.lst (.str w :: r.map .str))].map some ++ List.replicate (fd__law_row.n - fd__law_row.np) none)) := by
  refine lr_pre w r m hm ?_
  have hc := lr_len (F := F) w r m none
  rw [decide_eq_true h] at hc
  exact st_nx (ite_f hc nil_blk) k
theorem lr_end (n : Nat) {w : List Nat} {r : List (List Nat)} {x : D} (key : GV (.d x) (Kn.exec tb (callN tb pt n) [] fd__law_row.body ([SV.d (.lst (.str w :: r.map .str))].map some ++ List.replicate (fd__law_row.n - fd__law_row.np) none))) :
    ∃ o, callN tb pt (n + 1) "_law_row" [.d (.lst (.str w :: r.map .str))] = .ok (.d x) o := by
  obtain ⟨ρ', h3⟩ := key
  exact run_rt n pt__law_row ⟨rfl, by decide, rfl, rfl⟩ h3
theorem way_any (a : List Nat) : ([[43], [45]].any fun y => decide (y = a)) = wayW a := by
  unfold wayW
  simp only [List.any_cons, List.any_nil, Bool.or_false]
  congr 1 <;> (simp only [decide_eq_decide]; exact eq_comm)
theorem in_evr {t : T} {F : String → List SV → Cr} {ρ : Env} {a b : E} {w : List Nat} {ls : List (List Nat)} {y : SV} {r : Bool} (h1 : ev t F a ρ = .ok (.d (.str w)) ρ) (h2 : ev t F b ρ = .ok y ρ) (hy : frz y = .lst (ls.map .str)) (hw : okS w = true) (hl : ls.all okS = true) (hr : (ls.any fun y => decide (y = w)) = r) : ev t F (.cmp .in_ a b) ρ = .ok (.d (.bl r)) ρ := by
  rw [← hr]
  exact in_ev h1 h2 hy hw hl
theorem unp_ok {t : T} {F : String → List SV → Cr} {ro is : List Nat} {e : E} {v : SV} {ρ ρ1 ρ2 : Env} (h : ev t F e ρ = .ok v ρ1) (hr : is.all (fun i => !ro.contains i) = true) (hb : bindT (.tp is) (frz v) ρ1 = some ρ2) : Kn.exec t F ro (.unp is e) ρ = .nx ρ2 := by
  have e0 : Kn.exec t F ro (.unp is e) ρ = thenF (ev t F e ρ) fun v ρ => (match bindT (.tp is) (frz v) ρ with
    | some ρ' => if is.all (fun i => !ro.contains i) then .nx ρ' else .no
    | none => .no) := by first | (simp only [Kn.exec]; done) | (simp only [Kn.exec]; rfl)
  rw [e0, h]
  show (match bindT (.tp is) (frz v) ρ1 with
    | some ρ' => if is.all (fun i => !ro.contains i) then Fl.nx ρ' else .no
    | none => .no) = _
  rw [hb]
  exact if_pos hr
theorem lr_knit (n : Nat) (a b c : List Nat) (ha : okW a) (hb : okW b) (hc : okW c) : ∃ o, callN tb pt (n + 3) "_law_row" [.d (.lst (.str [107, 110, 105, 116] :: [a, b, c].map .str))] = .ok (.d (rowT (rw_nd2 [107, 110, 105, 116] [a, b, c]))) o := by
  obtain ⟨oy, ey⟩ := law_is_yarn_at (n + 1) c hc.1
  obtain ⟨o1, e1⟩ := law_needle_at n b hb.1 hb.2
  refine lr_end (n + 2) ?_
  generalize callN tb pt (n + 2) = F at *
  refine lr_yes [107, 110, 105, 116] [a, b, c] 4 rfl rfl ?_
  simp only [rw_nd2]
  have cy : ev tb F (.and (.cmp .in_ (.var 1) (.lst (.cons (.str [107, 110, 105, 116]) (.cons (.str [116, 117, 99, 107]) (.cons (.str [109, 105, 115, 115]) (.cons (.str [99, 111, 109, 101]) (.cons (.str [103, 111]) .nil))))))) (.not (.call "_law_is_yarn" (.cons (.idx (.var 0) (.idx (.lst (.cons (.int 1) (.cons (.neg (.int 1)) .nil))) (.blt .int (.cons (.cmp .ne (.var 1) (.str [99, 111, 109, 101])) .nil)))) .nil)))) [lrW [107, 110, 105, 116] [a, b, c], some (.d (.str [107, 110, 105, 116])), some (.d (.int 4)), none, none, none, none, none] = .ok (.d (.bl (true && !yarnB c))) [lrW [107, 110, 105, 116] [a, b, c], some (.d (.str [107, 110, 105, 116])), some (.d (.int 4)), none, none, none, none, none] :=
    and_ev (in_evr (ls := [[107, 110, 105, 116], [116, 117, 99, 107], [109, 105, 115, 115], [99, 111, 109, 101], [103, 111]]) (var_ev rfl) (const_ev rfl) rfl rfl rfl rfl) fun _ => not_ev (call_ev rfl (evs_cons (idx_ev (var_ev rfl) (idx_ev (const_ev rfl) (blt1_ev (ne_ev (var_ev rfl) str_ev (eqT _ _)) rfl) rfl) rfl) evs_nil) ey)
  rw [Bool.true_and] at cy
  cases hy : yarnB c with
  | false =>
    rw [hy] at cy
    exact st_rt (ite_t cy (ret_blk (const_ev rfl))) ⟨_, rfl⟩
  | true =>
  rw [hy] at cy
  rw [if_pos rfl]
  refine st_nx (ite_f cy nil_blk) ?_
  have cw : ev tb F (.and (.cmp .in_ (.var 1) (.lst (.cons (.str [107, 110, 105, 116]) (.cons (.str [116, 117, 99, 107]) (.cons (.str [109, 105, 115, 115]) .nil))))) (.cmp .notin (.idx (.var 0) (.int 1)) (.lst (.cons (.str [43]) (.cons (.str [45]) .nil))))) [lrW [107, 110, 105, 116] [a, b, c], some (.d (.str [107, 110, 105, 116])), some (.d (.int 4)), none, none, none, none, none] = .ok (.d (.bl (true && !([[43], [45]].any fun y => decide (y = a))))) [lrW [107, 110, 105, 116] [a, b, c], some (.d (.str [107, 110, 105, 116])), some (.d (.int 4)), none, none, none, none, none] :=
    and_ev (in_evr (ls := [[107, 110, 105, 116], [116, 117, 99, 107], [109, 105, 115, 115]]) (var_ev rfl) (const_ev rfl) rfl rfl rfl rfl) fun _ => nin_ev (idx_ev (var_ev rfl) int_ev rfl) (const_ev rfl) rfl ha.2 rfl
  rw [Bool.true_and, way_any] at cw
  cases hw : wayW a with
  | false =>
    rw [hw] at cw
    exact st_rt (ite_t cw (ret_blk (const_ev rfl))) ⟨_, rfl⟩
  | true =>
  rw [hw] at cw
  rw [if_pos rfl]
  refine st_nx (ite_f cw nil_blk) ?_
  have hs : ∃ ρ', Kn.exec tb F [] (.cons (.set 3 (.call "_law_needle" (.cons (.idx (.var 0) (.int 2)) .nil))) (.cons (.ret (.ife (.cmp .is_ (.var 3) .non) .non (.bin .add (.bin .add (.tup (.cons (.var 1) (.cons (.idx (.var 0) (.int 1)) .nil))) (.var 3)) (.tup (.cons (.idx (.var 0) (.int 3)) .nil))))) .nil)) [lrW [107, 110, 105, 116] [a, b, c], some (.d (.str [107, 110, 105, 116])), some (.d (.int 4)), none, none, none, none, none] = .rt (.d (rowT ((needD b).map fun p => [.str [107, 110, 105, 116], .str a, .str p.1, .int p.2, .str c]))) ρ' := by
    refine st_nx (G := fun x => ∃ ρ', x = .rt _ ρ') (ρ1 := [lrW [107, 110, 105, 116] [a, b, c], some (.d (.str [107, 110, 105, 116])), some (.d (.int 4)), some (.d (needT (needD b))), none, none, none, none]) (set_to (call_ev (o := o1) rfl (evs_cons (idx_ev (var_ev rfl) int_ev rfl) evs_nil) e1) rfl rfl) ?_
    cases hq : needD b with
    | none => exact ⟨_, ret_blk (ife_t (is_ev (var_ev rfl) rfl) (const_ev rfl))⟩
    | some pr => exact ⟨_, ret_blk (ife_f (is_ev (var_ev rfl) rfl) (bin_ev (bin_ev (tup_ev (evs_cons (var_ev rfl) (evs_cons (idx_ev (var_ev rfl) int_ev rfl) evs_nil)) (Nat.le_of_ble_eq_true rfl)) (var_ev rfl) (bT _ _ (Nat.le_of_ble_eq_true rfl))) (tup_ev (evs_cons (idx_ev (var_ev rfl) int_ev rfl) evs_nil) (Nat.le_of_ble_eq_true rfl)) (bT _ _ (Nat.le_of_ble_eq_true rfl))))⟩
  obtain ⟨ρ', hs⟩ := hs
  exact st_rt (ite_t (in_evr (ls := [[107, 110, 105, 116], [116, 117, 99, 107]]) (var_ev rfl) (const_ev rfl) rfl rfl rfl rfl) hs) ⟨_, rfl⟩
theorem lr_tuck (n : Nat) (a b c : List Nat) (ha : okW a) (hb : okW b) (hc : okW c) : ∃ o, callN tb pt (n + 3) "_law_row" [.d (.lst (.str [116, 117, 99, 107] :: [a, b, c].map .str))] = .ok (.d (rowT (rw_nd2 [116, 117, 99, 107] [a, b, c]))) o := by
  obtain ⟨oy, ey⟩ := law_is_yarn_at (n + 1) c hc.1
  obtain ⟨o1, e1⟩ := law_needle_at n b hb.1 hb.2
  refine lr_end (n + 2) ?_
  generalize callN tb pt (n + 2) = F at *
  refine lr_yes [116, 117, 99, 107] [a, b, c] 4 rfl rfl ?_
  simp only [rw_nd2]
  have cy : ev tb F (.and (.cmp .in_ (.var 1) (.lst (.cons (.str [107, 110, 105, 116]) (.cons (.str [116, 117, 99, 107]) (.cons (.str [109, 105, 115, 115]) (.cons (.str [99, 111, 109, 101]) (.cons (.str [103, 111]) .nil))))))) (.not (.call "_law_is_yarn" (.cons (.idx (.var 0) (.idx (.lst (.cons (.int 1) (.cons (.neg (.int 1)) .nil))) (.blt .int (.cons (.cmp .ne (.var 1) (.str [99, 111, 109, 101])) .nil)))) .nil)))) [lrW [116, 117, 99, 107] [a, b, c], some (.d (.str [116, 117, 99, 107])), some (.d (.int 4)), none, none, none, none, none] = .ok (.d (.bl (true && !yarnB c))) [lrW [116, 117, 99, 107] [a, b, c], some (.d (.str [116, 117, 99, 107])), some (.d (.int 4)), none, none, none, none, none] :=
    and_ev (in_evr (ls := [[107, 110, 105, 116], [116, 117, 99, 107], [109, 105, 115, 115], [99, 111, 109, 101], [103, 111]]) (var_ev rfl) (const_ev rfl) rfl rfl rfl rfl) fun _ => not_ev (call_ev rfl (evs_cons (idx_ev (var_ev rfl) (idx_ev (const_ev rfl) (blt1_ev (ne_ev (var_ev rfl) str_ev (eqT _ _)) rfl) rfl) rfl) evs_nil) ey)
  rw [Bool.true_and] at cy
  cases hy : yarnB c with
  | false =>
    rw [hy] at cy
    exact st_rt (ite_t cy (ret_blk (const_ev rfl))) ⟨_, rfl⟩
  | true =>
  rw [hy] at cy
  rw [if_pos rfl]
  refine st_nx (ite_f cy nil_blk) ?_
  have cw : ev tb F (.and (.cmp .in_ (.var 1) (.lst (.cons (.str [107, 110, 105, 116]) (.cons (.str [116, 117, 99, 107]) (.cons (.str [109, 105, 115, 115]) .nil))))) (.cmp .notin (.idx (.var 0) (.int 1)) (.lst (.cons (.str [43]) (.cons (.str [45]) .nil))))) [lrW [116, 117, 99, 107] [a, b, c], some (.d (.str [116, 117, 99, 107])), some (.d (.int 4)), none, none, none, none, none] = .ok (.d (.bl (true && !([[43], [45]].any fun y => decide (y = a))))) [lrW [116, 117, 99, 107] [a, b, c], some (.d (.str [116, 117, 99, 107])), some (.d (.int 4)), none, none, none, none, none] :=
    and_ev (in_evr (ls := [[107, 110, 105, 116], [116, 117, 99, 107], [109, 105, 115, 115]]) (var_ev rfl) (const_ev rfl) rfl rfl rfl rfl) fun _ => nin_ev (idx_ev (var_ev rfl) int_ev rfl) (const_ev rfl) rfl ha.2 rfl
  rw [Bool.true_and, way_any] at cw
  cases hw : wayW a with
  | false =>
    rw [hw] at cw
    exact st_rt (ite_t cw (ret_blk (const_ev rfl))) ⟨_, rfl⟩
  | true =>
  rw [hw] at cw
  rw [if_pos rfl]
  refine st_nx (ite_f cw nil_blk) ?_
  have hs : ∃ ρ', Kn.exec tb F [] (.cons (.set 3 (.call "_law_needle" (.cons (.idx (.var 0) (.int 2)) .nil))) (.cons (.ret (.ife (.cmp .is_ (.var 3) .non) .non (.bin .add (.bin .add (.tup (.cons (.var 1) (.cons (.idx (.var 0) (.int 1)) .nil))) (.var 3)) (.tup (.cons (.idx (.var 0) (.int 3)) .nil))))) .nil)) [lrW [116, 117, 99, 107] [a, b, c], some (.d (.str [116, 117, 99, 107])), some (.d (.int 4)), none, none, none, none, none] = .rt (.d (rowT ((needD b).map fun p => [.str [116, 117, 99, 107], .str a, .str p.1, .int p.2, .str c]))) ρ' := by
    refine st_nx (G := fun x => ∃ ρ', x = .rt _ ρ') (ρ1 := [lrW [116, 117, 99, 107] [a, b, c], some (.d (.str [116, 117, 99, 107])), some (.d (.int 4)), some (.d (needT (needD b))), none, none, none, none]) (set_to (call_ev (o := o1) rfl (evs_cons (idx_ev (var_ev rfl) int_ev rfl) evs_nil) e1) rfl rfl) ?_
    cases hq : needD b with
    | none => exact ⟨_, ret_blk (ife_t (is_ev (var_ev rfl) rfl) (const_ev rfl))⟩
    | some pr => exact ⟨_, ret_blk (ife_f (is_ev (var_ev rfl) rfl) (bin_ev (bin_ev (tup_ev (evs_cons (var_ev rfl) (evs_cons (idx_ev (var_ev rfl) int_ev rfl) evs_nil)) (Nat.le_of_ble_eq_true rfl)) (var_ev rfl) (bT _ _ (Nat.le_of_ble_eq_true rfl))) (tup_ev (evs_cons (idx_ev (var_ev rfl) int_ev rfl) evs_nil) (Nat.le_of_ble_eq_true rfl)) (bT _ _ (Nat.le_of_ble_eq_true rfl))))⟩
  obtain ⟨ρ', hs⟩ := hs
  exact st_rt (ite_t (in_evr (ls := [[107, 110, 105, 116], [116, 117, 99, 107]]) (var_ev rfl) (const_ev rfl) rfl rfl rfl rfl) hs) ⟨_, rfl⟩
theorem lr_move (n : Nat) (a : List Nat) (ha : okW a) : ∃ o, callN tb pt (n + 3) "_law_row" [.d (.lst (.str [109, 111, 118, 101] :: [a].map .str))] = .ok (.d (rowT (rw_nd1 [109, 111, 118, 101] [a]))) o := by
  obtain ⟨o1, e1⟩ := law_needle_at n a ha.1 ha.2
  refine lr_end (n + 2) ?_
  generalize callN tb pt (n + 2) = F at *
  refine lr_yes [109, 111, 118, 101] [a] 2 rfl rfl ?_
  simp only [rw_nd1]
  refine st_nx (ite_f (and_ev (p := false) (q := false) (in_evr (ls := [[107, 110, 105, 116], [116, 117, 99, 107], [109, 105, 115, 115], [99, 111, 109, 101], [103, 111]]) (var_ev rfl) (const_ev rfl) rfl rfl rfl rfl) (fun z => by cases z)) nil_blk) ?_
  refine st_nx (ite_f (and_ev (p := false) (q := false) (in_evr (ls := [[107, 110, 105, 116], [116, 117, 99, 107], [109, 105, 115, 115]]) (var_ev rfl) (const_ev rfl) rfl rfl rfl rfl) (fun z => by cases z)) nil_blk) ?_
  refine st_nx (ite_f (in_evr (ls := [[107, 110, 105, 116], [116, 117, 99, 107]]) (var_ev rfl) (const_ev rfl) rfl rfl rfl rfl) nil_blk) ?_
  have hs : ∃ ρ', Kn.exec tb F [] (.cons (.set 3 (.call "_law_needle" (.cons (.idx (.var 0) (.int 1)) .nil))) (.cons (.ret (.ife (.cmp .is_ (.var 3) .non) .non (.bin .add (.tup (.cons (.var 1) .nil)) (.var 3)))) .nil)) [lrW [109, 111, 118, 101] [a], some (.d (.str [109, 111, 118, 101])), some (.d (.int 2)), none, none, none, none, none] = .rt (.d (rowT ((needD a).map fun p => [.str [109, 111, 118, 101], .str p.1, .int p.2]))) ρ' := by
    refine st_nx (G := fun x => ∃ ρ', x = .rt _ ρ') (ρ1 := [lrW [109, 111, 118, 101] [a], some (.d (.str [109, 111, 118, 101])), some (.d (.int 2)), some (.d (needT (needD a))), none, none, none, none]) (set_to (call_ev (o := o1) rfl (evs_cons (idx_ev (var_ev rfl) int_ev rfl) evs_nil) e1) rfl rfl) ?_
    cases hq : needD a with
    | none => exact ⟨_, ret_blk (ife_t (is_ev (var_ev rfl) rfl) (const_ev rfl))⟩
    | some pr => exact ⟨_, ret_blk (ife_f (is_ev (var_ev rfl) rfl) (bin_ev (tup_ev (evs_cons (var_ev rfl) evs_nil) (Nat.le_of_ble_eq_true rfl)) (var_ev rfl) (bT _ _ (Nat.le_of_ble_eq_true rfl))))⟩
  obtain ⟨ρ', hs⟩ := hs
  exact st_rt (ite_t (in_evr (ls := [[109, 111, 118, 101], [111, 102, 102]]) (var_ev rfl) (const_ev rfl) rfl rfl rfl rfl) hs) ⟨_, rfl⟩
theorem lr_off (n : Nat) (a : List Nat) (ha : okW a) : ∃ o, callN tb pt (n + 3) "_law_row" [.d (.lst (.str [111, 102, 102] :: [a].map .str))] = .ok (.d (rowT (rw_nd1 [111, 102, 102] [a]))) o := by
  obtain ⟨o1, e1⟩ := law_needle_at n a ha.1 ha.2
  refine lr_end (n + 2) ?_
  generalize callN tb pt (n + 2) = F at *
  refine lr_yes [111, 102, 102] [a] 2 rfl rfl ?_
  simp only [rw_nd1]
  refine st_nx (ite_f (and_ev (p := false) (q := false) (in_evr (ls := [[107, 110, 105, 116], [116, 117, 99, 107], [109, 105, 115, 115], [99, 111, 109, 101], [103, 111]]) (var_ev rfl) (const_ev rfl) rfl rfl rfl rfl) (fun z => by cases z)) nil_blk) ?_
  refine st_nx (ite_f (and_ev (p := false) (q := false) (in_evr (ls := [[107, 110, 105, 116], [116, 117, 99, 107], [109, 105, 115, 115]]) (var_ev rfl) (const_ev rfl) rfl rfl rfl rfl) (fun z => by cases z)) nil_blk) ?_
  refine st_nx (ite_f (in_evr (ls := [[107, 110, 105, 116], [116, 117, 99, 107]]) (var_ev rfl) (const_ev rfl) rfl rfl rfl rfl) nil_blk) ?_
  have hs : ∃ ρ', Kn.exec tb F [] (.cons (.set 3 (.call "_law_needle" (.cons (.idx (.var 0) (.int 1)) .nil))) (.cons (.ret (.ife (.cmp .is_ (.var 3) .non) .non (.bin .add (.tup (.cons (.var 1) .nil)) (.var 3)))) .nil)) [lrW [111, 102, 102] [a], some (.d (.str [111, 102, 102])), some (.d (.int 2)), none, none, none, none, none] = .rt (.d (rowT ((needD a).map fun p => [.str [111, 102, 102], .str p.1, .int p.2]))) ρ' := by
    refine st_nx (G := fun x => ∃ ρ', x = .rt _ ρ') (ρ1 := [lrW [111, 102, 102] [a], some (.d (.str [111, 102, 102])), some (.d (.int 2)), some (.d (needT (needD a))), none, none, none, none]) (set_to (call_ev (o := o1) rfl (evs_cons (idx_ev (var_ev rfl) int_ev rfl) evs_nil) e1) rfl rfl) ?_
    cases hq : needD a with
    | none => exact ⟨_, ret_blk (ife_t (is_ev (var_ev rfl) rfl) (const_ev rfl))⟩
    | some pr => exact ⟨_, ret_blk (ife_f (is_ev (var_ev rfl) rfl) (bin_ev (tup_ev (evs_cons (var_ev rfl) evs_nil) (Nat.le_of_ble_eq_true rfl)) (var_ev rfl) (bT _ _ (Nat.le_of_ble_eq_true rfl))))⟩
  obtain ⟨ρ', hs⟩ := hs
  exact st_rt (ite_t (in_evr (ls := [[109, 111, 118, 101], [111, 102, 102]]) (var_ev rfl) (const_ev rfl) rfl rfl rfl rfl) hs) ⟨_, rfl⟩
theorem lr_slide (n : Nat) (a : List Nat) (ha : okW a) : ∃ o, callN tb pt (n + 3) "_law_row" [.d (.lst (.str [115, 108, 105, 100, 101] :: [a].map .str))] = .ok (.d (rowT (rw_slide [115, 108, 105, 100, 101] [a]))) o := by
  obtain ⟨o1, e1⟩ := law_number_at (n + 1) a (-3) 3 ha.1
  refine lr_end (n + 2) ?_
  generalize callN tb pt (n + 2) = F at *
  refine lr_yes [115, 108, 105, 100, 101] [a] 2 rfl rfl ?_
  simp only [rw_slide]
  refine st_nx (ite_f (and_ev (p := false) (q := false) (in_evr (ls := [[107, 110, 105, 116], [116, 117, 99, 107], [109, 105, 115, 115], [99, 111, 109, 101], [103, 111]]) (var_ev rfl) (const_ev rfl) rfl rfl rfl rfl) (fun z => by cases z)) nil_blk) ?_
  refine st_nx (ite_f (and_ev (p := false) (q := false) (in_evr (ls := [[107, 110, 105, 116], [116, 117, 99, 107], [109, 105, 115, 115]]) (var_ev rfl) (const_ev rfl) rfl rfl rfl rfl) (fun z => by cases z)) nil_blk) ?_
  refine st_nx (ite_f (in_evr (ls := [[107, 110, 105, 116], [116, 117, 99, 107]]) (var_ev rfl) (const_ev rfl) rfl rfl rfl rfl) nil_blk) ?_
  refine st_nx (ite_f (in_evr (ls := [[109, 111, 118, 101], [111, 102, 102]]) (var_ev rfl) (const_ev rfl) rfl rfl rfl rfl) nil_blk) ?_
  refine st_nx (ite_f (eq_ev (r := false) (var_ev rfl) str_ev rfl) nil_blk) ?_
  refine st_nx (ρ1 := [lrW [115, 108, 105, 100, 101] [a], some (.d (.str [115, 108, 105, 100, 101])), some (.d (.int 2)), none, some (.d (.int 1)), none, none, none]) (set_to (idx_ev (disp_ev (by decide) (const_evs rfl)) (var_ev rfl) rfl) rfl rfl) ?_
  refine st_nx (ρ1 := [lrW [115, 108, 105, 100, 101] [a], some (.d (.str [115, 108, 105, 100, 101])), some (.d (.int 2)), none, some (.d (.int 1)), some (.d (.int (-3))), some (.d (.int 3)), none]) (unp_ok (idx_ev (disp_ev (by decide) (const_evs rfl)) (var_ev rfl) rfl) rfl rfl) ?_
  refine st_nx (ρ1 := [lrW [115, 108, 105, 100, 101] [a], some (.d (.str [115, 108, 105, 100, 101])), some (.d (.int 2)), none, some (.d (.int 1)), some (.d (.int (-3))), some (.d (.int 3)), some (.d (optD (numW a (-3) 3)))]) (set_to (call_ev (o := o1) rfl (evs_cons (idx_ev (var_ev rfl) (var_ev rfl) rfl) (evs_cons (var_ev rfl) (evs_cons (var_ev rfl) evs_nil))) e1) rfl rfl) ?_
  cases hq : numW a (-3) 3 with
  | none => exact st_rt (ite_t (is_ev (var_ev rfl) rfl) (ret_blk (const_ev rfl))) ⟨_, rfl⟩
  | some k => exact st_nx (ite_f (is_ev (var_ev rfl) rfl) nil_blk) ⟨_, ret_blk (bin_ev (bin_ev (blt1_ev (slc_hi rfl (var_ev rfl) (var_ev rfl) rfl rfl) rfl) (tup_ev (evs_cons (var_ev rfl) evs_nil) (Nat.le_of_ble_eq_true rfl)) (bT _ _ (Nat.le_of_ble_eq_true rfl))) (blt1_ev (slc_lo rfl (var_ev rfl) (bin_ev (var_ev rfl) int_ev (bA _ _)) rfl rfl) rfl) (bT _ _ (Nat.le_of_ble_eq_true rfl)))⟩
theorem lr_miss (n : Nat) (a b c : List Nat) (ha : okW a) (hb : okW b) (hc : okW c) : ∃ o, callN tb pt (n + 3) "_law_row" [.d (.lst (.str [109, 105, 115, 115] :: [a, b, c].map .str))] = .ok (.d (rowT (rw_miss [109, 105, 115, 115] [a, b, c]))) o := by
  obtain ⟨oy, ey⟩ := law_is_yarn_at (n + 1) c hc.1
  obtain ⟨o1, e1⟩ := law_number_at (n + 1) b 0 23 hb.1
  refine lr_end (n + 2) ?_
  generalize callN tb pt (n + 2) = F at *
  refine lr_yes [109, 105, 115, 115] [a, b, c] 4 rfl rfl ?_
  simp only [rw_miss]
  have cy : ev tb F (.and (.cmp .in_ (.var 1) (.lst (.cons (.str [107, 110, 105, 116]) (.cons (.str [116, 117, 99, 107]) (.cons (.str [109, 105, 115, 115]) (.cons (.str [99, 111, 109, 101]) (.cons (.str [103, 111]) .nil))))))) (.not (.call "_law_is_yarn" (.cons (.idx (.var 0) (.idx (.lst (.cons (.int 1) (.cons (.neg (.int 1)) .nil))) (.blt .int (.cons (.cmp .ne (.var 1) (.str [99, 111, 109, 101])) .nil)))) .nil)))) [lrW [109, 105, 115, 115] [a, b, c], some (.d (.str [109, 105, 115, 115])), some (.d (.int 4)), none, none, none, none, none] = .ok (.d (.bl (true && !yarnB c))) [lrW [109, 105, 115, 115] [a, b, c], some (.d (.str [109, 105, 115, 115])), some (.d (.int 4)), none, none, none, none, none] :=
    and_ev (in_evr (ls := [[107, 110, 105, 116], [116, 117, 99, 107], [109, 105, 115, 115], [99, 111, 109, 101], [103, 111]]) (var_ev rfl) (const_ev rfl) rfl rfl rfl rfl) fun _ => not_ev (call_ev rfl (evs_cons (idx_ev (var_ev rfl) (idx_ev (const_ev rfl) (blt1_ev (ne_ev (var_ev rfl) str_ev (eqT _ _)) rfl) rfl) rfl) evs_nil) ey)
  rw [Bool.true_and] at cy
  cases hy : yarnB c with
  | false =>
    rw [hy] at cy
    exact st_rt (ite_t cy (ret_blk (const_ev rfl))) ⟨_, rfl⟩
  | true =>
  rw [hy] at cy
  rw [if_pos rfl]
  refine st_nx (ite_f cy nil_blk) ?_
  have cw : ev tb F (.and (.cmp .in_ (.var 1) (.lst (.cons (.str [107, 110, 105, 116]) (.cons (.str [116, 117, 99, 107]) (.cons (.str [109, 105, 115, 115]) .nil))))) (.cmp .notin (.idx (.var 0) (.int 1)) (.lst (.cons (.str [43]) (.cons (.str [45]) .nil))))) [lrW [109, 105, 115, 115] [a, b, c], some (.d (.str [109, 105, 115, 115])), some (.d (.int 4)), none, none, none, none, none] = .ok (.d (.bl (true && !([[43], [45]].any fun y => decide (y = a))))) [lrW [109, 105, 115, 115] [a, b, c], some (.d (.str [109, 105, 115, 115])), some (.d (.int 4)), none, none, none, none, none] :=
    and_ev (in_evr (ls := [[107, 110, 105, 116], [116, 117, 99, 107], [109, 105, 115, 115]]) (var_ev rfl) (const_ev rfl) rfl rfl rfl rfl) fun _ => nin_ev (idx_ev (var_ev rfl) int_ev rfl) (const_ev rfl) rfl ha.2 rfl
  rw [Bool.true_and, way_any] at cw
  cases hw : wayW a with
  | false =>
    rw [hw] at cw
    exact st_rt (ite_t cw (ret_blk (const_ev rfl))) ⟨_, rfl⟩
  | true =>
  rw [hw] at cw
  rw [if_pos rfl]
  refine st_nx (ite_f cw nil_blk) ?_
  refine st_nx (ite_f (in_evr (ls := [[107, 110, 105, 116], [116, 117, 99, 107]]) (var_ev rfl) (const_ev rfl) rfl rfl rfl rfl) nil_blk) ?_
  refine st_nx (ite_f (in_evr (ls := [[109, 111, 118, 101], [111, 102, 102]]) (var_ev rfl) (const_ev rfl) rfl rfl rfl rfl) nil_blk) ?_
  refine st_nx (ite_f (eq_ev (r := false) (var_ev rfl) str_ev rfl) nil_blk) ?_
  refine st_nx (ρ1 := [lrW [109, 105, 115, 115] [a, b, c], some (.d (.str [109, 105, 115, 115])), some (.d (.int 4)), none, some (.d (.int 2)), none, none, none]) (set_to (idx_ev (disp_ev (by decide) (const_evs rfl)) (var_ev rfl) rfl) rfl rfl) ?_
  refine st_nx (ρ1 := [lrW [109, 105, 115, 115] [a, b, c], some (.d (.str [109, 105, 115, 115])), some (.d (.int 4)), none, some (.d (.int 2)), some (.d (.int 0)), some (.d (.int 23)), none]) (unp_ok (idx_ev (disp_ev (by decide) (const_evs rfl)) (var_ev rfl) rfl) rfl rfl) ?_
  refine st_nx (ρ1 := [lrW [109, 105, 115, 115] [a, b, c], some (.d (.str [109, 105, 115, 115])), some (.d (.int 4)), none, some (.d (.int 2)), some (.d (.int 0)), some (.d (.int 23)), some (.d (optD (numW b 0 23)))]) (set_to (call_ev (o := o1) rfl (evs_cons (idx_ev (var_ev rfl) (var_ev rfl) rfl) (evs_cons (var_ev rfl) (evs_cons (var_ev rfl) evs_nil))) e1) rfl rfl) ?_
  cases hq : numW b 0 23 with
  | none => exact st_rt (ite_t (is_ev (var_ev rfl) rfl) (ret_blk (const_ev rfl))) ⟨_, rfl⟩
  | some k => exact st_nx (ite_f (is_ev (var_ev rfl) rfl) nil_blk) ⟨_, ret_blk (bin_ev (bin_ev (blt1_ev (slc_hi rfl (var_ev rfl) (var_ev rfl) rfl rfl) rfl) (tup_ev (evs_cons (var_ev rfl) evs_nil) (Nat.le_of_ble_eq_true rfl)) (bT _ _ (Nat.le_of_ble_eq_true rfl))) (blt1_ev (slc_lo rfl (var_ev rfl) (bin_ev (var_ev rfl) int_ev (bA _ _)) rfl rfl) rfl) (bT _ _ (Nat.le_of_ble_eq_true rfl)))⟩
theorem lr_come (n : Nat) (a b : List Nat) (ha : okW a) (hb : okW b) : ∃ o, callN tb pt (n + 3) "_law_row" [.d (.lst (.str [99, 111, 109, 101] :: [a, b].map .str))] = .ok (.d (rowT (rw_come [99, 111, 109, 101] [a, b]))) o := by
  obtain ⟨oy, ey⟩ := law_is_yarn_at (n + 1) a ha.1
  obtain ⟨o1, e1⟩ := law_number_at (n + 1) b 0 24 hb.1
  refine lr_end (n + 2) ?_
  generalize callN tb pt (n + 2) = F at *
  refine lr_yes [99, 111, 109, 101] [a, b] 3 rfl rfl ?_
  simp only [rw_come]
  have cy : ev tb F (.and (.cmp .in_ (.var 1) (.lst (.cons (.str [107, 110, 105, 116]) (.cons (.str [116, 117, 99, 107]) (.cons (.str [109, 105, 115, 115]) (.cons (.str [99, 111, 109, 101]) (.cons (.str [103, 111]) .nil))))))) (.not (.call "_law_is_yarn" (.cons (.idx (.var 0) (.idx (.lst (.cons (.int 1) (.cons (.neg (.int 1)) .nil))) (.blt .int (.cons (.cmp .ne (.var 1) (.str [99, 111, 109, 101])) .nil)))) .nil)))) [lrW [99, 111, 109, 101] [a, b], some (.d (.str [99, 111, 109, 101])), some (.d (.int 3)), none, none, none, none, none] = .ok (.d (.bl (true && !yarnB a))) [lrW [99, 111, 109, 101] [a, b], some (.d (.str [99, 111, 109, 101])), some (.d (.int 3)), none, none, none, none, none] :=
    and_ev (in_evr (ls := [[107, 110, 105, 116], [116, 117, 99, 107], [109, 105, 115, 115], [99, 111, 109, 101], [103, 111]]) (var_ev rfl) (const_ev rfl) rfl rfl rfl rfl) fun _ => not_ev (call_ev rfl (evs_cons (idx_ev (var_ev rfl) (idx_ev (const_ev rfl) (blt1_ev (ne_ev (var_ev rfl) str_ev (eqT _ _)) rfl) rfl) rfl) evs_nil) ey)
  rw [Bool.true_and] at cy
  cases hy : yarnB a with
  | false =>
    rw [hy] at cy
    exact st_rt (ite_t cy (ret_blk (const_ev rfl))) ⟨_, rfl⟩
  | true =>
  rw [hy] at cy
  rw [if_pos rfl]
  refine st_nx (ite_f cy nil_blk) ?_
  refine st_nx (ite_f (and_ev (p := false) (q := false) (in_evr (ls := [[107, 110, 105, 116], [116, 117, 99, 107], [109, 105, 115, 115]]) (var_ev rfl) (const_ev rfl) rfl rfl rfl rfl) (fun z => by cases z)) nil_blk) ?_
  refine st_nx (ite_f (in_evr (ls := [[107, 110, 105, 116], [116, 117, 99, 107]]) (var_ev rfl) (const_ev rfl) rfl rfl rfl rfl) nil_blk) ?_
  refine st_nx (ite_f (in_evr (ls := [[109, 111, 118, 101], [111, 102, 102]]) (var_ev rfl) (const_ev rfl) rfl rfl rfl rfl) nil_blk) ?_
  refine st_nx (ite_f (eq_ev (r := false) (var_ev rfl) str_ev rfl) nil_blk) ?_
  refine st_nx (ρ1 := [lrW [99, 111, 109, 101] [a, b], some (.d (.str [99, 111, 109, 101])), some (.d (.int 3)), none, some (.d (.int 2)), none, none, none]) (set_to (idx_ev (disp_ev (by decide) (const_evs rfl)) (var_ev rfl) rfl) rfl rfl) ?_
  refine st_nx (ρ1 := [lrW [99, 111, 109, 101] [a, b], some (.d (.str [99, 111, 109, 101])), some (.d (.int 3)), none, some (.d (.int 2)), some (.d (.int 0)), some (.d (.int 24)), none]) (unp_ok (idx_ev (disp_ev (by decide) (const_evs rfl)) (var_ev rfl) rfl) rfl rfl) ?_
  refine st_nx (ρ1 := [lrW [99, 111, 109, 101] [a, b], some (.d (.str [99, 111, 109, 101])), some (.d (.int 3)), none, some (.d (.int 2)), some (.d (.int 0)), some (.d (.int 24)), some (.d (optD (numW b 0 24)))]) (set_to (call_ev (o := o1) rfl (evs_cons (idx_ev (var_ev rfl) (var_ev rfl) rfl) (evs_cons (var_ev rfl) (evs_cons (var_ev rfl) evs_nil))) e1) rfl rfl) ?_
  cases hq : numW b 0 24 with
  | none => exact st_rt (ite_t (is_ev (var_ev rfl) rfl) (ret_blk (const_ev rfl))) ⟨_, rfl⟩
  | some k => exact st_nx (ite_f (is_ev (var_ev rfl) rfl) nil_blk) ⟨_, ret_blk (bin_ev (bin_ev (blt1_ev (slc_hi rfl (var_ev rfl) (var_ev rfl) rfl rfl) rfl) (tup_ev (evs_cons (var_ev rfl) evs_nil) (Nat.le_of_ble_eq_true rfl)) (bT _ _ (Nat.le_of_ble_eq_true rfl))) (blt1_ev (slc_lo rfl (var_ev rfl) (bin_ev (var_ev rfl) int_ev (bA _ _)) rfl rfl) rfl) (bT _ _ (Nat.le_of_ble_eq_true rfl)))⟩
theorem lr_go (n : Nat) (a : List Nat) (ha : okW a) : ∃ o, callN tb pt (n + 3) "_law_row" [.d (.lst (.str [103, 111] :: [a].map .str))] = .ok (.d (rowT (rw_go [103, 111] [a]))) o := by
  obtain ⟨oy, ey⟩ := law_is_yarn_at (n + 1) a ha.1
  refine lr_end (n + 2) ?_
  generalize callN tb pt (n + 2) = F at *
  refine lr_yes [103, 111] [a] 2 rfl rfl ?_
  simp only [rw_go]
  have cy : ev tb F (.and (.cmp .in_ (.var 1) (.lst (.cons (.str [107, 110, 105, 116]) (.cons (.str [116, 117, 99, 107]) (.cons (.str [109, 105, 115, 115]) (.cons (.str [99, 111, 109, 101]) (.cons (.str [103, 111]) .nil))))))) (.not (.call "_law_is_yarn" (.cons (.idx (.var 0) (.idx (.lst (.cons (.int 1) (.cons (.neg (.int 1)) .nil))) (.blt .int (.cons (.cmp .ne (.var 1) (.str [99, 111, 109, 101])) .nil)))) .nil)))) [lrW [103, 111] [a], some (.d (.str [103, 111])), some (.d (.int 2)), none, none, none, none, none] = .ok (.d (.bl (true && !yarnB a))) [lrW [103, 111] [a], some (.d (.str [103, 111])), some (.d (.int 2)), none, none, none, none, none] :=
    and_ev (in_evr (ls := [[107, 110, 105, 116], [116, 117, 99, 107], [109, 105, 115, 115], [99, 111, 109, 101], [103, 111]]) (var_ev rfl) (const_ev rfl) rfl rfl rfl rfl) fun _ => not_ev (call_ev rfl (evs_cons (idx_ev (var_ev rfl) (idx_ev (const_ev rfl) (blt1_ev (ne_ev (var_ev rfl) str_ev (eqT _ _)) rfl) rfl) rfl) evs_nil) ey)
  rw [Bool.true_and] at cy
  cases hy : yarnB a with
  | false =>
    rw [hy] at cy
    exact st_rt (ite_t cy (ret_blk (const_ev rfl))) ⟨_, rfl⟩
  | true =>
  rw [hy] at cy
  rw [if_pos rfl]
  refine st_nx (ite_f cy nil_blk) ?_
  refine st_nx (ite_f (and_ev (p := false) (q := false) (in_evr (ls := [[107, 110, 105, 116], [116, 117, 99, 107], [109, 105, 115, 115]]) (var_ev rfl) (const_ev rfl) rfl rfl rfl rfl) (fun z => by cases z)) nil_blk) ?_
  refine st_nx (ite_f (in_evr (ls := [[107, 110, 105, 116], [116, 117, 99, 107]]) (var_ev rfl) (const_ev rfl) rfl rfl rfl rfl) nil_blk) ?_
  refine st_nx (ite_f (in_evr (ls := [[109, 111, 118, 101], [111, 102, 102]]) (var_ev rfl) (const_ev rfl) rfl rfl rfl rfl) nil_blk) ?_
  exact st_rt (ite_t (eq_ev (r := true) (var_ev rfl) str_ev rfl) (ret_blk (tup_ev (evs_cons (var_ev rfl) (evs_cons (idx_ev (var_ev rfl) int_ev rfl) evs_nil)) (Nat.le_of_ble_eq_true rfl)))) ⟨_, rfl⟩
end Kn

set_option Elab.async false
set_option linter.all false
set_option maxRecDepth 100000
set_option maxHeartbeats 4000000
/-! DI: the program's look at a row of words. -/
namespace Kn
open PySem L2
theorem inT (w : List Nat) (ls : List (List Nat)) : inD (.str w) (.tup (ls.map .str)) = some (ls.any fun y => decide (y = w)) := by
  have e : inD (.str w) (.tup (ls.map .str)) = (if flat (.str w) && (ls.map D.str).all flat then some ((ls.map D.str).any fun y => eqvD y (.str w)) else none) := rfl
  have e2 : (ls.map D.str).all flat = true := by
    rw [List.all_map]
    exact List.all_eq_true.mpr fun _ _ => rfl
  rw [e, e2]
  show some _ = _
  rw [List.any_map]
  congr 1
  congr 1
  funext y
  show (y == w) = decide (y = w)
  by_cases h : y = w <;> simp [h]
section
variable {t : T} {F : String → List SV → Cr} {ρ ρ1 ρ2 : Env}
theorem int_ev2 {a b : E} {w : List Nat} {ls : List (List Nat)} {y : SV} {r : Bool} (h1 : ev t F a ρ = .ok (.d (.str w)) ρ) (h2 : ev t F b ρ = .ok y ρ) (hy : frz y = .tup (ls.map .str)) (hr : (ls.any fun y => decide (y = w)) = r) : ev t F (.cmp .in_ a b) ρ = .ok (.d (.bl r)) ρ :=
  cmp_ev h1 h2 (by rw [hy, cinE, frz, inT w ls, hr])
theorem varF_ev {i : Nat} {xs : List SV} (h : ρ[i]? = some (some (.lst xs))) : ev t F (.var i) ρ = .ok (.d (.lst (frzs xs))) (ρ.set i (some (.d (.lst (frzs xs))))) := by
  have e0 : ev t F (.var i) ρ = (match ρ[i]? with
    | some (some (.d x)) => .ok (.d x) ρ
    | some (some s) => .ok (.d (frz s)) (ρ.set i (some (.d (frz s))))
    | _ => .no) := by first | (simp only [ev]; done) | (simp only [ev]; rfl)
  rw [e0, h]
  rfl
theorem ext_ok {ro : List Nat} {i : Nat} {e : E} {v : SV} {xs0 xs ys : List SV} (h0 : ρ[i]? = some (some (.lst xs0))) (h : ev t F e ρ = .ok v ρ1) (h1 : ρ1[i]? = some (some (.lst xs))) (hv : svl v = some ys) (hl : xs.length + ys.length ≤ lim) : Kn.exec t F ro (.ext i e) ρ = .nx (ρ1.set i (some (.lst (xs ++ ys)))) := by
  have e0 : Kn.exec t F ro (.ext i e) ρ = (match ρ[i]? with
    | some (some (.lst _)) => thenF (ev t F e ρ) fun v ρ => (match ρ[i]? with
      | some (some (.lst xs)) => (match svl v with
        | some ys => if xs.length + ys.length ≤ lim then .nx (ρ.set i (some (.lst (xs ++ ys)))) else .no
        | none => .no)
      | _ => .no)
    | _ => .no) := by first | (simp only [Kn.exec]; done) | (simp only [Kn.exec]; rfl)
  rw [e0, h0]
  show thenF (ev t F e ρ) _ = _
  rw [h]
  show (match ρ1[i]? with
      | some (some (.lst xs)) => (match svl v with
        | some ys => if xs.length + ys.length ≤ lim then Fl.nx (ρ1.set i (some (.lst (xs ++ ys)))) else .no
        | none => .no)
      | _ => .no) = _
  rw [h1]
  show (match svl v with
        | some ys => if xs.length + ys.length ≤ lim then Fl.nx (ρ1.set i (some (.lst (xs ++ ys)))) else .no
        | none => .no) = _
  rw [hv]
  exact if_pos hl
theorem ext_to {ro : List Nat} {i : Nat} {e : E} {v : SV} {xs0 xs ys : List SV} (h0 : ρ[i]? = some (some (.lst xs0))) (h : ev t F e ρ = .ok v ρ1) (h1 : ρ1[i]? = some (some (.lst xs))) (hv : svl v = some ys) (hl : xs.length + ys.length ≤ lim) (hs : ρ1.set i (some (.lst (xs ++ ys))) = ρ2) : Kn.exec t F ro (.ext i e) ρ = .nx ρ2 := by
  rw [ext_ok h0 h h1 hv hl, hs]
theorem rng2_evi {a b : E} {x y : SV} {i j : Int} (h1 : ev t F a ρ = .ok x ρ1) (h2 : ev t F b ρ1 = .ok y ρ2) (hx : frz x = .int i) (hy : frz y = .int j) (hb : (-1000000000000 < i ∧ i < 1000000000000) ∧ (-1000000000000 < j ∧ j < 1000000000000)) : evi t F (.rng2 a b) ρ = .ok (rngD i j) ρ2 := by
  have e0 : ev t F (.rng2 a b) ρ = (ev t F a ρ).bind fun x ρ => (ev t F b ρ).bind fun y ρ => (match frz x, frz y with
    | .int i, .int j => if (-1000000000000 < i ∧ i < 1000000000000) ∧ (-1000000000000 < j ∧ j < 1000000000000) then .ok (.d (.lst (rngD i j))) ρ else .no
    | _, _ => .no) := by first | (simp only [ev]; done) | (simp only [ev]; rfl)
  have e1 : ev t F (.rng2 a b) ρ = .ok (.d (.lst (rngD i j))) ρ2 := by
    rw [e0, h1, bind_ok, h2, bind_ok, hx, hy]
    exact if_pos hb
  exact evi_of e1 rfl
end
def itemD (w : List Nat) : D := optI2 w (numW w (-99) 99)
where optI2 (w : List Nat) : Option Int → D
  | some v => .int v
  | none => .str w
def bearsF (nd : Bool) (q : Int) : Int → List (List Nat) → Option (List D)
  | _, [] => some []
  | k, w :: ws => if (nd && decide (k = q)) = true then (needD w).bind fun p => (bearsF nd q (k + 1) ws).map fun bs => .str p.1 :: .int p.2 :: bs else (bearsF nd q (k + 1) ws).map fun bs => itemD w :: bs
def nd4 (w : List Nat) : Bool := [[107, 110, 105, 116], [116, 117, 99, 107], [109, 111, 118, 101], [111, 102, 102]].any fun y => decide (y = w)
def nd2 (w : List Nat) : Bool := [[107, 110, 105, 116], [116, 117, 99, 107]].any fun y => decide (y = w)
def qOf (w : List Nat) (r : List (List Nat)) : Int := (r.length : Int) + 1 - 1 - (if nd2 w then 1 else 0)
def diB : S := bodyS (nthS fd_deed_in.body 1)
abbrev diE (w0 : List Nat) (r : List (List Nat)) (bs : List D) (x y z : Option SV) : Env := [lrW w0 r, some (.lst (bs.map .d)), x, y, z]
/-- what a turn does -/
def DT (w0 w : List Nat) (r : List (List Nat)) (bs : List D) (k : Int) (x : Fl) : Prop :=
  if (nd4 w0 && decide (k = qOf w0 r)) = true then (match needD w with
    | some p => ∃ y z, x = .nx (diE w0 r (bs ++ [.str p.1, .int p.2]) (some (.d (.int k))) y z)
    | none => ∃ ρ', x = .rt (.d .non) ρ') else ∃ y z, x = .nx (diE w0 r (bs ++ [itemD w]) (some (.d (.int k))) y z)
/-- one turn -/
theorem di_turn {F : String → List SV → Cr} {w0 w : List Nat} {r : List (List Nat)} {bs : List D} {k : Int} {y z : Option SV} {o1 o2 : List (Option SV)} (hb : bs.length ≤ 2000) (hr : r.length ≤ 1000) (hix : idxD (.lst (.str w0 :: r.map .str)) (.int k) = some (.str w))
    (e1 : F "needle_in" [.d (.str w)] = .ok (.d (needT (needD w))) o1) (e2 : F "number_of" [.d (.str w), .d (.int (-99)), .d (.int 99)] = .ok (.d (optD (numW w (-99) 99))) o2) :
    DT w0 w r bs k (Kn.exec tb F [] diB (diE w0 r bs (some (.d (.int k))) y z)) := by
  have hw0 : idxD (.lst (.str w0 :: r.map .str)) (.int 0) = some (.str w0) := show atI (D.str w0 :: r.map .str) (0 : Int) = some (.str w0) from atI_nat (j := 0) List.getElem?_cons_zero
  have cx : ∀ ρ : Env, ρ[0]? = some (lrW w0 r) → ev tb F (.idx (.var 0) (.int 0)) ρ = .ok (.d (.str w0)) ρ := fun ρ h => idx_ev (var_ev h) int_ev hw0
  refine st_nx (G := DT w0 w r bs k) (ρ1 := diE w0 r bs (some (.d (.int k))) (some (.d (needT (needD w)))) z) (set_to (call_ev (o := o1) rfl (evs_cons (idx_ev (var_ev rfl) (var_ev rfl) hix) evs_nil) e1) rfl rfl) ?_
  refine st_nx (G := DT w0 w r bs k) (ρ1 := diE w0 r bs (some (.d (.int k))) (some (.d (needT (needD w)))) (some (.d (optD (numW w (-99) 99))))) (set_to (call_ev (o := o2) rfl (evs_cons (idx_ev (var_ev rfl) (var_ev rfl) hix) (evs_cons neg_ev (evs_cons int_ev evs_nil))) e2) rfl rfl) ?_
  have hl : bltD tb .len [.lst (.str w0 :: r.map .str)] = some (.d (.int ((r.length : Int) + 1))) := by
    show some (SV.d (.int ((D.str w0 :: r.map .str).length : Int))) = _
    rw [List.length_cons, List.length_map]
    rfl
  have hc : ∀ ρ : Env, ρ = diE w0 r bs (some (.d (.int k))) (some (.d (needT (needD w)))) (some (.d (optD (numW w (-99) 99)))) → ev tb F (.and (.cmp .in_ (.idx (.var 0) (.int 0)) (.tup (.cons (.str [107, 110, 105, 116]) (.cons (.str [116, 117, 99, 107]) (.cons (.str [109, 111, 118, 101]) (.cons (.str [111, 102, 102]) .nil)))))) (.cmp .eq (.var 2) (.bin .sub (.bin .sub (.blt .len (.cons (.var 0) .nil)) (.int 1)) (.blt .int (.cons (.cmp .in_ (.idx (.var 0) (.int 0)) (.tup (.cons (.str [107, 110, 105, 116]) (.cons (.str [116, 117, 99, 107]) .nil)))) .nil))))) ρ =
      .ok (.d (.bl (nd4 w0 && decide (k = qOf w0 r)))) ρ := fun ρ hρ => by
    subst hρ
    refine and_ev (int_ev2 (ls := [[107, 110, 105, 116], [116, 117, 99, 107], [109, 111, 118, 101], [111, 102, 102]]) (cx _ rfl) (const_ev rfl) rfl rfl) fun _ => eq_ev (var_ev rfl) (bin_ev (bin_ev (blt1_ev (var_ev rfl) hl) int_ev (bS _ _)) (blt1_ev (int_ev2 (ls := [[107, 110, 105, 116], [116, 117, 99, 107]]) (cx _ rfl) (const_ev rfl) rfl rfl) rfl) (bS _ _)) (eqI _ _)
  have hc := hc _ rfl
  unfold DT
  cases hn : (nd4 w0 && decide (k = qOf w0 r)) with
  | true =>
    rw [hn] at hc
    rw [if_pos rfl]
    cases hq : needD w with
    | none =>
      rw [hq] at hc
      exact st_rt (G := fun x => ∃ ρ', x = .rt (.d .non) ρ') (ite_t hc (st_rt (G := fun x => x = _) (ite_t (is_ev (var_ev rfl) rfl) (ret_blk (const_ev rfl))) rfl)) ⟨_, rfl⟩
    | some p =>
      rw [hq] at hc
      refine ⟨some (.d (needT (some p))), some (.d (optD (numW w (-99) 99))), one_nx (ite_t hc (st_nx (G := fun x => x = _) (ite_f (is_ev (var_ev rfl) rfl) nil_blk) (one_nx (ext_to (xs0 := bs.map .d) (xs := bs.map .d) (ys := [.d (.str p.1), .d (.int p.2)]) rfl (lst_ev (evs_cons (idx_ev (var_ev rfl) int_ev rfl) (evs_cons (idx_ev (var_ev rfl) int_ev rfl) evs_nil)) (Nat.le_of_ble_eq_true rfl)) rfl rfl (by rw [List.length_map]; exact Nat.le_trans (Nat.add_le_add_right hb 2) (by decide)) ?_))))⟩
      have hm2 : bs.map SV.d ++ [SV.d (D.str p.1), SV.d (D.int p.2)] = (bs ++ [D.str p.1, D.int p.2]).map SV.d := by rw [List.map_append]; rfl
      rw [hm2]
      rfl
  | false =>
    rw [hn] at hc
    rw [if_neg Bool.false_ne_true]
    have hm : ∀ x : D, (bs.map SV.d) ++ [.d x] = (bs ++ [x]).map SV.d := fun x => by rw [List.map_append]; rfl
    have hll : (bs.map SV.d).length < lim := by rw [List.length_map]; exact Nat.lt_of_le_of_lt hb (by decide)
    cases hq : numW w (-99) 99 with
    | none =>
      rw [hq] at hc
      refine ⟨some (.d (needT (needD w))), some (.d (optD none)), one_nx (ite_f hc (one_nx (ite_f (isnot_ev (var_ev rfl) (r := true) rfl) (one_nx ((app_ok (xs0 := bs.map .d) rfl (idx_ev (var_ev rfl) (var_ev rfl) hix) rfl hll).trans ?_)))))⟩
      rw [hm]
      unfold itemD itemD.optI2
      rw [hq]
      rfl
    | some v =>
      rw [hq] at hc
      refine ⟨some (.d (needT (needD w))), some (.d (optD (some v))), one_nx (ite_f hc (one_nx (ite_t (isnot_ev (var_ev rfl) (r := false) rfl) (one_nx ((app_ok (xs0 := bs.map .d) rfl (var_ev rfl) rfl hll).trans ?_)))))⟩
      rw [hm]
      unfold itemD itemD.optI2
      rw [hq]
      rfl
/-- all turns -/
theorem di_loop {F : String → List SV → Cr} {w0 : List Nat} {r : List (List Nat)} (hr : r.length ≤ 900) (h1 : ∀ w ∈ r, (∃ o, F "needle_in" [.d (.str w)] = .ok (.d (needT (needD w))) o) ∧ ∃ o, F "number_of" [.d (.str w), .d (.int (-99)), .d (.int 99)] = .ok (.d (optD (numW w (-99) 99))) o) :
    ∀ (ws pre : List (List Nat)) (bs : List D) (x y z : Option SV), r = pre ++ ws → bs.length ≤ 2 * pre.length → (match bearsF (nd4 w0) (qOf w0 r) (1 + (pre.length : Int)) ws with
      | some cs => ∃ x' y' z', loopF (fun d ρ => match bindT (.nm 2) d ρ with
          | some ρ' => Kn.exec tb F [] diB ρ'
          | none => .no) ((List.range ws.length).map fun j => .int (1 + ((pre.length + j : Nat) : Int))) (diE w0 r bs x y z) = .nx (diE w0 r (bs ++ cs) x' y' z')
      | none => ∃ ρ', loopF (fun d ρ => match bindT (.nm 2) d ρ with
          | some ρ' => Kn.exec tb F [] diB ρ'
          | none => .no) ((List.range ws.length).map fun j => .int (1 + ((pre.length + j : Nat) : Int))) (diE w0 r bs x y z) = .rt (.d .non) ρ')
  | [], pre, bs, x, y, z, _, _ => by
    show ∃ x' y' z', _
    exact ⟨x, y, z, by rw [List.append_nil]; rfl⟩
  | w :: ws, pre, bs, x, y, z, hp, hb => by
    have hwr : w ∈ r := by rw [hp]; simp
    obtain ⟨⟨o1, e1⟩, o2, e2⟩ := h1 w hwr
    have hpl : pre.length ≤ 900 := by rw [hp, List.length_append] at hr; omega
    have hix : idxD (.lst (.str w0 :: r.map .str)) (.int (1 + (pre.length : Int))) = some (.str w) := by
      have e : (1 + (pre.length : Int)) = ((pre.length + 1 : Nat) : Int) := by omega
      rw [e]
      refine atI_nat (j := pre.length + 1) ?_
      rw [List.getElem?_cons_succ, hp, List.map_append, List.getElem?_append_right (by rw [List.length_map]; exact Nat.le_refl _), List.length_map, Nat.sub_self]
      rfl
    have ht := di_turn (y := y) (z := z) (w0 := w0) (bs := bs) (by omega) (by omega) hix e1 e2
    have ih := fun bs' hb' x y z => di_loop (w0 := w0) hr h1 ws (pre ++ [w]) bs' x y z (by rw [hp, List.append_assoc]; rfl) (by rw [List.length_append]; exact hb')
    have hl1 : (1 + ((pre ++ [w]).length : Int)) = 1 + (pre.length : Int) + 1 := by rw [List.length_append, List.length_singleton]; omega
    have hks : (List.range (w :: ws).length).map (fun j => D.int (1 + ((pre.length + j : Nat) : Int))) = .int (1 + (pre.length : Int)) :: (List.range ws.length).map (fun j => D.int (1 + (((pre ++ [w]).length + j : Nat) : Int))) := by
      rw [List.length_cons, List.range_succ_eq_map, List.map_cons, List.map_map]
      congr 1
      refine List.map_congr_left fun j _ => ?_
      show D.int _ = D.int _
      rw [List.length_append, List.length_singleton]
      congr 2
      omega
    rw [hks]
    unfold bearsF
    unfold DT at ht
    rw [hl1] at ih
    have hlp : ∀ (ds : List D), loopF (fun d ρ => match bindT (.nm 2) d ρ with
          | some ρ' => Kn.exec tb F [] diB ρ'
          | none => .no) (.int (1 + (pre.length : Int)) :: ds) (diE w0 r bs x y z) = (match Kn.exec tb F [] diB (diE w0 r bs (some (.d (.int (1 + (pre.length : Int))))) y z) with
        | .nx ρ' => loopF (fun d ρ => match bindT (.nm 2) d ρ with
          | some ρ' => Kn.exec tb F [] diB ρ'
          | none => .no) ds ρ'
        | .ct ρ' => loopF (fun d ρ => match bindT (.nm 2) d ρ with
          | some ρ' => Kn.exec tb F [] diB ρ'
          | none => .no) ds ρ'
        | .bk ρ' => .nx ρ'
        | r => r) := fun ds => rfl
    rw [hlp]
    cases hn : (nd4 w0 && decide (1 + (pre.length : Int) = qOf w0 r)) with
    | true =>
      rw [hn] at ht
      rw [if_pos rfl] at ht ⊢
      cases hq : needD w with
      | none =>
        rw [hq] at ht
        obtain ⟨ρ', e⟩ := ht
        rw [e]
        exact ⟨ρ', rfl⟩
      | some p =>
        rw [hq] at ht
        obtain ⟨y', z', e⟩ := ht
        rw [e, Option.bind_some]
        have ih := ih (bs ++ [.str p.1, .int p.2]) (by rw [List.length_append, List.length_singleton]; simp; omega) (some (.d (.int (1 + (pre.length : Int))))) y' z'
        cases hs : bearsF (nd4 w0) (qOf w0 r) (1 + (pre.length : Int) + 1) ws with
        | none =>
          rw [hs] at ih
          exact ih
        | some cs =>
          rw [hs] at ih
          obtain ⟨x2, y2, z2, ih⟩ := ih
          exact ⟨x2, y2, z2, ih.trans (by rw [List.append_assoc]; rfl)⟩
    | false =>
      rw [hn] at ht
      rw [if_neg Bool.false_ne_true] at ht ⊢
      obtain ⟨y', z', e⟩ := ht
      rw [e]
      have ih := ih (bs ++ [itemD w]) (by rw [List.length_append, List.length_singleton, List.length_singleton]; omega) (some (.d (.int (1 + (pre.length : Int))))) y' z'
      cases hs : bearsF (nd4 w0) (qOf w0 r) (1 + (pre.length : Int) + 1) ws with
      | none =>
        rw [hs] at ih
        exact ih
      | some cs =>
        rw [hs] at ih
        obtain ⟨x2, y2, z2, ih⟩ := ih
        exact ⟨x2, y2, z2, ih.trans (by rw [List.append_assoc]; rfl)⟩
/-- what deed_in makes of a row -/
def deedI (w0 : List Nat) (r : List (List Nat)) : Md := (bearsF (nd4 w0) (qOf w0 r) 1 r).bind fun bs => madeD w0 bs
theorem bears_ok {nd : Bool} {q : Int} : ∀ {k : Int} {ws : List (List Nat)} {bs : List D}, (∀ w ∈ ws, w.length ≤ 1000) → bearsF nd q k ws = some bs → (∀ x ∈ bs, okP x = true) ∧ bs.length ≤ 2 * ws.length
  | k, [], bs, _, h => by
    unfold bearsF at h
    cases h
    exact ⟨fun x hx => (nomatch hx), Nat.le_refl _⟩
  | k, w :: ws, bs, hw, h => by
    have h0 := hw w List.mem_cons_self
    unfold bearsF at h
    split at h
    · obtain ⟨p, hp, h⟩ := Option.bind_eq_some_iff.mp h
      obtain ⟨cs, hc, rfl⟩ := Option.map_eq_some_iff.mp h
      obtain ⟨i1, i2⟩ := bears_ok (fun w hw' => hw w (List.mem_cons_of_mem _ hw')) hc
      refine ⟨fun x hx => ?_, by simp only [List.length_cons]; omega⟩
      rcases List.mem_cons.mp hx with rfl | hx
      · unfold needD at hp
        split at hp
        · obtain ⟨k, _, rfl⟩ := Option.map_eq_some_iff.mp hp
          show decide ((w.take 1).length ≤ 1000) = true
          rw [List.length_take]
          exact decide_eq_true (by omega)
        · cases hp
      · rcases List.mem_cons.mp hx with rfl | hx
        · rfl
        · exact i1 x hx
    · obtain ⟨cs, hc, rfl⟩ := Option.map_eq_some_iff.mp h
      obtain ⟨i1, i2⟩ := bears_ok (fun w hw' => hw w (List.mem_cons_of_mem _ hw')) hc
      refine ⟨fun x hx => ?_, by simp only [List.length_cons]; omega⟩
      rcases List.mem_cons.mp hx with rfl | hx
      · unfold itemD itemD.optI2
        split
        · rfl
        · exact decide_eq_true h0
      · exact i1 x hx
def mdV : Md → SV
  | some (c, ns, ys) => .ins c ns (ys.map .d)
  | none => .d .non
theorem deed_in_at (n : Nat) (w0 : List Nat) (r : List (List Nat)) (hr : r.length ≤ 700) (h1 : ∀ w ∈ r, w.length ≤ 640) : ∃ o, callN tb pt (n + 4) "deed_in" [.d (.lst (.str w0 :: r.map .str))] = .ok (mdV (deedI w0 r)) o := by
  have e12 : ∀ w ∈ r, (∃ o, callN tb pt (n + 3) "needle_in" [.d (.str w)] = .ok (.d (needT (needD w))) o) ∧ ∃ o, callN tb pt (n + 3) "number_of" [.d (.str w), .d (.int (-99)), .d (.int 99)] = .ok (.d (optD (numW w (-99) 99))) o := fun w hw => by
    refine ⟨needle_in_at (n + 1) w (h1 w hw), ?_⟩
    have := number_of_at (n + 2) w (-99) 99 (h1 w hw)
    rw [num_eq (by decide) (by decide)] at this
    exact this
  have hm : ∀ bs, bearsF (nd4 w0) (qOf w0 r) 1 r = some bs → callN tb pt (n + 3) "made_of" [.d (.str w0), .d (.tup bs)] = crM (madeD w0 bs) ∧ bs.length ≤ 2 * r.length := fun bs hbs => by
    obtain ⟨b1, b2⟩ := bears_ok (fun w hw => Nat.le_trans (h1 w hw) (by decide)) hbs
    exact ⟨made_of_at n w0 bs b1, b2⟩
  have key : GV (mdV (deedI w0 r)) (Kn.exec tb (callN tb pt (n + 3)) [] fd_deed_in.body ([SV.d (.lst (.str w0 :: r.map .str))].map some ++ List.replicate (fd_deed_in.n - fd_deed_in.np) none)) := by
    generalize callN tb pt (n + 3) = F at e12 hm ⊢
    have hl : bltD tb .len [.lst (.str w0 :: r.map .str)] = some (.d (.int ((r.length : Int) + 1))) := by
      show some (SV.d (.int ((D.str w0 :: r.map .str).length : Int))) = _
      rw [List.length_cons, List.length_map]
      rfl
    refine st_nx (ρ1 := diE w0 r [] none none none) (set_to (lst_ev evs_nil (Nat.zero_le _)) rfl rfl) ?_
    have hlp := di_loop (F := F) (w0 := w0) (r := r) (by omega) e12 r [] [] none none none rfl (Nat.zero_le _)
    have hks : rngD 1 ((r.length : Int) + 1) = (List.range r.length).map fun j => D.int (1 + ((([] : List (List Nat)).length + j : Nat) : Int)) := by
      unfold rngD
      rw [show ((r.length : Int) + 1 - 1).toNat = r.length by omega]
      refine List.map_congr_left fun j _ => ?_
      show D.int _ = D.int _
      congr 2
      simp
    have hit : evi tb F (.rng2 (.int 1) (.blt .len (.cons (.var 0) .nil))) (diE w0 r [] none none none) = .ok (rngD 1 ((r.length : Int) + 1)) (diE w0 r [] none none none) :=
      rng2_evi int_ev (blt1_ev (var_ev rfl) hl) rfl rfl ⟨by decide, by omega, by omega⟩
    have hfor : Kn.exec tb F [] (.for_ (.nm 2) (.rng2 (.int 1) (.blt .len (.cons (.var 0) .nil))) diB) (diE w0 r [] none none none) = loopF (fun d ρ => match bindT (.nm 2) d ρ with
          | some ρ' => Kn.exec tb F [] diB ρ'
          | none => .no) ((List.range r.length).map fun j => .int (1 + ((([] : List (List Nat)).length + j : Nat) : Int))) (diE w0 r [] none none none) := by
      have e0 : Kn.exec tb F [] (.for_ (.nm 2) (.rng2 (.int 1) (.blt .len (.cons (.var 0) .nil))) diB) (diE w0 r [] none none none) = thenF (evi tb F (.rng2 (.int 1) (.blt .len (.cons (.var 0) .nil))) (diE w0 r [] none none none)) fun ds ρ => if (slotsT (.nm 2)).all (fun i => !([] : List Nat).contains i) then loopF (fun d ρ => match bindT (.nm 2) d ρ with
        | some ρ' => Kn.exec tb F [] diB ρ'
        | none => .no) ds ρ else .no := by first | (simp only [Kn.exec]; done) | (simp only [Kn.exec]; rfl)
      rw [e0, hit, ← hks]
      rfl
    unfold deedI
    have e1 : (1 + (([] : List (List Nat)).length : Int)) = 1 := rfl
    rw [e1] at hlp
    cases hbs : bearsF (nd4 w0) (qOf w0 r) 1 r with
    | none =>
      rw [hbs] at hlp
      obtain ⟨ρ', e⟩ := hlp
      exact st_rt (hfor.trans e) ⟨_, rfl⟩
    | some bs =>
      rw [hbs] at hlp
      obtain ⟨x, y, z, e⟩ := hlp
      rw [List.nil_append] at e
      obtain ⟨hm1, hm2⟩ := hm bs hbs
      refine st_nx (hfor.trans e) ?_
      rw [Option.bind_some]
      have hx : ∃ o, F "made_of" [.d (.str w0), .d (.tup bs)] = .ok (mdV (madeD w0 bs)) o := by
        rw [hm1]
        cases madeD w0 bs with
        | none => exact ⟨_, rfl⟩
        | some p => exact ⟨_, rfl⟩
      obtain ⟨o, hx⟩ := hx
      have hw0 : idxD (.lst (.str w0 :: r.map .str)) (.int 0) = some (.str w0) := show atI (D.str w0 :: r.map .str) (0 : Int) = some (.str w0) from atI_nat (j := 0) List.getElem?_cons_zero
      have hv : ev tb F (.var 1) (diE w0 r bs x y z) = .ok (.d (.lst bs)) [lrW w0 r, some (.d (.lst bs)), x, y, z] := by
        have := varF_ev (t := tb) (F := F) (ρ := diE w0 r bs x y z) (i := 1) (xs := bs.map .d) rfl
        rw [frzs_dd] at this
        exact this
      exact ⟨_, ret_blk (call_ev (o := o) rfl (evs_cons (idx_ev (var_ev rfl) int_ev hw0) (evs_cons (blt1_ev hv rfl) evs_nil)) hx)⟩
  obtain ⟨ρ', h3⟩ := key
  exact run_rt (n + 3) pt_deed_in ⟨rfl, by decide, rfl, rfl⟩ h3
end Kn

set_option Elab.async false
set_option linter.all false
set_option maxRecDepth 100000
set_option maxHeartbeats 4000000
/-! RD: the plain law: a row's tuple and its deed. -/
namespace Kn
open PySem L2
theorem itemD_some {w : List Nat} {v : Int} (h : numW w (-99) 99 = some v) : itemD w = .int v := by
  unfold itemD itemD.optI2
  rw [h]
theorem itemD_none {w : List Nat} (h : numW w (-99) 99 = none) : itemD w = .str w := by
  unfold itemD itemD.optI2
  rw [h]
theorem dg_sm {c : Nat} (h : dg c = true) : c ∉ sm := by
  have h : c ∈ dgs := of_decide_eq_true h
  intro z
  have key : ∀ c ∈ dgs, c ∉ sm := by decide
  exact key c h z
theorem way_item (a : List Nat) : wayD (itemD a) = wayW a := by
  cases h : numW a (-99) 99 with
  | none => rw [itemD_none h]; rfl
  | some v =>
    rw [itemD_some h]
    obtain ⟨c, hc, hd⟩ := num_dg h
    show false = wayW a
    unfold wayW
    have h1 : a ≠ [43] := fun z => by
      rw [z] at hc
      rw [List.mem_singleton.mp hc] at hd
      revert hd
      decide
    have h2 : a ≠ [45] := fun z => by
      rw [z] at hc
      rw [List.mem_singleton.mp hc] at hd
      revert hd
      decide
    rw [decide_eq_false h1, decide_eq_false h2]
    rfl
theorem yarn_item (a : List Nat) : yarnD (itemD a) = yarnB a := by
  cases h : numW a (-99) 99 with
  | none => rw [itemD_none h]; rfl
  | some v =>
    rw [itemD_some h]
    obtain ⟨c, hc, hd⟩ := num_dg h
    show false = yarnB a
    unfold yarnB
    have : (a.all fun c => decide (c ∈ sm)) = false := by
      rw [← Bool.not_eq_true, List.all_eq_true]
      intro z
      exact dg_sm hd (of_decide_eq_true (z c hc))
    rw [this, Bool.and_false]
theorem way_str {a : List Nat} (h : wayW a = true) : itemD a = .str a := by
  cases hn : numW a (-99) 99 with
  | none => exact itemD_none hn
  | some v =>
    have := way_item a
    rw [itemD_some hn, h] at this
    cases this
theorem yarn_str {a : List Nat} (h : yarnB a = true) : itemD a = .str a := by
  cases hn : numW a (-99) 99 with
  | none => exact itemD_none hn
  | some v =>
    have := yarn_item a
    rw [itemD_some hn, h] at this
    cases this
theorem btw_item (a : List Nat) (lo hi : Int) (h1 : -99 ≤ lo) (h2 : hi ≤ 99) : (match numW a lo hi with
    | some k => itemD a = .int k ∧ btwD lo hi (itemD a) = true
    | none => btwD lo hi (itemD a) = false) := by
  have hm := num_mono (w := a) h1 h2
  cases h : numW a (-99) 99 with
  | none =>
    rw [h] at hm
    rw [hm, itemD_none h]
    rfl
  | some v =>
    rw [h] at hm
    rw [itemD_some h]
    by_cases hb : lo ≤ v ∧ v ≤ hi
    · have hm : numW a lo hi = some v := by rw [hm]; exact if_pos hb
      rw [hm]
      exact ⟨rfl, by show (decide (lo ≤ v) && decide (v ≤ hi)) = true; rw [decide_eq_true hb.1, decide_eq_true hb.2]; rfl⟩
    · have hm : numW a lo hi = none := by rw [hm]; exact if_neg hb
      rw [hm]
      show (decide (lo ≤ v) && decide (v ≤ hi)) = false
      rw [← Bool.not_eq_true, Bool.and_eq_true, decide_eq_true_eq, decide_eq_true_eq]
      exact hb
theorem num_in {a : List Nat} {lo hi k : Int} (h : numW a lo hi = some k) : btwD lo hi (.int k) = true := by
  unfold numW at h
  split at h
  · split at h
    · cases h
    · rename_i hh
      cases h
      simp only [Bool.not_eq_true, Bool.or_eq_false_iff] at hh
      show (decide (lo ≤ vl a) && decide (vl a ≤ hi)) = true
      simpa using hh.2
  · cases h
theorem need_in {a : List Nat} {p : List Nat × Int} (h : needD a = some p) : sideD (.str p.1) = true ∧ btwD 0 23 (.int p.2) = true := by
  unfold needD at h
  split at h
  · rename_i hs
    obtain ⟨k, hk, rfl⟩ := Option.map_eq_some_iff.mp h
    exact ⟨hs, num_in hk⟩
  · cases h
theorem bears_no {q : Int} : ∀ {k : Int} {ws : List (List Nat)}, bearsF false q k ws = some (ws.map itemD)
  | k, [] => rfl
  | k, w :: ws => by
    unfold bearsF
    rw [Bool.false_and, if_neg Bool.false_ne_true, bears_no]
    rfl
theorem bears_len {q : Int} : ∀ {k : Int} {ws : List (List Nat)} {bs : List D}, bearsF true q k ws = some bs → bs.length = ws.length + (if k ≤ q ∧ q < k + ws.length then 1 else 0)
  | k, [], bs, h => by
    unfold bearsF at h
    cases h
    rw [if_neg (by simp only [List.length_nil]; omega)]
    rfl
  | k, w :: ws, bs, h => by
    unfold bearsF at h
    rw [Bool.true_and] at h
    by_cases hk : k = q
    · rw [if_pos (decide_eq_true hk)] at h
      obtain ⟨p, _, h⟩ := Option.bind_eq_some_iff.mp h
      obtain ⟨cs, hc, rfl⟩ := Option.map_eq_some_iff.mp h
      have := bears_len hc
      rw [if_neg (by omega)] at this
      rw [if_pos (by simp only [List.length_cons]; omega)]
      simp only [List.length_cons]
      omega
    · rw [if_neg (by rw [decide_eq_false hk]; exact Bool.false_ne_true)] at h
      obtain ⟨cs, hc, rfl⟩ := Option.map_eq_some_iff.mp h
      have := bears_len hc
      by_cases h1 : k + 1 ≤ q ∧ q < k + 1 + ws.length
      · rw [if_pos h1] at this
        rw [if_pos (by simp only [List.length_cons]; omega)]
        simp only [List.length_cons]
        omega
      · rw [if_neg h1] at this
        rw [if_neg (by simp only [List.length_cons]; omega)]
        simp only [List.length_cons]
        omega
theorem len1 {α : Type} {r : List α} (h : r.length = 1) : ∃ a, r = [a] := by
  match r, h with
  | [a], _ => exact ⟨a, rfl⟩
theorem len2 {α : Type} {r : List α} (h : r.length = 2) : ∃ a b, r = [a, b] := by
  match r, h with
  | [a, b], _ => exact ⟨a, b, rfl⟩
theorem len3 {α : Type} {r : List α} (h : r.length = 3) : ∃ a b c, r = [a, b, c] := by
  match r, h with
  | [a, b, c], _ => exact ⟨a, b, c, rfl⟩
theorem nd2_no {w : List Nat} {r : List (List Nat)} (h : r.length ≠ 3) : rw_nd2 w r = none := by
  unfold rw_nd2
  split
  · simp at h
  · rfl
theorem nd1_no {w : List Nat} {r : List (List Nat)} (h : r.length ≠ 1) : rw_nd1 w r = none := by
  unfold rw_nd1
  split
  · simp at h
  · rfl
theorem slide_no {w : List Nat} {r : List (List Nat)} (h : r.length ≠ 1) : rw_slide w r = none := by
  unfold rw_slide
  split
  · simp at h
  · rfl
theorem miss_no {w : List Nat} {r : List (List Nat)} (h : r.length ≠ 3) : rw_miss w r = none := by
  unfold rw_miss
  split
  · simp at h
  · rfl
theorem come_no {w : List Nat} {r : List (List Nat)} (h : r.length ≠ 2) : rw_come w r = none := by
  unfold rw_come
  split
  · simp at h
  · rfl
theorem go_no {w : List Nat} {r : List (List Nat)} (h : r.length ≠ 1) : rw_go w r = none := by
  unfold rw_go
  split
  · simp at h
  · rfl
theorem m_knit_no {bs : List D} (h : bs.length ≠ 4) : m_knit bs = none := by
  unfold m_knit
  split
  · simp at h
  · rfl
theorem m_tuck_no {bs : List D} (h : bs.length ≠ 4) : m_tuck bs = none := by
  unfold m_tuck
  split
  · simp at h
  · rfl
theorem m_move_no {bs : List D} (h : bs.length ≠ 2) : m_move bs = none := by
  unfold m_move
  split
  · simp at h
  · rfl
theorem m_off_no {bs : List D} (h : bs.length ≠ 2) : m_off bs = none := by
  unfold m_off
  split
  · simp at h
  · rfl
theorem m_slide_no {bs : List D} (h : bs.length ≠ 1) : m_slide bs = none := by
  unfold m_slide
  split
  · simp at h
  · rfl
theorem m_miss_no {bs : List D} (h : bs.length ≠ 3) : m_miss bs = none := by
  unfold m_miss
  split
  · simp at h
  · rfl
theorem m_come_no {bs : List D} (h : bs.length ≠ 2) : m_come bs = none := by
  unfold m_come
  split
  · simp at h
  · rfl
theorem m_go_no {bs : List D} (h : bs.length ≠ 1) : m_go bs = none := by
  unfold m_go
  split
  · simp at h
  · rfl
theorem re_knit (r : List (List Nat)) : rw_nd2 [107, 110, 105, 116] r = (bearsF true ((r.length : Int) + 1 - 1 - 1) 1 r).bind fun bs => (m_knit bs).map fun _ => .str [107, 110, 105, 116] :: bs := by
  by_cases h : r.length = 3
  · obtain ⟨a, b, c, rfl⟩ := len3 h
    have q3 : ((([a, b, c] : List (List Nat)).length : Int) + 1 - 1 - 1) = 2 := rfl
    rw [q3]
    have e : bearsF true 2 1 [a, b, c] = (needD b).map fun p => [itemD a, .str p.1, .int p.2, itemD c] := by
      simp only [bearsF]
      rw [if_neg (by decide), if_pos (by decide), if_neg (by decide)]
      cases needD b <;> rfl
    rw [e]
    simp only [rw_nd2]
    cases hq : needD b with
    | none => cases yarnB c <;> cases wayW a <;> rfl
    | some p =>
      obtain ⟨s1, s2⟩ := need_in hq
      simp only [Option.map_some, Option.bind_some, m_knit, way_item, yarn_item, s1, s2, Bool.and_true]
      cases hy : yarnB c with
      | false => cases wayW a <;> rfl
      | true =>
        cases hw : wayW a with
        | false => rfl
        | true =>
          rw [way_str hw, yarn_str hy]
          rfl
  · rw [nd2_no h]
    cases hb : bearsF true ((r.length : Int) + 1 - 1 - 1) 1 r with
    | none => rfl
    | some bs =>
      have := bears_len hb
      rw [Option.bind_some, m_knit_no]
      · rfl
      · split at this <;> omega
theorem re_tuck (r : List (List Nat)) : rw_nd2 [116, 117, 99, 107] r = (bearsF true ((r.length : Int) + 1 - 1 - 1) 1 r).bind fun bs => (m_tuck bs).map fun _ => .str [116, 117, 99, 107] :: bs := by
  by_cases h : r.length = 3
  · obtain ⟨a, b, c, rfl⟩ := len3 h
    have q3 : ((([a, b, c] : List (List Nat)).length : Int) + 1 - 1 - 1) = 2 := rfl
    rw [q3]
    have e : bearsF true 2 1 [a, b, c] = (needD b).map fun p => [itemD a, .str p.1, .int p.2, itemD c] := by
      simp only [bearsF]
      rw [if_neg (by decide), if_pos (by decide), if_neg (by decide)]
      cases needD b <;> rfl
    rw [e]
    simp only [rw_nd2]
    cases hq : needD b with
    | none => cases yarnB c <;> cases wayW a <;> rfl
    | some p =>
      obtain ⟨s1, s2⟩ := need_in hq
      simp only [Option.map_some, Option.bind_some, m_tuck, way_item, yarn_item, s1, s2, Bool.and_true]
      cases hy : yarnB c with
      | false => cases wayW a <;> rfl
      | true =>
        cases hw : wayW a with
        | false => rfl
        | true =>
          rw [way_str hw, yarn_str hy]
          rfl
  · rw [nd2_no h]
    cases hb : bearsF true ((r.length : Int) + 1 - 1 - 1) 1 r with
    | none => rfl
    | some bs =>
      have := bears_len hb
      rw [Option.bind_some, m_tuck_no]
      · rfl
      · split at this <;> omega
theorem re_move (r : List (List Nat)) : rw_nd1 [109, 111, 118, 101] r = (bearsF true ((r.length : Int) + 1 - 1 - 0) 1 r).bind fun bs => (m_move bs).map fun _ => .str [109, 111, 118, 101] :: bs := by
  by_cases h : r.length = 1
  · obtain ⟨a, rfl⟩ := len1 h
    have q3 : ((([a] : List (List Nat)).length : Int) + 1 - 1 - 0) = 1 := rfl
    rw [q3]
    have e : bearsF true 1 1 [a] = (needD a).map fun p => [.str p.1, .int p.2] := by
      simp only [bearsF]
      rw [if_pos (by decide)]
      cases needD a <;> rfl
    rw [e]
    simp only [rw_nd1]
    cases hq : needD a with
    | none => rfl
    | some p =>
      obtain ⟨s1, s2⟩ := need_in hq
      simp only [Option.map_some, Option.bind_some, m_move, s1, s2, Bool.and_true]
      rfl
  · rw [nd1_no h]
    cases hb : bearsF true ((r.length : Int) + 1 - 1 - 0) 1 r with
    | none => rfl
    | some bs =>
      have := bears_len hb
      rw [Option.bind_some, m_move_no]
      · rfl
      · split at this <;> omega
theorem re_off (r : List (List Nat)) : rw_nd1 [111, 102, 102] r = (bearsF true ((r.length : Int) + 1 - 1 - 0) 1 r).bind fun bs => (m_off bs).map fun _ => .str [111, 102, 102] :: bs := by
  by_cases h : r.length = 1
  · obtain ⟨a, rfl⟩ := len1 h
    have q3 : ((([a] : List (List Nat)).length : Int) + 1 - 1 - 0) = 1 := rfl
    rw [q3]
    have e : bearsF true 1 1 [a] = (needD a).map fun p => [.str p.1, .int p.2] := by
      simp only [bearsF]
      rw [if_pos (by decide)]
      cases needD a <;> rfl
    rw [e]
    simp only [rw_nd1]
    cases hq : needD a with
    | none => rfl
    | some p =>
      obtain ⟨s1, s2⟩ := need_in hq
      simp only [Option.map_some, Option.bind_some, m_off, s1, s2, Bool.and_true]
      rfl
  · rw [nd1_no h]
    cases hb : bearsF true ((r.length : Int) + 1 - 1 - 0) 1 r with
    | none => rfl
    | some bs =>
      have := bears_len hb
      rw [Option.bind_some, m_off_no]
      · rfl
      · split at this <;> omega
theorem re_slide (r : List (List Nat)) : rw_slide [115, 108, 105, 100, 101] r = (m_slide (r.map itemD)).map fun _ => .str [115, 108, 105, 100, 101] :: r.map itemD := by
  by_cases h : r.length = 1
  · obtain ⟨a, rfl⟩ := len1 h
    have hb := btw_item a (-3) 3 (by decide) (by decide)
    simp only [rw_slide, List.map_cons, List.map_nil, m_slide]
    cases hn : numW a (-3) 3 with
    | none =>
      rw [hn] at hb
      rw [hb]
      rfl
    | some k =>
      rw [hn] at hb
      rw [hb.2, hb.1]
      rfl
  · rw [slide_no h, m_slide_no (by rw [List.length_map]; exact h)]
    rfl
theorem re_go (r : List (List Nat)) : rw_go [103, 111] r = (m_go (r.map itemD)).map fun _ => .str [103, 111] :: r.map itemD := by
  by_cases h : r.length = 1
  · obtain ⟨a, rfl⟩ := len1 h
    simp only [rw_go, List.map_cons, List.map_nil, m_go, yarn_item]
    cases hy : yarnB a with
    | false => rfl
    | true =>
      rw [yarn_str hy]
      rfl
  · rw [go_no h, m_go_no (by rw [List.length_map]; exact h)]
    rfl
theorem re_come (r : List (List Nat)) : rw_come [99, 111, 109, 101] r = (m_come (r.map itemD)).map fun _ => .str [99, 111, 109, 101] :: r.map itemD := by
  by_cases h : r.length = 2
  · obtain ⟨a, b, rfl⟩ := len2 h
    have hb := btw_item b 0 24 (by decide) (by decide)
    simp only [rw_come, List.map_cons, List.map_nil, m_come, yarn_item]
    cases hy : yarnB a with
    | false => rfl
    | true =>
      rw [yarn_str hy]
      cases hn : numW b 0 24 with
      | none =>
        rw [hn] at hb
        rw [hb]
        rfl
      | some k =>
        rw [hn] at hb
        rw [hb.2, hb.1]
        rfl
  · rw [come_no h, m_come_no (by rw [List.length_map]; exact h)]
    rfl
theorem re_miss (r : List (List Nat)) : rw_miss [109, 105, 115, 115] r = (m_miss (r.map itemD)).map fun _ => .str [109, 105, 115, 115] :: r.map itemD := by
  by_cases h : r.length = 3
  · obtain ⟨a, b, c, rfl⟩ := len3 h
    have hb := btw_item b 0 23 (by decide) (by decide)
    simp only [rw_miss, List.map_cons, List.map_nil, m_miss, yarn_item, way_item]
    cases hy : yarnB c with
    | false => simp
    | true =>
      rw [yarn_str hy]
      cases hw : wayW a with
      | false => rfl
      | true =>
        rw [way_str hw]
        cases hn : numW b 0 23 with
        | none =>
          rw [hn] at hb
          rw [hb]
          rfl
        | some k =>
          rw [hn] at hb
          rw [hb.2, hb.1]
          rfl
  · rw [miss_no h, m_miss_no (by rw [List.length_map]; exact h)]
    rfl
theorem row_eq (w : List Nat) (r : List (List Nat)) : rowW w r = (bearsF (nd4 w) (qOf w r) 1 r).bind fun bs => (madeD w bs).map fun _ => .str w :: bs := by
  by_cases h1 : w = [107, 110, 105, 116]
  · subst h1; exact re_knit r
  by_cases h2 : w = [116, 117, 99, 107]
  · subst h2; exact re_tuck r
  by_cases h3 : w = [109, 111, 118, 101]
  · subst h3; exact re_move r
  by_cases h4 : w = [111, 102, 102]
  · subst h4; exact re_off r
  have hn : nd4 w = false := by
    have e : ∀ x y : List Nat, y ≠ x → decide (x = y) = false := fun x y h => decide_eq_false fun z => h z.symm
    unfold nd4
    simp only [List.any_cons, List.any_nil, e _ _ h1, e _ _ h2, e _ _ h3, e _ _ h4, Bool.or_false]
  rw [hn, bears_no, Option.bind_some]
  by_cases h5 : w = [115, 108, 105, 100, 101]
  · subst h5; exact re_slide r
  by_cases h6 : w = [109, 105, 115, 115]
  · subst h6; exact re_miss r
  by_cases h7 : w = [99, 111, 109, 101]
  · subst h7; exact re_come r
  by_cases h8 : w = [103, 111]
  · subst h8; exact re_go r
  unfold rowW madeD
  simp only [h1, h2, h3, h4, h5, h6, h7, h8, if_false]
  rfl
/-- THE PLAIN LAW of a row -/
theorem row_deed (w : List Nat) (r : List (List Nat)) : match rowW w r with
    | some xs => ∃ c ns ys, deedI w r = some (c, ns, ys) ∧ MadeOf (.tup xs) c ns ys
    | none => deedI w r = none := by
  rw [row_eq]
  unfold deedI
  cases hb : bearsF (nd4 w) (qOf w r) 1 r with
  | none => rfl
  | some bs =>
    rw [Option.bind_some, Option.bind_some]
    cases hm : madeD w bs with
    | none => rfl
    | some z =>
      obtain ⟨c, ns, ys⟩ := z
      refine ⟨c, ns, ys, rfl, made_inv ?_⟩
      cases bs with
      | nil =>
        exfalso
        revert hm
        unfold madeD
        repeat' split
        all_goals exact fun z => (nomatch z)
      | cons b bs => exact hm
end Kn

set_option Elab.async false
set_option linter.all false
set_option maxRecDepth 100000
set_option maxHeartbeats 4000000
/-! RR: the law's look at any row. -/
namespace Kn
open PySem L2
theorem law_row_at (n : Nat) (w : List Nat) (r : List (List Nat)) (hw : okW w) (hr : ∀ x ∈ r, okW x) : ∃ o, callN tb pt (n + 3) "_law_row" [.d (.lst (.str w :: r.map .str))] = .ok (.d (rowT (rowW w r))) o := by
  by_cases h0 : w = [107, 110, 105, 116]
  · subst h0
    show ∃ o, _ = Cr.ok (SV.d (rowT (rw_nd2 [107, 110, 105, 116] r))) o
    by_cases h : r.length = 3
    · obtain ⟨a, b, c, rfl⟩ := len3 h
      exact lr_knit n a b c (hr a (by simp)) (hr b (by simp)) (hr c (by simp))
    · rw [nd2_no h]
      exact lr_end (n + 2) (lr_no [107, 110, 105, 116] r 4 rfl (by omega))
  by_cases h1 : w = [116, 117, 99, 107]
  · subst h1
    show ∃ o, _ = Cr.ok (SV.d (rowT (rw_nd2 [116, 117, 99, 107] r))) o
    by_cases h : r.length = 3
    · obtain ⟨a, b, c, rfl⟩ := len3 h
      exact lr_tuck n a b c (hr a (by simp)) (hr b (by simp)) (hr c (by simp))
    · rw [nd2_no h]
      exact lr_end (n + 2) (lr_no [116, 117, 99, 107] r 4 rfl (by omega))
  by_cases h2 : w = [109, 111, 118, 101]
  · subst h2
    show ∃ o, _ = Cr.ok (SV.d (rowT (rw_nd1 [109, 111, 118, 101] r))) o
    by_cases h : r.length = 1
    · obtain ⟨a, rfl⟩ := len1 h
      exact lr_move n a (hr a (by simp))
    · rw [nd1_no h]
      exact lr_end (n + 2) (lr_no [109, 111, 118, 101] r 2 rfl (by omega))
  by_cases h3 : w = [111, 102, 102]
  · subst h3
    show ∃ o, _ = Cr.ok (SV.d (rowT (rw_nd1 [111, 102, 102] r))) o
    by_cases h : r.length = 1
    · obtain ⟨a, rfl⟩ := len1 h
      exact lr_off n a (hr a (by simp))
    · rw [nd1_no h]
      exact lr_end (n + 2) (lr_no [111, 102, 102] r 2 rfl (by omega))
  by_cases h4 : w = [115, 108, 105, 100, 101]
  · subst h4
    show ∃ o, _ = Cr.ok (SV.d (rowT (rw_slide [115, 108, 105, 100, 101] r))) o
    by_cases h : r.length = 1
    · obtain ⟨a, rfl⟩ := len1 h
      exact lr_slide n a (hr a (by simp))
    · rw [slide_no h]
      exact lr_end (n + 2) (lr_no [115, 108, 105, 100, 101] r 2 rfl (by omega))
  by_cases h5 : w = [109, 105, 115, 115]
  · subst h5
    show ∃ o, _ = Cr.ok (SV.d (rowT (rw_miss [109, 105, 115, 115] r))) o
    by_cases h : r.length = 3
    · obtain ⟨a, b, c, rfl⟩ := len3 h
      exact lr_miss n a b c (hr a (by simp)) (hr b (by simp)) (hr c (by simp))
    · rw [miss_no h]
      exact lr_end (n + 2) (lr_no [109, 105, 115, 115] r 4 rfl (by omega))
  by_cases h6 : w = [99, 111, 109, 101]
  · subst h6
    show ∃ o, _ = Cr.ok (SV.d (rowT (rw_come [99, 111, 109, 101] r))) o
    by_cases h : r.length = 2
    · obtain ⟨a, b, rfl⟩ := len2 h
      exact lr_come n a b (hr a (by simp)) (hr b (by simp))
    · rw [come_no h]
      exact lr_end (n + 2) (lr_no [99, 111, 109, 101] r 3 rfl (by omega))
  by_cases h7 : w = [103, 111]
  · subst h7
    show ∃ o, _ = Cr.ok (SV.d (rowT (rw_go [103, 111] r))) o
    by_cases h : r.length = 1
    · obtain ⟨a, rfl⟩ := len1 h
      exact lr_go n a (hr a (by simp))
    · rw [go_no h]
      exact lr_end (n + 2) (lr_no [103, 111] r 2 rfl (by omega))
  have e : rowW w r = none := by
    unfold rowW
    simp only [h0, h1, h2, h3, h4, h5, h6, h7, if_false]
  have hm : lrM w = .int 0 := by
    have e : ∀ x : List Nat, w ≠ x → (Kx.s x = Kx.s w) = False := fun x h => by
      apply propext
      constructor
      · intro z
        cases z
        exact h rfl
      · exact False.elim
    unfold lrM lrK lrV
    simp only [atK, e _ h0, e _ h1, e _ h2, e _ h3, e _ h4, e _ h5, e _ h6, e _ h7, if_false, Option.getD_none]
  rw [e]
  exact lr_end (n + 2) (lr_no w r 0 hm (by omega))
end Kn

set_option Elab.async false
set_option linter.all false
set_option maxRecDepth 100000
set_option maxHeartbeats 4000000
/-! DU: what a text is due, by the law. -/
namespace Kn
open PySem L2
inductive Due where
  | at_ (k : Nat) | all (l : List (List D))
def dueF : Nat → List (List Nat) → Due
  | _, [] => .all []
  | k, row :: rows => match wordsOf row with
    | [] => dueF (k + 1) rows
    | w :: r => match rowW w r with
      | none => .at_ k
      | some xs => match dueF (k + 1) rows with
        | .at_ j => .at_ j
        | .all l => .all (xs :: l)
def dueD : Due → D
  | .at_ k => .int k
  | .all l => .lst (l.map .tup)
def duB : S := bodyS (nthS fd__law_due.body 2)
abbrev duE (s : List Nat) (rows : List (List Nat)) (acc : List (List D)) (x y z : Option SV) : Env := [some (.d (.str s)), some (.d (.lst (rows.map .str))), some (.lst (acc.map fun xs => .d (.tup xs))), x, y, z]
def DUT (s : List Nat) (rows : List (List Nat)) (acc : List (List D)) (row : List Nat) (k : Nat) (x : Fl) : Prop := match wordsOf row with
  | [] => ∃ y z, x = .nx (duE s rows acc (some (.d (.int k))) y z) ∧ freeAt [z] [0] = true
  | w :: r => match rowW w r with
    | none => ∃ ρ', x = .rt (.d (.int k)) ρ'
    | some xs => ∃ y z, x = .nx (duE s rows (acc ++ [xs]) (some (.d (.int k))) y z) ∧ freeAt [z] [0] = true
theorem nil_ne (ws : List (List Nat)) (hw : okDs (ws.map .str) 49 = true) : eqD (.lst (ws.map .str)) (.lst []) = some (decide (ws = [])) := by
  have e : eqD (.lst (ws.map .str)) (.lst []) = (if (flat (.lst (ws.map .str)) && flat (.lst [])) || (okDs (ws.map .str) 49 && true) then some (eqvDs (ws.map .str) []) else none) := rfl
  rw [e, hw]
  show some (eqvDs (ws.map .str) []) = _
  cases ws <;> rfl
theorem okDs_ws : ∀ {ws : List (List Nat)} {n : Nat}, (∀ w ∈ ws, okX w) → okDs (ws.map .str) n = true
  | [], _, _ => rfl
  | w :: ws, n, h => by
    show (okD (.str w) n && okDs (ws.map .str) n) = true
    rw [okDs_ws fun x hx => h x (List.mem_cons_of_mem _ hx)]
    have : okD (.str w) n = true := by
      show (w.all fun c => decide (c < 1114112)) = true
      rw [List.all_eq_true]
      exact fun c hc => decide_eq_true ((h w List.mem_cons_self).2 c hc)
    rw [this]
    rfl
theorem du_turn {F : String → List SV → Cr} {s : List Nat} {rows : List (List Nat)} {acc : List (List D)} {row : List Nat} {k : Nat} {y z : Option SV} (hrow : idxD (.lst (rows.map .str)) (.int k) = some (.str row)) (hx : okX row) (hacc : acc.length ≤ 1000) (hz : freeAt [z] [0] = true)
    (e : ∀ w r, wordsOf row = w :: r → ∃ o, F "_law_row" [.d (.lst (.str w :: r.map .str))] = .ok (.d (rowT (rowW w r))) o) :
    DUT s rows acc row k (Kn.exec tb F [] duB (duE s rows acc (some (.d (.int k))) y z)) := by
  have hl : row.length ≤ lim := Nat.le_trans hx.1 (by decide)
  have hsp := split_ev (t := tb) (F := F) (ρ := duE s rows acc (some (.d (.int k))) y z) (a := .idx (.var 1) (.var 3)) (s := row) (c := 32) (idx_ev (var_ev rfl) (var_ev rfl) hrow) hl (by decide)
  have hit : evi tb F (.bm .split (.idx (.var 1) (.var 3)) (.cons (.str [32]) .nil)) (duE s rows acc (some (.d (.int k))) y z) = .ok ((TL.spl [32] 0 [] row).map .str) (duE s rows acc (some (.d (.int k))) y z) :=
    evi_of hsp (by show some (frzs ((TL.spl [32] 0 [] row).map fun z => SV.d (.str z))) = _; rw [frzs_map])
  have hw := words_ev (t := tb) (F := F) (i := 5) (ρ := duE s rows acc (some (.d (.int k))) y z) (Nat.le_of_ble_eq_true rfl) hit hz (Nat.le_trans (spl_len 32 row []) (by have := hx.1; unfold lim; omega))
  refine st_nx (G := DUT s rows acc row k) (ρ1 := duE s rows acc (some (.d (.int k))) (some (.lst ((wordsOf row).map fun w => .d (.str w)))) z) (set_to hw rfl rfl) ?_
  have hv := varF_ev (t := tb) (F := F) (ρ := duE s rows acc (some (.d (.int k))) (some (.lst ((wordsOf row).map fun w => .d (.str w)))) z) (i := 4) (xs := (wordsOf row).map fun w => .d (.str w)) rfl
  rw [frzs_map] at hv
  have hok := okDs_ws (n := 49) (words_ok hx).2
  have hc := ne_ev (t := tb) (F := F) hv (lst_ev evs_nil (Nat.zero_le _)) (nil_ne _ hok)
  unfold DUT
  cases hws : wordsOf row with
  | nil =>
    rw [hws] at hc
    exact ⟨_, z, one_nx (ite_f hc nil_blk), hz⟩
  | cons w r =>
    rw [hws] at hc
    obtain ⟨o, e⟩ := e w r hws
    have hlast : ∀ (xs : List SV) (d : D), svIdx (.lst (xs ++ [.d d])) (.int (-1)) = some d := fun xs d => by
      show (match atI (xs ++ [SV.d d]) (-1) with
        | some (.d d) => some d
        | _ => none) = _
      rw [atI_last]
    have hll : (acc.map fun xs => SV.d (.tup xs)).length < lim := by rw [List.length_map]; exact Nat.lt_of_le_of_lt hacc (by decide)
    show (match rowW w r with
      | none => ∃ ρ', _ = Fl.rt (.d (.int k)) ρ'
      | some xs => ∃ y z, _ = Fl.nx (duE s rows (acc ++ [xs]) (some (.d (.int k))) y z) ∧ freeAt [z] [0] = true)
    generalize rowW w r = q at e ⊢
    cases q with
    | none =>
      have ha := app_ok (t := tb) (F := F) (ro := []) (i := 2) (e := .call "_law_row" (.cons (.var 4) .nil)) (ρ := duE s rows acc (some (.d (.int k))) (some (.d (.lst (.str w :: r.map .str)))) z) (xs0 := acc.map fun xs => .d (.tup xs)) rfl (call_ev (o := o) rfl (evs_cons (var_ev rfl) evs_nil) e) rfl hll
      exact st_rt (G := fun x => ∃ ρ', x = .rt (.d (.int k)) ρ') (ite_t hc (st_nx (G := fun x => x = _) ha (st_rt (G := fun x => x = _) (ite_t (is_ev (r := true) (idv_ev rfl neg_ev rfl (hlast _ _)) rfl) (ret_blk (var_ev (i := 3) (x := .int k) rfl))) rfl))) ⟨_, rfl⟩
    | some xs =>
      have ha := app_ok (t := tb) (F := F) (ro := []) (i := 2) (e := .call "_law_row" (.cons (.var 4) .nil)) (ρ := duE s rows acc (some (.d (.int k))) (some (.d (.lst (.str w :: r.map .str)))) z) (xs0 := acc.map fun xs => .d (.tup xs)) rfl (call_ev (o := o) rfl (evs_cons (var_ev rfl) evs_nil) e) rfl hll
      have hm : (acc.map fun xs => SV.d (.tup xs)) ++ [.d (.tup xs)] = (acc ++ [xs]).map fun xs => SV.d (.tup xs) := by rw [List.map_append]; rfl
      refine ⟨some (.d (.lst (.str w :: r.map .str))), z, one_nx (ite_t hc (st_nx (G := fun x => x = _) ha (one_nx (ite_f (is_ev (r := false) (idv_ev rfl neg_ev rfl (hlast _ _)) rfl) (nil_blk.trans ?_))))), hz⟩
      show Fl.nx [_, _, some (.lst ((acc.map fun xs => SV.d (.tup xs)) ++ [.d (.tup xs)])), _, _, _] = _
      rw [hm]
def duSt (F : String → List SV → Cr) : D → Env → Fl := fun d ρ => match bindT (.nm 3) d ρ with
  | some ρ' => Kn.exec tb F [] duB ρ'
  | none => .no
theorem du_loop {F : String → List SV → Cr} {s : List Nat} {rows : List (List Nat)} (hn : rows.length ≤ 900) (h : ∀ row ∈ rows, okX row ∧ ∀ w r, wordsOf row = w :: r → ∃ o, F "_law_row" [.d (.lst (.str w :: r.map .str))] = .ok (.d (rowT (rowW w r))) o) :
    ∀ (rs pre : List (List Nat)) (acc : List (List D)) (x y z : Option SV), rows = pre ++ rs → acc.length ≤ pre.length → freeAt [z] [0] = true → (match dueF pre.length rs with
      | .at_ j => ∃ ρ', loopF (duSt F) ((List.range rs.length).map fun j => .int ((pre.length + j : Nat) : Int)) (duE s rows acc x y z) = .rt (.d (.int j)) ρ'
      | .all l => ∃ x' y' z', loopF (duSt F) ((List.range rs.length).map fun j => .int ((pre.length + j : Nat) : Int)) (duE s rows acc x y z) = .nx (duE s rows (acc ++ l) x' y' z'))
  | [], pre, acc, x, y, z, _, _, _ => ⟨x, y, z, by rw [List.append_nil]; rfl⟩
  | row :: rs, pre, acc, x, y, z, hp, ha, hz => by
    obtain ⟨hx, e⟩ := h row (by rw [hp]; simp)
    have hpl : pre.length ≤ 900 := by rw [hp, List.length_append] at hn; omega
    have hrow : idxD (.lst (rows.map .str)) (.int (pre.length : Int)) = some (.str row) := by
      refine atI_nat (j := pre.length) ?_
      rw [hp, List.map_append, List.getElem?_append_right (by rw [List.length_map]; exact Nat.le_refl _), List.length_map, Nat.sub_self]
      rfl
    have ht := du_turn (s := s) (acc := acc) (y := y) (z := z) (F := F) hrow hx (by omega) hz e
    have ih := fun acc' ha' x y z hz => du_loop (s := s) hn h rs (pre ++ [row]) acc' x y z (by rw [hp, List.append_assoc]; rfl) (by rw [List.length_append]; exact ha') hz
    have hl1 : (pre ++ [row]).length = pre.length + 1 := by rw [List.length_append, List.length_singleton]
    have hks : (List.range (row :: rs).length).map (fun j => D.int ((pre.length + j : Nat) : Int)) = .int (pre.length : Int) :: (List.range rs.length).map (fun j => D.int (((pre ++ [row]).length + j : Nat) : Int)) := by
      rw [List.length_cons, List.range_succ_eq_map, List.map_cons, List.map_map]
      congr 1
      refine List.map_congr_left fun j _ => ?_
      show D.int _ = D.int _
      rw [hl1]
      congr 2
      omega
    rw [hks]
    simp only [hl1] at ih ⊢
    have hlp : ∀ (ds : List D), loopF (duSt F) (.int (pre.length : Int) :: ds) (duE s rows acc x y z) = (match Kn.exec tb F [] duB (duE s rows acc (some (.d (.int (pre.length : Int)))) y z) with
        | .nx ρ' => loopF (duSt F) ds ρ'
        | .ct ρ' => loopF (duSt F) ds ρ'
        | .bk ρ' => .nx ρ'
        | r => r) := fun ds => rfl
    rw [hlp]
    unfold dueF
    unfold DUT at ht
    cases hws : wordsOf row with
    | nil =>
      rw [hws] at ht
      obtain ⟨y', z', e1, hz'⟩ := ht
      rw [e1]
      dsimp only
      exact ih acc (by simp; omega) _ y' z' hz'
    | cons w r =>
      rw [hws] at ht
      dsimp only at ht ⊢
      generalize rowW w r = q at ht ⊢
      cases q with
      | none =>
        obtain ⟨ρ', e1⟩ := ht
        rw [e1]
        exact ⟨ρ', rfl⟩
      | some xs =>
        obtain ⟨y', z', e1, hz'⟩ := ht
        rw [e1]
        have ih := ih (acc ++ [xs]) (by rw [List.length_append, List.length_singleton, List.length_singleton]; omega) (some (.d (.int (pre.length : Int)))) y' z' hz'
        cases hd : dueF (pre.length + 1) rs with
        | at_ j =>
          rw [hd] at ih
          exact ih
        | all l =>
          rw [hd] at ih
          obtain ⟨x2, y2, z2, ih⟩ := ih
          exact ⟨x2, y2, z2, ih.trans (by rw [List.append_assoc]; rfl)⟩
end Kn

set_option Elab.async false
set_option linter.all false
set_option maxRecDepth 100000
set_option maxHeartbeats 4000000
/-! UE: what a text is due, by the law; what the program reads of it. -/
namespace Kn
open PySem L2
theorem okX_W {w : List Nat} (h : okX w) : okW w := ⟨h.1, by
  unfold okS
  rw [List.all_eq_true]
  exact fun c hc => decide_eq_true (h.2 c hc)⟩
theorem rng0 (m : Nat) : rngD 0 (m : Int) = (List.range m).map fun j => D.int (((0 + j : Nat)) : Int) := by
  unfold rngD
  rw [show ((m : Int) - 0).toNat = m by omega]
  refine List.map_congr_left fun j _ => ?_
  show D.int _ = D.int _
  congr 1
theorem law_due_at (n : Nat) (s : List Nat) (hs : okX s) : ∃ o, callN tb pt (n + 4) "_law_due" [.d (.str s)] = .ok (.d (dueD (dueF 0 (rowsOf s)))) o := by
  obtain ⟨r1, r2⟩ := rows_ok hs
  have hrow : ∀ row ∈ rowsOf s, okX row ∧ ∀ w r, wordsOf row = w :: r → ∃ o, callN tb pt (n + 3) "_law_row" [.d (.lst (.str w :: r.map .str))] = .ok (.d (rowT (rowW w r))) o := fun row h => by
    refine ⟨r2 row h, fun w r e => law_row_at n w r (okX_W ((words_ok (r2 row h)).2 w (by rw [e]; exact List.mem_cons_self))) fun x hx => okX_W ((words_ok (r2 row h)).2 x (by rw [e]; exact List.mem_cons_of_mem _ hx))⟩
  have key : GV (.d (dueD (dueF 0 (rowsOf s)))) (Kn.exec tb (callN tb pt (n + 3)) [] fd__law_due.body ([SV.d (.str s)].map some ++ List.replicate (fd__law_due.n - fd__law_due.np) none)) := by
    generalize callN tb pt (n + 3) = F at hrow ⊢
    have hl : s.length ≤ lim := Nat.le_trans hs.1 (by decide)
    have hsp := split_ev (t := tb) (F := F) (ρ := [some (.d (.str s)), none, none, none, none, none]) (a := .var 0) (s := s) (c := 10) (var_ev rfl) hl (by decide)
    refine st_nx (ρ1 := [some (.d (.str s)), some (.lst ((rowsOf s).map fun z => .d (.str z))), none, none, none, none]) (set_to hsp rfl rfl) ?_
    refine st_nx (ρ1 := [some (.d (.str s)), some (.lst ((rowsOf s).map fun z => .d (.str z))), some (.lst []), none, none, none]) (set_to (lst_ev evs_nil (Nat.zero_le _)) rfl rfl) ?_
    have hv := varF_ev (t := tb) (F := F) (ρ := [some (.d (.str s)), some (.lst ((rowsOf s).map fun z => .d (.str z))), some (.lst []), none, none, none]) (i := 1) (xs := (rowsOf s).map fun z => .d (.str z)) rfl
    rw [frzs_map] at hv
    have hlen : bltD tb .len [.lst ((rowsOf s).map .str)] = some (.d (.int ((rowsOf s).length : Int))) := by
      show some (SV.d (.int (((rowsOf s).map D.str).length : Int))) = _
      rw [List.length_map]
    have hit : evi tb F (.rng (.blt .len (.cons (.var 1) .nil))) [some (.d (.str s)), some (.lst ((rowsOf s).map fun z => .d (.str z))), some (.lst []), none, none, none] = .ok (rngD 0 ((rowsOf s).length : Int)) (duE s (rowsOf s) [] none none none) :=
      rng_evi (blt1_ev hv hlen) rfl ⟨by omega, by omega⟩
    have hfor := for_ev (t := tb) (F := F) (ro := []) (g := .nm 3) (b := duB) hit rfl
    rw [rng0] at hfor
    have hlp := du_loop (F := F) (s := s) (rows := rowsOf s) (by omega) hrow (rowsOf s) [] [] none none none rfl (Nat.zero_le _) rfl
    have e0 : ([] : List (List Nat)).length = 0 := rfl
    rw [e0] at hlp
    cases hd : dueF 0 (rowsOf s) with
    | at_ j =>
      rw [hd] at hlp
      obtain ⟨ρ', e⟩ := hlp
      exact st_rt (hfor.trans e) ⟨_, rfl⟩
    | all l =>
      rw [hd] at hlp
      obtain ⟨x, y, z, e⟩ := hlp
      have hv2 := varF_ev (t := tb) (F := F) (ρ := duE s (rowsOf s) l x y z) (i := 2) (xs := l.map fun xs => .d (.tup xs)) rfl
      rw [frzs_map] at hv2
      exact st_nx (hfor.trans e) ⟨_, ret_blk hv2⟩
  obtain ⟨ρ', h3⟩ := key
  exact run_rt (n + 3) pt__law_due ⟨rfl, by decide, rfl, rfl⟩ h3
/-! ### what the program reads -/
abbrev M3 : Type := String × List String × List D
def insD (m : M3) : D := .ins m.1 m.2.1 m.2.2
inductive Rd where
  | at_ (k : Nat) | all (l : List M3)
def redF : Nat → List (List Nat) → Rd
  | _, [] => .all []
  | k, row :: rows => match wordsOf row with
    | [] => redF (k + 1) rows
    | w :: r => match deedI w r with
      | none => .at_ k
      | some m => match redF (k + 1) rows with
        | .at_ j => .at_ j
        | .all l => .all (m :: l)
def noTx (k : Nat) : Xc := ⟨"NoText", ["line", "number"], [.int (k : Int), .int (-1)]⟩
def reB : S := bodyS (nthS fd_read_deeds.body 1)
abbrev reE (s : List Nat) (acc : List M3) (a b c d : Option SV) : Env := [some (.d (.str s)), some (.lst (acc.map fun m => .d (insD m))), a, b, c, d, none]
def RET (s : List Nat) (acc : List M3) (row : List Nat) (k : Nat) (x : Fl) : Prop := match wordsOf row with
  | [] => ∃ a b c d, x = .ct (reE s acc a b c d)
  | w :: r => match deedI w r with
    | none => ∃ ρ', x = .exc (noTx k) ρ'
    | some m => ∃ a b c d, x = .nx (reE s (acc ++ [m]) a b c d)
theorem re_turn {F : String → List SV → Cr} {s : List Nat} {acc : List M3} {row : List Nat} {k : Nat} {c d : Option SV} (hx : okX row) (hacc : acc.length ≤ 1000)
    (e : ∀ w r, wordsOf row = w :: r → ∃ o, F "deed_in" [.d (.lst (.str w :: r.map .str))] = .ok (mdV (deedI w r)) o) :
    RET s acc row k (Kn.exec tb F [] reB (reE s acc (some (.d (.int (k : Int)))) (some (.d (.str row))) c d)) := by
  have hl : row.length ≤ lim := Nat.le_trans hx.1 (by decide)
  have hsp := split_ev (t := tb) (F := F) (ρ := reE s acc (some (.d (.int (k : Int)))) (some (.d (.str row))) c d) (a := .var 3) (s := row) (c := 32) (var_ev rfl) hl (by decide)
  have hit : evi tb F (.bm .split (.var 3) (.cons (.str [32]) .nil)) (reE s acc (some (.d (.int (k : Int)))) (some (.d (.str row))) c d) = .ok ((TL.spl [32] 0 [] row).map .str) (reE s acc (some (.d (.int (k : Int)))) (some (.d (.str row))) c d) :=
    evi_of hsp (by show some (frzs ((TL.spl [32] 0 [] row).map fun z => SV.d (.str z))) = _; rw [frzs_map])
  have hw := words_ev (t := tb) (F := F) (i := 6) (ρ := reE s acc (some (.d (.int (k : Int)))) (some (.d (.str row))) c d) (Nat.le_of_ble_eq_true rfl) hit rfl (Nat.le_trans (spl_len 32 row []) (by have := hx.1; unfold lim; omega))
  refine st_nx (G := RET s acc row k) (ρ1 := reE s acc (some (.d (.int (k : Int)))) (some (.d (.str row))) (some (.lst ((wordsOf row).map fun w => .d (.str w)))) d) (set_to hw rfl rfl) ?_
  have hv := varF_ev (t := tb) (F := F) (ρ := reE s acc (some (.d (.int (k : Int)))) (some (.d (.str row))) (some (.lst ((wordsOf row).map fun w => .d (.str w)))) d) (i := 4) (xs := (wordsOf row).map fun w => .d (.str w)) rfl
  rw [frzs_map] at hv
  have hok := okDs_ws (n := 49) (words_ok hx).2
  have hc := eq_ev (t := tb) (F := F) hv (lst_ev evs_nil (Nat.zero_le _)) (nil_ne _ hok)
  unfold RET
  cases hws : wordsOf row with
  | nil =>
    rw [hws] at hc
    exact ⟨_, _, _, d, st_to (ite_t hc cnt_blk) rfl⟩
  | cons w r =>
    rw [hws] at hc
    obtain ⟨o, e⟩ := e w r hws
    show (match deedI w r with
      | none => ∃ ρ', _ = Fl.exc (noTx k) ρ'
      | some m => ∃ a b c d, _ = Fl.nx (reE s (acc ++ [m]) a b c d))
    generalize deedI w r = q at e ⊢
    have h5 := set_to (t := tb) (F := F) (ro := []) (i := 5) (e := .call "deed_in" (.cons (.var 4) .nil)) (v := mdV q) (ρ := reE s acc (some (.d (.int (k : Int)))) (some (.d (.str row))) (some (.d (.lst (.str w :: r.map .str)))) d) (ρ2 := reE s acc (some (.d (.int (k : Int)))) (some (.d (.str row))) (some (.d (.lst (.str w :: r.map .str)))) (some (mdV q))) (call_ev (o := o) rfl (evs_cons (var_ev rfl) evs_nil) e) rfl rfl
    cases q with
    | none =>
      exact ⟨_, (st_nx (G := fun x => x = _) (ite_f hc nil_blk) (st_nx (G := fun x => x = _) h5 (st_to (x := .exc (noTx k) _) (ite_t (is_ev (r := true) (var_ev rfl) rfl) (st_to (raise_to rfl (evs_cons str_ev (evs_cons (var_ev rfl) evs_nil)) rfl) rfl)) rfl)))⟩
    | some m =>
      obtain ⟨cn, ns, ys⟩ := m
      have h6 := varS_ev (t := tb) (F := F) (ρ := reE s acc (some (.d (.int (k : Int)))) (some (.d (.str row))) (some (.d (.lst (.str w :: r.map .str)))) (some (mdV (some (cn, ns, ys))))) (i := 5) (s := mdV (some (cn, ns, ys))) rfl
      have hfz : frz (mdV (some (cn, ns, ys))) = insD (cn, ns, ys) := by
        show D.ins cn ns (frzs (ys.map .d)) = _
        rw [frzs_dd]
        rfl
      rw [hfz] at h6
      have hll : (acc.map fun m => SV.d (insD m)).length < lim := by rw [List.length_map]; exact Nat.lt_of_le_of_lt hacc (by decide)
      have ha := app_ok (t := tb) (F := F) (ro := []) (i := 1) (e := .var 5) (v := .d (insD (cn, ns, ys))) (ρ := reE s acc (some (.d (.int (k : Int)))) (some (.d (.str row))) (some (.d (.lst (.str w :: r.map .str)))) (some (.d (insD (cn, ns, ys))))) (xs0 := acc.map fun m => .d (insD m)) rfl (var_ev rfl) rfl hll
      have hm : (acc.map fun m => SV.d (insD m)) ++ [.d (insD (cn, ns, ys))] = (acc ++ [(cn, ns, ys)]).map fun m => SV.d (insD m) := by rw [List.map_append]; rfl
      refine ⟨some (.d (.int (k : Int))), some (.d (.str row)), some (.d (.lst (.str w :: r.map .str))), some (.d (insD (cn, ns, ys))), (st_nx (G := fun x => x = _) (ite_f hc nil_blk) (st_nx (G := fun x => x = _) h5 (st_nx (G := fun x => x = _) (ite_f (is_ev (r := false) h6 rfl) nil_blk) (one_nx (ha.trans ?_)))))⟩
      show Fl.nx [_, some (.lst ((acc.map fun m => SV.d (insD m)) ++ [.d (insD (cn, ns, ys))])), _, _, _, _, _] = _
      rw [hm]
def reSt (F : String → List SV → Cr) : D → Env → Fl := fun d ρ => match bindT (.tp [2, 3]) d ρ with
  | some ρ' => Kn.exec tb F [] reB ρ'
  | none => .no
theorem re_loop {F : String → List SV → Cr} {s : List Nat} : ∀ (rs : List (List Nat)) (k : Nat) (acc : List M3) (a b c d : Option SV), (∀ row ∈ rs, okX row ∧ ∀ w r, wordsOf row = w :: r → ∃ o, F "deed_in" [.d (.lst (.str w :: r.map .str))] = .ok (mdV (deedI w r)) o) → acc.length + rs.length ≤ 1000 → (match redF k rs with
      | .at_ j => ∃ ρ', loopF (reSt F) (enuL (rs.map .str) k) (reE s acc a b c d) = .exc (noTx j) ρ'
      | .all l => ∃ a' b' c' d', loopF (reSt F) (enuL (rs.map .str) k) (reE s acc a b c d) = .nx (reE s (acc ++ l) a' b' c' d'))
  | [], k, acc, a, b, c, d, _, _ => ⟨a, b, c, d, by rw [List.append_nil]; rfl⟩
  | row :: rs, k, acc, a, b, c, d, h, hn => by
    obtain ⟨hx, e⟩ := h row List.mem_cons_self
    rw [List.length_cons] at hn
    have ht := re_turn (s := s) (acc := acc) (k := k) (c := c) (d := d) (F := F) hx (by omega) e
    have ih := fun acc' a b c d hl => re_loop (F := F) (s := s) rs (k + 1) acc' a b c d (fun r hr => h r (List.mem_cons_of_mem _ hr)) hl
    have hlp : loopF (reSt F) (enuL ((row :: rs).map .str) k) (reE s acc a b c d) = (match Kn.exec tb F [] reB (reE s acc (some (.d (.int (k : Int)))) (some (.d (.str row))) c d) with
        | .nx ρ' => loopF (reSt F) (enuL (rs.map .str) (k + 1)) ρ'
        | .ct ρ' => loopF (reSt F) (enuL (rs.map .str) (k + 1)) ρ'
        | .bk ρ' => .nx ρ'
        | r => r) := rfl
    rw [hlp]
    unfold redF
    unfold RET at ht
    cases hws : wordsOf row with
    | nil =>
      rw [hws] at ht
      obtain ⟨a', b', c', d', e1⟩ := ht
      rw [e1]
      exact ih acc a' b' c' d' (by omega)
    | cons w r =>
      rw [hws] at ht
      dsimp only at ht ⊢
      generalize deedI w r = q at ht ⊢
      cases q with
      | none =>
        obtain ⟨ρ', e1⟩ := ht
        rw [e1]
        exact ⟨ρ', rfl⟩
      | some m =>
        obtain ⟨a', b', c', d', e1⟩ := ht
        rw [e1]
        have ih := ih (acc ++ [m]) a' b' c' d' (by rw [List.length_append, List.length_singleton]; omega)
        cases hd : redF (k + 1) rs with
        | at_ j =>
          rw [hd] at ih
          exact ih
        | all l =>
          rw [hd] at ih
          obtain ⟨a2, b2, c2, d2, ih⟩ := ih
          exact ⟨a2, b2, c2, d2, ih.trans (by rw [List.append_assoc]; rfl)⟩
theorem run_exc {q : String} {fd : FD} (n : Nat) {ss : List SV} {x : Xc} {ρ' : Env} (h : pt q = some fd) (h1 : ss.length = fd.np ∧ fd.np ≤ fd.n ∧ fd.io.length = fd.np ∧ modesOk fd.io ss = true) (hx : Kn.exec tb (callN tb pt n) (roOf fd.io 0) fd.body (ss.map some ++ List.replicate (fd.n - fd.np) none) = .exc x ρ') : callN tb pt (n + 1) q ss = .exc x := by
  rw [callN_at n h]
  unfold runF
  rw [if_pos h1, hx]
theorem read_deeds_at (n : Nat) (s : List Nat) (hs : okX s) : match redF 0 (rowsOf s) with
    | .at_ j => callN tb pt (n + 5) "read_deeds" [.d (.str s)] = .exc (noTx j)
    | .all ms => ∃ o, callN tb pt (n + 5) "read_deeds" [.d (.str s)] = .ok (.lst (ms.map fun m => .d (insD m))) o := by
  obtain ⟨r1, r2⟩ := rows_ok hs
  have hrow : ∀ row ∈ rowsOf s, okX row ∧ ∀ w r, wordsOf row = w :: r → ∃ o, callN tb pt (n + 4) "deed_in" [.d (.lst (.str w :: r.map .str))] = .ok (mdV (deedI w r)) o := fun row h => by
    obtain ⟨q1, q2⟩ := words_ok (r2 row h)
    refine ⟨r2 row h, fun w r e => deed_in_at n w r (by rw [e, List.length_cons] at q1; omega) fun x hx => (q2 x (by rw [e]; exact List.mem_cons_of_mem _ hx)).1⟩
  have key : match redF 0 (rowsOf s) with
    | .at_ j => ∃ ρ', Kn.exec tb (callN tb pt (n + 4)) [] fd_read_deeds.body ([SV.d (.str s)].map some ++ List.replicate (fd_read_deeds.n - fd_read_deeds.np) none) = .exc (noTx j) ρ'
    | .all ms => ∃ ρ', Kn.exec tb (callN tb pt (n + 4)) [] fd_read_deeds.body ([SV.d (.str s)].map some ++ List.replicate (fd_read_deeds.n - fd_read_deeds.np) none) = .rt (.lst (ms.map fun m => .d (insD m))) ρ' := by
    generalize callN tb pt (n + 4) = F at hrow ⊢
    have hl : s.length ≤ lim := Nat.le_trans hs.1 (by decide)
    have h0 : Kn.exec tb F [] (.set 1 (.lst .nil)) [some (.d (.str s)), none, none, none, none, none, none] = .nx (reE s [] none none none none) := set_to (lst_ev evs_nil (Nat.zero_le _)) rfl rfl
    have hsp := split_ev (t := tb) (F := F) (ρ := reE s [] none none none none) (a := .var 0) (s := s) (c := 10) (var_ev rfl) hl (by decide)
    have hit : evi tb F (.enu (.bm .split (.var 0) (.cons (.str [10]) .nil))) (reE s [] none none none none) = .ok (enuL ((rowsOf s).map .str) 0) (reE s [] none none none none) :=
      enu_evi hsp (by show D.lst (frzs ((rowsOf s).map fun z => SV.d (.str z))) = _; rw [frzs_map])
    have hfor := for_ev (t := tb) (F := F) (ro := []) (g := .tp [2, 3]) (b := reB) hit rfl
    have hlp := re_loop (F := F) (s := s) (rowsOf s) 0 [] none none none none hrow (by rw [List.length_nil]; omega)
    cases hd : redF 0 (rowsOf s) with
    | at_ j =>
      rw [hd] at hlp
      obtain ⟨ρ', e⟩ := hlp
      exact ⟨ρ', st_nx (G := fun x => x = _) h0 (st_to (hfor.trans e) rfl)⟩
    | all l =>
      rw [hd] at hlp
      obtain ⟨x, y, z, u, e⟩ := hlp
      exact ⟨_, st_nx (G := fun x => x = _) h0 (st_nx (G := fun x => x = _) (hfor.trans e) (ret_blk (take_ev rfl)))⟩
  cases hd : redF 0 (rowsOf s) with
  | at_ j =>
    rw [hd] at key
    obtain ⟨ρ', h3⟩ := key
    exact run_exc (n + 4) pt_read_deeds ⟨rfl, by decide, rfl, rfl⟩ h3
  | all l =>
    rw [hd] at key
    obtain ⟨ρ', h3⟩ := key
    exact run_rt (n + 4) pt_read_deeds ⟨rfl, by decide, rfl, rfl⟩ h3
inductive Tls : List (List D) → List M3 → Prop
  | nil : Tls [] []
  | cons {xs : List D} {m : M3} {l : List (List D)} {ms : List M3} (h : MadeOf (.tup xs) m.1 m.2.1 m.2.2) (t : Tls l ms) : Tls (xs :: l) (m :: ms)
/-- the plain law of a text -/
theorem due_red : ∀ (rows : List (List Nat)) (k : Nat), match dueF k rows with
    | .at_ j => redF k rows = .at_ j
    | .all l => ∃ ms, redF k rows = .all ms ∧ Tls l ms
  | [], k => ⟨[], rfl, .nil⟩
  | row :: rows, k => by
    have ih := due_red rows (k + 1)
    unfold dueF redF
    cases hws : wordsOf row with
    | nil => exact ih
    | cons w r =>
      have hr := row_deed w r
      dsimp only
      cases hq : rowW w r with
      | none =>
        rw [hq] at hr
        have hr : deedI w r = none := hr
        rw [hr]
      | some xs =>
        rw [hq] at hr
        obtain ⟨c, ns, ys, e, hm⟩ := hr
        rw [e]
        dsimp only
        cases hd : dueF (k + 1) rows with
        | at_ j =>
          rw [hd] at ih
          have ih : redF (k + 1) rows = .at_ j := ih
          rw [ih]
        | all l =>
          rw [hd] at ih
          obtain ⟨ms, e2, ht⟩ := ih
          rw [e2]
          exact ⟨(c, ns, ys) :: ms, rfl, .cons hm ht⟩
end Kn

set_option Elab.async false
set_option linter.all false
set_option maxRecDepth 100000
set_option maxHeartbeats 4000000
/-! WT: a deed's text, by the law and by the program (printed by gwt.py). -/
namespace Kn
open PySem L2
theorem lim900 : 900 ≤ lim := by decide
theorem al {s : List Nat} (h : ∀ c ∈ s, c < 1114112) : (s.all fun c => decide (c < 1114112)) = true := List.all_eq_true.mpr fun c hc => decide_eq_true (h c hc)
theorem all_c {s : List Nat} {ss : List (List Nat)} {p : Nat → Bool} (h : s.all p = true) (t : (ss.all fun s => s.all p) = true) : ((s :: ss).all fun s => s.all p) = true := by rw [List.all_cons, h, t]; rfl
theorem all_a {s r : List Nat} {p : Nat → Bool} (h : s.all p = true) (t : r.all p = true) : (s ++ r).all p = true := by rw [List.all_append, h, t]; rfl
theorem lim9 {n : Nat} (h : n ≤ 9 := by decide) : n ≤ lim := Nat.le_trans h (by decide)
theorem bL (xs ys : List D) (h : xs.length + ys.length ≤ lim) : binD .add (.lst xs) (.lst ys) = some (.lst ((xs ++ ys).map .d)) := if_pos h
theorem joinOk {sep : List Nat} {xs : List D} {ss : List (List Nat)} (h : strs? xs = some ss) (hb : ssum ss + sep.length * ss.length ≤ lim) : bmD .join (.str sep) [.lst xs] = some (.d (.str (TL.joinL sep ss))) := by
  show (strs? xs).bind _ = _
  rw [h]
  exact if_pos hb
def strF : D → List Nat
  | .int i => istr i
  | .str s => s
  | _ => []
def okStr : D → Bool
  | .int i => decide (i.natAbs < 1000000000000000000)
  | .str _ => true
  | _ => false
theorem strs_map (ds : List D) : strs? (ds.map fun d => D.str (strF d)) = some (ds.map strF) := by
  induction ds with
  | nil => rfl
  | cons d ds ih =>
    show (strs? (ds.map fun d => D.str (strF d))).map _ = _
    rw [ih]
    rfl
theorem strs_ev {t : T} {F : String → List SV → Cr} {ρ : Env} {i : Nat} {it : E} {ds : List D} (hi : i < ρ.length) (hit : evi t F it ρ = .ok ds ρ) (hf : freeAt ρ [i] = true) (hl : ds.length ≤ lim) (ho : ∀ d ∈ ds, okStr d = true) :
    ev t F (.comp (.nm i) it (.blt .str (.cons (.var i) .nil))) ρ = .ok (.lst (ds.map fun d => .d (.str (strF d)))) ρ := by
  have hc := comp_ok (t := t) (F := F) (g := .nm i) (it := it) (el := .blt .str (.cons (.var i) .nil)) (ρ := ρ) (ρ1 := ρ) (ds := ds) (fun d => .str (strF d)) (B := wipeE ρ [i]) hit hf hl rfl (fun d hd => by
      refine ⟨_, _, rfl, blt1_ev (var_ev (set_at hi)) ?_, wipe_set1⟩
      have h := ho d hd
      cases d with
      | int j => exact if_pos (of_decide_eq_true h)
      | str s => rfl
      | _ => cases h)
  exact hc.trans (by rw [show slotsT (.nm i) = [i] from rfl, back1 hi])
theorem istr_cnt (k : Int) (h1 : -3 ≤ k) (h2 : k ≤ 24) : (istr k).count 32 = 0 := by
  have key : ∀ j : Fin 28, (istr ((j : Nat) - 3 : Int)).count 32 = 0 := by decide +kernel
  have := key ⟨(k + 3).toNat, by omega⟩
  have e : (((k + 3).toNat : Nat) : Int) - 3 = k := by omega
  simp only [e] at this
  exact this
/-- a deed's text -/
def okRow (s : List Nat) : Prop := s.length ≤ 16 ∧ s.count 32 ≤ 3 ∧ ∀ c ∈ s, c < 1114112
theorem yp_row {y : List Nat} (h : YP y) : y.length ≤ 4 ∧ y.count 32 = 0 ∧ ∀ c ∈ y, c < 1114112 := by
  refine ⟨h.2.1, List.count_eq_zero.mpr fun z => ?_, fun c hc => sm_small c (h.2.2 c hc)⟩
  have := h.2.2 32 z
  revert this
  decide
theorem k_row (k : Int) (h1 : -3 ≤ k) (h2 : k ≤ 24) : (istr k).length ≤ 3 ∧ (istr k).count 32 = 0 ∧ ∀ c ∈ istr k, c < 1114112 := by
  obtain ⟨a, b, _⟩ := istr_len k h1 h2
  exact ⟨a, istr_cnt k h1 h2, fun c hc => of_decide_eq_true (List.all_eq_true.mp b c hc)⟩

def tx_knit (w sd y : List Nat) (k : Int) : List Nat := TL.joinL [32] [[107, 110, 105, 116], w, sd ++ istr k, y]
theorem lt_knit (n : Nat) (w sd y : List Nat) (k : Int) (hb : ssum [[107, 110, 105, 116], w, sd ++ istr k, y] + 1 * 4 ≤ 900) (hk : k.natAbs < 1000000000000000000) (hl : (istr k).length ≤ 3) (hs : sd.length ≤ 100) : ∃ o, callN tb pt (n + 1) "_law_text" [.d (.tup [.str [107, 110, 105, 116], .str w, .str sd, .int k, .str y])] = .ok (.d (.str (tx_knit w sd y k))) o := by
  have key : GV (.d (.str (tx_knit w sd y k))) (Kn.exec tb (callN tb pt n) [] fd__law_text.body ([SV.d (.tup [.str [107, 110, 105, 116], .str w, .str sd, .int k, .str y])].map some ++ List.replicate (fd__law_text.n - fd__law_text.np) none)) := by
    generalize callN tb pt n = F
    exact st_rt (ite_t (in_evr (ls := [[107, 110, 105, 116], [116, 117, 99, 107]]) (idx_ev (var_ev rfl) int_ev rfl) (const_ev rfl) rfl rfl rfl rfl) (ret_blk (bm_ev str_ev rfl (evs_cons (lst_ev (evs_cons (idx_ev (var_ev rfl) int_ev rfl) (evs_cons (idx_ev (var_ev rfl) int_ev rfl) (evs_cons (bin_ev (idx_ev (var_ev rfl) int_ev rfl) (blt1_ev (idx_ev (var_ev rfl) int_ev rfl) (if_pos hk)) (bP _ _ (by omega) (by omega))) (evs_cons (idx_ev (var_ev rfl) int_ev rfl) evs_nil)))) (Nat.le_of_ble_eq_true rfl)) evs_nil) (joinOk (ss := [[107, 110, 105, 116], w, sd ++ istr k, y]) rfl (Nat.le_trans hb lim900))))) ⟨_, rfl⟩
  obtain ⟨ρ', h3⟩ := key
  exact run_rt n pt__law_text ⟨rfl, by decide, rfl, rfl⟩ h3
theorem gx_knit (n : Nat) (w sd y : List Nat) (k : Int) (hb : ssum [[107, 110, 105, 116], w, sd ++ istr k, y] + 1 * 4 ≤ 900) (hk : k.natAbs < 1000000000000000000) (hl : (istr k).length ≤ 3) (hs : sd.length ≤ 100) : ∃ o, callN tb pt (n + 2) "Looping.written" [.d (.ins "Knit" ["way", "side", "n", "yarn"] [.str w, .str sd, .int k, .str y])] = .ok (.d (.str (tx_knit w sd y k))) o := by
  have a0 := gw_knit n [.str w, .str sd, .int k, .str y] ["way", "side", "n", "yarn"]
  have key : GV (.d (.str (tx_knit w sd y k))) (Kn.exec tb (callN tb pt (n + 1)) [] fd_Looping_written.body ([SV.d (.ins "Knit" ["way", "side", "n", "yarn"] [.str w, .str sd, .int k, .str y])].map some ++ List.replicate (fd_Looping_written.n - fd_Looping_written.np) none)) := by
    generalize callN tb pt (n + 1) = F at a0 ⊢
    exact ⟨_, ret_blk (bm_ev str_ev rfl (evs_cons (lst_ev (evs_cons (meth_ev (q := "Knit.word") (var_ev rfl) rfl rfl (by decide) evs_nil a0) (evs_cons (fld_ev (var_ev rfl) rfl) (evs_cons (bin_ev (fld_ev (var_ev rfl) rfl) (blt1_ev (fld_ev (var_ev rfl) rfl) (if_pos hk)) (bP _ _ (by omega) (by omega))) (evs_cons (fld_ev (var_ev rfl) rfl) evs_nil)))) (Nat.le_of_ble_eq_true rfl)) evs_nil) (joinOk (ss := [[107, 110, 105, 116], w, sd ++ istr k, y]) rfl (Nat.le_trans hb lim900)))⟩
  obtain ⟨ρ', h3⟩ := key
  exact run_rt (n + 1) pt_Looping_written ⟨rfl, by decide, rfl, rfl⟩ h3
def tx_tuck (w sd y : List Nat) (k : Int) : List Nat := TL.joinL [32] [[116, 117, 99, 107], w, sd ++ istr k, y]
theorem lt_tuck (n : Nat) (w sd y : List Nat) (k : Int) (hb : ssum [[116, 117, 99, 107], w, sd ++ istr k, y] + 1 * 4 ≤ 900) (hk : k.natAbs < 1000000000000000000) (hl : (istr k).length ≤ 3) (hs : sd.length ≤ 100) : ∃ o, callN tb pt (n + 1) "_law_text" [.d (.tup [.str [116, 117, 99, 107], .str w, .str sd, .int k, .str y])] = .ok (.d (.str (tx_tuck w sd y k))) o := by
  have key : GV (.d (.str (tx_tuck w sd y k))) (Kn.exec tb (callN tb pt n) [] fd__law_text.body ([SV.d (.tup [.str [116, 117, 99, 107], .str w, .str sd, .int k, .str y])].map some ++ List.replicate (fd__law_text.n - fd__law_text.np) none)) := by
    generalize callN tb pt n = F
    exact st_rt (ite_t (in_evr (ls := [[107, 110, 105, 116], [116, 117, 99, 107]]) (idx_ev (var_ev rfl) int_ev rfl) (const_ev rfl) rfl rfl rfl rfl) (ret_blk (bm_ev str_ev rfl (evs_cons (lst_ev (evs_cons (idx_ev (var_ev rfl) int_ev rfl) (evs_cons (idx_ev (var_ev rfl) int_ev rfl) (evs_cons (bin_ev (idx_ev (var_ev rfl) int_ev rfl) (blt1_ev (idx_ev (var_ev rfl) int_ev rfl) (if_pos hk)) (bP _ _ (by omega) (by omega))) (evs_cons (idx_ev (var_ev rfl) int_ev rfl) evs_nil)))) (Nat.le_of_ble_eq_true rfl)) evs_nil) (joinOk (ss := [[116, 117, 99, 107], w, sd ++ istr k, y]) rfl (Nat.le_trans hb lim900))))) ⟨_, rfl⟩
  obtain ⟨ρ', h3⟩ := key
  exact run_rt n pt__law_text ⟨rfl, by decide, rfl, rfl⟩ h3
theorem gx_tuck (n : Nat) (w sd y : List Nat) (k : Int) (hb : ssum [[116, 117, 99, 107], w, sd ++ istr k, y] + 1 * 4 ≤ 900) (hk : k.natAbs < 1000000000000000000) (hl : (istr k).length ≤ 3) (hs : sd.length ≤ 100) : ∃ o, callN tb pt (n + 2) "Looping.written" [.d (.ins "Tuck" ["way", "side", "n", "yarn"] [.str w, .str sd, .int k, .str y])] = .ok (.d (.str (tx_tuck w sd y k))) o := by
  have a0 := gw_tuck n [.str w, .str sd, .int k, .str y] ["way", "side", "n", "yarn"]
  have key : GV (.d (.str (tx_tuck w sd y k))) (Kn.exec tb (callN tb pt (n + 1)) [] fd_Looping_written.body ([SV.d (.ins "Tuck" ["way", "side", "n", "yarn"] [.str w, .str sd, .int k, .str y])].map some ++ List.replicate (fd_Looping_written.n - fd_Looping_written.np) none)) := by
    generalize callN tb pt (n + 1) = F at a0 ⊢
    exact ⟨_, ret_blk (bm_ev str_ev rfl (evs_cons (lst_ev (evs_cons (meth_ev (q := "Tuck.word") (var_ev rfl) rfl rfl (by decide) evs_nil a0) (evs_cons (fld_ev (var_ev rfl) rfl) (evs_cons (bin_ev (fld_ev (var_ev rfl) rfl) (blt1_ev (fld_ev (var_ev rfl) rfl) (if_pos hk)) (bP _ _ (by omega) (by omega))) (evs_cons (fld_ev (var_ev rfl) rfl) evs_nil)))) (Nat.le_of_ble_eq_true rfl)) evs_nil) (joinOk (ss := [[116, 117, 99, 107], w, sd ++ istr k, y]) rfl (Nat.le_trans hb lim900)))⟩
  obtain ⟨ρ', h3⟩ := key
  exact run_rt (n + 1) pt_Looping_written ⟨rfl, by decide, rfl, rfl⟩ h3
def tx_move (sd : List Nat) (k : Int) : List Nat := (([109, 111, 118, 101] ++ [32]) ++ sd) ++ istr k
theorem lt_move (n : Nat) (sd : List Nat) (k : Int) (hs : sd.length ≤ 100) (hk : k.natAbs < 1000000000000000000) (hl : (istr k).length ≤ 3) : ∃ o, callN tb pt (n + 1) "_law_text" [.d (.tup [.str [109, 111, 118, 101], .str sd, .int k])] = .ok (.d (.str (tx_move sd k))) o := by
  have key : GV (.d (.str (tx_move sd k))) (Kn.exec tb (callN tb pt n) [] fd__law_text.body ([SV.d (.tup [.str [109, 111, 118, 101], .str sd, .int k])].map some ++ List.replicate (fd__law_text.n - fd__law_text.np) none)) := by
    generalize callN tb pt n = F
    exact st_nx (ite_f (in_evr (ls := [[107, 110, 105, 116], [116, 117, 99, 107]]) (idx_ev (var_ev rfl) int_ev rfl) (const_ev rfl) rfl rfl rfl rfl) nil_blk) (st_rt (ite_t (in_evr (ls := [[109, 111, 118, 101], [111, 102, 102]]) (idx_ev (var_ev rfl) int_ev rfl) (const_ev rfl) rfl rfl rfl rfl) (ret_blk (bin_ev (bin_ev (bin_ev (idx_ev (var_ev rfl) int_ev rfl) str_ev (bP _ _ (by decide) (by decide))) (idx_ev (var_ev rfl) int_ev rfl) (bP _ _ (by decide) (by omega))) (blt1_ev (idx_ev (var_ev rfl) int_ev rfl) (if_pos hk)) (bP _ _ (by simp only [List.length_append, List.length_cons, List.length_nil]; omega) (by omega))))) ⟨_, rfl⟩)
  obtain ⟨ρ', h3⟩ := key
  exact run_rt n pt__law_text ⟨rfl, by decide, rfl, rfl⟩ h3
theorem gx_move (n : Nat) (sd : List Nat) (k : Int) (hs : sd.length ≤ 100) (hk : k.natAbs < 1000000000000000000) (hl : (istr k).length ≤ 3) : ∃ o, callN tb pt (n + 2) "OfNeedle.written" [.d (.ins "Move" ["side", "n"] [.str sd, .int k])] = .ok (.d (.str (tx_move sd k))) o := by
  have a0 := gw_move n [.str sd, .int k] ["side", "n"]
  have key : GV (.d (.str (tx_move sd k))) (Kn.exec tb (callN tb pt (n + 1)) [] fd_OfNeedle_written.body ([SV.d (.ins "Move" ["side", "n"] [.str sd, .int k])].map some ++ List.replicate (fd_OfNeedle_written.n - fd_OfNeedle_written.np) none)) := by
    generalize callN tb pt (n + 1) = F at a0 ⊢
    exact ⟨_, ret_blk (bin_ev (bin_ev (bin_ev (meth_ev (q := "Move.word") (var_ev rfl) rfl rfl (by decide) evs_nil a0) str_ev (bP _ _ (by decide) (by decide))) (fld_ev (var_ev rfl) rfl) (bP _ _ (by decide) (by omega))) (blt1_ev (fld_ev (var_ev rfl) rfl) (if_pos hk)) (bP _ _ (by simp only [List.length_append, List.length_cons, List.length_nil]; omega) (by omega)))⟩
  obtain ⟨ρ', h3⟩ := key
  exact run_rt (n + 1) pt_OfNeedle_written ⟨rfl, by decide, rfl, rfl⟩ h3
def tx_off (sd : List Nat) (k : Int) : List Nat := (([111, 102, 102] ++ [32]) ++ sd) ++ istr k
theorem lt_off (n : Nat) (sd : List Nat) (k : Int) (hs : sd.length ≤ 100) (hk : k.natAbs < 1000000000000000000) (hl : (istr k).length ≤ 3) : ∃ o, callN tb pt (n + 1) "_law_text" [.d (.tup [.str [111, 102, 102], .str sd, .int k])] = .ok (.d (.str (tx_off sd k))) o := by
  have key : GV (.d (.str (tx_off sd k))) (Kn.exec tb (callN tb pt n) [] fd__law_text.body ([SV.d (.tup [.str [111, 102, 102], .str sd, .int k])].map some ++ List.replicate (fd__law_text.n - fd__law_text.np) none)) := by
    generalize callN tb pt n = F
    exact st_nx (ite_f (in_evr (ls := [[107, 110, 105, 116], [116, 117, 99, 107]]) (idx_ev (var_ev rfl) int_ev rfl) (const_ev rfl) rfl rfl rfl rfl) nil_blk) (st_rt (ite_t (in_evr (ls := [[109, 111, 118, 101], [111, 102, 102]]) (idx_ev (var_ev rfl) int_ev rfl) (const_ev rfl) rfl rfl rfl rfl) (ret_blk (bin_ev (bin_ev (bin_ev (idx_ev (var_ev rfl) int_ev rfl) str_ev (bP _ _ (by decide) (by decide))) (idx_ev (var_ev rfl) int_ev rfl) (bP _ _ (by decide) (by omega))) (blt1_ev (idx_ev (var_ev rfl) int_ev rfl) (if_pos hk)) (bP _ _ (by simp only [List.length_append, List.length_cons, List.length_nil]; omega) (by omega))))) ⟨_, rfl⟩)
  obtain ⟨ρ', h3⟩ := key
  exact run_rt n pt__law_text ⟨rfl, by decide, rfl, rfl⟩ h3
theorem gx_off (n : Nat) (sd : List Nat) (k : Int) (hs : sd.length ≤ 100) (hk : k.natAbs < 1000000000000000000) (hl : (istr k).length ≤ 3) : ∃ o, callN tb pt (n + 2) "OfNeedle.written" [.d (.ins "Off" ["side", "n"] [.str sd, .int k])] = .ok (.d (.str (tx_off sd k))) o := by
  have a0 := gw_off n [.str sd, .int k] ["side", "n"]
  have key : GV (.d (.str (tx_off sd k))) (Kn.exec tb (callN tb pt (n + 1)) [] fd_OfNeedle_written.body ([SV.d (.ins "Off" ["side", "n"] [.str sd, .int k])].map some ++ List.replicate (fd_OfNeedle_written.n - fd_OfNeedle_written.np) none)) := by
    generalize callN tb pt (n + 1) = F at a0 ⊢
    exact ⟨_, ret_blk (bin_ev (bin_ev (bin_ev (meth_ev (q := "Off.word") (var_ev rfl) rfl rfl (by decide) evs_nil a0) str_ev (bP _ _ (by decide) (by decide))) (fld_ev (var_ev rfl) rfl) (bP _ _ (by decide) (by omega))) (blt1_ev (fld_ev (var_ev rfl) rfl) (if_pos hk)) (bP _ _ (by simp only [List.length_append, List.length_cons, List.length_nil]; omega) (by omega)))⟩
  obtain ⟨ρ', h3⟩ := key
  exact run_rt (n + 1) pt_OfNeedle_written ⟨rfl, by decide, rfl, rfl⟩ h3
def tx_slide (k : Int) : List Nat := TL.joinL [32] [[115, 108, 105, 100, 101], istr k]
theorem lt_slide (n : Nat) (k : Int) (hb : ssum [[115, 108, 105, 100, 101], istr k] + 1 * 4 ≤ 900) (hk : k.natAbs < 1000000000000000000) (hl : (istr k).length ≤ 3) : ∃ o, callN tb pt (n + 1) "_law_text" [.d (.tup [.str [115, 108, 105, 100, 101], .int k])] = .ok (.d (.str (tx_slide k))) o := by
  have key : GV (.d (.str (tx_slide k))) (Kn.exec tb (callN tb pt n) [] fd__law_text.body ([SV.d (.tup [.str [115, 108, 105, 100, 101], .int k])].map some ++ List.replicate (fd__law_text.n - fd__law_text.np) none)) := by
    generalize callN tb pt n = F
    have hc := strs_ev (t := tb) (F := F) (i := 1) (it := .var 0) (ρ := [some (.d (.tup [.str [115, 108, 105, 100, 101], .int k])), none]) (ds := [.str [115, 108, 105, 100, 101], .int k]) (Nat.le_of_ble_eq_true rfl) (evi_of (var_ev rfl) rfl) rfl (Nat.le_of_ble_eq_true rfl) (fun d hd => by
      simp only [List.mem_cons, List.not_mem_nil, or_false] at hd
      rcases hd with rfl | rfl <;> first | rfl | exact decide_eq_true hk)
    exact st_nx (ite_f (in_evr (ls := [[107, 110, 105, 116], [116, 117, 99, 107]]) (idx_ev (var_ev rfl) int_ev rfl) (const_ev rfl) rfl rfl rfl rfl) nil_blk) (st_nx (ite_f (in_evr (ls := [[109, 111, 118, 101], [111, 102, 102]]) (idx_ev (var_ev rfl) int_ev rfl) (const_ev rfl) rfl rfl rfl rfl) nil_blk) ⟨_, ret_blk (bm_ev str_ev rfl (evs_cons hc evs_nil) (joinOk (ss := [[115, 108, 105, 100, 101], istr k]) rfl (Nat.le_trans (Nat.le_trans (Nat.add_le_add_left (Nat.le_of_ble_eq_true rfl) _) hb) lim900)))⟩)
  obtain ⟨ρ', h3⟩ := key
  exact run_rt n pt__law_text ⟨rfl, by decide, rfl, rfl⟩ h3
theorem gx_slide (n : Nat) (k : Int) (hb : ssum [[115, 108, 105, 100, 101], istr k] + 1 * 4 ≤ 900) (hk : k.natAbs < 1000000000000000000) (hl : (istr k).length ≤ 3) : ∃ o, callN tb pt (n + 2) "Deed.written" [.d (.ins "Slide" ["k"] [.int k])] = .ok (.d (.str (tx_slide k))) o := by
  have a0 := gw_slide n [.int k] ["k"]
  have a1 := gb_slide n (.int k)
  have key : GV (.d (.str (tx_slide k))) (Kn.exec tb (callN tb pt (n + 1)) [] fd_Deed_written.body ([SV.d (.ins "Slide" ["k"] [.int k])].map some ++ List.replicate (fd_Deed_written.n - fd_Deed_written.np) none)) := by
    generalize callN tb pt (n + 1) = F at a0 a1 ⊢
    have hc := strs_ev (t := tb) (F := F) (i := 1) (it := .meth "bears" (.var 0) .nil) (ρ := [some (.d (.ins "Slide" ["k"] [.int k])), none]) (ds := [.int k]) (Nat.le_of_ble_eq_true rfl) (evi_of (meth_ev (q := "Slide.bears") (var_ev rfl) rfl rfl (by decide) evs_nil a1) rfl) rfl (Nat.le_of_ble_eq_true rfl) (fun d hd => by
      simp only [List.mem_cons, List.not_mem_nil, or_false] at hd
      subst hd; first | rfl | exact decide_eq_true hk)
    exact ⟨_, ret_blk (bm_ev str_ev rfl (evs_cons (bin_ev (lst_ev (evs_cons (meth_ev (q := "Slide.word") (var_ev rfl) rfl rfl (by decide) evs_nil a0) evs_nil) (Nat.le_of_ble_eq_true rfl)) hc (bL [.str [115, 108, 105, 100, 101]] [.str (istr k)] (Nat.le_of_ble_eq_true rfl))) evs_nil) (joinOk (ss := [[115, 108, 105, 100, 101], istr k]) rfl (Nat.le_trans (Nat.le_trans (Nat.add_le_add_left (Nat.le_of_ble_eq_true rfl) _) hb) lim900)))⟩
  obtain ⟨ρ', h3⟩ := key
  exact run_rt (n + 1) pt_Deed_written ⟨rfl, by decide, rfl, rfl⟩ h3
def tx_miss (w y : List Nat) (k : Int) : List Nat := TL.joinL [32] [[109, 105, 115, 115], w, istr k, y]
theorem lt_miss (n : Nat) (w y : List Nat) (k : Int) (hb : ssum [[109, 105, 115, 115], w, istr k, y] + 1 * 4 ≤ 900) (hk : k.natAbs < 1000000000000000000) (hl : (istr k).length ≤ 3) : ∃ o, callN tb pt (n + 1) "_law_text" [.d (.tup [.str [109, 105, 115, 115], .str w, .int k, .str y])] = .ok (.d (.str (tx_miss w y k))) o := by
  have key : GV (.d (.str (tx_miss w y k))) (Kn.exec tb (callN tb pt n) [] fd__law_text.body ([SV.d (.tup [.str [109, 105, 115, 115], .str w, .int k, .str y])].map some ++ List.replicate (fd__law_text.n - fd__law_text.np) none)) := by
    generalize callN tb pt n = F
    have hc := strs_ev (t := tb) (F := F) (i := 1) (it := .var 0) (ρ := [some (.d (.tup [.str [109, 105, 115, 115], .str w, .int k, .str y])), none]) (ds := [.str [109, 105, 115, 115], .str w, .int k, .str y]) (Nat.le_of_ble_eq_true rfl) (evi_of (var_ev rfl) rfl) rfl (Nat.le_of_ble_eq_true rfl) (fun d hd => by
      simp only [List.mem_cons, List.not_mem_nil, or_false] at hd
      rcases hd with rfl | rfl | rfl | rfl <;> first | rfl | exact decide_eq_true hk)
    exact st_nx (ite_f (in_evr (ls := [[107, 110, 105, 116], [116, 117, 99, 107]]) (idx_ev (var_ev rfl) int_ev rfl) (const_ev rfl) rfl rfl rfl rfl) nil_blk) (st_nx (ite_f (in_evr (ls := [[109, 111, 118, 101], [111, 102, 102]]) (idx_ev (var_ev rfl) int_ev rfl) (const_ev rfl) rfl rfl rfl rfl) nil_blk) ⟨_, ret_blk (bm_ev str_ev rfl (evs_cons hc evs_nil) (joinOk (ss := [[109, 105, 115, 115], w, istr k, y]) rfl (Nat.le_trans (Nat.le_trans (Nat.add_le_add_left (Nat.le_of_ble_eq_true rfl) _) hb) lim900)))⟩)
  obtain ⟨ρ', h3⟩ := key
  exact run_rt n pt__law_text ⟨rfl, by decide, rfl, rfl⟩ h3
theorem gx_miss (n : Nat) (w y : List Nat) (k : Int) (hb : ssum [[109, 105, 115, 115], w, istr k, y] + 1 * 4 ≤ 900) (hk : k.natAbs < 1000000000000000000) (hl : (istr k).length ≤ 3) : ∃ o, callN tb pt (n + 2) "Deed.written" [.d (.ins "Miss" ["way", "n", "yarn"] [.str w, .int k, .str y])] = .ok (.d (.str (tx_miss w y k))) o := by
  have a0 := gw_miss n [.str w, .int k, .str y] ["way", "n", "yarn"]
  have a1 := gb_miss n (.str w) (.int k) (.str y)
  have key : GV (.d (.str (tx_miss w y k))) (Kn.exec tb (callN tb pt (n + 1)) [] fd_Deed_written.body ([SV.d (.ins "Miss" ["way", "n", "yarn"] [.str w, .int k, .str y])].map some ++ List.replicate (fd_Deed_written.n - fd_Deed_written.np) none)) := by
    generalize callN tb pt (n + 1) = F at a0 a1 ⊢
    have hc := strs_ev (t := tb) (F := F) (i := 1) (it := .meth "bears" (.var 0) .nil) (ρ := [some (.d (.ins "Miss" ["way", "n", "yarn"] [.str w, .int k, .str y])), none]) (ds := [.str w, .int k, .str y]) (Nat.le_of_ble_eq_true rfl) (evi_of (meth_ev (q := "Miss.bears") (var_ev rfl) rfl rfl (by decide) evs_nil a1) rfl) rfl (Nat.le_of_ble_eq_true rfl) (fun d hd => by
      simp only [List.mem_cons, List.not_mem_nil, or_false] at hd
      rcases hd with rfl | rfl | rfl <;> first | rfl | exact decide_eq_true hk)
    exact ⟨_, ret_blk (bm_ev str_ev rfl (evs_cons (bin_ev (lst_ev (evs_cons (meth_ev (q := "Miss.word") (var_ev rfl) rfl rfl (by decide) evs_nil a0) evs_nil) (Nat.le_of_ble_eq_true rfl)) hc (bL [.str [109, 105, 115, 115]] [.str (w), .str (istr k), .str (y)] (Nat.le_of_ble_eq_true rfl))) evs_nil) (joinOk (ss := [[109, 105, 115, 115], w, istr k, y]) rfl (Nat.le_trans (Nat.le_trans (Nat.add_le_add_left (Nat.le_of_ble_eq_true rfl) _) hb) lim900)))⟩
  obtain ⟨ρ', h3⟩ := key
  exact run_rt (n + 1) pt_Deed_written ⟨rfl, by decide, rfl, rfl⟩ h3
def tx_come (y : List Nat) (k : Int) : List Nat := TL.joinL [32] [[99, 111, 109, 101], y, istr k]
theorem lt_come (n : Nat) (y : List Nat) (k : Int) (hb : ssum [[99, 111, 109, 101], y, istr k] + 1 * 4 ≤ 900) (hk : k.natAbs < 1000000000000000000) (hl : (istr k).length ≤ 3) : ∃ o, callN tb pt (n + 1) "_law_text" [.d (.tup [.str [99, 111, 109, 101], .str y, .int k])] = .ok (.d (.str (tx_come y k))) o := by
  have key : GV (.d (.str (tx_come y k))) (Kn.exec tb (callN tb pt n) [] fd__law_text.body ([SV.d (.tup [.str [99, 111, 109, 101], .str y, .int k])].map some ++ List.replicate (fd__law_text.n - fd__law_text.np) none)) := by
    generalize callN tb pt n = F
    have hc := strs_ev (t := tb) (F := F) (i := 1) (it := .var 0) (ρ := [some (.d (.tup [.str [99, 111, 109, 101], .str y, .int k])), none]) (ds := [.str [99, 111, 109, 101], .str y, .int k]) (Nat.le_of_ble_eq_true rfl) (evi_of (var_ev rfl) rfl) rfl (Nat.le_of_ble_eq_true rfl) (fun d hd => by
      simp only [List.mem_cons, List.not_mem_nil, or_false] at hd
      rcases hd with rfl | rfl | rfl <;> first | rfl | exact decide_eq_true hk)
    exact st_nx (ite_f (in_evr (ls := [[107, 110, 105, 116], [116, 117, 99, 107]]) (idx_ev (var_ev rfl) int_ev rfl) (const_ev rfl) rfl rfl rfl rfl) nil_blk) (st_nx (ite_f (in_evr (ls := [[109, 111, 118, 101], [111, 102, 102]]) (idx_ev (var_ev rfl) int_ev rfl) (const_ev rfl) rfl rfl rfl rfl) nil_blk) ⟨_, ret_blk (bm_ev str_ev rfl (evs_cons hc evs_nil) (joinOk (ss := [[99, 111, 109, 101], y, istr k]) rfl (Nat.le_trans (Nat.le_trans (Nat.add_le_add_left (Nat.le_of_ble_eq_true rfl) _) hb) lim900)))⟩)
  obtain ⟨ρ', h3⟩ := key
  exact run_rt n pt__law_text ⟨rfl, by decide, rfl, rfl⟩ h3
theorem gx_come (n : Nat) (y : List Nat) (k : Int) (hb : ssum [[99, 111, 109, 101], y, istr k] + 1 * 4 ≤ 900) (hk : k.natAbs < 1000000000000000000) (hl : (istr k).length ≤ 3) : ∃ o, callN tb pt (n + 2) "Deed.written" [.d (.ins "Come" ["yarn", "place"] [.str y, .int k])] = .ok (.d (.str (tx_come y k))) o := by
  have a0 := gw_come n [.str y, .int k] ["yarn", "place"]
  have a1 := gb_come n (.str y) (.int k)
  have key : GV (.d (.str (tx_come y k))) (Kn.exec tb (callN tb pt (n + 1)) [] fd_Deed_written.body ([SV.d (.ins "Come" ["yarn", "place"] [.str y, .int k])].map some ++ List.replicate (fd_Deed_written.n - fd_Deed_written.np) none)) := by
    generalize callN tb pt (n + 1) = F at a0 a1 ⊢
    have hc := strs_ev (t := tb) (F := F) (i := 1) (it := .meth "bears" (.var 0) .nil) (ρ := [some (.d (.ins "Come" ["yarn", "place"] [.str y, .int k])), none]) (ds := [.str y, .int k]) (Nat.le_of_ble_eq_true rfl) (evi_of (meth_ev (q := "Come.bears") (var_ev rfl) rfl rfl (by decide) evs_nil a1) rfl) rfl (Nat.le_of_ble_eq_true rfl) (fun d hd => by
      simp only [List.mem_cons, List.not_mem_nil, or_false] at hd
      rcases hd with rfl | rfl <;> first | rfl | exact decide_eq_true hk)
    exact ⟨_, ret_blk (bm_ev str_ev rfl (evs_cons (bin_ev (lst_ev (evs_cons (meth_ev (q := "Come.word") (var_ev rfl) rfl rfl (by decide) evs_nil a0) evs_nil) (Nat.le_of_ble_eq_true rfl)) hc (bL [.str [99, 111, 109, 101]] [.str (y), .str (istr k)] (Nat.le_of_ble_eq_true rfl))) evs_nil) (joinOk (ss := [[99, 111, 109, 101], y, istr k]) rfl (Nat.le_trans (Nat.le_trans (Nat.add_le_add_left (Nat.le_of_ble_eq_true rfl) _) hb) lim900)))⟩
  obtain ⟨ρ', h3⟩ := key
  exact run_rt (n + 1) pt_Deed_written ⟨rfl, by decide, rfl, rfl⟩ h3
def tx_go (y : List Nat) : List Nat := TL.joinL [32] [[103, 111], y]
theorem lt_go (n : Nat) (y : List Nat) (hb : ssum [[103, 111], y] + 1 * 4 ≤ 900) : ∃ o, callN tb pt (n + 1) "_law_text" [.d (.tup [.str [103, 111], .str y])] = .ok (.d (.str (tx_go y))) o := by
  have key : GV (.d (.str (tx_go y))) (Kn.exec tb (callN tb pt n) [] fd__law_text.body ([SV.d (.tup [.str [103, 111], .str y])].map some ++ List.replicate (fd__law_text.n - fd__law_text.np) none)) := by
    generalize callN tb pt n = F
    have hc := strs_ev (t := tb) (F := F) (i := 1) (it := .var 0) (ρ := [some (.d (.tup [.str [103, 111], .str y])), none]) (ds := [.str [103, 111], .str y]) (Nat.le_of_ble_eq_true rfl) (evi_of (var_ev rfl) rfl) rfl (Nat.le_of_ble_eq_true rfl) (fun d hd => by
      simp only [List.mem_cons, List.not_mem_nil, or_false] at hd
      rcases hd with rfl | rfl <;> first | rfl | exact decide_eq_true hk)
    exact st_nx (ite_f (in_evr (ls := [[107, 110, 105, 116], [116, 117, 99, 107]]) (idx_ev (var_ev rfl) int_ev rfl) (const_ev rfl) rfl rfl rfl rfl) nil_blk) (st_nx (ite_f (in_evr (ls := [[109, 111, 118, 101], [111, 102, 102]]) (idx_ev (var_ev rfl) int_ev rfl) (const_ev rfl) rfl rfl rfl rfl) nil_blk) ⟨_, ret_blk (bm_ev str_ev rfl (evs_cons hc evs_nil) (joinOk (ss := [[103, 111], y]) rfl (Nat.le_trans (Nat.le_trans (Nat.add_le_add_left (Nat.le_of_ble_eq_true rfl) _) hb) lim900)))⟩)
  obtain ⟨ρ', h3⟩ := key
  exact run_rt n pt__law_text ⟨rfl, by decide, rfl, rfl⟩ h3
theorem gx_go (n : Nat) (y : List Nat) (hb : ssum [[103, 111], y] + 1 * 4 ≤ 900) : ∃ o, callN tb pt (n + 2) "Deed.written" [.d (.ins "Go" ["yarn"] [.str y])] = .ok (.d (.str (tx_go y))) o := by
  have a0 := gw_go n [.str y] ["yarn"]
  have a1 := gb_go n (.str y)
  have key : GV (.d (.str (tx_go y))) (Kn.exec tb (callN tb pt (n + 1)) [] fd_Deed_written.body ([SV.d (.ins "Go" ["yarn"] [.str y])].map some ++ List.replicate (fd_Deed_written.n - fd_Deed_written.np) none)) := by
    generalize callN tb pt (n + 1) = F at a0 a1 ⊢
    have hc := strs_ev (t := tb) (F := F) (i := 1) (it := .meth "bears" (.var 0) .nil) (ρ := [some (.d (.ins "Go" ["yarn"] [.str y])), none]) (ds := [.str y]) (Nat.le_of_ble_eq_true rfl) (evi_of (meth_ev (q := "Go.bears") (var_ev rfl) rfl rfl (by decide) evs_nil a1) rfl) rfl (Nat.le_of_ble_eq_true rfl) (fun d hd => by
      simp only [List.mem_cons, List.not_mem_nil, or_false] at hd
      subst hd; first | rfl | exact decide_eq_true hk)
    exact ⟨_, ret_blk (bm_ev str_ev rfl (evs_cons (bin_ev (lst_ev (evs_cons (meth_ev (q := "Go.word") (var_ev rfl) rfl rfl (by decide) evs_nil a0) evs_nil) (Nat.le_of_ble_eq_true rfl)) hc (bL [.str [103, 111]] [.str (y)] (Nat.le_of_ble_eq_true rfl))) evs_nil) (joinOk (ss := [[103, 111], y]) rfl (Nat.le_trans (Nat.le_trans (Nat.add_le_add_left (Nat.le_of_ble_eq_true rfl) _) hb) lim900)))⟩
  obtain ⟨ρ', h3⟩ := key
  exact run_rt (n + 1) pt_Deed_written ⟨rfl, by decide, rfl, rfl⟩ h3
/-- what a told deed's text is -/
def TTx (x : D) : Prop := ∃ s, okRow s ∧ (∀ n, ∃ o, callN tb pt (n + 1) "_law_text" [.d x] = .ok (.d (.str s)) o) ∧ okT x = true ∧ ∃ c ns ys q, deedM x = some (c, ns, ys) ∧ tb.meth c "written" = some q ∧ "written" ∉ ns ∧ ∀ n, ∃ o, callN tb pt (n + 2) q [.d (.ins c ns ys)] = .ok (.d (.str s)) o
theorem tt_knit (w : List Nat) (sd : List Nat) (y : List Nat) (k : Int) (hw : w = [43] ∨ w = [45]) (hs : sd = [102] ∨ sd = [98]) (h0 : 0 ≤ k) (h1 : k ≤ 23) (hy : YP y) : TTx (.tup [.str [107, 110, 105, 116], .str w, .str sd, .int k, .str y]) := by
    obtain ⟨y1, y2, y3⟩ := yp_row hy
    obtain ⟨k1, k2, k3⟩ := k_row k (by omega) (by omega)
    have hk : k.natAbs < 1000000000000000000 := by omega
    have w1 : w.length = 1 ∧ w.count 32 = 0 ∧ ∀ c ∈ w, c < 1114112 := by rcases hw with rfl | rfl <;> exact ⟨rfl, rfl, by decide⟩
    obtain ⟨w1, w2, w3⟩ := w1
    have sd1 : sd.length = 1 ∧ sd.count 32 = 0 ∧ ∀ c ∈ sd, c < 1114112 := by rcases hs with rfl | rfl <;> exact ⟨rfl, rfl, by decide⟩
    obtain ⟨sd1, sd2, sd3⟩ := sd1
    have hb : ssum [[107, 110, 105, 116], w, sd ++ istr k, y] + 1 * 4 ≤ 900 := by simp only [ssum, List.length_cons, List.length_nil, List.length_append]; omega
    refine ⟨tx_knit w sd y k, ⟨?_, ?_, ?_⟩, fun n => lt_knit n w sd y k hb hk k1 (by omega), ?_, "Knit", ["way", "side", "n", "yarn"], [.str w, .str sd, .int k, .str y], "Looping.written", ?_, rfl, by decide, fun n => gx_knit n w sd y k hb hk k1 (by omega)⟩
    · simp only [tx_knit, TL.joinL, List.length_append, List.length_cons, List.length_nil]; omega
    · simp only [tx_knit, TL.joinL, List.count_append, y2, k2, w2, sd2, List.count_cons, List.count_nil]; simp
    · have hz : ((tx_knit w sd y k).all fun c => decide (c < 1114112)) = true := j_all rfl (all_c rfl (all_c (al w3) (all_c (all_a (al sd3) (al k3)) (all_c (al y3) rfl))))
      exact fun c hc => of_decide_eq_true (List.all_eq_true.mp hz c hc)
    · simp [okT, okP, List.all_cons, List.all_nil]; omega
    · have e : deedM (.tup [.str [107, 110, 105, 116], .str w, .str sd, .int k, .str y]) = m_knit [.str w, .str sd, .int k, .str y] := rfl
      rw [e]
      unfold m_knit
      have vy : yarnD (.str y) = true := hy.b.1
      have vw : wayD (.str w) = true := by rcases hw with rfl | rfl <;> rfl
      have vs : sideD (.str sd) = true := by rcases hs with rfl | rfl <;> rfl
      have vk : btwD 0 23 (.int k) = true := by show (decide _ && decide _) = true; rw [decide_eq_true h0, decide_eq_true h1]; rfl
      simp only [vy, vw, vs, vk, Bool.and_self, if_true]
theorem tt_tuck (w : List Nat) (sd : List Nat) (y : List Nat) (k : Int) (hw : w = [43] ∨ w = [45]) (hs : sd = [102] ∨ sd = [98]) (h0 : 0 ≤ k) (h1 : k ≤ 23) (hy : YP y) : TTx (.tup [.str [116, 117, 99, 107], .str w, .str sd, .int k, .str y]) := by
    obtain ⟨y1, y2, y3⟩ := yp_row hy
    obtain ⟨k1, k2, k3⟩ := k_row k (by omega) (by omega)
    have hk : k.natAbs < 1000000000000000000 := by omega
    have w1 : w.length = 1 ∧ w.count 32 = 0 ∧ ∀ c ∈ w, c < 1114112 := by rcases hw with rfl | rfl <;> exact ⟨rfl, rfl, by decide⟩
    obtain ⟨w1, w2, w3⟩ := w1
    have sd1 : sd.length = 1 ∧ sd.count 32 = 0 ∧ ∀ c ∈ sd, c < 1114112 := by rcases hs with rfl | rfl <;> exact ⟨rfl, rfl, by decide⟩
    obtain ⟨sd1, sd2, sd3⟩ := sd1
    have hb : ssum [[116, 117, 99, 107], w, sd ++ istr k, y] + 1 * 4 ≤ 900 := by simp only [ssum, List.length_cons, List.length_nil, List.length_append]; omega
    refine ⟨tx_tuck w sd y k, ⟨?_, ?_, ?_⟩, fun n => lt_tuck n w sd y k hb hk k1 (by omega), ?_, "Tuck", ["way", "side", "n", "yarn"], [.str w, .str sd, .int k, .str y], "Looping.written", ?_, rfl, by decide, fun n => gx_tuck n w sd y k hb hk k1 (by omega)⟩
    · simp only [tx_tuck, TL.joinL, List.length_append, List.length_cons, List.length_nil]; omega
    · simp only [tx_tuck, TL.joinL, List.count_append, y2, k2, w2, sd2, List.count_cons, List.count_nil]; simp
    · have hz : ((tx_tuck w sd y k).all fun c => decide (c < 1114112)) = true := j_all rfl (all_c rfl (all_c (al w3) (all_c (all_a (al sd3) (al k3)) (all_c (al y3) rfl))))
      exact fun c hc => of_decide_eq_true (List.all_eq_true.mp hz c hc)
    · simp [okT, okP, List.all_cons, List.all_nil]; omega
    · have e : deedM (.tup [.str [116, 117, 99, 107], .str w, .str sd, .int k, .str y]) = m_tuck [.str w, .str sd, .int k, .str y] := rfl
      rw [e]
      unfold m_tuck
      have vy : yarnD (.str y) = true := hy.b.1
      have vw : wayD (.str w) = true := by rcases hw with rfl | rfl <;> rfl
      have vs : sideD (.str sd) = true := by rcases hs with rfl | rfl <;> rfl
      have vk : btwD 0 23 (.int k) = true := by show (decide _ && decide _) = true; rw [decide_eq_true h0, decide_eq_true h1]; rfl
      simp only [vy, vw, vs, vk, Bool.and_self, if_true]
theorem tt_move (sd : List Nat) (k : Int) (hs : sd = [102] ∨ sd = [98]) (h0 : 0 ≤ k) (h1 : k ≤ 23) : TTx (.tup [.str [109, 111, 118, 101], .str sd, .int k]) := by
    obtain ⟨k1, k2, k3⟩ := k_row k (by omega) (by omega)
    have hk : k.natAbs < 1000000000000000000 := by omega
    have sd1 : sd.length = 1 ∧ sd.count 32 = 0 ∧ ∀ c ∈ sd, c < 1114112 := by rcases hs with rfl | rfl <;> exact ⟨rfl, rfl, by decide⟩
    obtain ⟨sd1, sd2, sd3⟩ := sd1
    refine ⟨tx_move sd k, ⟨?_, ?_, ?_⟩, fun n => lt_move n sd k (by omega) hk k1, ?_, "Move", ["side", "n"], [.str sd, .int k], "OfNeedle.written", ?_, rfl, by decide, fun n => gx_move n sd k (by omega) hk k1⟩
    · simp only [tx_move, TL.joinL, List.length_append, List.length_cons, List.length_nil]; omega
    · simp only [tx_move, TL.joinL, List.count_append, k2, sd2, List.count_cons, List.count_nil]; simp
    · have hz : ((tx_move sd k).all fun c => decide (c < 1114112)) = true := all_a (all_a (all_a rfl rfl) (al sd3)) (al k3)
      exact fun c hc => of_decide_eq_true (List.all_eq_true.mp hz c hc)
    · simp [okT, okP, List.all_cons, List.all_nil]; omega
    · have e : deedM (.tup [.str [109, 111, 118, 101], .str sd, .int k]) = m_move [.str sd, .int k] := rfl
      rw [e]
      unfold m_move
      have vs : sideD (.str sd) = true := by rcases hs with rfl | rfl <;> rfl
      have vk : btwD 0 23 (.int k) = true := by show (decide _ && decide _) = true; rw [decide_eq_true h0, decide_eq_true h1]; rfl
      simp only [vs, vk, Bool.and_self, if_true]
theorem tt_off (sd : List Nat) (k : Int) (hs : sd = [102] ∨ sd = [98]) (h0 : 0 ≤ k) (h1 : k ≤ 23) : TTx (.tup [.str [111, 102, 102], .str sd, .int k]) := by
    obtain ⟨k1, k2, k3⟩ := k_row k (by omega) (by omega)
    have hk : k.natAbs < 1000000000000000000 := by omega
    have sd1 : sd.length = 1 ∧ sd.count 32 = 0 ∧ ∀ c ∈ sd, c < 1114112 := by rcases hs with rfl | rfl <;> exact ⟨rfl, rfl, by decide⟩
    obtain ⟨sd1, sd2, sd3⟩ := sd1
    refine ⟨tx_off sd k, ⟨?_, ?_, ?_⟩, fun n => lt_off n sd k (by omega) hk k1, ?_, "Off", ["side", "n"], [.str sd, .int k], "OfNeedle.written", ?_, rfl, by decide, fun n => gx_off n sd k (by omega) hk k1⟩
    · simp only [tx_off, TL.joinL, List.length_append, List.length_cons, List.length_nil]; omega
    · simp only [tx_off, TL.joinL, List.count_append, k2, sd2, List.count_cons, List.count_nil]; simp
    · have hz : ((tx_off sd k).all fun c => decide (c < 1114112)) = true := all_a (all_a (all_a rfl rfl) (al sd3)) (al k3)
      exact fun c hc => of_decide_eq_true (List.all_eq_true.mp hz c hc)
    · simp [okT, okP, List.all_cons, List.all_nil]; omega
    · have e : deedM (.tup [.str [111, 102, 102], .str sd, .int k]) = m_off [.str sd, .int k] := rfl
      rw [e]
      unfold m_off
      have vs : sideD (.str sd) = true := by rcases hs with rfl | rfl <;> rfl
      have vk : btwD 0 23 (.int k) = true := by show (decide _ && decide _) = true; rw [decide_eq_true h0, decide_eq_true h1]; rfl
      simp only [vs, vk, Bool.and_self, if_true]
theorem tt_slide (k : Int) (h0 : -3 ≤ k) (h1 : k ≤ 3) : TTx (.tup [.str [115, 108, 105, 100, 101], .int k]) := by
    obtain ⟨k1, k2, k3⟩ := k_row k (by omega) (by omega)
    have hk : k.natAbs < 1000000000000000000 := by omega
    have hb : ssum [[115, 108, 105, 100, 101], istr k] + 1 * 4 ≤ 900 := by simp only [ssum, List.length_cons, List.length_nil, List.length_append]; omega
    refine ⟨tx_slide k, ⟨?_, ?_, ?_⟩, fun n => lt_slide n k hb hk k1, ?_, "Slide", ["k"], [.int k], "Deed.written", ?_, rfl, by decide, fun n => gx_slide n k hb hk k1⟩
    · simp only [tx_slide, TL.joinL, List.length_append, List.length_cons, List.length_nil]; omega
    · simp only [tx_slide, TL.joinL, List.count_append, k2, List.count_cons, List.count_nil]; simp
    · have hz : ((tx_slide k).all fun c => decide (c < 1114112)) = true := j_all rfl (all_c rfl (all_c (al k3) rfl))
      exact fun c hc => of_decide_eq_true (List.all_eq_true.mp hz c hc)
    · simp [okT, okP, List.all_cons, List.all_nil]
    · have e : deedM (.tup [.str [115, 108, 105, 100, 101], .int k]) = m_slide [.int k] := rfl
      rw [e]
      unfold m_slide
      have vk : btwD (-3) 3 (.int k) = true := by show (decide _ && decide _) = true; rw [decide_eq_true h0, decide_eq_true h1]; rfl
      simp only [vk, Bool.and_self, if_true]
theorem tt_miss (w : List Nat) (y : List Nat) (k : Int) (hw : w = [43] ∨ w = [45]) (h0 : 0 ≤ k) (h1 : k ≤ 23) (hy : YP y) : TTx (.tup [.str [109, 105, 115, 115], .str w, .int k, .str y]) := by
    obtain ⟨y1, y2, y3⟩ := yp_row hy
    obtain ⟨k1, k2, k3⟩ := k_row k (by omega) (by omega)
    have hk : k.natAbs < 1000000000000000000 := by omega
    have w1 : w.length = 1 ∧ w.count 32 = 0 ∧ ∀ c ∈ w, c < 1114112 := by rcases hw with rfl | rfl <;> exact ⟨rfl, rfl, by decide⟩
    obtain ⟨w1, w2, w3⟩ := w1
    have hb : ssum [[109, 105, 115, 115], w, istr k, y] + 1 * 4 ≤ 900 := by simp only [ssum, List.length_cons, List.length_nil, List.length_append]; omega
    refine ⟨tx_miss w y k, ⟨?_, ?_, ?_⟩, fun n => lt_miss n w y k hb hk k1, ?_, "Miss", ["way", "n", "yarn"], [.str w, .int k, .str y], "Deed.written", ?_, rfl, by decide, fun n => gx_miss n w y k hb hk k1⟩
    · simp only [tx_miss, TL.joinL, List.length_append, List.length_cons, List.length_nil]; omega
    · simp only [tx_miss, TL.joinL, List.count_append, y2, k2, w2, List.count_cons, List.count_nil]; simp
    · have hz : ((tx_miss w y k).all fun c => decide (c < 1114112)) = true := j_all rfl (all_c rfl (all_c (al w3) (all_c (al k3) (all_c (al y3) rfl))))
      exact fun c hc => of_decide_eq_true (List.all_eq_true.mp hz c hc)
    · simp [okT, okP, List.all_cons, List.all_nil]; omega
    · have e : deedM (.tup [.str [109, 105, 115, 115], .str w, .int k, .str y]) = m_miss [.str w, .int k, .str y] := rfl
      rw [e]
      unfold m_miss
      have vy : yarnD (.str y) = true := hy.b.1
      have vw : wayD (.str w) = true := by rcases hw with rfl | rfl <;> rfl
      have vk : btwD 0 23 (.int k) = true := by show (decide _ && decide _) = true; rw [decide_eq_true h0, decide_eq_true h1]; rfl
      simp only [vy, vw, vk, Bool.and_self, if_true]
theorem tt_come (y : List Nat) (k : Int) (hy : YP y) (h0 : 0 ≤ k) (h1 : k ≤ 24) : TTx (.tup [.str [99, 111, 109, 101], .str y, .int k]) := by
    obtain ⟨y1, y2, y3⟩ := yp_row hy
    obtain ⟨k1, k2, k3⟩ := k_row k (by omega) (by omega)
    have hk : k.natAbs < 1000000000000000000 := by omega
    have hb : ssum [[99, 111, 109, 101], y, istr k] + 1 * 4 ≤ 900 := by simp only [ssum, List.length_cons, List.length_nil, List.length_append]; omega
    refine ⟨tx_come y k, ⟨?_, ?_, ?_⟩, fun n => lt_come n y k hb hk k1, ?_, "Come", ["yarn", "place"], [.str y, .int k], "Deed.written", ?_, rfl, by decide, fun n => gx_come n y k hb hk k1⟩
    · simp only [tx_come, TL.joinL, List.length_append, List.length_cons, List.length_nil]; omega
    · simp only [tx_come, TL.joinL, List.count_append, y2, k2, List.count_cons, List.count_nil]; simp
    · have hz : ((tx_come y k).all fun c => decide (c < 1114112)) = true := j_all rfl (all_c rfl (all_c (al y3) (all_c (al k3) rfl)))
      exact fun c hc => of_decide_eq_true (List.all_eq_true.mp hz c hc)
    · simp [okT, okP, List.all_cons, List.all_nil]; omega
    · have e : deedM (.tup [.str [99, 111, 109, 101], .str y, .int k]) = m_come [.str y, .int k] := rfl
      rw [e]
      unfold m_come
      have vy : yarnD (.str y) = true := hy.b.1
      have vk : btwD 0 24 (.int k) = true := by show (decide _ && decide _) = true; rw [decide_eq_true h0, decide_eq_true h1]; rfl
      simp only [vy, vk, Bool.and_self, if_true]
theorem tt_go (y : List Nat) (hy : YP y) : TTx (.tup [.str [103, 111], .str y]) := by
    obtain ⟨y1, y2, y3⟩ := yp_row hy
    have hb : ssum [[103, 111], y] + 1 * 4 ≤ 900 := by simp only [ssum, List.length_cons, List.length_nil, List.length_append]; omega
    refine ⟨tx_go y, ⟨?_, ?_, ?_⟩, fun n => lt_go n y hb, ?_, "Go", ["yarn"], [.str y], "Deed.written", ?_, rfl, by decide, fun n => gx_go n y hb⟩
    · simp only [tx_go, TL.joinL, List.length_append, List.length_cons, List.length_nil]; omega
    · simp only [tx_go, TL.joinL, List.count_append, y2, List.count_cons, List.count_nil]; simp
    · have hz : ((tx_go y).all fun c => decide (c < 1114112)) = true := j_all rfl (all_c rfl (all_c (al y3) rfl))
      exact fun c hc => of_decide_eq_true (List.all_eq_true.mp hz c hc)
    · simp [okT, okP, List.all_cons, List.all_nil]; omega
    · have e : deedM (.tup [.str [103, 111], .str y]) = m_go [.str y] := rfl
      rw [e]
      unfold m_go
      have vy : yarnD (.str y) = true := hy.b.1
      simp only [vy, Bool.and_self, if_true]
theorem told_text {x : D} (h : Told x) : TTx x := by
  cases h with
  | knit w sd y k hw hs h0 h1 hy => exact tt_knit w sd y k hw hs h0 h1 hy
  | tuck w sd y k hw hs h0 h1 hy => exact tt_tuck w sd y k hw hs h0 h1 hy
  | move sd k hs h0 h1 => exact tt_move sd k hs h0 h1
  | off sd k hs h0 h1 => exact tt_off sd k hs h0 h1
  | slide k h0 h1 => exact tt_slide k h0 h1
  | miss w y k hw h0 h1 hy => exact tt_miss w y k hw h0 h1 hy
  | come y k hy h0 h1 => exact tt_come y k hy h0 h1
  | go y hy => exact tt_go y hy
end Kn

set_option Elab.async false
set_option linter.all false
set_option maxRecDepth 100000
set_option maxHeartbeats 4000000
/-! WX: deeds_written; the refusal's class; a spoilt text. -/
namespace Kn
open PySem L2
abbrev Td : Type := {x : D // Told x}
noncomputable def txOf (x : Td) : List Nat := Classical.choose (told_text x.2)
theorem txOf_ok (x : Td) : okRow (txOf x) ∧ (∀ n, ∃ o, callN tb pt (n + 1) "_law_text" [.d x.1] = .ok (.d (.str (txOf x))) o) ∧ okT x.1 = true ∧ ∃ c ns ys q, deedM x.1 = some (c, ns, ys) ∧ tb.meth c "written" = some q ∧ "written" ∉ ns ∧ ∀ n, ∃ o, callN tb pt (n + 2) q [.d (.ins c ns ys)] = .ok (.d (.str (txOf x))) o := Classical.choose_spec (told_text x.2)
def insO (x : Td) : D := match deedM x.1 with
  | some m => insD m
  | none => .non
noncomputable def textO (ts : List Td) : List Nat := TL.joinL [] (ts.map fun x => txOf x ++ [10])
theorem ssum_le {α : Type} (f : α → List Nat) (k : Nat) : ∀ (l : List α), (∀ x ∈ l, (f x).length ≤ k) → ssum (l.map f) ≤ k * l.length
  | [], _ => Nat.zero_le _
  | x :: l, h => by
    have ih := ssum_le f k l fun y hy => h y (List.mem_cons_of_mem _ hy)
    have h1 := h x List.mem_cons_self
    rw [List.map_cons, List.length_cons, Nat.mul_add, Nat.mul_one]
    show (f x).length + ssum (l.map f) ≤ _
    omega
theorem txt_len (x : Td) : (txOf x ++ [10]).length ≤ 17 := by
  have := (txOf_ok x).1.1
  rw [List.length_append, List.length_singleton]
  omega
theorem textO_ok (ts : List Td) (h : ts.length ≤ 12) : okX (textO ts) := by
  have hs := ssum_le (fun x => txOf x ++ [10]) 17 ts fun x _ => txt_len x
  have hl := j_len [] (ts.map fun x => txOf x ++ [10])
  refine ⟨?_, fun c hc => ?_⟩
  · unfold textO
    simp only [List.length_nil, Nat.zero_mul, Nat.add_zero] at hl
    have : 17 * ts.length ≤ 17 * 12 := Nat.mul_le_mul_left _ h
    omega
  · have : (textO ts).all (fun c => decide (c < 1114112)) = true := j_all rfl (by
      rw [List.all_map, List.all_eq_true]
      intro x _
      exact all_a (al (txOf_ok x).1.2.2) rfl)
    exact of_decide_eq_true (List.all_eq_true.mp this c hc)
theorem join_txt (sep : List Nat) {α : Type} (l : List α) (f : α → List Nat) (h : ssum (l.map f) + sep.length * l.length ≤ lim) : bmD .join (.str sep) [.lst (l.map fun x => D.str (f x))] = some (.d (.str (TL.joinL sep (l.map f)))) :=
  joinOk (strs_of l f) (by rw [List.length_map]; exact h)
theorem deeds_written_at (n : Nat) (ts : List Td) (h : ts.length ≤ 12) : ∃ o, callN tb pt (n + 3) "deeds_written" [.d (.lst (ts.map insO))] = .ok (.d (.str (textO ts))) o := by
  have hw : ∀ x : Td, ∃ c ns ys q, insO x = .ins c ns ys ∧ tb.meth c "written" = some q ∧ "written" ∉ ns ∧ ∃ o, callN tb pt (n + 2) q [.d (.ins c ns ys)] = .ok (.d (.str (txOf x))) o := fun x => by
    obtain ⟨_, _, _, c, ns, ys, q, e, hq, hn, hc⟩ := txOf_ok x
    refine ⟨c, ns, ys, q, ?_, hq, hn, hc n⟩
    unfold insO
    rw [e]
    rfl
  have key : GV (.d (.str (textO ts))) (Kn.exec tb (callN tb pt (n + 2)) [] fd_deeds_written.body ([SV.d (.lst (ts.map insO))].map some ++ List.replicate (fd_deeds_written.n - fd_deeds_written.np) none)) := by
    generalize callN tb pt (n + 2) = F at hw ⊢
    have hc := comp_al (t := tb) (F := F) (i := 1) (it := .var 0) (el := .bin .add (.meth "written" (.var 1) .nil) (.str [10])) (ρ := [some (.d (.lst (ts.map insO))), none]) (ρ1 := [some (.d (.lst (ts.map insO))), none]) (l := ts) (a := insO) (b := fun x => .str (txOf x ++ [10])) (Nat.le_of_ble_eq_true rfl) (evi_of (var_ev rfl) rfl) rfl (Nat.le_trans h (by decide)) fun x hx => by
      obtain ⟨c, ns, ys, q, e, hq, hn, o, hc⟩ := hw x
      have l1 := (txOf_ok x).1.1
      exact bin_ev (meth_ev (var_ev rfl) e hq hn evs_nil hc) str_ev (bP _ _ (by omega) (by decide))
    refine ⟨_, ret_blk (bm_ev str_ev rfl (evs_cons hc evs_nil) ?_)⟩
    have hs := ssum_le (fun x => txOf x ++ [10]) 17 ts fun x _ => txt_len x
    have h2 : 17 * ts.length ≤ 17 * 12 := Nat.mul_le_mul_left _ h
    have hj := join_txt [] ts (fun x => txOf x ++ [10]) (by rw [List.length_nil, Nat.zero_mul]; exact Nat.le_trans (show _ ≤ 900 by omega) lim900)
    show bmD .join (.str []) [.lst (frzs (ts.map fun x => SV.d (.str (txOf x ++ [10]))))] = _
    rw [frzs_map]
    exact hj
  obtain ⟨ρ', h3⟩ := key
  exact run_rt (n + 2) pt_deeds_written ⟨rfl, by decide, rfl, rfl⟩ h3
theorem class_nt (n : Nat) (j : Nat) : callN tb pt (n + 1) "_law_class" [.d (.exc "NoText" ["line", "number"] [.int (j : Int), .int (-1)])] = .ok (.d (.str [78, 111, 84, 101, 120, 116])) [none] := by
  rw [callN_at n pt__law_class]
  generalize callN tb pt n = F
  rfl
theorem made_okD {xs : List D} {c : String} {ns : List String} {ys : List D} (h : MadeOf (.tup xs) c ns ys) (n : Nat) : okDs xs n = true := by
  have hy : ∀ a, yarnD a = true → okD a n = true := fun a h => by
    cases a with
    | str s =>
      have h : yarnB s = true := h
      unfold yarnB at h
      rw [Bool.and_eq_true, List.all_eq_true] at h
      show (s.all fun c => decide (c < 1114112)) = true
      rw [List.all_eq_true]
      exact fun c hc => decide_eq_true (sm_small c (of_decide_eq_true (h.2 c hc)))
    | _ => cases h
  have hb : ∀ lo hi a, btwD lo hi a = true → okD a n = true := fun lo hi a h => by
    cases a with
    | int i => rfl
    | _ => cases h
  have hs : ∀ a, sideD a = true → okD a n = true := fun a h => by
    cases a with
    | str s =>
      have h : (decide (s = [102]) || decide (s = [98])) = true := h
      simp only [Bool.or_eq_true, decide_eq_true_eq] at h
      rcases h with rfl | rfl <;> rfl
    | _ => cases h
  have hw : ∀ a, wayD a = true → okD a n = true := fun a h => by
    cases a with
    | str s =>
      have h : (decide (s = [43]) || decide (s = [45])) = true := h
      simp only [Bool.or_eq_true, decide_eq_true_eq] at h
      rcases h with rfl | rfl <;> rfl
    | _ => cases h
  have cn : ∀ {x : D} {xs : List D}, okD x n = true → okDs xs n = true → okDs (x :: xs) n = true := fun h1 h2 => by
    show (okD _ n && okDs _ n) = true
    rw [h1, h2]
    rfl
  cases h with
  | come a b h => simp only [Bool.and_eq_true] at h; exact cn rfl (cn (hy _ h.1) (cn (hb _ _ _ h.2) rfl))
  | go a h => exact cn rfl (cn (hy _ h) rfl)
  | knit a b c d h => simp only [Bool.and_eq_true] at h; exact cn rfl (cn (hw _ h.1.1.1) (cn (hs _ h.1.1.2) (cn (hb _ _ _ h.1.2) (cn (hy _ h.2) rfl))))
  | tuck a b c d h => simp only [Bool.and_eq_true] at h; exact cn rfl (cn (hw _ h.1.1.1) (cn (hs _ h.1.1.2) (cn (hb _ _ _ h.1.2) (cn (hy _ h.2) rfl))))
  | miss a b c h => simp only [Bool.and_eq_true] at h; exact cn rfl (cn (hw _ h.1.1) (cn (hb _ _ _ h.1.2) (cn (hy _ h.2) rfl)))
  | move a b h => simp only [Bool.and_eq_true] at h; exact cn rfl (cn (hs _ h.1) (cn (hb _ _ _ h.2) rfl))
  | off a b h => simp only [Bool.and_eq_true] at h; exact cn rfl (cn (hs _ h.1) (cn (hb _ _ _ h.2) rfl))
  | slide a h => exact cn rfl (cn (hb _ _ _ h) rfl)
theorem tls_ok : ∀ {l : List (List D)} {ms : List M3}, Tls l ms → okDs (l.map .tup) 49 = true
  | [], _, _ => rfl
  | xs :: l, _, h => by
    cases h with
    | cons h t =>
      show (okDs xs 48 && okDs (l.map .tup) 49) = true
      rw [made_okD h 48, tls_ok t]
      rfl
/-! ### a spoilt text -/
def SPo (s : List Nat) (x : Fl) : Prop := ∃ s', (s'.length ≤ s.length + 18 ∧ ((∀ c ∈ s, c < 1114112) → ∀ c ∈ s', c < 1114112)) ∧ ∃ ρ', x = .rt (.d (.str s')) ρ'
def spL : List (List Nat) := [[107, 110, 105, 116], [103, 111], [107, 110, 105, 116, 32, 43, 32, 102, 50, 52, 32, 97], [115, 108, 105, 100, 101, 32, 52], [115, 108, 105, 100, 101, 32, 45, 48], [115, 108, 105, 100, 101, 32, 48, 51], [109, 111, 118, 101, 32, 53], [109, 111, 118, 101, 32, 102, 32, 53], [99, 111, 109, 101, 32, 97, 32, 45, 49],
  [115, 108, 105, 100, 101, 32, 43, 50], [99, 111, 109, 101, 32, 65, 32, 51], [107, 110, 105, 116, 32, 43, 32, 70, 53, 32, 97], [71, 111, 32, 97], [109, 105, 115, 115, 32, 43, 32, 43, 52, 32, 97], [99, 111, 109, 101, 32, 97, 32, 43, 48],
  [103, 111, 32, 97, 32, 98], [116, 117, 99, 107, 32, 102, 53, 32, 43, 32, 97], [109, 105, 115, 115, 32, 43, 32, 102, 52, 32, 97], [111, 102, 102, 32, 102, 48, 53], [107, 110, 105, 116, 32, 43, 32, 102, 53, 32, 97, 98, 99, 100, 101]]
theorem spoilt_at (n : Nat) (s : List Nat) (z : Int) (hz : 0 ≤ z) (hl : s.length ≤ 900) : ∃ s', (s'.length ≤ s.length + 18 ∧ ((∀ c ∈ s, c < 1114112) → ∀ c ∈ s', c < 1114112)) ∧ ∃ o, callN tb pt (n + 1) "_law_spoilt" [.d (.str s), .d (.int z)] = .ok (.d (.str s')) o := by
  have key : SPo s (Kn.exec tb (callN tb pt n) [] fd__law_spoilt.body ([SV.d (.str s), .d (.int z)].map some ++ List.replicate (fd__law_spoilt.n - fd__law_spoilt.np) none)) := by
    generalize callN tb pt n = F
    have hlim : s.length ≤ lim := Nat.le_trans hl lim900
    have hp : (0 : Int) < (s.length : Int) + 1 := by omega
    obtain ⟨j, hj, hjl⟩ : ∃ j : Nat, z / 4 % ((s.length : Int) + 1) = j ∧ j ≤ s.length := by
      have h1 : 0 ≤ z / 4 % ((s.length : Int) + 1) := Int.emod_nonneg _ (by omega)
      have h2 : z / 4 % ((s.length : Int) + 1) < (s.length : Int) + 1 := Int.emod_lt_of_pos _ hp
      exact ⟨(z / 4 % ((s.length : Int) + 1)).toNat, by omega, by omega⟩
    obtain ⟨c, hc, ec⟩ : ∃ c, c < 1114112 ∧ idxD (.str [43, 43, 45, 45, 32, 102, 98, 48, 57, 97, 90, 10, 46]) (.int (z / 8000 % 13)) = some (.str [c]) := by
      have h1 : 0 ≤ z / 8000 % 13 := Int.emod_nonneg _ (by decide)
      have h2 : z / 8000 % 13 < 13 := Int.emod_lt_of_pos _ (by decide)
      obtain ⟨i, hi⟩ : ∃ i : Nat, z / 8000 % 13 = i := ⟨(z / 8000 % 13).toNat, by omega⟩
      rw [hi]
      have hi2 : i < ([43, 43, 45, 45, 32, 102, 98, 48, 57, 97, 90, 10, 46] : List Nat).length := by show i < 13; omega
      have key : ∀ c ∈ ([43, 43, 45, 45, 32, 102, 98, 48, 57, 97, 90, 10, 46] : List Nat), c < 1114112 := by decide
      refine ⟨([43, 43, 45, 45, 32, 102, 98, 48, 57, 97, 90, 10, 46] : List Nat)[i], key _ (List.getElem_mem hi2), ?_⟩
      have e : idxD (.str [43, 43, 45, 45, 32, 102, 98, 48, 57, 97, 90, 10, 46]) (.int (i : Int)) = (if ([43, 43, 45, 45, 32, 102, 98, 48, 57, 97, 90, 10, 46] : List Nat).length ≤ lim then (atI ([43, 43, 45, 45, 32, 102, 98, 48, 57, 97, 90, 10, 46] : List Nat) (i : Int)).map fun c => D.str [c] else none) := rfl
      rw [e, if_pos (Nat.le_of_ble_eq_true rfl), atI_nat (List.getElem?_eq_getElem hi2)]
      rfl
    have e2 : binD .mod (.int (z / 4)) (.int ((s.length : Int) + 1)) = some (.d (.int (j : Int))) := by rw [← hj]; exact bM _ _ hp
    refine st_nx (ρ1 := [some (.d (.str s)), some (.d (.int z)), some (.d (.int (j : Int))), none, none]) (set_to (bin_ev (bin_ev (var_ev rfl) int_ev (bF _ _ (by decide) (by decide))) (bin_ev (len_ev (var_ev rfl) hlim) int_ev (bA _ _)) e2) rfl rfl) ?_
    refine st_nx (ρ1 := [some (.d (.str s)), some (.d (.int z)), some (.d (.int (j : Int))), some (.d (.str [c])), none]) (set_to (idx_ev str_ev (bin_ev (bin_ev (var_ev rfl) int_ev (bF _ _ (by decide) (by decide))) int_ev (bM _ _ (by decide))) ec) rfl rfl) ?_
    have hi : ∀ ρ : Env, ρ[0]? = some (some (.d (.str s))) → ρ[2]? = some (some (.d (.int (j : Int)))) → ev tb F (.slc (.var 0) .emp (.var 2)) ρ = .ok (.d (.str (s.take j))) ρ := fun ρ h0 h2 => slc_hi rfl (var_ev h0) (var_ev h2) rfl (by
      show (if s.length ≤ lim then some (SV.d (.str (cutL s none (some (j : Int))))) else none) = _
      rw [if_pos hlim, cut_hi])
    have lo : ∀ (ρ : Env) (e : E) (m : Nat), ρ[0]? = some (some (.d (.str s))) → isEmp e = false → ev tb F e ρ = .ok (.d (.int (m : Int))) ρ → ev tb F (.slc (.var 0) e .emp) ρ = .ok (.d (.str (s.drop m))) ρ := fun ρ e m h0 he h2 => slc_lo he (var_ev h0) h2 rfl (by
      show (if s.length ≤ lim then some (SV.d (.str (cutL s (some (m : Int)) none))) else none) = _
      rw [if_pos hlim, cut_lo])
    have t1 : (s.take j).length ≤ 900 := by rw [List.length_take]; omega
    have t2 : ∀ m, (s.drop m).length ≤ 900 := fun m => by rw [List.length_drop]; omega
    have lj : (s.take j).length = j := by rw [List.length_take]; omega
    have mt : ∀ x ∈ s.take j, x ∈ s := fun x h => List.mem_of_mem_take h
    have md : ∀ m, ∀ x ∈ s.drop m, x ∈ s := fun m x h => List.mem_of_mem_drop h
    have z4 : ∀ k : Int, ev tb F (.cmp .eq (.bin .mod (.var 1) (.int 4)) (.int k)) [some (.d (.str s)), some (.d (.int z)), some (.d (.int (j : Int))), some (.d (.str [c])), none] = .ok (.d (.bl (decide (z % 4 = k)))) [some (.d (.str s)), some (.d (.int z)), some (.d (.int (j : Int))), some (.d (.str [c])), none] := fun k =>
      eq_ev (bin_ev (var_ev rfl) int_ev (bM _ _ (by decide))) int_ev (eqI _ _)
    by_cases h0 : z % 4 = 0
    · have z0 := z4 0
      rw [decide_eq_true h0] at z0
      refine st_rt (ite_t z0 (ret_blk (bin_ev (bin_ev (hi _ rfl rfl) (var_ev rfl) (bP _ _ (by omega) (by simp))) (lo _ _ j rfl rfl (var_ev rfl)) (bP _ _ (by rw [List.length_append, List.length_singleton]; omega) (Nat.le_trans (t2 j) (by decide)))))) ⟨_, ⟨?_, fun ho x hx => ?_⟩, _, rfl⟩
      · simp only [List.length_append, List.length_singleton, List.length_drop]
        omega
      · rcases List.mem_append.mp hx with hx | hx
        · rcases List.mem_append.mp hx with hx | hx
          · exact ho x (mt x hx)
          · rw [List.mem_singleton.mp hx]; exact hc
        · exact ho x (md j x hx)
    have z0 := z4 0
    rw [decide_eq_false h0] at z0
    refine st_nx (ite_f z0 nil_blk) ?_
    by_cases h1 : z % 4 = 1
    · have z1 := z4 1
      rw [decide_eq_true h1] at z1
      refine st_rt (ite_t z1 (ret_blk (bin_ev (bin_ev (hi _ rfl rfl) (var_ev rfl) (bP _ _ (by omega) (by simp))) (lo _ _ (j + 1) rfl rfl (bin_ev (var_ev rfl) int_ev (bA _ _))) (bP _ _ (by rw [List.length_append, List.length_singleton]; omega) (Nat.le_trans (t2 (j + 1)) (by decide)))))) ⟨_, ⟨?_, fun ho x hx => ?_⟩, _, rfl⟩
      · simp only [List.length_append, List.length_singleton, List.length_drop]
        omega
      · rcases List.mem_append.mp hx with hx | hx
        · rcases List.mem_append.mp hx with hx | hx
          · exact ho x (mt x hx)
          · rw [List.mem_singleton.mp hx]; exact hc
        · exact ho x (md (j + 1) x hx)
    have z1 := z4 1
    rw [decide_eq_false h1] at z1
    refine st_nx (ite_f z1 nil_blk) ?_
    by_cases h2 : z % 4 = 2
    · have z2 := z4 2
      rw [decide_eq_true h2] at z2
      refine st_rt (ite_t z2 (ret_blk (bin_ev (hi _ rfl rfl) (lo _ _ (j + 1) rfl rfl (bin_ev (var_ev rfl) int_ev (bA _ _))) (bP _ _ (by omega) (Nat.le_trans (t2 (j + 1)) (by decide)))))) ⟨_, ⟨?_, fun ho x hx => ?_⟩, _, rfl⟩
      · simp only [List.length_append, List.length_drop]
        omega
      · rcases List.mem_append.mp hx with hx | hx
        · exact ho x (mt x hx)
        · exact ho x (md (j + 1) x hx)
    have z2 := z4 2
    rw [decide_eq_false h2] at z2
    refine st_nx (ite_f z2 nil_blk) ?_
    refine st_nx (set_to (const_ev rfl) rfl rfl) ?_
    refine st_nx (ρ1 := [some (.d (.str s)), some (.d (.int z)), some (.d (.int (j : Int))), some (.d (.str [c])), some (.lst (((spL.take 15).map D.str).map .d))]) (set_to (bin_ev (varS_ev rfl) (const_ev rfl) (bL ((spL.take 9).map D.str) (((spL.take 15).drop 9).map D.str) (Nat.le_of_ble_eq_true rfl))) rfl rfl) ?_
    obtain ⟨d, hd, ed⟩ := pickv (spL.map D.str) 20 (z / 4) rfl (by decide)
    obtain ⟨w, hw, rfl⟩ := List.mem_map.mp hd
    have kw : ∀ w ∈ spL, w.length ≤ 18 ∧ ∀ c ∈ w, c < 1114112 := by decide
    obtain ⟨w1, w2⟩ := kw w hw
    refine ⟨s ++ w, ⟨?_, fun ho x hx => ?_⟩, _, ret_blk (bin_ev (var_ev rfl) (idx_ev (x := .lst ((spL.map D.str).map .d)) (bin_ev (varS_ev rfl) (const_ev rfl) (bL ((spL.take 15).map D.str) ((spL.drop 15).map D.str) (Nat.le_of_ble_eq_true rfl))) (bin_ev (bin_ev (var_ev rfl) int_ev (bF z 4 (by decide) (by decide))) int_ev (bM (z / 4) 20 (by decide))) ?_) (bP s w (by omega) (by omega)))⟩
    · rw [List.length_append]
      omega
    · rcases List.mem_append.mp hx with hx | hx
      · exact ho x hx
      · exact w2 x hx
    · show idxD (.lst (frzs ((spL.map D.str).map .d))) _ = _
      rw [frzs_dd]
      exact ed
  obtain ⟨s', h1, ρ', h3⟩ := key
  exact ⟨s', h1, run_rt n pt__law_spoilt ⟨rfl, by decide, rfl, rfl⟩ h3⟩
end Kn

set_option Elab.async false
set_option linter.all false
set_option maxRecDepth 100000
set_option maxHeartbeats 4000000
/-! LX03: the law k03. -/
namespace Kn
open PySem L2
section
variable {t : T} {F : String → List SV → Cr} {ρ ρ1 : Env}
theorem set_exc {ro : List Nat} {i : Nat} {e : E} {r : S} {x : Xc} (h : ev t F e ρ = .exc x ρ1) : Kn.exec t F ro (.cons (.set i e) r) ρ = .exc x ρ1 := by
  have e0 : Kn.exec t F ro (.set i e) ρ = thenF (ev t F e ρ) fun v ρ => if ro.contains i then .no else .nx (ρ.set i (some v)) := by first | (simp only [Kn.exec]; done) | (simp only [Kn.exec]; rfl)
  exact st_to (by rw [e0, h]; rfl) rfl
theorem tyn_ev {n : String} : ev t F (.tyn n) ρ = .ok (.d (.ty n)) ρ := by simp only [ev]
end
/-! ### a row of the other text -/
def rowB : S := bodyS (nthS fd_law.body 6)
abbrev rwE (A : Option SV) (L : List D) (U : Option SV) (ts : List Td) (tx : List Nat) (k : Option SV) (rs : List (List Nat)) (a b c : Option SV) : Env :=
  [A, some (.d (.lst L)), U, k, some (.d (.lst (ts.map fun x => x.1))), none, some (.d (.str tx)), none, some (.lst (rs.map fun r => .d (.str r))), a, b, c, none, none, none, none, none, none, none]
def okc (rs : List (List Nat)) : Prop := ∀ r ∈ rs, ∀ c ∈ r, c < 1114112
def RWG (A : Option SV) (L : List D) (U : Option SV) (ts : List Td) (tx : List Nat) (k : Option SV) (rs : List (List Nat)) (x : Fl) : Prop :=
  ∃ rs' a b c, (rs'.length + ssum rs' ≤ rs.length + ssum rs + 29 ∧ (okc rs → okc rs')) ∧ x = .nx (rwE A L U ts tx k rs' a b c)
theorem ssum_app : ∀ (a b : List (List Nat)), ssum (a ++ b) = ssum a + ssum b
  | [], b => by simp [ssum]
  | x :: a, b => by simp only [List.cons_append, ssum, ssum_app a b]; omega
theorem sp_ok (n : Nat) : ∀ c ∈ reps n [32], c < 1114112 := fun c h => by
  rw [mul_mem h]
  decide
theorem row_turn {F : String → List SV → Cr} (A : Option SV) (L : List D) (U : Option SV) (ts : List Td) (tx : List Nat) (rs : List (List Nat)) (k : Nat) (a b c : Option SV) (x : Td) (dk : Int)
    (hL : idxD (.lst L) (.int (16 + (k : Int))) = some (.int dk)) (hx : idxD (.lst (ts.map fun x => x.1)) (.int (k : Int)) = some x.1) (ht : ∃ o, F "_law_text" [.d x.1] = .ok (.d (.str (txOf x))) o) (hrs : rs.length ≤ 900) :
    RWG A L U ts tx (some (.d (.int (k : Int)))) rs (Kn.exec tb F [] rowB (rwE A L U ts tx (some (.d (.int (k : Int)))) rs a b c)) := by
  obtain ⟨o, ht⟩ := ht
  obtain ⟨r1, r2, r3⟩ := (txOf_ok x).1
  have ix : ∀ (rs : List (List Nat)) (a b c : Option SV), ev tb F (.idx (.var 1) (.bin .add (.int 16) (.var 3))) (rwE A L U ts tx (some (.d (.int (k : Int)))) rs a b c) = .ok (.d (.int dk)) (rwE A L U ts tx (some (.d (.int (k : Int)))) rs a b c) := fun rs a b c =>
    idx_ev (var_ev rfl) (bin_ev int_ev (var_ev rfl) (bA _ _)) hL
  have m0 : ∀ (y m : Int), 0 < m → 0 ≤ y % m ∧ y % m < m := fun y m h => ⟨Int.emod_nonneg _ (by omega), Int.emod_lt_of_pos _ h⟩
  have g1 := m0 dk 3 (by decide)
  have g2 := m0 (dk / 3) 3 (by decide)
  have g3 := m0 (dk / 9) 2 (by decide)
  have g4 := m0 (dk / 72) 3 (by decide)
  obtain ⟨p1, hp1⟩ : ∃ p, p = dk % 3 := ⟨_, rfl⟩
  obtain ⟨p2, hp2⟩ : ∃ p, p = dk / 3 % 3 := ⟨_, rfl⟩
  obtain ⟨p3, hp3⟩ : ∃ p, p = dk / 9 % 2 := ⟨_, rfl⟩
  obtain ⟨p4, hp4⟩ : ∃ p, p = dk / 72 % 3 := ⟨_, rfl⟩
  have b1 : binD .mod (.int dk) (.int 3) = some (.d (.int p1)) := by rw [hp1]; exact bM _ _ (by decide)
  have b2 : binD .mod (.int (dk / 3)) (.int 3) = some (.d (.int p2)) := by rw [hp2]; exact bM _ _ (by decide)
  have b3 : binD .mod (.int (dk / 9)) (.int 2) = some (.d (.int p3)) := by rw [hp3]; exact bM _ _ (by decide)
  have b4 : binD .mod (.int (dk / 72)) (.int 3) = some (.d (.int p4)) := by rw [hp4]; exact bM _ _ (by decide)
  rw [← hp1] at g1
  rw [← hp2] at g2
  rw [← hp3] at g3
  rw [← hp4] at g4
  obtain ⟨gap, hgap⟩ : ∃ g, g = reps (1 + p1).toNat [32] := ⟨_, rfl⟩
  have gl : gap.length ≤ 3 := by rw [hgap, reps_len]; omega
  have bg : binD .mul (.str [32]) (.int (1 + p1)) = some (.d (.str gap)) := by rw [hgap]; exact bR _ _ (by omega) (by omega)
  obtain ⟨ws, hws⟩ : ∃ ws, ws = TL.spl [32] 0 [] (txOf x) := ⟨_, rfl⟩
  obtain ⟨s1, s2⟩ := spl_sum 32 (txOf x) []
  rw [← hws] at s1 s2
  rw [List.length_nil] at s1
  have hsp := split_ev (t := tb) (F := F) (ρ := rwE A L U ts tx (some (.d (.int (k : Int)))) rs (some (.d (.str gap))) b c) (a := .call "_law_text" (.cons (.idx (.var 4) (.var 3)) .nil)) (s := txOf x) (c := 32) (call_ev (o := o) rfl (evs_cons (idx_ev (var_ev rfl) (var_ev rfl) hx) evs_nil) ht) (Nat.le_trans (show _ ≤ 900 by omega) lim900) (by decide)
  rw [← hws] at hsp
  have hv := varF_ev (t := tb) (F := F) (ρ := rwE A L U ts tx (some (.d (.int (k : Int)))) rs (some (.d (.str gap))) (some (.lst (ws.map fun z => .d (.str z)))) c) (i := 10) (xs := ws.map fun z => .d (.str z)) rfl
  rw [frzs_map] at hv
  have jl := j_len gap ws
  have wl : ws.length - 1 ≤ 3 := by omega
  have gw : gap.length * (ws.length - 1) ≤ 3 * (ws.length - 1) := Nat.mul_le_mul_right _ gl
  have jl2 : (TL.joinL gap ws).length ≤ 22 := by omega
  have gw2 : gap.length * ws.length ≤ 3 * ws.length := Nat.mul_le_mul_right _ gl
  have hj : bmD .join (.str gap) [.lst (ws.map .str)] = some (.d (.str (TL.joinL gap ws))) := by
    have := join_txt gap ws (fun z => z) (by rw [List.map_id']; exact Nat.le_trans (show _ ≤ 900 by omega) lim900)
    rw [List.map_id'] at this
    exact this
  have jc : ∀ c ∈ TL.joinL gap ws, c < 1114112 := fun c hc => by
    have : (TL.joinL gap ws).all (fun c => decide (c < 1114112)) = true := j_all (by rw [hgap]; exact al (sp_ok _)) (by
      rw [List.all_eq_true]
      intro w hw
      refine al fun d hd => ?_
      rw [hws] at hw
      rcases (spl_mem 32 (txOf x) [] w hw).2 d hd with h | h
      · cases h
      · exact r3 d h)
    exact of_decide_eq_true (List.all_eq_true.mp this c hc)
  obtain ⟨ind, hind⟩ : ∃ g, g = reps p2.toNat [32] := ⟨_, rfl⟩
  have il : ind.length ≤ 2 := by rw [hind, reps_len]; omega
  have bi : binD .mul (.str [32]) (.int p2) = some (.d (.str ind)) := by rw [hind]; exact bR _ _ (by omega) (by omega)
  obtain ⟨tl, htl⟩ : ∃ g, g = reps p3.toNat [32] := ⟨_, rfl⟩
  have tl1 : tl.length ≤ 1 := by rw [htl, reps_len]; omega
  have bt : binD .mul (.str [32]) (.int p3) = some (.d (.str tl)) := by rw [htl]; exact bR _ _ (by omega) (by omega)
  obtain ⟨bl, hbl⟩ : ∃ g, g = reps p4.toNat [32] := ⟨_, rfl⟩
  have bl1 : bl.length ≤ 2 := by rw [hbl, reps_len]; omega
  have bb : binD .mul (.str [32]) (.int p4) = some (.d (.str bl)) := by rw [hbl]; exact bR _ _ (by omega) (by omega)
  have hm : ∀ (rs : List (List Nat)) (r : List Nat), (rs.map fun r => SV.d (.str r)) ++ [.d (.str r)] = (rs ++ [r]).map fun r => SV.d (.str r) := fun rs r => by rw [List.map_append]; rfl
  have ll : ∀ rs : List (List Nat), rs.length ≤ 901 → (rs.map fun r => SV.d (.str r)).length < lim := fun rs h => by rw [List.length_map]; exact Nat.lt_of_le_of_lt h (by decide)
  -- the statements
  refine st_nx (G := RWG A L U ts tx _ rs) (ρ1 := rwE A L U ts tx (some (.d (.int (k : Int)))) rs (some (.d (.str gap))) b c) (set_to (bin_ev str_ev (bin_ev int_ev (bin_ev (ix rs a b c) int_ev b1) (bA _ _)) bg) rfl rfl) ?_
  refine st_nx (G := RWG A L U ts tx _ rs) (ρ1 := rwE A L U ts tx (some (.d (.int (k : Int)))) rs (some (.d (.str gap))) (some (.lst (ws.map fun z => .d (.str z)))) c) (set_to hsp rfl rfl) ?_
  refine st_nx (G := RWG A L U ts tx _ rs) (ρ1 := rwE A L U ts tx (some (.d (.int (k : Int)))) rs (some (.d (.str gap))) (some (.d (.lst (ws.map .str)))) (some (.d (.str (ind ++ TL.joinL gap ws))))) (set_to (bin_ev (bin_ev str_ev (bin_ev (bin_ev (ix _ _ _ _) int_ev (bF dk 3 (by decide) (by decide))) int_ev b2) bi) (bm_ev (var_ev rfl) rfl (evs_cons hv evs_nil) hj) (bP ind (TL.joinL gap ws) (by omega) (by omega))) rfl rfl) ?_
  refine st_nx (G := RWG A L U ts tx _ rs) (ρ1 := rwE A L U ts tx (some (.d (.int (k : Int)))) (rs ++ [(ind ++ TL.joinL gap ws) ++ tl]) (some (.d (.str gap))) (some (.d (.lst (ws.map .str)))) (some (.d (.str (ind ++ TL.joinL gap ws))))) ((app_ok (v := .d (.str ((ind ++ TL.joinL gap ws) ++ tl))) (xs0 := rs.map fun r => .d (.str r)) rfl (bin_ev (var_ev rfl) (bin_ev str_ev (bin_ev (bin_ev (ix _ _ _ _) int_ev (bF dk 9 (by decide) (by decide))) int_ev b3) bt) (bP (ind ++ TL.joinL gap ws) tl (by rw [List.length_append]; omega) (by omega))) rfl (ll rs (by omega))).trans ?_) ?_
  · rw [hm]
    rfl
  have hr : ((ind ++ TL.joinL gap ws) ++ tl).length ≤ 25 := by simp only [List.length_append]; omega
  have hrc : ∀ c ∈ (ind ++ TL.joinL gap ws) ++ tl, c < 1114112 := fun c hc => by
    rcases List.mem_append.mp hc with hc | hc
    · rcases List.mem_append.mp hc with hc | hc
      · rw [hind] at hc; exact sp_ok _ c hc
      · exact jc c hc
    · rw [htl] at hc; exact sp_ok _ c hc
  have ok1 : okc rs → okc (rs ++ [(ind ++ TL.joinL gap ws) ++ tl]) := fun h r hr => by
    rcases List.mem_append.mp hr with hr | hr
    · exact h r hr
    · rw [List.mem_singleton.mp hr]; exact hrc
  generalize (ind ++ TL.joinL gap ws) ++ tl = nr at hr ok1 ⊢
  have hc := eq_ev (t := tb) (F := F) (bin_ev (bin_ev (ix (rs ++ [nr]) (some (.d (.str gap))) (some (.d (.lst (ws.map .str)))) (some (.d (.str (ind ++ TL.joinL gap ws))))) int_ev (bF dk 18 (by decide) (by decide))) int_ev (bM (dk / 18) 4 (by decide))) int_ev (eqI (dk / 18 % 4) 1)
  by_cases hq : dk / 18 % 4 = 1
  · rw [decide_eq_true hq] at hc
    refine ⟨(rs ++ [nr]) ++ [bl], some (.d (.str gap)), some (.d (.lst (ws.map .str))), some (.d (.str (ind ++ TL.joinL gap ws))), ⟨?_, fun h r hr => ?_⟩, one_nx (ite_t hc (one_nx ((app_ok (v := .d (.str bl)) (xs0 := (rs ++ [nr]).map fun r => .d (.str r)) rfl (bin_ev str_ev (bin_ev (bin_ev (ix _ _ _ _) int_ev (bF dk 72 (by decide) (by decide))) int_ev b4) bb) rfl (ll _ (by rw [List.length_append, List.length_singleton]; omega))).trans ?_)))⟩
    · simp only [List.length_append, ssum_app, ssum, List.length_singleton]
      omega
    · rcases List.mem_append.mp hr with hr | hr
      · exact ok1 h r hr
      · rw [List.mem_singleton.mp hr, hbl]; exact sp_ok _
    · rw [hm]
      rfl
  · rw [decide_eq_false hq] at hc
    refine ⟨rs ++ [nr], _, _, _, ⟨?_, ok1⟩, one_nx (ite_f hc nil_blk)⟩
    simp only [List.length_append, ssum_app, ssum, List.length_singleton]
    omega
/-! ### a text read -/
def tuB : S := bodyS (nthS fd_law.body 9)
abbrev tuE (x0 x1 x2 x3 x4 x5 x6 x7 x8 x9 x10 x11 x12 t a b c d : Option SV) : Env := [x0, x1, x2, x3, x4, x5, x6, x7, x8, x9, x10, x11, x12, t, a, b, c, d, none]
theorem tls_pairs : ∀ {l : List (List D)} {ms : List M3}, Tls l ms → ∃ ps : List (List D × M3), l = ps.map (·.1) ∧ ms = ps.map (·.2) ∧ ∀ p ∈ ps, MadeOf (.tup p.1) p.2.1 p.2.2.1 p.2.2.2
  | [], _, h => by
    cases h
    exact ⟨[], rfl, rfl, fun p hp => (nomatch hp)⟩
  | xs :: l, _, h => by
    cases h with
    | @cons _ m _ ms h t =>
      obtain ⟨ps, e1, e2, hp⟩ := tls_pairs t
      refine ⟨(xs, m) :: ps, by rw [e1]; rfl, by rw [e2]; rfl, fun p hp' => ?_⟩
      rcases List.mem_cons.mp hp' with rfl | hp'
      · exact h
      · exact hp p hp'
/-- what read_deeds does of a text -/
def RedP (F : String → List SV → Cr) (t : List Nat) : Due → Prop
  | .at_ j => F "read_deeds" [.d (.str t)] = .exc (noTx j)
  | .all l => l.length ≤ 1000 ∧ ∃ ms, Tls l ms ∧ ∃ o, F "read_deeds" [.d (.str t)] = .ok (.lst (ms.map fun m => .d (insD m))) o
theorem read_turn {F : String → List SV → Cr} (x0 x1 x2 x3 x4 x5 x6 x7 x8 x9 x10 x11 x12 a b c d : Option SV) (t : List Nat) (q : Due) (hdue : ∃ o, F "_law_due" [.d (.str t)] = .ok (.d (dueD q)) o)
    (hred : RedP F t q)
    (hcls : ∀ j : Nat, F "_law_class" [.d (.exc "NoText" ["line", "number"] [.int (j : Int), .int (-1)])] = .ok (.d (.str [78, 111, 84, 101, 120, 116])) [none])
    (htold : ∀ c ns ys xs, MadeOf (.tup xs) c ns ys → tb.meth c "told" = some "Deed.told" ∧ "told" ∉ ns ∧ F "Deed.told" [.d (.ins c ns ys)] = .ok (.d (.tup xs)) [none]) :
    ∃ a' b' c' d', Kn.exec tb F [] tuB (tuE x0 x1 x2 x3 x4 x5 x6 x7 x8 x9 x10 x11 x12 (some (.d (.str t))) a b c d) = .nx (tuE x0 x1 x2 x3 x4 x5 x6 x7 x8 x9 x10 x11 x12 (some (.d (.str t))) a' b' c' d') := by
  obtain ⟨o, hdue⟩ := hdue
  have h1 : Kn.exec tb F [] (.set 14 (.call "_law_due" (.cons (.var 13) .nil))) (tuE x0 x1 x2 x3 x4 x5 x6 x7 x8 x9 x10 x11 x12 (some (.d (.str t))) a b c d) = .nx (tuE x0 x1 x2 x3 x4 x5 x6 x7 x8 x9 x10 x11 x12 (some (.d (.str t))) (some (.d (dueD q))) b c d) := set_to (call_ev (o := o) rfl (evs_cons (var_ev rfl) evs_nil) hdue) rfl rfl
  have h2 : Kn.exec tb F [] (.set 15 .non) (tuE x0 x1 x2 x3 x4 x5 x6 x7 x8 x9 x10 x11 x12 (some (.d (.str t))) (some (.d (dueD q))) b c d) = .nx (tuE x0 x1 x2 x3 x4 x5 x6 x7 x8 x9 x10 x11 x12 (some (.d (.str t))) (some (.d (dueD q))) (some (.d .non)) c d) := set_to (v := .d .non) (const_ev rfl) rfl rfl
  have h3 : Kn.exec tb F [] (.set 16 (.lst .nil)) (tuE x0 x1 x2 x3 x4 x5 x6 x7 x8 x9 x10 x11 x12 (some (.d (.str t))) (some (.d (dueD q))) (some (.d .non)) c d) = .nx (tuE x0 x1 x2 x3 x4 x5 x6 x7 x8 x9 x10 x11 x12 (some (.d (.str t))) (some (.d (dueD q))) (some (.d .non)) (some (.lst [])) d) := set_to (lst_ev evs_nil (Nat.zero_le _)) rfl rfl
  cases q with
  | at_ j =>
    have hred : F "read_deeds" [.d (.str t)] = .exc (noTx j) := hred
    refine ⟨_, _, _, _, st_nx (G := fun x => x = _) h1 (st_nx (G := fun x => x = _) h2 (st_nx (G := fun x => x = _) h3 (st_nx (G := fun x => x = _) (ρ1 := tuE x0 x1 x2 x3 x4 x5 x6 x7 x8 x9 x10 x11 x12 (some (.d (.str t))) (some (.d (.int (j : Int)))) (some (.d (.exc "NoText" ["line", "number"] [.int (j : Int), .int (-1)]))) (some (.lst [])) none) ((try_exc (x := noTx j) (set_exc (call_exc rfl (evs_cons (var_ev rfl) evs_nil) hred)) rfl rfl rfl).trans rfl) (st_nx (G := fun x => x = _) (ite_t (isnot_ev (r := false) (var_ev rfl) rfl) (one_nx (ite_f (or_ev (p := false) (q := false) (ne_ev (r := true) (call_ev (o := [none]) rfl (evs_cons (var_ev rfl) evs_nil) (hcls j)) str_ev (eqS _)) (fun _ => ne_ev (r := true) (fld_ev (d := .int (j : Int)) (var_ev rfl) rfl) (var_ev rfl) ((eqI _ _).trans (by rw [decide_eq_true rfl])))) nil_blk))) (one_nx (app_ok (xs0 := []) rfl str_ev rfl (Nat.lt_of_lt_of_le (Nat.zero_lt_one) (by decide)))))))) ⟩
  | all l =>
    obtain ⟨hl, ms, htl, o2, hred⟩ := hred
    obtain ⟨ps, e1, e2, hps⟩ := tls_pairs htl
    have hok := tls_ok htl
    subst e1
    subst e2
    rw [List.length_map] at hl
    have hfz : frz (SV.lst ((ps.map (·.2)).map fun m => SV.d (insD m))) = .lst (ps.map fun p => insD p.2) := by
      show D.lst (frzs ((ps.map (·.2)).map fun m => SV.d (insD m))) = _
      rw [frzs_map, List.map_map]
      rfl
    have hcomp := comp_al (t := tb) (F := F) (i := 18) (it := .var 16) (el := .meth "told" (.var 18) .nil) (ρ := tuE x0 x1 x2 x3 x4 x5 x6 x7 x8 x9 x10 x11 x12 (some (.d (.str t))) (some (.d (dueD (.all (ps.map (·.1)))))) (some (.d .non)) (some (.d (.lst (ps.map fun p => insD p.2)))) d)
      (ρ1 := tuE x0 x1 x2 x3 x4 x5 x6 x7 x8 x9 x10 x11 x12 (some (.d (.str t))) (some (.d (dueD (.all (ps.map (·.1)))))) (some (.d .non)) (some (.d (.lst (ps.map fun p => insD p.2)))) d) (l := ps) (a := fun p => insD p.2) (b := fun p => .tup p.1) (Nat.le_of_ble_eq_true rfl) (evi_of (var_ev rfl) rfl) rfl (Nat.le_trans hl (by decide)) fun p hp => by
      obtain ⟨u1, u2, u3⟩ := htold _ _ _ _ (hps p hp)
      exact meth_ev (var_ev rfl) rfl u1 u2 evs_nil u3
    have heq : eqD (frz (SV.lst (ps.map fun p => SV.d (.tup p.1)))) (dueD (.all (ps.map (·.1)))) = some true := by
      show eqD (.lst (frzs (ps.map fun p => SV.d (.tup p.1)))) (.lst ((ps.map (·.1)).map .tup)) = _
      have e : (ps.map fun p : List D × M3 => D.tup p.1) = (ps.map (·.1)).map .tup := by rw [List.map_map]; rfl
      rw [frzs_map, e]
      exact eq_self hok
    have hvar := varS_ev (t := tb) (F := F) (ρ := tuE x0 x1 x2 x3 x4 x5 x6 x7 x8 x9 x10 x11 x12 (some (.d (.str t))) (some (.d (dueD (.all (ps.map (·.1)))))) (some (.d .non)) (some (.lst ((ps.map (·.2)).map fun m => .d (insD m)))) d) (i := 16) (s := .lst ((ps.map (·.2)).map fun m => .d (insD m))) rfl
    rw [hfz] at hvar
    refine ⟨_, _, _, _, st_nx (G := fun x => x = _) h1 (st_nx (G := fun x => x = _) h2 (st_nx (G := fun x => x = _) h3 (st_nx (G := fun x => x = _) (ρ1 := tuE x0 x1 x2 x3 x4 x5 x6 x7 x8 x9 x10 x11 x12 (some (.d (.str t))) (some (.d (dueD (.all (ps.map (·.1)))))) (some (.d .non)) (some (.lst ((ps.map (·.2)).map fun m => .d (insD m)))) d) (try_nx (one_nx (set_to (call_ev (o := o2) rfl (evs_cons (var_ev rfl) evs_nil) hred) rfl rfl)) rfl rfl) (st_nx (G := fun x => x = _) (ite_f (isnot_ev (r := true) (var_ev rfl) rfl) (one_nx (ite_f (bor_ev (x := .bl false) (or_ev (p := false) (q := false) (not_ev (p := true) (blt_ev (evs_cons hvar (evs_cons tyn_ev evs_nil)) rfl)) (fun _ => ne_ev (r := true) hcomp (var_ev rfl) heq)) rfl) nil_blk))) (one_nx (app_ok (xs0 := (ps.map (·.2)).map fun m => .d (insD m)) rfl str_ev rfl ?_))))))⟩
    rw [List.length_map, List.length_map]
    exact Nat.lt_of_le_of_lt hl (by decide)
end Kn

set_option Elab.async false
set_option linter.all false
set_option maxRecDepth 100000
set_option maxHeartbeats 4000000
/-! LZ03: the law k03, put together. -/
namespace Kn
open PySem L2
theorem dueF_len : ∀ (rows : List (List Nat)) (k : Nat), match dueF k rows with
    | .at_ _ => True
    | .all l => l.length ≤ rows.length
  | [], _ => Nat.le_refl _
  | row :: rows, k => by
    have ih := dueF_len rows (k + 1)
    unfold dueF
    cases wordsOf row with
    | nil =>
      dsimp only
      cases hd : dueF (k + 1) rows with
      | at_ j => trivial
      | all l => rw [hd] at ih; exact Nat.le_succ_of_le ih
    | cons w r =>
      dsimp only
      cases rowW w r with
      | none => trivial
      | some xs =>
        dsimp only
        cases hd : dueF (k + 1) rows with
        | at_ j => trivial
        | all l => rw [hd] at ih; exact Nat.succ_le_succ ih
/-- what the program reads of any text -/
theorem red_of (n : Nat) (t : List Nat) (ht : okX t) : RedP (callN tb pt (n + 5)) t (dueF 0 (rowsOf t)) := by
  have h1 := due_red (rowsOf t) 0
  have h2 := read_deeds_at n t ht
  have h3 := dueF_len (rowsOf t) 0
  have h4 := (rows_ok ht).1
  cases hd : dueF 0 (rowsOf t) with
  | at_ j =>
    rw [hd] at h1
    have h1 : redF 0 (rowsOf t) = .at_ j := h1
    rw [h1] at h2
    exact h2
  | all l =>
    rw [hd] at h1 h3
    obtain ⟨ms, e, htl⟩ := h1
    rw [e] at h2
    have h3 : l.length ≤ (rowsOf t).length := h3
    exact ⟨by omega, ms, htl, h2⟩
theorem slc_lh {t : T} {F : String → List SV → Cr} {ρ ρ1 ρ2 ρ3 : Env} {a lo hi : E} {x l h : SV} {i j : Int} {v : SV} (n1 : isEmp lo = false) (n2 : isEmp hi = false) (ha : ev t F a ρ = .ok x ρ1) (hl : ev t F lo ρ1 = .ok l ρ2) (hi1 : frz l = .int i) (hh : ev t F hi ρ2 = .ok h ρ3) (hj : frz h = .int j) (h2 : slcD (frz x) (some i) (some j) = some v) : ev t F (.slc a lo hi) ρ = .ok v ρ3 := by
  have e0 : ev t F (.slc a lo hi) ρ = (ev t F a ρ).bind fun x ρ => (ev t F lo ρ).bind fun l ρ => (match frz l with
      | .int i => (ev t F hi ρ).bind fun h ρ => (match frz h with
        | .int j => R.of (slcD (frz x) (some i) (some j)) ρ
        | _ => .no)
      | _ => .no) := by cases lo <;> first | (cases n1; done) | (cases hi <;> first | (cases n2; done) | (simp only [ev]; done) | (simp only [ev]; rfl))
  rw [e0, ha, bind_ok, hl, bind_ok, hi1]
  show ((ev t F hi ρ2).bind fun h ρ => (match frz h with
        | .int j => R.of (slcD (frz x) (some i) (some j)) ρ
        | _ => .no)) = _
  rw [hh, bind_ok, hj]
  show R.of (slcD (frz x) (some i) (some j)) ρ3 = _
  rw [h2]
  rfl
theorem cut_len {α : Type} (xs : List α) (j : Nat) : (cutL xs (some 2) (some (((2 + j : Nat)) : Int))).length ≤ j := by
  unfold cutL
  rw [List.length_take]
  have h1 : HT.sIx xs.length 0 (some 2) = min 2 xs.length := by unfold HT.sIx; simp
  have h2 : HT.sIx xs.length xs.length (some ((2 + j : Nat) : Int)) = min (2 + j) xs.length := by
    unfold HT.sIx
    simp
    rw [if_neg (by omega)]
    omega
  rw [h1, h2]
  omega
abbrev lwE (A : Option SV) (L : List D) (U k x4 x6 x8 g w r x12 : Option SV) : Env := [A, some (.d (.lst L)), U, k, x4, none, x6, none, x8, g, w, r, x12, none, none, none, none, none, none]
theorem join_text (ts : List Td) (h : ts.length ≤ 12) : bmD .join (.str []) [.lst (frzs (ts.map fun x => SV.d (.str (txOf x ++ [10]))))] = some (.d (.str (textO ts))) := by
  have hs := ssum_le (fun x => txOf x ++ [10]) 17 ts fun x _ => txt_len x
  have h2 : 17 * ts.length ≤ 17 * 12 := Nat.mul_le_mul_left _ h
  rw [frzs_map]
  exact join_txt [] ts (fun x => txOf x ++ [10]) (by rw [List.length_nil, Nat.zero_mul]; exact Nat.le_trans (show _ ≤ 900 by omega) lim900)
theorem len_lst {xs : List D} {n : Nat} (h : xs.length = n) : bltD tb .len [.lst xs] = some (.d (.int (n : Int))) := by
  subst h
  rfl
theorem law_true : ∀ ns : List Int, ns.length ≤ 63 → ∃ outs, callN tb pt 8 "law" [.d (.arg ns)] = .ok (.d (.bl true)) outs := by
  intro ns hns
  have key : GB (Kn.exec tb (callN tb pt 7) [] fd_law.body ([SV.d (.arg ns)].map some ++ List.replicate (fd_law.n - fd_law.np) none)) := by
    obtain ⟨ds, hl, hp, o, hd⟩ := draws 6 ns 40 (by decide)
    have hix : ∀ i : Nat, i < 40 → ∃ z, 0 ≤ z ∧ idxD (.lst (ds.map .int)) (.int (i : Int)) = some (.int z) := fun i hi => by
      have h2 : i < ds.length := by omega
      refine ⟨ds[i], hp _ (List.getElem_mem h2), ?_⟩
      exact atI_nat (j := i) (by rw [List.getElem?_map, List.getElem?_eq_getElem h2]; rfl)
    obtain ⟨e0, he0, ix0⟩ := hix 0 (by decide)
    obtain ⟨e1, he1, ix1⟩ := hix 1 (by decide)
    obtain ⟨e30, he30, ix30⟩ := hix 30 (by decide)
    obtain ⟨e31, he31, ix31⟩ := hix 31 (by decide)
    obtain ⟨e32, he32, ix32⟩ := hix 32 (by decide)
    obtain ⟨e33, he33, ix33⟩ := hix 33 (by decide)
    obtain ⟨e34, he34, ix34⟩ := hix 34 (by decide)
    obtain ⟨y0, hy0, o0, c0⟩ := yarn_by 6 e0 0 he0 (by decide) (by decide)
    obtain ⟨y1, hy1, o1, c1⟩ := yarn_by 6 e0 1 he0 (by decide) (by decide)
    obtain ⟨y2, hy2, o2, c2⟩ := yarn_by 6 e0 2 he0 (by decide) (by decide)
    have g3 : ∀ d : D, d ∈ ds.map D.int → ∃ i, d = .int i ∧ 0 ≤ i := fun d h => by
      obtain ⟨i, hi, rfl⟩ := List.mem_map.mp h
      exact ⟨i, rfl, hp i hi⟩
    have tk : ∀ dr : Int, 0 ≤ dr → _ := fun dr h => told_ok 6 dr y0 y1 y2 h hy0 hy1 hy2
    have htx : ∀ x : Td, ∃ o, callN tb pt 7 "_law_text" [.d x.1] = .ok (.d (.str (txOf x))) o := fun x => (txOf_ok x).2.1 6
    have hdo : ∀ x : Td, callN tb pt 7 "deed_of" [.d x.1] = .ok (.d (insO x)) [none] := fun x => by
      obtain ⟨_, _, q1, c, nn, ys, q, e, _⟩ := txOf_ok x
      have := deed_of_at 3 x.1 q1
      rw [e] at this
      refine this.trans ?_
      unfold insO
      rw [e]
      rfl
    have hdw := fun (ts : List Td) (h : ts.length ≤ 12) => deeds_written_at 4 ts h
    have hsp := fun (s : List Nat) (z : Int) (hz : 0 ≤ z) (hl : s.length ≤ 900) => spoilt_at 6 s z hz hl
    have hdu := fun (s : List Nat) (hs : okX s) => law_due_at 3 s hs
    have hre := fun (s : List Nat) (hs : okX s) => red_of 2 s hs
    have hcl := fun j : Nat => class_nt 6 j
    have hto : ∀ c ns ys xs, MadeOf (.tup xs) c ns ys → tb.meth c "told" = some "Deed.told" ∧ "told" ∉ ns ∧ callN tb pt 7 "Deed.told" [.d (.ins c ns ys)] = .ok (.d (.tup xs)) [none] := fun c ns ys xs h => told_at 5 h
    have e5 : 3 + 4 = 7 := rfl
    simp only [Nat.reduceAdd] at hd c0 c1 c2 tk hdw hsp hdu hre hcl
    have hLl : (ds.map D.int).length = 40 := by rw [List.length_map, hl]
    generalize hL : ds.map D.int = L at *
    generalize callN tb pt 7 = F at *
    have ix0 : idxD (.lst L) (.int 0) = some (.int e0) := ix0
    have ix1 : idxD (.lst L) (.int 1) = some (.int e1) := ix1
    have ix30 : idxD (.lst L) (.int 30) = some (.int e30) := ix30
    have ix31 : idxD (.lst L) (.int 31) = some (.int e31) := ix31
    have ix32 : idxD (.lst L) (.int 32) = some (.int e32) := ix32
    have ix33 : idxD (.lst L) (.int 33) = some (.int e33) := ix33
    have ix34 : idxD (.lst L) (.int 34) = some (.int e34) := ix34
    obtain ⟨A, hA⟩ : ∃ A, A = some (SV.d (.arg ns)) := ⟨_, rfl⟩
    refine st_nx (ρ1 := lwE A L none none none none none none none none none) (set_to (call_ev rfl (evs_cons (var_ev rfl) (evs_cons int_ev evs_nil)) hd) rfl (by rw [hA]; rfl)) ?_
    refine st_nx (ρ1 := lwE A L (some (.lst [.d (.str y0), .d (.str y1), .d (.str y2)])) none none none none none none none none) ?_ ?_
    · have r3 : rngD 0 3 = [.int 0, .int 1, .int 2] := rfl
      simp only [Kn.exec, ev, evs, thenF, R.bind, R.of, frz, frzs, itemsD, slotsT, freeAt, r3]
      simp [compL, bindT, wipeE, backE, freeAt, ev, evs, thenF, R.bind, R.of, frz, frzs, ofCr, lim, c0, c1, c2, ix0, roOf]
    -- the deeds' tuples
    obtain ⟨j1, hj1, hj2⟩ : ∃ j : Nat, e1 % 13 = j ∧ j ≤ 12 := by
      have h1 : 0 ≤ e1 % 13 := Int.emod_nonneg _ (by decide)
      have h2 : e1 % 13 < 13 := Int.emod_lt_of_pos _ (by decide)
      exact ⟨(e1 % 13).toNat, by omega, by omega⟩
    have bj : binD .mod (.int e1) (.int 13) = some (.d (.int (j1 : Int))) := by rw [← hj1]; exact bM _ _ (by decide)
    have hcl2 := cut_len L j1
    have hmem : ∀ x ∈ cutL L (some 2) (some ((2 + j1 : Nat) : Int)), x ∈ L := fun x h => cut_mem h
    generalize hl2 : cutL L (some 2) (some ((2 + j1 : Nat) : Int)) = l2 at hcl2 hmem
    obtain ⟨vs, B', ha, ⟨u, hu, rfl⟩, ev4⟩ := comp_ex (t := tb) (F := F) (g := .nm 5) (it := .slc (.var 1) (.int 2) (.bin .add (.int 2) (.bin .mod (.idx (.var 1) (.int 1)) (.int 13)))) (el := .call "_law_told" (.cons (.var 5) (.cons (.var 2) .nil)))
      (ρ := lwE A L (some (.lst [.d (.str y0), .d (.str y1), .d (.str y2)])) none none none none none none none none) (ρ1 := lwE A L (some (.lst [.d (.str y0), .d (.str y1), .d (.str y2)])) none none none none none none none none) (l := l2) (a := fun d => d)
      (fun B => ∃ u, (u = some (.lst [.d (.str y0), .d (.str y1), .d (.str y2)]) ∨ u = some (.d (.lst [.str y0, .str y1, .str y2]))) ∧ B = lwE A L u none none none none none none none none) (fun _ v => Told v)
      (evi_of (slc_lh (i := 2) (j := ((2 + j1 : Nat) : Int)) (v := .lst (l2.map .d)) rfl rfl (var_ev rfl) int_ev rfl (bin_ev int_ev (bin_ev (idx_ev (var_ev rfl) int_ev ix1) int_ev bj) (bA _ _)) (by show D.int (2 + (j1 : Int)) = _; congr 1) (by rw [← hl2]; rfl)) (by show some (frzs (l2.map .d)) = _; rw [frzs_dd, List.map_id']))
      rfl (Nat.le_trans (show _ ≤ 900 by omega) lim900) ⟨_, .inl rfl, rfl⟩ (fun x hx B hB => by
        obtain ⟨u, hu, rfl⟩ := hB
        obtain ⟨i, rfl, hi0⟩ := g3 x (hmem x hx)
        obtain ⟨t, ht, o, e⟩ := tk i hi0
        refine ⟨t, _, [A, some (.d (.lst L)), some (.d (.lst [.str y0, .str y1, .str y2])), none, none, some (.d (.int i)), none, none, none, none, none, none, none, none, none, none, none, none, none], ht, rfl, ?_, _, .inr rfl, rfl⟩
        rcases hu with rfl | rfl
        · exact call_ev (o := o) rfl (evs_cons (var_ev rfl) (evs_cons (varS_ev rfl) evs_nil)) e
        · exact call_ev (o := o) rfl (evs_cons (var_ev rfl) (evs_cons (var_ev rfl) evs_nil)) e)
    have hvl := ha.len
    obtain ⟨ts, rfl⟩ := lift_sub (p := Told) vs fun v hv => by
      obtain ⟨_, _, h⟩ := ha.right v hv
      exact h
    have hts : ts.length ≤ 12 := by rw [List.length_map] at hvl; omega
    clear ha hu
    refine st_nx (ρ1 := lwE A L u none (some (.lst ((ts.map fun t => t.1).map .d))) none none none none none none) (set_to ev4 rfl rfl) ?_
    -- their text
    have hv4 := varF_ev (t := tb) (F := F) (ρ := lwE A L u none (some (.lst ((ts.map fun t => t.1).map .d))) none none none none none none) (i := 4) (xs := (ts.map fun t => t.1).map .d) rfl
    rw [frzs_dd] at hv4
    have hc6 := comp_al (t := tb) (F := F) (i := 7) (it := .var 4) (el := .bin .add (.call "_law_text" (.cons (.var 7) .nil)) (.str [10])) (ρ := lwE A L u none (some (.lst ((ts.map fun t => t.1).map .d))) none none none none none none) (ρ1 := lwE A L u none (some (.d (.lst (ts.map fun t => t.1)))) none none none none none none) (l := ts) (a := fun x => x.1) (b := fun x => .str (txOf x ++ [10])) (Nat.le_of_ble_eq_true rfl) (evi_of hv4 rfl) rfl (Nat.le_trans hts (by decide)) fun x hx => by
      obtain ⟨o, e⟩ := htx x
      have l1 := (txOf_ok x).1.1
      exact bin_ev (call_ev (o := o) rfl (evs_cons (var_ev rfl) evs_nil) e) str_ev (bP _ _ (by omega) (by decide))
    refine st_nx (ρ1 := lwE A L u none (some (.d (.lst (ts.map fun t => t.1)))) (some (.d (.str (textO ts)))) none none none none none) (set_to (bm_ev str_ev rfl (evs_cons hc6 evs_nil) (join_text ts hts)) rfl rfl) ?_
    have hcd := comp_al (t := tb) (F := F) (i := 7) (it := .var 4) (el := .call "deed_of" (.cons (.var 7) .nil)) (ρ := lwE A L u none (some (.d (.lst (ts.map fun t => t.1)))) (some (.d (.str (textO ts)))) none none none none none) (ρ1 := lwE A L u none (some (.d (.lst (ts.map fun t => t.1)))) (some (.d (.str (textO ts)))) none none none none none) (l := ts) (a := fun x => x.1) (b := insO) (Nat.le_of_ble_eq_true rfl) (evi_of (var_ev rfl) rfl) rfl (Nat.le_trans hts (by decide)) fun x hx => call_ev (o := [none]) rfl (evs_cons (var_ev rfl) evs_nil) (hdo x)
    obtain ⟨o5, hdw⟩ := hdw ts hts
    refine st_nx (ρ1 := lwE A L u none (some (.d (.lst (ts.map fun t => t.1)))) (some (.d (.str (textO ts)))) none none none none none) (ite_f (ne_ev (r := true) (x := .d (.str (textO ts))) (call_ev (o := o5) rfl (evs_cons hcd evs_nil) (by show F "deeds_written" [.d (.lst (frzs (ts.map fun x => SV.d (insO x))))] = _; rw [frzs_map]; exact hdw)) (var_ev rfl) (eqS _)) nil_blk) ?_
    refine st_nx (ρ1 := lwE A L u none (some (.d (.lst (ts.map fun t => t.1)))) (some (.d (.str (textO ts)))) (some (.lst [])) none none none none) (set_to (lst_ev evs_nil (Nat.zero_le _)) rfl rfl) ?_
    -- the other text
    refine st_for (ds := rngD 0 (ts.length : Int)) (ρ1 := lwE A L u none (some (.d (.lst (ts.map fun t => t.1)))) (some (.d (.str (textO ts)))) (some (.lst [])) none none none none) (fun i ρ => ∃ k rs a b c, ρ = rwE A L u ts (textO ts) k rs a b c ∧ rs.length + ssum rs ≤ 29 * i ∧ okc rs) (rng_evi (blt1_ev (x := .d (.lst (ts.map fun t => t.1))) (v := .d (.int (ts.length : Int))) (var_ev rfl) (len_lst (List.length_map _))) rfl ⟨by omega, by omega⟩) rfl ⟨none, [], none, none, none, rfl, Nat.le_refl _, fun r hr => (nomatch hr)⟩ ?_ ?_
    · rintro d hd i ρ hi ⟨k, rs, a, b, c, rfl, hb, hokc⟩
      rw [rngD_len'] at hi
      obtain ⟨j, hj, rfl⟩ := List.mem_map.mp hd
      have hj : j < ts.length := by have := List.mem_range.mp hj; omega
      obtain ⟨dk, hdk, ixk⟩ := hix (16 + j) (by omega)
      obtain ⟨rs', a', b', c', ⟨q1, q2⟩, e⟩ := row_turn (F := F) A L u ts (textO ts) rs j a b c ts[j] dk (by rw [← ixk]; congr 2) (atI_nat (j := j) (by rw [List.getElem?_map, List.getElem?_eq_getElem hj]; rfl)) (htx _) (by omega)
      refine ⟨_, rfl, ?_⟩
      rw [Int.zero_add]
      exact ⟨_, e, _, rs', a', b', c', rfl, by omega, q2 hokc⟩
    rintro ρ ⟨k, rs, a, b, c, rfl, hb, hokc⟩
    rw [rngD_len'] at hb
    have hb : rs.length + ssum rs ≤ 348 := by omega
    have hv8 := varF_ev (t := tb) (F := F) (ρ := rwE A L u ts (textO ts) k rs a b c) (i := 8) (xs := rs.map fun r => .d (.str r)) rfl
    rw [frzs_map] at hv8
    have hj8 : bmD .join (.str [10]) [.lst (rs.map .str)] = some (.d (.str (TL.joinL [10] rs))) := by
      have := join_txt [10] rs (fun z => z) (by rw [List.map_id', List.length_singleton]; exact Nat.le_trans (show _ ≤ 900 by omega) lim900)
      rw [List.map_id'] at this
      exact this
    have jl := j_len [10] rs
    rw [List.length_singleton] at jl
    obtain ⟨nl, hnl⟩ : ∃ nl, nl = reps (e30 % 2).toNat [10] := ⟨_, rfl⟩
    have m30 : 0 ≤ e30 % 2 ∧ e30 % 2 < 2 := ⟨Int.emod_nonneg _ (by decide), Int.emod_lt_of_pos _ (by decide)⟩
    have nl1 : nl.length ≤ 1 := by rw [hnl, reps_len]; omega
    have bnl : binD .mul (.str [10]) (.int (e30 % 2)) = some (.d (.str nl)) := by rw [hnl]; exact bR _ _ (by omega) (by omega)
    have ook : (TL.joinL [10] rs ++ nl).length ≤ 349 ∧ ∀ c ∈ TL.joinL [10] rs ++ nl, c < 1114112 := by
      refine ⟨by rw [List.length_append]; omega, fun c hc => ?_⟩
      rcases List.mem_append.mp hc with hc | hc
      · have : (TL.joinL [10] rs).all (fun c => decide (c < 1114112)) = true := j_all rfl (by
          rw [List.all_eq_true]
          exact fun r hr => al (hokc r hr))
        exact of_decide_eq_true (List.all_eq_true.mp this c hc)
      · rw [hnl] at hc
        rw [mul_mem hc]
        decide
    refine st_nx (ρ1 := lwE A L u k (some (.d (.lst (ts.map fun t => t.1)))) (some (.d (.str (textO ts)))) (some (.d (.lst (rs.map .str)))) a b c (some (.d (.str (TL.joinL [10] rs ++ nl))))) (set_to (bin_ev (bm_ev str_ev rfl (evs_cons hv8 evs_nil) hj8) (bin_ev str_ev (bin_ev (idx_ev (var_ev rfl) int_ev ix30) int_ev (bM e30 2 (by decide))) bnl) (bP (TL.joinL [10] rs) nl (by omega) (by omega))) rfl rfl) ?_
    generalize TL.joinL [10] rs ++ nl = o1 at ook
    obtain ⟨o2, ok2, e12⟩ : ∃ o2, okX o2 ∧ Kn.exec tb F [] (nthS fd_law.body 8) (lwE A L u k (some (.d (.lst (ts.map fun t => t.1)))) (some (.d (.str (textO ts)))) (some (.d (.lst (rs.map .str)))) a b c (some (.d (.str o1)))) = .nx (lwE A L u k (some (.d (.lst (ts.map fun t => t.1)))) (some (.d (.str (textO ts)))) (some (.d (.lst (rs.map .str)))) a b c (some (.d (.str o2)))) := by
      have ht := eq_ev (t := tb) (F := F) (bin_ev (idx_ev (var_ev (ρ := lwE A L u k (some (.d (.lst (ts.map fun t => t.1)))) (some (.d (.str (textO ts)))) (some (.d (.lst (rs.map .str)))) a b c (some (.d (.str o1)))) (i := 1) rfl) int_ev ix31) int_ev (bM e31 2 (by decide))) int_ev (eqI (e31 % 2) 1)
      by_cases h31 : e31 % 2 = 1
      · rw [decide_eq_true h31] at ht
        obtain ⟨o2, ⟨q1, q2⟩, oo, es⟩ := hsp o1 e32 he32 (by omega)
        have s1 : Kn.exec tb F [] (.set 12 (.call "_law_spoilt" (.cons (.var 12) (.cons (.idx (.var 1) (.int 32)) .nil)))) (lwE A L u k (some (.d (.lst (ts.map fun t => t.1)))) (some (.d (.str (textO ts)))) (some (.d (.lst (rs.map .str)))) a b c (some (.d (.str o1)))) = .nx (lwE A L u k (some (.d (.lst (ts.map fun t => t.1)))) (some (.d (.str (textO ts)))) (some (.d (.lst (rs.map .str)))) a b c (some (.d (.str o2)))) := set_to (call_ev (o := oo) rfl (evs_cons (var_ev rfl) (evs_cons (idx_ev (var_ev rfl) int_ev ix32) evs_nil)) es) rfl rfl
        have ht3 := eq_ev (t := tb) (F := F) (bin_ev (idx_ev (var_ev (ρ := lwE A L u k (some (.d (.lst (ts.map fun t => t.1)))) (some (.d (.str (textO ts)))) (some (.d (.lst (rs.map .str)))) a b c (some (.d (.str o2)))) (i := 1) rfl) int_ev ix33) int_ev (bM e33 3 (by decide))) int_ev (eqI (e33 % 3) 1)
        by_cases h33 : e33 % 3 = 1
        · rw [decide_eq_true h33] at ht3
          obtain ⟨o3, ⟨q3, q4⟩, o4, es2⟩ := hsp o2 e34 he34 (by omega)
          refine ⟨o3, ⟨by omega, q4 (q2 ook.2)⟩, ite_t ht (st_nx (G := fun x => x = _) s1 (one_nx (ite_t ht3 (one_nx (set_to (call_ev (o := o4) rfl (evs_cons (var_ev rfl) (evs_cons (idx_ev (var_ev rfl) int_ev ix34) evs_nil)) es2) rfl rfl)))))⟩
        · rw [decide_eq_false h33] at ht3
          exact ⟨o2, ⟨by omega, q2 ook.2⟩, ite_t ht (st_nx (G := fun x => x = _) s1 (one_nx (ite_f ht3 nil_blk)))⟩
      · rw [decide_eq_false h31] at ht
        exact ⟨o1, ⟨by omega, ook.2⟩, ite_f ht nil_blk⟩
    refine st_nx e12 ?_
    have okt := textO_ok ts hts
    refine st_for (ds := [.str (textO ts), .str o2, .str (textO ts)]) (ρ1 := lwE A L u k (some (.d (.lst (ts.map fun t => t.1)))) (some (.d (.str (textO ts)))) (some (.d (.lst (rs.map .str)))) a b c (some (.d (.str o2)))) (fun i ρ => ∃ t a' b' c' d', ρ = tuE A (some (.d (.lst L))) u k (some (.d (.lst (ts.map fun t => t.1)))) none (some (.d (.str (textO ts)))) none (some (.d (.lst (rs.map .str)))) a b c (some (.d (.str o2))) t a' b' c' d') (evi_of (lst_ev (evs_cons (var_ev rfl) (evs_cons (var_ev rfl) (evs_cons (var_ev rfl) evs_nil))) (Nat.le_of_ble_eq_true rfl)) rfl) rfl ⟨none, none, none, none, none, rfl⟩ ?_ ?_
    · rintro d hd i ρ hi ⟨t, a', b', c', d', rfl⟩
      obtain ⟨t', rfl, okt'⟩ : ∃ t', d = .str t' ∧ okX t' := by
        simp only [List.mem_cons, List.not_mem_nil, or_false] at hd
        rcases hd with rfl | rfl | rfl
        · exact ⟨_, rfl, okt⟩
        · exact ⟨_, rfl, ok2⟩
        · exact ⟨_, rfl, okt⟩
      obtain ⟨a2, b2, c2, d2, e⟩ := read_turn (F := F) A (some (.d (.lst L))) u k (some (.d (.lst (ts.map fun t => t.1)))) none (some (.d (.str (textO ts)))) none (some (.d (.lst (rs.map .str)))) a b c (some (.d (.str o2))) a' b' c' d' t' _ (hdu t' okt') (hre t' okt') hcl hto
      exact ⟨_, rfl, _, e, _, _, _, _, _, rfl⟩
    · rintro ρ ⟨t, a', b', c', d', rfl⟩
      exact ⟨_, ret_blk (const_ev rfl)⟩
  obtain ⟨ρ', h⟩ := key
  exact run_rt 7 pt_law ⟨rfl, by decide, rfl, rfl⟩ h
end Kn

set_option Elab.async false
set_option linter.all false
/-! the end -/
open PySem PySem.W PyProof.Rows
set_option maxRecDepth 100000 in
set_option maxHeartbeats 0 in
theorem PySem.Challenge.cw_loopmill_k03_deeds_in_texts_holds : PySem.Challenge.rw_loopmill_k03_deeds_in_texts.Holds := by
  w_on; o_law; k_head; (case hw => w_witness2)
  k_fill
  refine L2.walk_of (l := PySem.Challenge.rw_loopmill_k03_deeds_in_texts) (n := 63) (k := 26) (x := "_law_script") (CX := fun w => L2.CX PySem.Challenge.pw_loopmill_k03_deeds_in_texts w) (sp := fun w => Kn.spLaw _) rfl (by decide) rfl ⟨rfl, by decide, by decide⟩ (fun w h Y => PySem.W.kIn_of Y) ?F (fun _ _ a ns hl _ hS => ⟨a, ns, rfl, hS, hl, fun _ => rfl⟩) (fun _ _ _ _ _ h => Kn.cx_false h)
  case F =>
    intro w mg fa h KX G hmg
    refine' Kn.all_mk KX G hmg ?aC0 ?aC1 ?aC2 ?aC3 ?aC4 ?aC5 ?aC6 ?aC7 ?aC8 ?aC9 ?aC10 ?aC11 ?aC12 ?aC13 ?aC14 ?aC15 ?aC16 ?aC17 ?aC18 ?aC19 ?a0 ?a1 ?a2 ?a3 ?a4 ?a5 ?a6 ?a7 ?a8 ?a9 ?a10 ?a11 ?a12 ?a13 ?a14 ?a15 ?a16 ?a17 ?a18 ?a19 ?a20 ?a21 ?a32 ?a33 ?m0 ?m1 ?m2 ?m3 ?m4 ?m5 ?m6 ?m7 ?m8 ?m9 ?m10 ?m11 ?m12 ?m13 ?m14 ?m15 ?m16 ?m17 ?m18 ?m19 ?m20 ?m21 ?m22 ?m23 ?m24 ?m25 ?m26 ?m27 ?m28 ?m29 ?m30 ?m31 ?n0 ?n1 ?n2 ?n3 ?n4 ?n5 ?n6 ?n7 ?l0 ?c0 ?k0 ?l1 ?c1 ?k1 ?l2 ?c2 ?k2 ?l3 ?c3 ?k3 ?l4 ?c4 ?k4 ?l5 ?c5 ?k5 ?l6 ?c6 ?k6 ?l7 ?c7 ?k7 ?l8 ?c8 ?k8 ?l9 ?c9 ?k9 ?l10 ?c10 ?k10 ?l11 ?c11 ?k11 ?l12 ?c12 ?k12 ?l13 ?c13 ?k13 ?l14 ?c14 ?k14 ?l15 ?c15 ?k15 ?l16 ?c16 ?k16 ?l17 ?c17 ?k17 ?l18 ?c18 ?k18 ?l19 ?c19 ?k19 ?l20 ?c20 ?k20 ?l21 ?c21 ?k21 ?l22 ?c22 ?k22 ?i22 ?l23 ?c23 ?k23 ?i23 ?l24 ?c24 ?k24 ?i24 ?l25 ?c25 ?k25 ?i25 ?l26 ?c26 ?k26 ?i26 ?l27 ?c27 ?k27 ?i27 ?l28 ?c28 ?k28 ?i28 ?l29 ?c29 ?k29 ?i29 ?l30 ?c30 ?k30 ?i30 ?l31 ?c31 ?k31 ?i31 ?l32 ?c32 ?k32 ?l33 ?c33 ?k33 ?l34 ?c34 ?k34 ?i34 ?l35 ?c35 ?k35 ?i35 ?l36 ?c36 ?k36 ?i36 ?l37 ?c37 ?k37 ?i37 ?l38 ?c38 ?k38 ?i38 ?l39 ?c39 ?k39 ?i39 ?l40 ?c40 ?k40 ?i40 ?l41 ?c41 ?k41 ?i41 ?l42 ?c42 ?k42 ?i42 ?l43 ?c43 ?k43 ?i43 ?l44 ?c44 ?k44 ?i44 ?l45 ?c45 ?k45 ?i45 ?l46 ?c46 ?k46 ?i46 ?l47 ?c47 ?k47 ?i47 ?pg0 ?hd0 ?po0 ?sa0 ?mk0 ?kc0 ?nf0_yarn ?nf0_place ?pg1 ?hd1 ?po1 ?sa1 ?mk1 ?kc1 ?nf1_yarn ?pg2 ?hd2 ?po2 ?sa2 ?mk2 ?kc2 ?nf2_way ?nf2_side ?nf2_n ?nf2_yarn ?pg4 ?hd4 ?po4 ?sa4 ?mk4 ?kc4 ?nf4_way ?nf4_n ?nf4_yarn ?pg5 ?hd5 ?po5 ?sa5 ?mk5 ?kc5 ?nf5_side ?nf5_n ?pg15 ?hd15 ?po15 ?sa15 ?mk15 ?kc15 ?nf15_side ?nf15_n ?pg16 ?hd16 ?po16 ?sa16 ?mk16 ?kc16 ?nf16_k ?pg19 ?hd19 ?po19 ?sa19 ?mk19 ?kc19 ?nf19_way ?nf19_side ?nf19_n ?nf19_yarn ?xl6 ?xsa6 ?xkc6 ?xga6 ?xgg6 ?xha6 ?xhm6 ?xve6 ?xin6 ?xnf6 ?xl12 ?xsa12 ?xkc12 ?xga12 ?xgg12 ?xha12 ?xhm12 ?xve12 ?xin12 ?xnf12 ?xnf12line ?bR ?bG ?bF ?lXT ?cXT ?kXT ?dXT ?tXT ?lX ?cX ?kX ?dX ?tX ?vX ?xbe3 ?xty3 ?xhd3 ?xic3 ?xbe6 ?xty6 ?xhd6 ?xic6 ?xbe7 ?xty7 ?xhd7 ?xic7 ?xbe8 ?xty8 ?xhd8 ?xic8 ?xbe9 ?xty9 ?xhd9 ?xic9 ?xbe10 ?xty10 ?xhd10 ?xic10 ?xbe11 ?xty11 ?xhd11 ?xic11 ?xbe12 ?xty12 ?xhd12 ?xic12 ?xbe13 ?xty13 ?xhd13 ?xic13 ?xbe14 ?xty14 ?xhd14 ?xic14 ?xbe17 ?xty17 ?xhd17 ?xic17 ?xbe18 ?xty18 ?xhd18 ?xic18 ?xp0 ?xp1 ?xp2 ?xne2 ?xp3 ?xne3 ?xp4 ?xne4 ?xp5 ?xne5 ?xp6 ?xne6 ?xp7 ?xne7 ?xp8 ?xne8 ?xp9 ?xne9 ?xp10 ?xne10 ?xp11 ?xne11 ?xp12 ?xp13 ?xne13 ?xp14 ?xne14 ?xp15 ?xne15 ?xp16 ?xne16 ?xp17 ?xne17 ?xp18 ?xne18 ?xp19 ?xp20 ?xne20 ?xp21 ?xne21 ?xp22 ?xne22 ?xp23 ?xne23 ?xg ?xt ?g11 ?g12 ?g13 ?g14 ?z_len ?z_str ?z_int ?z_abs ?z_max ?z_min ?z_all ?z_any ?z_list ?z_tuple ?z_isinstance ?z_bool ?z_ValueError ?z_range ?z_enumerate Kn.law_true
    (case aC0 => k_is)
    (case aC1 => k_is)
    (case aC2 => k_is)
    (case aC3 => k_is)
    (case aC4 => k_is)
    (case aC5 => k_is)
    (case aC6 => k_is)
    (case aC7 => k_is)
    (case aC8 => k_is)
    (case aC9 => k_is)
    (case aC10 => k_is)
    (case aC11 => k_is)
    (case aC12 => k_is)
    (case aC13 => k_is)
    (case aC14 => k_is)
    (case aC15 => k_is)
    (case aC16 => k_is)
    (case aC17 => k_is)
    (case aC18 => k_is)
    (case aC19 => k_is)
    (case a0 => k_is)
    (case a1 => k_is)
    (case a2 => k_is)
    (case a3 => k_is)
    (case a4 => k_is)
    (case a5 => k_is)
    (case a6 => k_is)
    (case a7 => k_is)
    (case a8 => k_is)
    (case a9 => k_is)
    (case a10 => k_is)
    (case a11 => k_is)
    (case a12 => k_is)
    (case a13 => k_is)
    (case a14 => k_is)
    (case a15 => k_is)
    (case a16 => k_is)
    (case a17 => k_is)
    (case a18 => k_is)
    (case a19 => k_is)
    (case a20 => k_is)
    (case a21 => k_is)
    (case a32 => k_is)
    (case a33 => k_is)
    (case m0 => k_is)
    (case m1 => k_is)
    (case m2 => k_is)
    (case m3 => k_is)
    (case m4 => k_is)
    (case m5 => k_is)
    (case m6 => k_is)
    (case m7 => k_is)
    (case m8 => k_is)
    (case m9 => k_is)
    (case m10 => k_is)
    (case m11 => k_is)
    (case m12 => k_is)
    (case m13 => k_is)
    (case m14 => k_is)
    (case m15 => k_is)
    (case m16 => k_is)
    (case m17 => k_is)
    (case m18 => k_is)
    (case m19 => k_is)
    (case m20 => k_is)
    (case m21 => k_is)
    (case m22 => k_is)
    (case m23 => k_is)
    (case m24 => k_is)
    (case m25 => k_is)
    (case m26 => k_is)
    (case m27 => k_is)
    (case m28 => k_is)
    (case m29 => k_is)
    (case m30 => k_is)
    (case m31 => k_is)
    (case n0 => k_is)
    (case n1 => k_is)
    (case n2 => k_is)
    (case n3 => k_is)
    (case n4 => k_is)
    (case n5 => k_is)
    (case n6 => k_is)
    (case n7 => k_is)
    (case l0 => k_is)
    (case c0 => k_is)
    (case k0 => k_is)
    (case l1 => k_is)
    (case c1 => k_is)
    (case k1 => k_is)
    (case l2 => k_is)
    (case c2 => k_is)
    (case k2 => k_is)
    (case l3 => k_is)
    (case c3 => k_is)
    (case k3 => k_is)
    (case l4 => k_is)
    (case c4 => k_is)
    (case k4 => k_is)
    (case l5 => k_is)
    (case c5 => k_is)
    (case k5 => k_is)
    (case l6 => k_is)
    (case c6 => k_is)
    (case k6 => k_is)
    (case l7 => k_is)
    (case c7 => k_is)
    (case k7 => k_is)
    (case l8 => k_is)
    (case c8 => k_is)
    (case k8 => k_is)
    (case l9 => k_is)
    (case c9 => k_is)
    (case k9 => k_is)
    (case l10 => k_is)
    (case c10 => k_is)
    (case k10 => k_is)
    (case l11 => k_is)
    (case c11 => k_is)
    (case k11 => k_is)
    (case l12 => k_is)
    (case c12 => k_is)
    (case k12 => k_is)
    (case l13 => k_is)
    (case c13 => k_is)
    (case k13 => k_is)
    (case l14 => k_is)
    (case c14 => k_is)
    (case k14 => k_is)
    (case l15 => k_is)
    (case c15 => k_is)
    (case k15 => k_is)
    (case l16 => k_is)
    (case c16 => k_is)
    (case k16 => k_is)
    (case l17 => k_is)
    (case c17 => k_is)
    (case k17 => k_is)
    (case l18 => k_is)
    (case c18 => k_is)
    (case k18 => k_is)
    (case l19 => k_is)
    (case c19 => k_is)
    (case k19 => k_is)
    (case l20 => k_is)
    (case c20 => k_is)
    (case k20 => k_is)
    (case l21 => k_is)
    (case c21 => k_is)
    (case k21 => k_is)
    (case l22 => k_is)
    (case c22 => k_is)
    (case k22 => k_is)
    (case i22 => k_is)
    (case l23 => k_is)
    (case c23 => k_is)
    (case k23 => k_is)
    (case i23 => k_is)
    (case l24 => k_is)
    (case c24 => k_is)
    (case k24 => k_is)
    (case i24 => k_is)
    (case l25 => k_is)
    (case c25 => k_is)
    (case k25 => k_is)
    (case i25 => k_is)
    (case l26 => k_is)
    (case c26 => k_is)
    (case k26 => k_is)
    (case i26 => k_is)
    (case l27 => k_is)
    (case c27 => k_is)
    (case k27 => k_is)
    (case i27 => k_is)
    (case l28 => k_is)
    (case c28 => k_is)
    (case k28 => k_is)
    (case i28 => k_is)
    (case l29 => k_is)
    (case c29 => k_is)
    (case k29 => k_is)
    (case i29 => k_is)
    (case l30 => k_is)
    (case c30 => k_is)
    (case k30 => k_is)
    (case i30 => k_is)
    (case l31 => k_is)
    (case c31 => k_is)
    (case k31 => k_is)
    (case i31 => k_is)
    (case l32 => k_is)
    (case c32 => k_is)
    (case k32 => k_is)
    (case l33 => k_is)
    (case c33 => k_is)
    (case k33 => k_is)
    (case l34 => k_is)
    (case c34 => k_is)
    (case k34 => k_is)
    (case i34 => k_is)
    (case l35 => k_is)
    (case c35 => k_is)
    (case k35 => k_is)
    (case i35 => k_is)
    (case l36 => k_is)
    (case c36 => k_is)
    (case k36 => k_is)
    (case i36 => k_is)
    (case l37 => k_is)
    (case c37 => k_is)
    (case k37 => k_is)
    (case i37 => k_is)
    (case l38 => k_is)
    (case c38 => k_is)
    (case k38 => k_is)
    (case i38 => k_is)
    (case l39 => k_is)
    (case c39 => k_is)
    (case k39 => k_is)
    (case i39 => k_is)
    (case l40 => k_is)
    (case c40 => k_is)
    (case k40 => k_is)
    (case i40 => k_is)
    (case l41 => k_is)
    (case c41 => k_is)
    (case k41 => k_is)
    (case i41 => k_is)
    (case l42 => k_is)
    (case c42 => k_is)
    (case k42 => k_is)
    (case i42 => k_is)
    (case l43 => k_is)
    (case c43 => k_is)
    (case k43 => k_is)
    (case i43 => k_is)
    (case l44 => k_is)
    (case c44 => k_is)
    (case k44 => k_is)
    (case i44 => k_is)
    (case l45 => k_is)
    (case c45 => k_is)
    (case k45 => k_is)
    (case i45 => k_is)
    (case l46 => k_is)
    (case c46 => k_is)
    (case k46 => k_is)
    (case i46 => k_is)
    (case l47 => k_is)
    (case c47 => k_is)
    (case k47 => k_is)
    (case i47 => k_is)
    (case pg0 => k_is)
    (case hd0 => k_is)
    (case po0 => k_is)
    (case sa0 => k_is)
    (case mk0 => k_is)
    (case kc0 => k_is)
    (case nf0_yarn => k_is)
    (case nf0_place => k_is)
    (case pg1 => k_is)
    (case hd1 => k_is)
    (case po1 => k_is)
    (case sa1 => k_is)
    (case mk1 => k_is)
    (case kc1 => k_is)
    (case nf1_yarn => k_is)
    (case pg2 => k_is)
    (case hd2 => k_is)
    (case po2 => k_is)
    (case sa2 => k_is)
    (case mk2 => k_is)
    (case kc2 => k_is)
    (case nf2_way => k_is)
    (case nf2_side => k_is)
    (case nf2_n => k_is)
    (case nf2_yarn => k_is)
    (case pg4 => k_is)
    (case hd4 => k_is)
    (case po4 => k_is)
    (case sa4 => k_is)
    (case mk4 => k_is)
    (case kc4 => k_is)
    (case nf4_way => k_is)
    (case nf4_n => k_is)
    (case nf4_yarn => k_is)
    (case pg5 => k_is)
    (case hd5 => k_is)
    (case po5 => k_is)
    (case sa5 => k_is)
    (case mk5 => k_is)
    (case kc5 => k_is)
    (case nf5_side => k_is)
    (case nf5_n => k_is)
    (case pg15 => k_is)
    (case hd15 => k_is)
    (case po15 => k_is)
    (case sa15 => k_is)
    (case mk15 => k_is)
    (case kc15 => k_is)
    (case nf15_side => k_is)
    (case nf15_n => k_is)
    (case pg16 => k_is)
    (case hd16 => k_is)
    (case po16 => k_is)
    (case sa16 => k_is)
    (case mk16 => k_is)
    (case kc16 => k_is)
    (case nf16_k => k_is)
    (case pg19 => k_is)
    (case hd19 => k_is)
    (case po19 => k_is)
    (case sa19 => k_is)
    (case mk19 => k_is)
    (case kc19 => k_is)
    (case nf19_way => k_is)
    (case nf19_side => k_is)
    (case nf19_n => k_is)
    (case nf19_yarn => k_is)
    (case xl6 => k_is)
    (case xsa6 => k_is)
    (case xkc6 => k_is)
    (case xga6 => k_is)
    (case xgg6 => k_is)
    (case xha6 => k_is)
    (case xhm6 => k_is)
    (case xve6 => k_is)
    (case xin6 => k_is)
    (case xnf6 => k_is)
    (case xl12 => k_is)
    (case xsa12 => k_is)
    (case xkc12 => k_is)
    (case xga12 => k_is)
    (case xgg12 => k_is)
    (case xha12 => k_is)
    (case xhm12 => k_is)
    (case xve12 => k_is)
    (case xin12 => k_is)
    (case xnf12 => k_is)
    (case xnf12line => k_is)
    (case bR => k_is)
    (case bG => k_is)
    (case bF => k_is)
    (case lXT => k_is)
    (case cXT => k_is)
    (case kXT => k_is)
    (case dXT => k_is)
    (case tXT => k_is)
    (case lX => k_is)
    (case cX => k_is)
    (case kX => k_is)
    (case dX => k_is)
    (case tX => k_is)
    (case vX => first | k_is | rfl | decide +kernel)
    (case xbe3 => k_is)
    (case xty3 => k_is)
    (case xhd3 => k_is)
    (case xic3 => k_is)
    (case xbe6 => k_is)
    (case xty6 => k_is)
    (case xhd6 => k_is)
    (case xic6 => k_is)
    (case xbe7 => k_is)
    (case xty7 => k_is)
    (case xhd7 => k_is)
    (case xic7 => k_is)
    (case xbe8 => k_is)
    (case xty8 => k_is)
    (case xhd8 => k_is)
    (case xic8 => k_is)
    (case xbe9 => k_is)
    (case xty9 => k_is)
    (case xhd9 => k_is)
    (case xic9 => k_is)
    (case xbe10 => k_is)
    (case xty10 => k_is)
    (case xhd10 => k_is)
    (case xic10 => k_is)
    (case xbe11 => k_is)
    (case xty11 => k_is)
    (case xhd11 => k_is)
    (case xic11 => k_is)
    (case xbe12 => k_is)
    (case xty12 => k_is)
    (case xhd12 => k_is)
    (case xic12 => k_is)
    (case xbe13 => k_is)
    (case xty13 => k_is)
    (case xhd13 => k_is)
    (case xic13 => k_is)
    (case xbe14 => k_is)
    (case xty14 => k_is)
    (case xhd14 => k_is)
    (case xic14 => k_is)
    (case xbe17 => k_is)
    (case xty17 => k_is)
    (case xhd17 => k_is)
    (case xic17 => k_is)
    (case xbe18 => k_is)
    (case xty18 => k_is)
    (case xhd18 => k_is)
    (case xic18 => k_is)
    (case xp0 => k_is)
    (case xp1 => k_is)
    (case xp2 => k_is)
    (case xne2 => rfl)
    (case xp3 => k_is)
    (case xne3 => rfl)
    (case xp4 => k_is)
    (case xne4 => rfl)
    (case xp5 => k_is)
    (case xne5 => rfl)
    (case xp6 => k_is)
    (case xne6 => rfl)
    (case xp7 => k_is)
    (case xne7 => rfl)
    (case xp8 => k_is)
    (case xne8 => rfl)
    (case xp9 => k_is)
    (case xne9 => rfl)
    (case xp10 => k_is)
    (case xne10 => rfl)
    (case xp11 => k_is)
    (case xne11 => rfl)
    (case xp12 => k_is)
    (case xp13 => k_is)
    (case xne13 => rfl)
    (case xp14 => k_is)
    (case xne14 => rfl)
    (case xp15 => k_is)
    (case xne15 => rfl)
    (case xp16 => k_is)
    (case xne16 => rfl)
    (case xp17 => k_is)
    (case xne17 => rfl)
    (case xp18 => k_is)
    (case xne18 => rfl)
    (case xp19 => k_is)
    (case xp20 => k_is)
    (case xne20 => rfl)
    (case xp21 => k_is)
    (case xne21 => rfl)
    (case xp22 => k_is)
    (case xne22 => rfl)
    (case xp23 => k_is)
    (case xne23 => rfl)
    (case xg => k_is)
    (case xt => k_is)
    (case g11 => k_is)
    (case g12 => k_is)
    (case g13 => k_is)
    (case g14 => k_is)
    (case z_len => k_is)
    (case z_str => k_is)
    (case z_int => k_is)
    (case z_abs => k_is)
    (case z_max => k_is)
    (case z_min => k_is)
    (case z_all => k_is)
    (case z_any => k_is)
    (case z_list => k_is)
    (case z_tuple => k_is)
    (case z_isinstance => k_is)
    (case z_bool => k_is)
    (case z_ValueError => k_is)
    (case z_range => k_is)
    (case z_enumerate => k_is)

