import PyProof.Rows.All
import PySem.Str
import Wide.All
import OpenK.AllK
import Wide.FinOn
import HandS.Base
import HandS.Call
import HandS.List
import HandS.Comp
import HandS.Exc
import HandS.ExcOwn
import HandS.Flow
import HandS.IsInst
import HandS.Walk
import HandS.Iter
import HandS.Zip
import HandS.TupAny
import HandS.Deep
import HandS.Style
import HandS.Conv
import HandS.Wide
import HandS.WordsExc
import HandS.Defaults
import HandS.HeadHook2
import HandS.Head2
import HandS.HeadEnd
import KE.DataMinMax
import KE.LtData
import HandS.TupMul
import HandS.Text
import PyProof.EnumMake
import PyProof.Draws
import HandS.NoneIn
import HandS.CallLocal
import HandS.ExcIs
import PyProof.ExcBaseAll.ValueError
import HandS.Words
import PySem.Challenge.RW_onesidewhole_k04_main_ends_of_ties_count
section
set_option autoImplicit false
/-! MP: a small language of values, its programs and their runs (my own; the model is tied to it in MPS). -/
namespace MP
open PySem (Str)

inductive PV where
  | non | bl (b : Bool) | int (i : Int) | str (x : Str)
  | tup (xs : List PV) | lst (xs : List PV) | st (xs : List PV)
  | cel (n : Nat) | fn (f : Nat)

abbrev Store := List (List PV)
structure Exn where
  name : Nat
  args : List PV

inductive Res (α : Type) where
  | ok (a : α) (T : Store) | ex (x : Exn) (T : Store) | bad
def Res.bind {α β : Type} : Res α → (α → Store → Res β) → Res β
  | .ok a T, f => f a T
  | .ex x T, _ => .ex x T
  | .bad, _ => .bad
@[simp] theorem Res.bind_ok {α β : Type} (a : α) (T : Store) (f : α → Store → Res β) : (Res.ok a T).bind f = f a T := rfl
@[simp] theorem Res.bind_ex {α β : Type} (x : Exn) (T : Store) (f : α → Store → Res β) : (Res.ex x T : Res α).bind f = .ex x T := rfl
@[simp] theorem Res.bind_bad {α β : Type} (f : α → Store → Res β) : (Res.bad : Res α).bind f = .bad := rfl
/-- an answer that may fail to be there -/
def Res.of {α : Type} (T : Store) : Option α → Res α
  | some a => .ok a T
  | none => .bad
@[simp] theorem Res.of_some {α : Type} (T : Store) (a : α) : Res.of T (some a) = .ok a T := rfl
@[simp] theorem Res.of_none {α : Type} (T : Store) : Res.of T (none : Option α) = .bad := rfl

def line : Nat := 16777216
inductive SV where
  | un | va (v : PV) | ow (xs : List PV)
abbrev Env := List SV

/-! ### values -/
def pln : Nat → PV → Bool
  | 0, v => match v with
    | .non => true
    | .bl _ => true
    | .int _ => true
    | .str x => x.cps.all (· < 1114112)
    | _ => false
  | n + 1, v => match v with
    | .tup xs => xs.all (pln n)
    | .lst xs => xs.all (pln n)
    | .non => true
    | .bl _ => true
    | .int _ => true
    | .str x => x.cps.all (· < 1114112)
    | _ => false
mutual
def eqv : PV → PV → Bool
  | .non, .non => true
  | .bl a, .bl b => a == b
  | .bl a, .int j => (if a then 1 else 0) == j
  | .int i, .bl b => i == (if b then 1 else 0)
  | .int i, .int j => i == j
  | .str x, .str y => x == y
  | .lst xs, .lst ys => eqvs xs ys
  | .tup xs, .tup ys => eqvs xs ys
  | _, _ => false
def eqvs : List PV → List PV → Bool
  | [], [] => true
  | x :: xs, y :: ys => eqv x y && eqvs xs ys
  | _, _ => false
end
def truth : PV → Option Bool
  | .non => some false
  | .bl b => some b
  | .int i => some (i != 0)
  | .str x => if x.length ≤ line then some (x.length != 0) else none
  | .tup xs => some (!xs.isEmpty)
  | .lst xs => some (!xs.isEmpty)
  | _ => none

/-! ### operations -/
inductive BOp where
  | add | sub | mul | fdiv | mod | pow
inductive COp where
  | eq | ne | lt | le | gt | ge | is_ | isn | in_ | nin
inductive Ty where
  | int | bool | str | tup | lst
inductive Bi where
  | len | abs | int_ | min | max | sum | all | any | tuple_ | list_ | str_

def mulOk (a b : Int) : Bool := decide (a.natAbs < 2 ^ 64) || decide (b.natAbs < 2 ^ 64) || (decide (a.natAbs < 2 ^ 100000) && decide (b.natAbs < 2 ^ 100000))
def divOk (b : Int) : Bool := decide (b ≠ 0) && decide (b.natAbs < 2 ^ 8000)
def binop : BOp → PV → PV → Option PV
  | .add, .int a, .int b => some (.int (a + b))
  | .add, .str a, .str b => if a.length + b.length ≤ line then some (.str (a ++ b)) else none
  | .add, .tup a, .tup b => if a.length + b.length ≤ line then some (.tup (a ++ b)) else none
  | .add, .lst a, .lst b => if a.length + b.length ≤ line then some (.lst (a ++ b)) else none
  | .sub, .int a, .int b => some (.int (a - b))
  | .mul, .int a, .int b => if mulOk a b then some (.int (a * b)) else none
  | .mul, .lst xs, .int k => if k < 2 ^ 62 ∧ -(2 ^ 62) ≤ k ∧ xs.length * k.toNat ≤ line then some (.lst (List.replicate k.toNat xs).flatten) else none
  | .mul, .tup xs, .int k => if k = 1 then some (.tup xs) else if 2 ≤ k ∧ k ≤ 1000 ∧ 0 < xs.length ∧ xs.length ≤ 1000 then some (.tup (List.replicate k.toNat xs).flatten) else none
  | .fdiv, .int a, .int b => if divOk b then some (.int (a.fdiv b)) else none
  | .mod, .int a, .int b => if b ≠ 0 then some (.int (a.fmod b)) else none
  | .pow, .int a, .int b => if 0 ≤ b ∧ b ≤ 1000 ∧ a.natAbs < 2 ^ 64 then some (.int (a ^ b.toNat)) else none
  | _, _, _ => none
def memv (x : PV) (ys : List PV) : Bool := ys.any fun y => eqv y x
/-- how often it is there -/
def cntv (v : PV) (ys : List PV) : Option PV := if pln 40 v && ys.all (pln 40) then some (.int (ys.countP fun y => eqv y v : Nat)) else none
def flat : PV → Bool
  | .non => true
  | .bl _ => true
  | .int _ => true
  | .str _ => true
  | _ => false
def inop (x : PV) : PV → Option Bool
  | .tup ys => if flat x && ys.all flat then some (memv x ys) else if pln 40 x && ys.all (pln 40) then some (memv x ys) else none
  | .lst ys => if pln 40 x && ys.all (pln 40) then some (memv x ys) else none
  | .str y => match x with
    | .str z => if z.length = 1 then some (y.cps.toList.contains (z.cps.toList.headD 0)) else none
    | _ => none
  | _ => none
def isNon : PV → Bool
  | .non => true
  | _ => false
def cmpop : COp → PV → PV → Option Bool
  | .eq, a, b => if pln 40 a && pln 40 b then some (eqv a b) else none
  | .ne, a, b => if pln 40 a && pln 40 b then some (!eqv a b) else none
  | .lt, .int a, .int b => some (decide (a < b))
  | .le, .int a, .int b => some (decide (a ≤ b))
  | .gt, .int a, .int b => some (decide (b < a))
  | .ge, .int a, .int b => some (decide (b ≤ a))
  | .is_, a, .non => some (isNon a)
  | .isn, a, .non => some (!isNon a)
  | .in_, a, b => inop a b
  | .nin, a, b => (inop a b).map (!·)
  | _, _, _ => none
def isTy : Ty → PV → Option Bool
  | _, .cel _ => none
  | _, .fn _ => none
  | _, .st _ => none
  | .int, .int _ => some true
  | .int, .bl _ => some true
  | .bool, .bl _ => some true
  | .str, .str _ => some true
  | .tup, .tup _ => some true
  | .lst, .lst _ => some true
  | _, _ => some false
def isTys : List Ty → PV → Option Bool
  | [], _ => some false
  | t :: ts, v => (isTy t v).bind fun b => if b then some true else isTys ts v
/-- a place of a row -/
def ixn (n : Nat) (i : Int) : Option Nat := if 0 ≤ i then (if i < n then some i.toNat else none) else if -(n : Int) ≤ i then some (i + n).toNat else none
def index (T : Store) : PV → PV → Option PV
  | .tup xs, .int i => (ixn xs.length i).bind fun j => xs[j]?
  | .lst xs, .int i => (ixn xs.length i).bind fun j => xs[j]?
  | .cel n, .int i => (T[n]?).bind fun xs => (ixn xs.length i).bind fun j => xs[j]?
  | .str x, .int i => if x.length ≤ line then (ixn x.cps.toList.length i).bind fun j => (x.cps.toList[j]?).map fun c => .str ⟨#[c]⟩ else none
  | _, _ => none
def six (n d : Nat) : Option Int → Nat
  | none => d
  | some v => if v < 0 then (v + (n : Int)).toNat else min v.toNat n
def cut {α : Type} (xs : List α) (lo hi : Option Int) : List α := (xs.drop (six xs.length 0 lo)).take (six xs.length xs.length hi - six xs.length 0 lo)
def cutv (lo hi : Option Int) : PV → Option PV
  | .tup xs => some (.tup (cut xs lo hi))
  | .lst xs => some (.lst (cut xs lo hi))
  | .st xs => some (.lst (cut xs lo hi))
  | _ => none
def intsOf : List PV → Option (List Int)
  | [] => some []
  | .int i :: r => (intsOf r).map (i :: ·)
  | _ => none
def seqOf : PV → Option (List PV)
  | .tup xs => some xs
  | .lst xs => some xs
  | _ => none
def minl : Int → List Int → Int
  | a, [] => a
  | a, b :: r => minl (if b < a then b else a) r
def maxl : Int → List Int → Int
  | a, [] => a
  | a, b :: r => maxl (if b > a then b else a) r
def boolsOf : List PV → Option (List Bool)
  | [] => some []
  | .bl i :: r => (boolsOf r).map (i :: ·)
  | _ => none
def bi : Bi → List PV → Option PV
  | .len, [.str x] => if x.length ≤ line then some (.int x.length) else none
  | .len, [.tup xs] => some (.int xs.length)
  | .len, [.lst xs] => some (.int xs.length)
  | .abs, [.int a] => some (.int a.natAbs)
  | .int_, [.int a] => some (.int a)
  | .int_, [.bl b] => some (.int (if b then 1 else 0))
  | .min, [.int a, .int b] => some (.int (if b < a then b else a))
  | .max, [.int a, .int b] => some (.int (if b > a then b else a))
  | .min, [v] => (seqOf v).bind fun xs => (intsOf xs).bind fun is => match is with
    | [] => none
    | a :: r => some (.int (minl a r))
  | .max, [v] => (seqOf v).bind fun xs => (intsOf xs).bind fun is => match is with
    | [] => none
    | a :: r => some (.int (maxl a r))
  | .sum, [.lst xs] => (intsOf xs).map fun is => .int is.sum
  | .all, [.lst xs] => (boolsOf xs).map fun bs => .bl (bs.all id)
  | .any, [.lst xs] => (boolsOf xs).map fun bs => .bl (bs.any id)
  | .tuple_, [.lst xs] => some (.tup xs)
  | .tuple_, [.tup xs] => some (.tup xs)
  | .list_, [.lst xs] => some (.lst xs)
  | .list_, [.tup xs] => some (.lst xs)
  | .str_, [.int a] => if a.natAbs.log2 < 1920 then some (.str (Str.ofString (toString a))) else none
  | _, _ => none

/-! ### expressions -/
mutual
inductive Tg where
  | nm (i : Nat) | tp (ts : Tgs)
inductive Tgs where
  | nil | cons (t : Tg) (ts : Tgs)
end
mutual
inductive E where
  | var (i : Nat) | pk (i : Nat) | con (v : PV) | glo (x : Nat) | fnv (x : Nat)
  | bin (o : BOp) (a b : E) | neg (a : E) | nt (a : E)
  | cmp (o : COp) (a b : E) | cmp2 (o p : COp) (a b c : E)
  | an (es : Es) | or_ (es : Es) | ife (c a b : E)
  | tup (es : Es) | lst (es : Es) | nce (es : Es)
  | idx (a i : E) | sl (a lo hi : E) | noe
  | call (f : Nat) (es : Es) | callv (i : Nat) (es : Es) | cnt (i : Nat) (e : E)
  | bi (f : Bi) (es : Es) | isi (a : E) (ts : List Ty)
  | comp (own : List Nat) (elt : E) (cl : Cl)
  | frm (tu : Bool) (it : It)
inductive Es where
  | nil | cons (e : E) (es : Es)
inductive Cl where
  | nil | cons (tg : Tg) (it : It) (ifs : Es) (r : Cl)
inductive It where
  | ex (e : E) | rng1 (a : E) | rng2 (a b : E) | zip (a b : E) | zip3 (a b c : E) | enu (e : E)
end
def Es.isNil : Es → Bool
  | .nil => true
  | _ => false
structure Ctx where
  cf : Nat → List PV → Store → Res PV
  gl : Nat → Option PV
  fu : Nat

def getv (ρ : Env) (i : Nat) : Option PV := match ρ[i]? with
  | some (.va v) => some v
  | _ => none
def peek (ρ : Env) (i : Nat) : Option PV := match ρ[i]? with
  | some (.ow xs) => some (.lst xs)
  | some (.va v) => some v
  | _ => none
def setv (ρ : Env) (i : Nat) (v : SV) : Env := ρ.set i v
def wipe (ρ : Env) : List Nat → Env
  | [] => ρ
  | v :: vs => (wipe ρ vs).set v .un
mutual
/-- a new value for the names -/
def bindTg : Tg → Env → PV → Option Env
  | .nm i, ρ, v => some (ρ.set i (.va v))
  | .tp ts, ρ, v => match v with
    | .tup vs => bindTgs ts ρ vs
    | .lst vs => bindTgs ts ρ vs
    | _ => none
def bindTgs : Tgs → Env → List PV → Option Env
  | .nil, ρ, vs => match vs with
    | [] => some ρ
    | _ => none
  | .cons t ts, ρ, vs => match vs with
    | v :: vs => (bindTg t ρ v).bind fun ρ => bindTgs ts ρ vs
    | [] => none
end
mutual
/-- the slots of a target -/
def Tg.ns : Tg → List Nat
  | .nm i => [i]
  | .tp ts => ts.ns
def Tgs.ns : Tgs → List Nat
  | .nil => []
  | .cons t ts => t.ns ++ ts.ns
end
def isN : E → Bool
  | .noe => true
  | _ => false
/-- a slice's part, left out or an int -/
def partV (no : Bool) (v : PV) (T : Store) : Res (Option Int) := if no then .ok none T else match v with
  | .int i => .ok (some i) T
  | _ => .bad
/-- rows walked -/
def rows : PV → Option (List PV)
  | .tup xs => some xs
  | .lst xs => some xs
  | .str x => some (x.cps.toList.map fun c => .str ⟨#[c]⟩)
  | _ => none
def rng (lo hi : Int) : List PV := (List.range (hi - lo).toNat).map fun k => .int (lo + (k : Nat))
def enum_ (xs : List PV) : List PV := xs.zipIdx.map fun p => .tup [.int (p.2 : Nat), p.1]
def zip2 (xs ys : List PV) : List PV := (xs.zip ys).map fun p => .tup [p.1, p.2]
def zip3 (xs ys zs : List PV) : List PV := (xs.zip (ys.zip zs)).map fun p => .tup [p.1, p.2.1, p.2.2]
def smallR (i : Int) : Bool := decide (-(2 ^ 62) ≤ i) && decide (i < 2 ^ 62)
/-- one turn after the other, what they give in a row -/
def loopC (f : PV → Store → Res (List PV)) : List PV → Store → Res (List PV)
  | [], T => .ok [] T
  | x :: xs, T => (f x T).bind fun a T => (loopC f xs T).bind fun b T => .ok (a ++ b) T
/-- a comprehension's answer -/
def compR : Res (List PV) → Res PV
  | .ok xs T => if xs.length ≤ line then .ok (.lst xs) T else .bad
  | _ => .bad

mutual
def evalE (C : Ctx) (ρ : Env) (T : Store) : E → Res PV
  | .var i => .of T (getv ρ i)
  | .pk i => .of T (peek ρ i)
  | .con v => .ok v T
  | .glo x => .of T (C.gl x)
  | .fnv x => .ok (.fn x) T
  | .bin o a b => (evalE C ρ T a).bind fun x T => (evalE C ρ T b).bind fun y T => .of T (binop o x y)
  | .neg a => (evalE C ρ T a).bind fun x T => match x with
    | .int i => .ok (.int (-i)) T
    | _ => .bad
  | .nt a => (evalE C ρ T a).bind fun x T => .of T ((truth x).map fun b => .bl (!b))
  | .cmp o a b => (evalE C ρ T a).bind fun x T => (evalE C ρ T b).bind fun y T => .of T ((cmpop o x y).map .bl)
  | .cmp2 o p a b c => (evalE C ρ T a).bind fun x T => (evalE C ρ T b).bind fun y T => match cmpop o x y with
    | some true => (evalE C ρ T c).bind fun z T => .of T ((cmpop p y z).map .bl)
    | some false => .ok (.bl false) T
    | none => .bad
  | .an es => evalAn C ρ T es
  | .or_ es => evalOr C ρ T es
  | .ife c a b => (evalE C ρ T c).bind fun x T => match truth x with
    | some true => evalE C ρ T a
    | some false => evalE C ρ T b
    | none => .bad
  | .tup es => (evalA C ρ T es).bind fun xs T => .ok (.tup xs) T
  | .lst es => (evalA C ρ T es).bind fun xs T => .ok (.lst xs) T
  | .nce es => (evalA C ρ T es).bind fun xs T => .ok (.cel T.length) (T ++ [xs])
  | .idx a i => (evalE C ρ T a).bind fun x T => (evalE C ρ T i).bind fun y T => .of T (index T x y)
  | .sl a lo hi => (evalE C ρ T a).bind fun x T => ((evalE C ρ T lo).bind (partV (isN lo))).bind fun l T => ((evalE C ρ T hi).bind (partV (isN hi))).bind fun h T =>
      .of T (cutv l h x)
  | .noe => .ok .non T
  | .call f es => (evalA C ρ T es).bind fun xs T => C.cf f xs T
  | .callv i es => match getv ρ i with
    | some (.fn f) => (match evalA C ρ T es with
      | .ok xs T => C.cf f xs T
      | _ => .bad)
    | _ => .bad
  | .cnt i e => match getv ρ i with
    | some (.lst ys) => (evalE C ρ T e).bind fun v T => .of T (cntv v ys)
    | _ => .bad
  | .bi f es => (evalA C ρ T es).bind fun xs T => .of T (bi f xs)
  | .isi a ts => (evalE C ρ T a).bind fun x T => .of T ((isTys ts x).map .bl)
  | .comp own elt cl => compR (evalC C (fun ρ T => (evalE C ρ T elt).bind fun v T => .ok [v] T) (wipe ρ own) T cl)
  | .frm tu it => (evalI C ρ T it).bind fun xs T => if xs.length ≤ line then .ok (if tu then .tup xs else .lst xs) T else .bad
def evalA (C : Ctx) (ρ : Env) (T : Store) : Es → Res (List PV)
  | .nil => .ok [] T
  | .cons e es => (evalE C ρ T e).bind fun x T => (evalA C ρ T es).bind fun xs T => .ok (x :: xs) T
/-- one and another -/
def evalAn (C : Ctx) (ρ : Env) (T : Store) : Es → Res PV
  | .nil => .bad
  | .cons e es => if es.isNil then evalE C ρ T e else (evalE C ρ T e).bind fun x T => match truth x with
    | some true => evalAn C ρ T es
    | some false => .ok x T
    | none => .bad
/-- one or another -/
def evalOr (C : Ctx) (ρ : Env) (T : Store) : Es → Res PV
  | .nil => .bad
  | .cons e es => if es.isNil then evalE C ρ T e else (evalE C ρ T e).bind fun x T => match truth x with
    | some false => evalOr C ρ T es
    | some true => .ok x T
    | none => .bad
/-- all of these hold -/
def evalF (C : Ctx) (ρ : Env) (T : Store) : Es → Res Bool
  | .nil => .ok true T
  | .cons e es => (evalE C ρ T e).bind fun x T => match truth x with
    | some true => evalF C ρ T es
    | some false => .ok false T
    | none => .bad
def evalC (C : Ctx) (k : Env → Store → Res (List PV)) (ρ : Env) (T : Store) : Cl → Res (List PV)
  | .nil => k ρ T
  | .cons tg it ifs r => (evalI C ρ T it).bind fun xs T => loopC (fun x T => match bindTg tg (wipe ρ tg.ns) x with
      | none => .bad
      | some ρ' => (evalF C ρ' T ifs).bind fun b T => if b then evalC C k ρ' T r else .ok [] T) xs T
def evalI (C : Ctx) (ρ : Env) (T : Store) : It → Res (List PV)
  | .ex e => (evalE C ρ T e).bind fun x T => .of T (rows x)
  | .rng1 a => (evalE C ρ T a).bind fun x T => match x with
    | .int i => if smallR i then .ok (rng 0 i) T else .bad
    | _ => .bad
  | .rng2 a b => (evalE C ρ T a).bind fun x T => (evalE C ρ T b).bind fun y T => match x, y with
    | .int i, .int j => if smallR i && smallR j then .ok (rng i j) T else .bad
    | _, _ => .bad
  | .zip a b => (evalE C ρ T a).bind fun x T => (evalE C ρ T b).bind fun y T => match x, y with
    | .lst xs, .lst ys => .ok (zip2 xs ys) T
    | .tup xs, .tup ys => .ok (zip2 xs ys) T
    | _, _ => .bad
  | .zip3 a b c => (evalE C ρ T a).bind fun x T => (evalE C ρ T b).bind fun y T => (evalE C ρ T c).bind fun z T => match seqOf x, seqOf y, seqOf z with
    | some xs, some ys, some zs => .ok (zip3 xs ys zs) T
    | _, _, _ => .bad
  | .enu e => (evalE C ρ T e).bind fun x T => match seqOf x with
    | some xs => .ok (enum_ xs) T
    | none => .bad
end

/-! ### statements -/
mutual
inductive S where
  | asg (tg : Tg) (e : E) | own (i : Nat) (e : E) | par (ts : List (Nat × Bool)) (es : Es)
  | aug (i : Nat) (o : BOp) (e : E) | exp (e : E)
  | app (i : Nat) (e : E) | apop (i j : Nat) (k : E) | pop (tg : Tg) (j : Nat)
  | ext (i : Nat) (e : E) | sto (i : Nat) (k e : E) | ste (a k e : E)
  | ite (c : E) (a b : Ss) | for_ (tg : Tg) (it : It) (b : Ss) | whl (c : E) (b : Ss)
  | ret (e : E) | retn | brk | cont | pass | rse (c : Nat) (es : Es)
  | kill (i : Nat) | frz (i : Nat)
  | tri (e : E) (hs : List (Nat × Nat × Str))
inductive Ss where
  | nil | cons (s : S) (r : Ss)
end
inductive SR where
  | nx (ρ : Env) (T : Store) | rt (v : PV) (T : Store) | bk (ρ : Env) (T : Store) | ct (ρ : Env) (T : Store) | ex (x : Exn) (T : Store) | bad
def Res.s {α : Type} : Res α → (α → Store → SR) → SR
  | .ok a T, f => f a T
  | .ex x T, _ => .ex x T
  | .bad, _ => .bad
@[simp] theorem Res.s_ok {α : Type} (a : α) (T : Store) (f : α → Store → SR) : (Res.ok a T).s f = f a T := rfl
@[simp] theorem Res.s_ex {α : Type} (x : Exn) (T : Store) (f : α → Store → SR) : (Res.ex x T : Res α).s f = .ex x T := rfl
@[simp] theorem Res.s_bad {α : Type} (f : α → Store → SR) : (Res.bad : Res α).s f = .bad := rfl
def ofEnv (T : Store) : Option Env → SR
  | some ρ => .nx ρ T
  | none => .bad
@[simp] theorem ofEnv_some (T : Store) (ρ : Env) : ofEnv T (some ρ) = .nx ρ T := rfl
@[simp] theorem ofEnv_none (T : Store) : ofEnv T none = .bad := rfl
def owned (ρ : Env) (i : Nat) : Option (List PV) := match ρ[i]? with
  | some (.ow xs) => some xs
  | _ => none
def putAll : List (Nat × Bool) → List PV → Env → Option Env
  | [], [], ρ => some ρ
  | (i, false) :: ts, v :: vs, ρ => putAll ts vs (ρ.set i (.va v))
  | (i, true) :: ts, .lst xs :: vs, ρ => putAll ts vs (ρ.set i (.ow xs))
  | _, _, _ => none
/-- a row with a place's value changed -/
def setAt (xs : List PV) (n v : PV) : Option (List PV) := match n with
  | .int n => (ixn xs.length n).map fun m => xs.set m v
  | _ => none
/-- a row's item at a place, the row without it -/
def popAt (xs : List PV) (n : PV) : Option (PV × List PV) := match n with
  | .int n => if -(2 ^ 62) ≤ n ∧ n < 2 ^ 62 then (ixn xs.length n).bind fun m => (xs[m]?).map fun y => (y, xs.eraseIdx m) else none
  | _ => none
/-- a for's turns -/
def loopS (f : PV → Env → Store → SR) : List PV → Env → Store → SR
  | [], ρ, T => .nx ρ T
  | x :: xs, ρ, T => match f x ρ T with
    | .nx ρ' T' => loopS f xs ρ' T'
    | .ct ρ' T' => loopS f xs ρ' T'
    | .bk ρ' T' => .nx ρ' T'
    | .rt v T' => .rt v T'
    | .ex x T' => .ex x T'
    | .bad => .bad
/-- a while's turns -/
def loopW (c : Env → Store → Res Bool) (f : Env → Store → SR) : Nat → Env → Store → SR
  | 0, _, _ => .bad
  | n + 1, ρ, T => (c ρ T).s fun b T => if b then match f ρ T with
      | .nx ρ' T' => loopW c f n ρ' T'
      | .ct ρ' T' => loopW c f n ρ' T'
      | .bk ρ' T' => .nx ρ' T'
      | .rt v T' => .rt v T'
      | .ex x T' => .ex x T'
      | .bad => .bad
    else .nx ρ T
def testE (C : Ctx) (ρ : Env) (T : Store) (e : E) : Res Bool := (evalE C ρ T e).bind fun x T => .of T (truth x)

/-- the text of the first clause that catches the class n: its class, its slot, its text -/
def hit : List (Nat × Nat × Str) → Nat → Option Str
  | [], _ => none
  | h :: hs, n => if n = h.1 then some h.2.2 else hit hs n
/-- try: e; each clause returns its text -/
def triM (hs : List (Nat × Nat × Str)) (ρ : Env) : Res PV → SR
  | .ok _ T => .nx ρ T
  | .ex x T => if x.args.isEmpty then (match hit hs x.name with
    | some s => .rt (.str s) T
    | none => .bad) else .bad
  | .bad => .bad
mutual
def exec (C : Ctx) (ρ : Env) (T : Store) : S → SR
  | .asg tg e => (evalE C ρ T e).s fun v T => ofEnv T (bindTg tg ρ v)
  | .own i e => (evalE C ρ T e).s fun v T => match v with
    | .lst xs => .nx (ρ.set i (.ow xs)) T
    | _ => .bad
  | .par ts es => (evalA C ρ T es).s fun vs T => ofEnv T (putAll ts vs ρ)
  | .aug i o e => match getv ρ i with
    | some x => (evalE C ρ T e).s fun y T => match x, y with
      | .int _, .int _ => ofEnv T ((binop o x y).map fun v => ρ.set i (.va v))
      | _, _ => .bad
    | none => .bad
  | .exp e => (evalE C ρ T e).s fun _ T => .nx ρ T
  | .app i e => match owned ρ i with
    | some xs => (evalE C ρ T e).s fun v T => if xs.length < line then .nx (ρ.set i (.ow (xs ++ [v]))) T else .bad
    | none => .bad
  | .apop i j k => match owned ρ i, owned ρ j with
    | some xs, some ys => (evalE C ρ T k).s fun v T => match popAt ys v with
      | some (y, zs) => if xs.length < line ∧ i ≠ j then .nx ((ρ.set j (.ow zs)).set i (.ow (xs ++ [y]))) T else .bad
      | none => .bad
    | _, _ => .bad
  | .pop tg j => match owned ρ j with
    | some ys => match ys.getLast? with
      | some y => ofEnv T (bindTg tg (ρ.set j (.ow ys.dropLast)) y)
      | none => .bad
    | none => .bad
  | .ext i e => match owned ρ i with
    | some xs => (evalE C ρ T e).s fun v T => match seqOf v with
      | some ys => if xs.length + ys.length ≤ line then .nx (ρ.set i (.ow (xs ++ ys))) T else .bad
      | none => .bad
    | none => .bad
  | .sto i k e => (evalE C ρ T e).s fun v T => match owned ρ i with
    | some xs => (evalE C ρ T k).s fun n T => match setAt xs n v with
      | some ys => .nx (ρ.set i (.ow ys)) T
      | none => .bad
    | none => .bad
  | .ste a k e => (evalE C ρ T e).s fun v T => (evalE C ρ T a).s fun c T => match c with
    | .cel c => (evalE C ρ T k).s fun n T => match T[c]? with
      | some xs => match setAt xs n v with
        | some ys => .nx ρ (T.set c ys)
        | none => .bad
      | none => .bad
    | _ => .bad
  | .ite c a b => (testE C ρ T c).s fun x T => if x then execs C ρ T a else execs C ρ T b
  | .for_ tg it b => (evalI C ρ T it).s fun xs T => loopS (fun x ρ T => match bindTg tg ρ x with
      | some ρ' => execs C ρ' T b
      | none => .bad) xs ρ T
  | .whl c b => loopW (fun ρ T => testE C ρ T c) (fun ρ T => execs C ρ T b) C.fu ρ T
  | .ret e => (evalE C ρ T e).s fun v T => .rt v T
  | .retn => .rt .non T
  | .brk => .bk ρ T
  | .cont => .ct ρ T
  | .pass => .nx ρ T
  | .rse c es => (evalA C ρ T es).s fun vs T => .ex ⟨c, vs⟩ T
  | .kill i => .nx (ρ.set i .un) T
  | .frz i => match owned ρ i with
    | some xs => .nx (ρ.set i (.va (.lst xs))) T
    | none => .nx ρ T
  | .tri e hs => triM hs ρ (evalE C ρ T e)
def execs (C : Ctx) (ρ : Env) (T : Store) : Ss → SR
  | .nil => .nx ρ T
  | .cons s r => match exec C ρ T s with
    | .nx ρ' T' => execs C ρ' T' r
    | x => x
end

/-! ### defs -/
structure Fn where
  ps : Nat
  ns : Nat
  body : Ss
def startE (ns : Nat) (vs : List PV) : Env := vs.map .va ++ List.replicate (ns - vs.length) .un
def ofSR : SR → Res PV
  | .nx _ T => .ok .non T
  | .rt v T => .ok v T
  | .ex x T => .ex x T
  | _ => .bad
/-- a program: its defs by name, its constants -/
structure Prog where
  fn : Nat → Option Fn
  gl : Nat → Option PV
  fu : Nat
def callF (P : Prog) : Nat → Nat → List PV → Store → Res PV
  | 0, _, _, _ => .bad
  | d + 1, f, vs, T => match P.fn f with
    | some F => if vs.length = F.ps then ofSR (execs ⟨callF P d, P.gl, P.fu⟩ (startE F.ns vs) T F.body) else .bad
    | none => .bad
end MP
end

section
set_option autoImplicit false
/-! the names of the defs and constants, by numbers (printed by a program of mine) -/
namespace MP
def allFns : List String := [
  "_law_box", "_law_cells", "_law_take", "are_numbers", "is_number", "law", "tupled", "_law_same", "is_long", "is_within", "_law_of", "_law_call",
  "_law_slip", "are_near_parts", "common", "is_fraction_in", "is_near_fraction", "is_near_rectangle", "is_rectangle_in", "is_under", "_law_right", "is_box_in", "less", "lowest",
  "sides_of", "sure_within", "_law_mixed", "_law_pick", "area_in", "around_in", "greater_of", "lesser_of", "plus", "shared_in", "times", "_law_gcd",
  "flaw_in", "gap_in", "has_point", "in_line", "lies_in", "middle", "total_in", "_law_flat", "_law_heard", "cut_in", "fills_in", "is_cut_in",
  "is_whole_in", "sides_in", "sure_box", "_law_cut", "_law_unmarked", "is_brickwork_in", "is_tile", "sure_parts", "tile_cells", "_law_plus", "sure_brick", "sure_rectangle",
  "tile_size", "_law_by", "_law_less", "_law_lists", "checkered_in", "floor_in", "heap", "is_bar_in", "is_laying_in", "sum_in", "sure_fraction", "wave_in",
  "_law_under", "are_bars_in", "are_kinds", "count_in", "filled_with", "first_free", "has_whole_in", "how_many_layings", "is_turned_in", "laid_on", "next_lays", "parts_of",
  "room_at", "sure_kinds", "sure_laying", "sure_small", "_law_between", "_law_sides", "_law_split", "_law_start", "_law_tile_cells", "all_ties", "bar_in", "bars_in",
  "first_without_in", "other_end", "striped", "sure_floor", "sure_two", "ties_in", "turned_in", "_law_is_int", "_law_wheel", "has_bars", "has_turned", "has_whole_side",
  "walk_in", "_law_lines", "_law_size", "_law_wholes", "can_be_laid", "checkered_parts", "count_of", "cut_of", "filled", "is_flaw_in", "is_laying", "is_parted_in",
  "is_point", "is_walk", "is_walk_in", "laid_in", "laid_with", "lines_through", "order_in", "other_corners", "sure_whole_sided", "turned_laying", "volume", "walk_of",
  "_law_many", "_law_step_on", "all_in", "all_layings", "are_unlike", "bars_laying", "brick_of", "brick_paper_in", "brickwork_rows", "by_cuts_in", "claim_holds", "claim_reason",
  "colour_count", "crossed", "cut_at", "holds_in", "is_apart_by", "is_bar", "is_bars_paper_in", "is_brick_paper_in", "is_brickwork", "is_by_cuts", "is_claim_in", "is_small_box",
  "is_turned_paper_in", "line_of", "mirrored_in", "moved", "reason_in", "stretched", "stretched_in", "sure_above", "sure_claim", "sure_laid", "sure_point", "told_rows",
  "transposed_in", "turned_paper_in", "unlike_colours", "unlike_in", "walk_ways", "waves", "ways_apart", "whole_ways", "_law_cutting", "_law_floor_cells", "_law_is_tile", "_law_is_work",
  "_law_keeping", "_law_next_tiles", "_law_spots", "_law_sum_of", "are_such_tiles", "are_ways_apart", "as_sum", "bar_of", "block_cells", "cells_in", "checkered", "claim_paper",
  "first_to_fall", "first_without", "is_block", "is_blockwork_in", "is_claim", "is_claim_reason", "is_floor_work", "is_laid", "is_laid_in", "is_parted", "is_placed", "is_reason_in",
  "kinds_in", "laid_over", "led_in", "multiple_sides", "multiples_in", "number_in_piece", "over", "paper_in", "parts_area", "rows_in", "sure_corner", "sure_room",
  "sure_teeth", "sure_text", "sure_units", "tooth", "tooth_row", "tooth_sum", "toothed_box", "toothed_in", "walk_by_units", "_law_checkered", "_law_colours", "_law_common",
  "_law_covers", "_law_holds", "_law_is_laying", "_law_lies", "_law_put", "_law_ties", "_law_turned_fits", "_law_wheeled", "_law_works", "all_mirrored", "are_bars", "are_bricks",
  "are_turned", "around", "blocks_in", "brick_corners", "brick_fails", "brick_laying", "brick_sides", "brickwork_text", "cells_of", "colour_counts", "common_unit", "common_unit_in",
  "corners_in", "fails_in", "fills", "first_no_multiple", "first_uneven", "floors_laid", "fraction", "has_brick", "has_bricks", "is_bars_paper", "is_blockwork", "is_brick_paper",
  "is_claim_paper", "is_cut", "is_flaw", "is_paper_in", "is_turned_paper", "mirrored", "rectangle_area", "rectangle_sides", "room_colours", "same_in", "shared", "side_parts",
  "sure_floor_work", "sure_pair", "sure_steps", "ties", "ties_at", "transposed", "unlike_layings", "volume_of", "whole_sides", "_law_area", "_law_bars_paper", "_law_block_cells",
  "_law_brick_paper", "_law_claim", "_law_cross", "_law_cuts", "_law_drawn_sizes", "_law_falls_apart", "_law_fraction", "_law_goes", "_law_heap", "_law_is_paper", "_law_is_reason", "_law_is_sum",
  "_law_mirror", "_law_orders", "_law_rest_count", "_law_turned_paper", "_law_turns_of", "_law_wander", "_law_ways_to", "answered", "are_corners", "are_corners_in", "bars_paper", "blockwork_text",
  "brick_count", "brick_paper", "changed", "do_bricks_meet", "flat_numbers", "flat_text", "flaw_of", "is_board", "is_corner", "is_entry", "is_label_in", "is_line",
  "joined", "labels_in", "laid_down", "least_laying", "made", "numbers_said", "parts_text", "read_brickwork", "shape_of", "shifted", "straight_cut", "told",
  "told_if", "told_of_numbers", "turned_paper", "yes_or_no", "_law_all_of", "_law_all_told", "_law_apart", "_law_are_all_unfit", "_law_are_corners", "_law_ask", "_law_bad_box", "_law_bad_fraction",
  "_law_bad_rectangle", "_law_bars", "_law_below", "_law_bent", "_law_can", "_law_cells_at", "_law_divides", "_law_drawn_work", "_law_fillable", "_law_holds_point", "_law_hump", "_law_is_bar",
  "_law_is_blocks", "_law_is_cut", "_law_is_flaw", "_law_is_no_board", "_law_is_nothing", "_law_is_out", "_law_is_part", "_law_is_point", "_law_is_times", "_law_is_whole", "_law_lay", "_law_lays",
  "_law_line", "_law_make", "_law_meet", "_law_nearly", "_law_parted", "_law_rectangle", "_law_right_too", "_law_shades", "_law_small", "_law_told", "_law_tooth", "_law_ways",
  "_law_whole", "is_box", "is_fraction", "is_rectangle", "read_blockwork", "read_parts", "rectangle_of"]
def allCons : List String := [
  "MOST_PART", "MOST_RECTANGLES", "MOST_BOX_SIDE", "MOST_DIRECTIONS", "MOST_BRICK_LONG", "NOUGHT", "MOST_SIDE", "MOST_BRICK", "MOST_CELLS", "MOST_KINDS", "MOST_SMALL", "MOST_ROOM",
  "MOST_PLACED", "MOST_STEP", "ORDERS", "ALL", "COLOUR", "LAYER", "LONG", "MOST_LISTED", "SIDE", "FIGURES", "MOST_AT", "MOST_BOX_CELLS",
  "MOST_CLAIMS", "MOST_PERIOD", "MOST_SIGNS", "MOST_SUM", "ONE", "MOST_BRICKS", "MOST_CORNERS", "MOST_MEASURED", "ASKS", "FIGURES_SAID", "LETTERS", "LONGEST_LABEL",
  "MAKES", "MOST_FIGURES", "MOST_THINGS"]
abbrev n_law_box : Nat := 0
abbrev n_law_cells : Nat := 1
abbrev n_law_take : Nat := 2
abbrev n_are_numbers : Nat := 3
abbrev n_is_number : Nat := 4
abbrev n_law : Nat := 5
abbrev n_tupled : Nat := 6
abbrev n_law_same : Nat := 7
abbrev n_is_long : Nat := 8
abbrev n_is_within : Nat := 9
abbrev n_law_of : Nat := 10
abbrev n_law_call : Nat := 11
abbrev n_law_slip : Nat := 12
abbrev n_are_near_parts : Nat := 13
abbrev n_common : Nat := 14
abbrev n_is_fraction_in : Nat := 15
abbrev n_is_near_fraction : Nat := 16
abbrev n_is_near_rectangle : Nat := 17
abbrev n_is_rectangle_in : Nat := 18
abbrev n_is_under : Nat := 19
abbrev n_law_right : Nat := 20
abbrev n_is_box_in : Nat := 21
abbrev n_less : Nat := 22
abbrev n_lowest : Nat := 23
abbrev n_sides_of : Nat := 24
abbrev n_sure_within : Nat := 25
abbrev n_law_mixed : Nat := 26
abbrev n_law_pick : Nat := 27
abbrev n_area_in : Nat := 28
abbrev n_around_in : Nat := 29
abbrev n_greater_of : Nat := 30
abbrev n_lesser_of : Nat := 31
abbrev n_plus : Nat := 32
abbrev n_shared_in : Nat := 33
abbrev n_times : Nat := 34
abbrev n_law_gcd : Nat := 35
abbrev n_flaw_in : Nat := 36
abbrev n_gap_in : Nat := 37
abbrev n_has_point : Nat := 38
abbrev n_in_line : Nat := 39
abbrev n_lies_in : Nat := 40
abbrev n_middle : Nat := 41
abbrev n_total_in : Nat := 42
abbrev n_law_flat : Nat := 43
abbrev n_law_heard : Nat := 44
abbrev n_cut_in : Nat := 45
abbrev n_fills_in : Nat := 46
abbrev n_is_cut_in : Nat := 47
abbrev n_is_whole_in : Nat := 48
abbrev n_sides_in : Nat := 49
abbrev n_sure_box : Nat := 50
abbrev n_law_cut : Nat := 51
abbrev n_law_unmarked : Nat := 52
abbrev n_is_brickwork_in : Nat := 53
abbrev n_is_tile : Nat := 54
abbrev n_sure_parts : Nat := 55
abbrev n_tile_cells : Nat := 56
abbrev n_law_plus : Nat := 57
abbrev n_sure_brick : Nat := 58
abbrev n_sure_rectangle : Nat := 59
abbrev n_tile_size : Nat := 60
abbrev n_law_by : Nat := 61
abbrev n_law_less : Nat := 62
abbrev n_law_lists : Nat := 63
abbrev n_checkered_in : Nat := 64
abbrev n_floor_in : Nat := 65
abbrev n_heap : Nat := 66
abbrev n_is_bar_in : Nat := 67
abbrev n_is_laying_in : Nat := 68
abbrev n_sum_in : Nat := 69
abbrev n_sure_fraction : Nat := 70
abbrev n_wave_in : Nat := 71
abbrev n_law_under : Nat := 72
abbrev n_are_bars_in : Nat := 73
abbrev n_are_kinds : Nat := 74
abbrev n_count_in : Nat := 75
abbrev n_filled_with : Nat := 76
abbrev n_first_free : Nat := 77
abbrev n_has_whole_in : Nat := 78
abbrev n_how_many_layings : Nat := 79
abbrev n_is_turned_in : Nat := 80
abbrev n_laid_on : Nat := 81
abbrev n_next_lays : Nat := 82
abbrev n_parts_of : Nat := 83
abbrev n_room_at : Nat := 84
abbrev n_sure_kinds : Nat := 85
abbrev n_sure_laying : Nat := 86
abbrev n_sure_small : Nat := 87
abbrev n_law_between : Nat := 88
abbrev n_law_sides : Nat := 89
abbrev n_law_split : Nat := 90
abbrev n_law_start : Nat := 91
abbrev n_law_tile_cells : Nat := 92
abbrev n_all_ties : Nat := 93
abbrev n_bar_in : Nat := 94
abbrev n_bars_in : Nat := 95
abbrev n_first_without_in : Nat := 96
abbrev n_other_end : Nat := 97
abbrev n_striped : Nat := 98
abbrev n_sure_floor : Nat := 99
abbrev n_sure_two : Nat := 100
abbrev n_ties_in : Nat := 101
abbrev n_turned_in : Nat := 102
abbrev n_law_is_int : Nat := 103
abbrev n_law_wheel : Nat := 104
abbrev n_has_bars : Nat := 105
abbrev n_has_turned : Nat := 106
abbrev n_has_whole_side : Nat := 107
abbrev n_walk_in : Nat := 108
abbrev n_law_lines : Nat := 109
abbrev n_law_size : Nat := 110
abbrev n_law_wholes : Nat := 111
abbrev n_can_be_laid : Nat := 112
abbrev n_checkered_parts : Nat := 113
abbrev n_count_of : Nat := 114
abbrev n_cut_of : Nat := 115
abbrev n_filled : Nat := 116
abbrev n_is_flaw_in : Nat := 117
abbrev n_is_laying : Nat := 118
abbrev n_is_parted_in : Nat := 119
abbrev n_is_point : Nat := 120
abbrev n_is_walk : Nat := 121
abbrev n_is_walk_in : Nat := 122
abbrev n_laid_in : Nat := 123
abbrev n_laid_with : Nat := 124
abbrev n_lines_through : Nat := 125
abbrev n_order_in : Nat := 126
abbrev n_other_corners : Nat := 127
abbrev n_sure_whole_sided : Nat := 128
abbrev n_turned_laying : Nat := 129
abbrev n_volume : Nat := 130
abbrev n_walk_of : Nat := 131
abbrev n_law_many : Nat := 132
abbrev n_law_step_on : Nat := 133
abbrev n_all_in : Nat := 134
abbrev n_all_layings : Nat := 135
abbrev n_are_unlike : Nat := 136
abbrev n_bars_laying : Nat := 137
abbrev n_brick_of : Nat := 138
abbrev n_brick_paper_in : Nat := 139
abbrev n_brickwork_rows : Nat := 140
abbrev n_by_cuts_in : Nat := 141
abbrev n_claim_holds : Nat := 142
abbrev n_claim_reason : Nat := 143
abbrev n_colour_count : Nat := 144
abbrev n_crossed : Nat := 145
abbrev n_cut_at : Nat := 146
abbrev n_holds_in : Nat := 147
abbrev n_is_apart_by : Nat := 148
abbrev n_is_bar : Nat := 149
abbrev n_is_bars_paper_in : Nat := 150
abbrev n_is_brick_paper_in : Nat := 151
abbrev n_is_brickwork : Nat := 152
abbrev n_is_by_cuts : Nat := 153
abbrev n_is_claim_in : Nat := 154
abbrev n_is_small_box : Nat := 155
abbrev n_is_turned_paper_in : Nat := 156
abbrev n_line_of : Nat := 157
abbrev n_mirrored_in : Nat := 158
abbrev n_moved : Nat := 159
abbrev n_reason_in : Nat := 160
abbrev n_stretched : Nat := 161
abbrev n_stretched_in : Nat := 162
abbrev n_sure_above : Nat := 163
abbrev n_sure_claim : Nat := 164
abbrev n_sure_laid : Nat := 165
abbrev n_sure_point : Nat := 166
abbrev n_told_rows : Nat := 167
abbrev n_transposed_in : Nat := 168
abbrev n_turned_paper_in : Nat := 169
abbrev n_unlike_colours : Nat := 170
abbrev n_unlike_in : Nat := 171
abbrev n_walk_ways : Nat := 172
abbrev n_waves : Nat := 173
abbrev n_ways_apart : Nat := 174
abbrev n_whole_ways : Nat := 175
abbrev n_law_cutting : Nat := 176
abbrev n_law_floor_cells : Nat := 177
abbrev n_law_is_tile : Nat := 178
abbrev n_law_is_work : Nat := 179
abbrev n_law_keeping : Nat := 180
abbrev n_law_next_tiles : Nat := 181
abbrev n_law_spots : Nat := 182
abbrev n_law_sum_of : Nat := 183
abbrev n_are_such_tiles : Nat := 184
abbrev n_are_ways_apart : Nat := 185
abbrev n_as_sum : Nat := 186
abbrev n_bar_of : Nat := 187
abbrev n_block_cells : Nat := 188
abbrev n_cells_in : Nat := 189
abbrev n_checkered : Nat := 190
abbrev n_claim_paper : Nat := 191
abbrev n_first_to_fall : Nat := 192
abbrev n_first_without : Nat := 193
abbrev n_is_block : Nat := 194
abbrev n_is_blockwork_in : Nat := 195
abbrev n_is_claim : Nat := 196
abbrev n_is_claim_reason : Nat := 197
abbrev n_is_floor_work : Nat := 198
abbrev n_is_laid : Nat := 199
abbrev n_is_laid_in : Nat := 200
abbrev n_is_parted : Nat := 201
abbrev n_is_placed : Nat := 202
abbrev n_is_reason_in : Nat := 203
abbrev n_kinds_in : Nat := 204
abbrev n_laid_over : Nat := 205
abbrev n_led_in : Nat := 206
abbrev n_multiple_sides : Nat := 207
abbrev n_multiples_in : Nat := 208
abbrev n_number_in_piece : Nat := 209
abbrev n_over : Nat := 210
abbrev n_paper_in : Nat := 211
abbrev n_parts_area : Nat := 212
abbrev n_rows_in : Nat := 213
abbrev n_sure_corner : Nat := 214
abbrev n_sure_room : Nat := 215
abbrev n_sure_teeth : Nat := 216
abbrev n_sure_text : Nat := 217
abbrev n_sure_units : Nat := 218
abbrev n_tooth : Nat := 219
abbrev n_tooth_row : Nat := 220
abbrev n_tooth_sum : Nat := 221
abbrev n_toothed_box : Nat := 222
abbrev n_toothed_in : Nat := 223
abbrev n_walk_by_units : Nat := 224
abbrev n_law_checkered : Nat := 225
abbrev n_law_colours : Nat := 226
abbrev n_law_common : Nat := 227
abbrev n_law_covers : Nat := 228
abbrev n_law_holds : Nat := 229
abbrev n_law_is_laying : Nat := 230
abbrev n_law_lies : Nat := 231
abbrev n_law_put : Nat := 232
abbrev n_law_ties : Nat := 233
abbrev n_law_turned_fits : Nat := 234
abbrev n_law_wheeled : Nat := 235
abbrev n_law_works : Nat := 236
abbrev n_all_mirrored : Nat := 237
abbrev n_are_bars : Nat := 238
abbrev n_are_bricks : Nat := 239
abbrev n_are_turned : Nat := 240
abbrev n_around : Nat := 241
abbrev n_blocks_in : Nat := 242
abbrev n_brick_corners : Nat := 243
abbrev n_brick_fails : Nat := 244
abbrev n_brick_laying : Nat := 245
abbrev n_brick_sides : Nat := 246
abbrev n_brickwork_text : Nat := 247
abbrev n_cells_of : Nat := 248
abbrev n_colour_counts : Nat := 249
abbrev n_common_unit : Nat := 250
abbrev n_common_unit_in : Nat := 251
abbrev n_corners_in : Nat := 252
abbrev n_fails_in : Nat := 253
abbrev n_fills : Nat := 254
abbrev n_first_no_multiple : Nat := 255
abbrev n_first_uneven : Nat := 256
abbrev n_floors_laid : Nat := 257
abbrev n_fraction : Nat := 258
abbrev n_has_brick : Nat := 259
abbrev n_has_bricks : Nat := 260
abbrev n_is_bars_paper : Nat := 261
abbrev n_is_blockwork : Nat := 262
abbrev n_is_brick_paper : Nat := 263
abbrev n_is_claim_paper : Nat := 264
abbrev n_is_cut : Nat := 265
abbrev n_is_flaw : Nat := 266
abbrev n_is_paper_in : Nat := 267
abbrev n_is_turned_paper : Nat := 268
abbrev n_mirrored : Nat := 269
abbrev n_rectangle_area : Nat := 270
abbrev n_rectangle_sides : Nat := 271
abbrev n_room_colours : Nat := 272
abbrev n_same_in : Nat := 273
abbrev n_shared : Nat := 274
abbrev n_side_parts : Nat := 275
abbrev n_sure_floor_work : Nat := 276
abbrev n_sure_pair : Nat := 277
abbrev n_sure_steps : Nat := 278
abbrev n_ties : Nat := 279
abbrev n_ties_at : Nat := 280
abbrev n_transposed : Nat := 281
abbrev n_unlike_layings : Nat := 282
abbrev n_volume_of : Nat := 283
abbrev n_whole_sides : Nat := 284
abbrev n_law_area : Nat := 285
abbrev n_law_bars_paper : Nat := 286
abbrev n_law_block_cells : Nat := 287
abbrev n_law_brick_paper : Nat := 288
abbrev n_law_claim : Nat := 289
abbrev n_law_cross : Nat := 290
abbrev n_law_cuts : Nat := 291
abbrev n_law_drawn_sizes : Nat := 292
abbrev n_law_falls_apart : Nat := 293
abbrev n_law_fraction : Nat := 294
abbrev n_law_goes : Nat := 295
abbrev n_law_heap : Nat := 296
abbrev n_law_is_paper : Nat := 297
abbrev n_law_is_reason : Nat := 298
abbrev n_law_is_sum : Nat := 299
abbrev n_law_mirror : Nat := 300
abbrev n_law_orders : Nat := 301
abbrev n_law_rest_count : Nat := 302
abbrev n_law_turned_paper : Nat := 303
abbrev n_law_turns_of : Nat := 304
abbrev n_law_wander : Nat := 305
abbrev n_law_ways_to : Nat := 306
abbrev n_answered : Nat := 307
abbrev n_are_corners : Nat := 308
abbrev n_are_corners_in : Nat := 309
abbrev n_bars_paper : Nat := 310
abbrev n_blockwork_text : Nat := 311
abbrev n_brick_count : Nat := 312
abbrev n_brick_paper : Nat := 313
abbrev n_changed : Nat := 314
abbrev n_do_bricks_meet : Nat := 315
abbrev n_flat_numbers : Nat := 316
abbrev n_flat_text : Nat := 317
abbrev n_flaw_of : Nat := 318
abbrev n_is_board : Nat := 319
abbrev n_is_corner : Nat := 320
abbrev n_is_entry : Nat := 321
abbrev n_is_label_in : Nat := 322
abbrev n_is_line : Nat := 323
abbrev n_joined : Nat := 324
abbrev n_labels_in : Nat := 325
abbrev n_laid_down : Nat := 326
abbrev n_least_laying : Nat := 327
abbrev n_made : Nat := 328
abbrev n_numbers_said : Nat := 329
abbrev n_parts_text : Nat := 330
abbrev n_read_brickwork : Nat := 331
abbrev n_shape_of : Nat := 332
abbrev n_shifted : Nat := 333
abbrev n_straight_cut : Nat := 334
abbrev n_told : Nat := 335
abbrev n_told_if : Nat := 336
abbrev n_told_of_numbers : Nat := 337
abbrev n_turned_paper : Nat := 338
abbrev n_yes_or_no : Nat := 339
abbrev n_law_all_of : Nat := 340
abbrev n_law_all_told : Nat := 341
abbrev n_law_apart : Nat := 342
abbrev n_law_are_all_unfit : Nat := 343
abbrev n_law_are_corners : Nat := 344
abbrev n_law_ask : Nat := 345
abbrev n_law_bad_box : Nat := 346
abbrev n_law_bad_fraction : Nat := 347
abbrev n_law_bad_rectangle : Nat := 348
abbrev n_law_bars : Nat := 349
abbrev n_law_below : Nat := 350
abbrev n_law_bent : Nat := 351
abbrev n_law_can : Nat := 352
abbrev n_law_cells_at : Nat := 353
abbrev n_law_divides : Nat := 354
abbrev n_law_drawn_work : Nat := 355
abbrev n_law_fillable : Nat := 356
abbrev n_law_holds_point : Nat := 357
abbrev n_law_hump : Nat := 358
abbrev n_law_is_bar : Nat := 359
abbrev n_law_is_blocks : Nat := 360
abbrev n_law_is_cut : Nat := 361
abbrev n_law_is_flaw : Nat := 362
abbrev n_law_is_no_board : Nat := 363
abbrev n_law_is_nothing : Nat := 364
abbrev n_law_is_out : Nat := 365
abbrev n_law_is_part : Nat := 366
abbrev n_law_is_point : Nat := 367
abbrev n_law_is_times : Nat := 368
abbrev n_law_is_whole : Nat := 369
abbrev n_law_lay : Nat := 370
abbrev n_law_lays : Nat := 371
abbrev n_law_line : Nat := 372
abbrev n_law_make : Nat := 373
abbrev n_law_meet : Nat := 374
abbrev n_law_nearly : Nat := 375
abbrev n_law_parted : Nat := 376
abbrev n_law_rectangle : Nat := 377
abbrev n_law_right_too : Nat := 378
abbrev n_law_shades : Nat := 379
abbrev n_law_small : Nat := 380
abbrev n_law_told : Nat := 381
abbrev n_law_tooth : Nat := 382
abbrev n_law_ways : Nat := 383
abbrev n_law_whole : Nat := 384
abbrev n_is_box : Nat := 385
abbrev n_is_fraction : Nat := 386
abbrev n_is_rectangle : Nat := 387
abbrev n_read_blockwork : Nat := 388
abbrev n_read_parts : Nat := 389
abbrev n_rectangle_of : Nat := 390
abbrev c_MOST_PART : Nat := 0
abbrev c_MOST_RECTANGLES : Nat := 1
abbrev c_MOST_BOX_SIDE : Nat := 2
abbrev c_MOST_DIRECTIONS : Nat := 3
abbrev c_MOST_BRICK_LONG : Nat := 4
abbrev c_NOUGHT : Nat := 5
abbrev c_MOST_SIDE : Nat := 6
abbrev c_MOST_BRICK : Nat := 7
abbrev c_MOST_CELLS : Nat := 8
abbrev c_MOST_KINDS : Nat := 9
abbrev c_MOST_SMALL : Nat := 10
abbrev c_MOST_ROOM : Nat := 11
abbrev c_MOST_PLACED : Nat := 12
abbrev c_MOST_STEP : Nat := 13
abbrev c_ORDERS : Nat := 14
abbrev c_ALL : Nat := 15
abbrev c_COLOUR : Nat := 16
abbrev c_LAYER : Nat := 17
abbrev c_LONG : Nat := 18
abbrev c_MOST_LISTED : Nat := 19
abbrev c_SIDE : Nat := 20
abbrev c_FIGURES : Nat := 21
abbrev c_MOST_AT : Nat := 22
abbrev c_MOST_BOX_CELLS : Nat := 23
abbrev c_MOST_CLAIMS : Nat := 24
abbrev c_MOST_PERIOD : Nat := 25
abbrev c_MOST_SIGNS : Nat := 26
abbrev c_MOST_SUM : Nat := 27
abbrev c_ONE : Nat := 28
abbrev c_MOST_BRICKS : Nat := 29
abbrev c_MOST_CORNERS : Nat := 30
abbrev c_MOST_MEASURED : Nat := 31
abbrev c_ASKS : Nat := 32
abbrev c_FIGURES_SAID : Nat := 33
abbrev c_LETTERS : Nat := 34
abbrev c_LONGEST_LABEL : Nat := 35
abbrev c_MAKES : Nat := 36
abbrev c_MOST_FIGURES : Nat := 37
abbrev c_MOST_THINGS : Nat := 38
end MP
end

section
set_option Elab.async false
set_option linter.all false
set_option maxRecDepth 100000
set_option autoImplicit false
namespace MPS
open PySem PySem.Spec PyProof.Rows L2 MP

abbrev Frg := PySem.W.Frag
abbrev Sl := L2.St
abbrev Cells := List (List PV)
def fnNm (n : Nat) : Str := Str.ofString (allFns.getD n "")
def coNm (n : Nat) : Str := Str.ofString (allCons.getD n "")
/-- what is frozen, the cells' places -/
structure W where
  G : Hp
  cs : List Addr

mutual
inductive Rep (K : Frg) (w : W) : PV → V → Prop
  | non : Rep K w .non .non
  | bl (b : Bool) : Rep K w (.bl b) (.bl b)
  | int (i : Int) : Rep K w (.int i) (.int i)
  | str (x : Str) : Rep K w (.str x) (.str x)
  | tup {a : Addr} {xs : List PV} {vs : List V} : SqT K w.G a vs → Reps K w xs vs → Rep K w (.tup xs) (.ref a)
  | lst {a : Addr} {xs : List PV} {vs : List V} : Rd w.G a (.lst vs) → Reps K w xs vs → Rep K w (.lst xs) (.ref a)
  | st {a : Addr} {xs : List PV} {vs : List V} : SqL K w.G a vs → Reps K w xs vs → Rep K w (.st xs) (.ref a)
  | cel {n : Nat} {a : Addr} : w.cs[n]? = some a → Rep K w (.cel n) (.ref a)
  | fn (f : Nat) : Rep K w (.fn f) (.ref (He.ga K (fnNm f)))
inductive Reps (K : Frg) (w : W) : List PV → List V → Prop
  | nil : Reps K w [] []
  | cons {p : PV} {ps : List PV} {v : V} {vs : List V} : Rep K w p v → Reps K w ps vs → Reps K w (p :: ps) (v :: vs)
end

/-- w' holds all that w holds -/
structure Wle (w w' : W) : Prop where
  G : ∀ a o, w.G a = some o → w'.G a = some o
  cs : w.cs <+: w'.cs
theorem Wle.refl (w : W) : Wle w w := ⟨fun _ _ e => e, List.prefix_rfl⟩
theorem Wle.trans {a b c : W} (h : Wle a b) (k : Wle b c) : Wle a c := ⟨fun x o e => k.G x o (h.G x o e), h.cs.trans k.cs⟩
theorem Rd.up {H H' : Hp} {a : Addr} {u : HO} (h : Rd H a u) (k : ∀ a o, H a = some o → H' a = some o) : Rd H' a u := by
  rcases h with h | ⟨o, h⟩
  · exact .inl (k _ _ h)
  · exact .inr ⟨o, k _ _ h⟩
theorem SqL.up {K : Frg} {H H' : Hp} {a : Addr} {xs : List V} (h : SqL K H a xs) (k : ∀ a o, H a = some o → H' a = some o) : SqL K H' a xs := h.imp (fun z => Rd.up z k) id
theorem SqT.up {K : Frg} {H H' : Hp} {a : Addr} {xs : List V} (h : SqT K H a xs) (k : ∀ a o, H a = some o → H' a = some o) : SqT K H' a xs := h.imp (fun z => Rd.up z k) id
theorem cs_at {l l' : List Addr} (h : l <+: l') {n : Nat} {a : Addr} (e : l[n]? = some a) : l'[n]? = some a := by
  obtain ⟨t, rfl⟩ := h
  rw [List.getElem?_append_left (List.getElem?_eq_some_iff.mp e).1]
  exact e
mutual
theorem Rep.up {K : Frg} {w w' : W} (k : Wle w w') : ∀ {p : PV} {v : V}, Rep K w p v → Rep K w' p v
  | _, _, .non => .non
  | _, _, .bl b => .bl b
  | _, _, .int i => .int i
  | _, _, .str x => .str x
  | _, _, .tup h r => .tup (SqT.up h k.G) (Reps.up k r)
  | _, _, .lst h r => .lst (Rd.up h k.G) (Reps.up k r)
  | _, _, .st h r => .st (SqL.up h k.G) (Reps.up k r)
  | _, _, .cel e => .cel (cs_at k.cs e)
  | _, _, .fn f => .fn f
theorem Reps.up {K : Frg} {w w' : W} (k : Wle w w') : ∀ {p : List PV} {v : List V}, Reps K w p v → Reps K w' p v
  | _, _, .nil => .nil
  | _, _, .cons h r => .cons (Rep.up k h) (Reps.up k r)
end
section
variable {K : Frg} {w : W}
theorem Reps.length : ∀ {ps : List PV} {vs : List V}, Reps K w ps vs → ps.length = vs.length
  | _, _, .nil => rfl
  | _, _, .cons _ r => congrArg Nat.succ r.length
theorem Reps.get : ∀ {ps : List PV} {vs : List V} {i : Nat} {p : PV}, Reps K w ps vs → ps[i]? = some p → ∃ v, vs[i]? = some v ∧ Rep K w p v
  | _, _, _, _, .nil, e => by simp at e
  | _, _, 0, p, .cons h _, e => by simp at e; subst e; exact ⟨_, rfl, h⟩
  | _, _, i + 1, p, .cons _ r, e => by
    obtain ⟨v, h1, h2⟩ := Reps.get (i := i) (p := p) r (by simpa using e)
    exact ⟨v, by simpa using h1, h2⟩
theorem Reps.getV : ∀ {ps : List PV} {vs : List V} {i : Nat} {v : V}, Reps K w ps vs → vs[i]? = some v → ∃ p, ps[i]? = some p ∧ Rep K w p v
  | _, _, _, _, .nil, e => by simp at e
  | _, _, 0, p, .cons h _, e => by simp at e; subst e; exact ⟨_, rfl, h⟩
  | _, _, i + 1, p, .cons _ r, e => by
    obtain ⟨v, h1, h2⟩ := Reps.getV (i := i) (v := p) r (by simpa using e)
    exact ⟨v, by simpa using h1, h2⟩
theorem Reps.append : ∀ {ps qs : List PV} {vs us : List V}, Reps K w ps vs → Reps K w qs us → Reps K w (ps ++ qs) (vs ++ us)
  | _, _, _, _, .nil, s => s
  | _, _, _, _, .cons h r, s => .cons h (Reps.append r s)
theorem Reps.take : ∀ {ps : List PV} {vs : List V} (n : Nat), Reps K w ps vs → Reps K w (ps.take n) (vs.take n)
  | _, _, 0, _ => by simpa using Reps.nil
  | _, _, _ + 1, .nil => .nil
  | _, _, n + 1, .cons h r => .cons h (Reps.take n r)
theorem Reps.drop : ∀ {ps : List PV} {vs : List V} (n : Nat), Reps K w ps vs → Reps K w (ps.drop n) (vs.drop n)
  | _, _, 0, r => r
  | _, _, _ + 1, .nil => .nil
  | _, _, n + 1, .cons _ r => Reps.drop n r
theorem Reps.set {p : PV} {v : V} (h : Rep K w p v) : ∀ {ps : List PV} {vs : List V} (i : Nat), Reps K w ps vs → Reps K w (ps.set i p) (vs.set i v)
  | _, _, _, .nil => .nil
  | _, _, 0, .cons _ r => .cons h r
  | _, _, i + 1, .cons q r => .cons q (Reps.set h i r)
theorem Reps.erase : ∀ {ps : List PV} {vs : List V} (i : Nat), Reps K w ps vs → Reps K w (ps.eraseIdx i) (vs.eraseIdx i)
  | _, _, _, .nil => .nil
  | _, _, 0, .cons _ r => r
  | _, _, i + 1, .cons h r => .cons h (Reps.erase i r)
theorem Reps.dropLast {ps : List PV} {vs : List V} (h : Reps K w ps vs) : Reps K w ps.dropLast vs.dropLast := by
  rw [List.dropLast_eq_take, List.dropLast_eq_take, h.length]
  exact h.take _
theorem Reps.rep {ps : List PV} {vs : List V} (h : Reps K w ps vs) : ∀ k : Nat, Reps K w (List.replicate k ps).flatten (List.replicate k vs).flatten
  | 0 => .nil
  | k + 1 => by
    rw [List.replicate_succ, List.replicate_succ, List.flatten_cons, List.flatten_cons]
    exact h.append (Reps.rep h k)
theorem Reps.nil_iff {ps : List PV} {vs : List V} (h : Reps K w ps vs) : ps.isEmpty = vs.isEmpty := by
  cases h <;> rfl
theorem Reps.intsOf : ∀ {ps : List PV} {vs : List V} {is : List Int}, Reps K w ps vs → intsOf ps = some is → vs = is.map V.int
  | _, _, is, .nil, e => by simp [MP.intsOf] at e; subst e; rfl
  | _, _, is, .cons h r, e => by
    cases h <;> simp [MP.intsOf] at e
    obtain ⟨js, e1, rfl⟩ := e
    rw [List.map_cons, Reps.intsOf r e1]
end

/-- the heap and the cells are so -/
structure HT (K : Frg) (w : W) (H : Hp) (T : Cells) : Prop where
  sub : ∀ a o, w.G a = some o → H a = some o
  len : w.cs.length = T.length
  cel : ∀ (n : Nat) (a : Addr) (xs : List PV), w.cs[n]? = some a → T[n]? = some xs → ∃ vs, H a = some (.lst vs) ∧ Reps K w xs vs
  cG : ∀ a ∈ w.cs, w.G a = none
  nd : w.cs.Nodup
/-- from w and H to w' and H' -/
structure Stp (w : W) (H : Hp) (w' : W) (H' : Hp) : Prop where
  le : Wle w w'
  newG : ∀ a, w'.G a ≠ none → w.G a = none → H a = none
  newC : ∀ a ∈ w'.cs, a ∉ w.cs → H a = none
  keep : ∀ a o, H a = some o → a ∉ w.cs → H' a = some o
  dom : ∀ a o, H a = some o → ∃ o', H' a = some o'
theorem Stp.refl (w : W) (H : Hp) : Stp w H w H := ⟨Wle.refl w, fun _ h k => absurd k h, fun _ h k => absurd h k, fun _ _ e _ => e, fun _ o e => ⟨o, e⟩⟩
theorem Stp.trans {w w1 w2 : W} {H H1 H2 : Hp} (a : Stp w H w1 H1) (b : Stp w1 H1 w2 H2) : Stp w H w2 H2 where
  le := a.le.trans b.le
  newG := fun x h k => by
    cases e : w1.G x with
    | none =>
      have z := b.newG x h e
      cases q : H x with
      | none => rfl
      | some o =>
        obtain ⟨o', q'⟩ := a.dom x o q
        rw [z] at q'; cases q'
    | some o => exact a.newG x (by rw [e]; simp) k
  newC := fun x h k => by
    by_cases e : x ∈ w1.cs
    · exact a.newC x e k
    · have z := b.newC x h e
      cases q : H x with
      | none => rfl
      | some o =>
        obtain ⟨o', q'⟩ := a.dom x o q
        rw [z] at q'; cases q'
  keep := fun x o e k => by
    refine b.keep x o (a.keep x o e k) fun h => ?_
    have z := a.newC x h k
    rw [e] at z; cases z
  dom := fun x o e => let ⟨o', e'⟩ := a.dom x o e; b.dom x o' e'

/-- the names' values -/
structure Er (K : Frg) (H0 : Hp) (w : W) (H : Hp) (σ : Sl) (ρ : MP.Env) : Prop where
  len : σ.length = ρ.length
  va : ∀ (i : Nat) (v : PV), ρ[i]? = some (.va v) → ∃ x, σ[i]? = some (some x) ∧ Rep K w v x
  ow : ∀ (i : Nat) (xs : List PV), ρ[i]? = some (.ow xs) → ∃ a vs, σ[i]? = some (some (.ref a)) ∧ H a = some (.lst vs) ∧ Reps K w xs vs ∧ w.G a = none ∧ a ∉ w.cs ∧ H0 a = none
  dj : ∀ (i j : Nat) (xs ys : List PV) (a : Addr), ρ[i]? = some (.ow xs) → ρ[j]? = some (.ow ys) → σ[i]? = some (some (.ref a)) → σ[j]? = some (some (.ref a)) → i = j
theorem Er.step {K : Frg} {H0 : Hp} {w w' : W} {H H' : Hp} {σ : Sl} {ρ : MP.Env} (h : Er K H0 w H σ ρ) (s : Stp w H w' H') : Er K H0 w' H' σ ρ where
  len := h.len
  va := fun i v e => let ⟨x, h1, h2⟩ := h.va i v e; ⟨x, h1, h2.up s.le⟩
  ow := fun i xs e => by
    obtain ⟨a, vs, h1, h2, h3, h4, h5, h6⟩ := h.ow i xs e
    refine ⟨a, vs, h1, s.keep a _ h2 h5, h3.up s.le, ?_, ?_, h6⟩
    · cases q : w'.G a with
      | none => rfl
      | some o =>
        have z := s.newG a (by rw [q]; simp) h4
        rw [h2] at z; cases z
    · intro z
      have z := s.newC a z h5
      rw [h2] at z; cases z
  dj := h.dj

/-- a value that is looked at: an owned row as it stands -/
def RepT (K : Frg) (w : W) (H : Hp) (p : PV) (v : V) : Prop :=
  Rep K w p v ∨ ∃ a xs vs, p = .lst xs ∧ v = .ref a ∧ H a = some (.lst vs) ∧ Reps K w xs vs ∧ w.G a = none ∧ a ∉ w.cs
theorem RepT.step {K : Frg} {w w' : W} {H H' : Hp} {p : PV} {v : V} (h : RepT K w H p v) (s : Stp w H w' H') : RepT K w' H' p v := by
  rcases h with h | ⟨a, xs, vs, e1, e2, h2, h3, h4, h5⟩
  · exact .inl (h.up s.le)
  · refine .inr ⟨a, xs, vs, e1, e2, s.keep a _ h2 h5, h3.up s.le, ?_, ?_⟩
    · cases q : w'.G a with
      | none => rfl
      | some o =>
        have z := s.newG a (by rw [q]; simp) h4
        rw [h2] at z; cases z
    · intro z
      have z := s.newC a z h5
      rw [h2] at z; cases z
section
variable {K : Frg} {w : W} {H : Hp} {T : Cells}
theorem RepT.lst {xs : List PV} {v : V} (h : RepT K w H (.lst xs) v) (t : HT K w H T) : ∃ a vs, v = .ref a ∧ Rd H a (.lst vs) ∧ Reps K w xs vs := by
  rcases h with h | ⟨a, ys, vs, e1, e2, h2, h3, h4⟩
  · cases h with
    | lst hs hr => exact ⟨_, _, rfl, Rd.up hs t.sub, hr⟩
  · cases e1
    exact ⟨a, vs, e2, .inl h2, h3⟩
theorem RepT.st {xs : List PV} {v : V} (h : RepT K w H (.st xs) v) (t : HT K w H T) : ∃ a vs, v = .ref a ∧ SqL K H a vs ∧ Reps K w xs vs := by
  rcases h with h | ⟨a, ys, vs, e1, _⟩
  · cases h with
    | st hs hr => exact ⟨_, _, rfl, SqL.up hs t.sub, hr⟩
  · cases e1
theorem RepT.tup {xs : List PV} {v : V} (h : RepT K w H (.tup xs) v) (t : HT K w H T) : ∃ a vs, v = .ref a ∧ SqT K H a vs ∧ Reps K w xs vs := by
  rcases h with h | ⟨a, ys, vs, e1, _⟩
  · cases h with
    | tup hs hr => exact ⟨_, _, rfl, SqT.up hs t.sub, hr⟩
  · cases e1
theorem RepT.int {i : Int} {v : V} (h : RepT K w H (.int i) v) : v = .int i := by
  rcases h with h | ⟨a, ys, vs, e1, _⟩
  · cases h; rfl
  · cases e1
theorem RepT.str {i : Str} {v : V} (h : RepT K w H (.str i) v) : v = .str i := by
  rcases h with h | ⟨a, ys, vs, e1, _⟩
  · cases h; rfl
  · cases e1
theorem RepT.bl {i : Bool} {v : V} (h : RepT K w H (.bl i) v) : v = .bl i := by
  rcases h with h | ⟨a, ys, vs, e1, _⟩
  · cases h; rfl
  · cases e1
theorem RepT.non {v : V} (h : RepT K w H .non v) : v = .non := by
  rcases h with h | ⟨a, ys, vs, e1, _⟩
  · cases h; rfl
  · cases e1

/-- a new object of ours at p, frozen -/
def W.add (w : W) (p : Addr) (o : HO) : W := ⟨upd w.G p o, w.cs⟩
theorem HT.fresh {p : Addr} (t : HT K w H T) (hp : H p = none) : w.G p = none := by
  cases e : w.G p with
  | none => rfl
  | some o => rw [t.sub p o e] at hp; cases hp
theorem HT.ncs {p : Addr} (t : HT K w H T) (hp : H p = none) : p ∉ w.cs := by
  intro h
  obtain ⟨n, hn, e⟩ := List.mem_iff_getElem.mp h
  have e' : w.cs[n]? = some p := by rw [List.getElem?_eq_getElem hn, e]
  obtain ⟨xs, ex⟩ : ∃ xs, T[n]? = some xs := ⟨_, List.getElem?_eq_getElem (by rw [← t.len]; exact hn)⟩
  obtain ⟨vs, h1, _⟩ := t.cel n p xs e' ex
  rw [hp] at h1; cases h1
theorem Wle.add {p : Addr} {o : HO} (h : w.G p = none) : Wle w (w.add p o) := ⟨fun a u e => by
  show upd w.G p o a = some u
  rw [upd_ne (ne_of_none e h)]; exact e, List.prefix_rfl⟩
/-- a new object is laid, not frozen -/
theorem HT.lay {p : Addr} {o : HO} (t : HT K w H T) (hp : H p = none) : HT K w (upd H p o) T where
  sub := fun a u e => by rw [upd_ne (ne_of_none (t.sub a u e) hp)]; exact t.sub a u e
  len := t.len
  cel := fun n a xs e1 e2 => by
    obtain ⟨vs, h1, h2⟩ := t.cel n a xs e1 e2
    exact ⟨vs, by rw [upd_ne (ne_of_none h1 hp)]; exact h1, h2⟩
  cG := t.cG
  nd := t.nd
theorem Stp.lay {p : Addr} {o : HO} (hp : H p = none) : Stp w H w (upd H p o) :=
  ⟨Wle.refl w, fun _ h k => absurd k h, fun _ h k => absurd h k, fun a u e _ => by rw [upd_ne (ne_of_none e hp)]; exact e, fun a u e => ⟨u, by rw [upd_ne (ne_of_none e hp)]; exact e⟩⟩
/-- what stands in the heap is frozen -/
theorem HT.frz {p : Addr} {o : HO} (t : HT K w H T) (hp : H p = some o) (hg : w.G p = none) (hc : p ∉ w.cs) : HT K (w.add p o) H T where
  sub := fun a u e => by
    by_cases h : a = p
    · subst h
      have e : upd w.G a o a = some u := e
      rw [upd_same] at e; cases e; exact hp
    · have e : upd w.G p o a = some u := e
      rw [upd_ne h] at e; exact t.sub a u e
  len := t.len
  cel := fun n a xs e1 e2 => by
    obtain ⟨vs, h1, h2⟩ := t.cel n a xs e1 e2
    exact ⟨vs, h1, h2.up (Wle.add hg)⟩
  cG := fun a ha => by
    show upd w.G p o a = none
    have hap : a ≠ p := fun e => by subst e; exact hc ha
    rw [upd_ne hap]; exact t.cG a ha
  nd := t.nd
/-- a new object, frozen at once -/
theorem HT.add {p : Addr} {o : HO} (t : HT K w H T) (hp : H p = none) : HT K (w.add p o) (upd H p o) T :=
  (t.lay hp).frz upd_same (t.fresh hp) (t.ncs hp)
theorem Stp.add {p : Addr} {o : HO} (t : HT K w H T) (hp : H p = none) : Stp w H (w.add p o) (upd H p o) where
  le := Wle.add (t.fresh hp)
  newG := fun a h k => by
    by_cases e : a = p
    · subst e; exact hp
    · have h : upd w.G p o a ≠ none := h
      rw [upd_ne e] at h; exact absurd k h
  newC := fun _ h k => absurd h k
  keep := fun a u e _ => by rw [upd_ne (ne_of_none e hp)]; exact e
  dom := fun a u e => ⟨u, by rw [upd_ne (ne_of_none e hp)]; exact e⟩
theorem Rep.newT {p : Addr} {xs : List PV} {vs : List V} (t : HT K w H T) (hp : H p = none) (r : Reps K w xs vs) : Rep K (w.add p (.tup vs)) (.tup xs) (.ref p) :=
  .tup (SqT.of upd_same) (r.up (Wle.add (t.fresh hp)))
theorem Rep.newL {p : Addr} {xs : List PV} {vs : List V} (t : HT K w H T) (hp : H p = none) (r : Reps K w xs vs) : Rep K (w.add p (.lst vs)) (.lst xs) (.ref p) :=
  .lst (.inl upd_same) (r.up (Wle.add (t.fresh hp)))
end
end MPS
end

section
set_option Elab.async false
set_option linter.all false
set_option maxRecDepth 100000
set_option autoImplicit false
namespace MPS
open PySem PySem.Spec PyProof.Rows L2 MP

theorem line_eq : MP.line = sizeLine := by rw [sizeLine_eq]; rfl
/-! ### data -/
mutual
def toD : PV → PyData
  | .bl b => .bool b
  | .int i => .int i
  | .str x => .str x
  | .tup xs => .tuple (toDs xs)
  | .lst xs => .list (toDs xs)
  | _ => .none
def toDs : List PV → List PyData
  | [] => []
  | x :: xs => toD x :: toDs xs
end
theorem toDs_map : ∀ xs : List PV, toDs xs = xs.map toD
  | [] => rfl
  | x :: xs => by rw [toDs, toDs_map xs]; rfl
theorem pln_all {n : Nat} : ∀ {xs : List PV}, xs.all (pln n) = true → (∀ v, pln n v = true → (toD v).canLay0 = true ∧ (toD v).depth ≤ n) → PyData.canLayAll0 (toDs xs) = true ∧ PyData.depthAll (toDs xs) ≤ n
  | [], _, _ => ⟨by rw [toDs, PyData.canLayAll0], by rw [toDs, PyData.depthAll]; exact Nat.zero_le _⟩
  | x :: xs, h, k => by
    rw [List.all_cons, Bool.and_eq_true] at h
    obtain ⟨h1, h2⟩ := k x h.1
    obtain ⟨h3, h4⟩ := pln_all h.2 k
    rw [toDs, PyData.canLayAll0, PyData.depthAll, h1, h3]
    exact ⟨rfl, by omega⟩
theorem pln_ok : ∀ (n : Nat) (v : PV), pln n v = true → (toD v).canLay0 = true ∧ (toD v).depth ≤ n
  | 0, v, h => by
    cases v <;> first
      | (simp only [toD, PyData.canLay0, PyData.depth]; exact ⟨trivial, Nat.le_refl _⟩)
      | (simp only [pln] at h; exact absurd h Bool.false_ne_true)
      | (simp only [pln] at h; simp only [toD, PyData.canLay0, PyData.depth]; exact ⟨h, Nat.le_refl _⟩)
  | n + 1, v, h => by
    cases v with
    | tup xs =>
      obtain ⟨h1, h2⟩ := pln_all (n := n) (xs := xs) (by simpa only [pln] using h) (pln_ok n)
      simp only [toD, PyData.canLay0, PyData.depth]
      exact ⟨h1, by omega⟩
    | lst xs =>
      obtain ⟨h1, h2⟩ := pln_all (n := n) (xs := xs) (by simpa only [pln] using h) (pln_ok n)
      simp only [toD, PyData.canLay0, PyData.depth]
      exact ⟨h1, by omega⟩
    | _ => first
      | (simp only [toD, PyData.canLay0, PyData.depth]; exact ⟨trivial, Nat.zero_le _⟩)
      | (simp only [pln] at h; exact absurd h Bool.false_ne_true)
      | (simp only [pln] at h; simp only [toD, PyData.canLay0, PyData.depth]; exact ⟨h, Nat.zero_le _⟩)
theorem pln_shaped {v : PV} (h : pln 40 v = true) : SeqAt.shaped (toD v) = true := by
  obtain ⟨h1, h2⟩ := pln_ok 40 v h
  unfold SeqAt.shaped
  rw [h1, decide_eq_true (show (toD v).depth ≤ 64 by omega)]; rfl
/-- a pln value is one of the data -/
theorem pln_cases : ∀ (n : Nat) (v : PV), pln n v = true → v = .non ∨ (∃ b, v = .bl b) ∨ (∃ i, v = .int i) ∨ (∃ x, v = .str x) ∨ (∃ m xs, n = m + 1 ∧ (v = .tup xs ∨ v = .lst xs) ∧ xs.all (pln m) = true)
  | 0, v, h => by cases v <;> first | (simp only [pln] at h; exact absurd h Bool.false_ne_true) | simp
  | n + 1, v, h => by
    cases v with
    | tup xs => exact .inr (.inr (.inr (.inr ⟨n, xs, rfl, .inl rfl, by simpa only [pln] using h⟩)))
    | lst xs => exact .inr (.inr (.inr (.inr ⟨n, xs, rfl, .inr rfl, by simpa only [pln] using h⟩)))
    | _ => first | (simp only [pln] at h; exact absurd h Bool.false_ne_true) | simp
section
variable {K : Frg} {w : W} {H : Hp} {T : Cells}
theorem dp_reps {n : Nat} (k : ∀ v x, pln n v = true → Rep K w v x → Dp K H x (toD v)) : ∀ {xs : List PV} {vs : List V}, xs.all (pln n) = true → Reps K w xs vs → DpAll K H vs (toDs xs)
  | _, _, _, .nil => by rw [toDs]; exact .nil
  | _, _, h, .cons r rs => by
    rw [List.all_cons, Bool.and_eq_true] at h
    rw [toDs]
    exact .cons (k _ _ h.1 r) (dp_reps k h.2 rs)
theorem dp_rep (t : HT K w H T) : ∀ (n : Nat) (v : PV) (x : V), pln n v = true → Rep K w v x → Dp K H x (toD v) := by
  intro n
  induction n with
  | zero =>
    intro v x h r
    rcases pln_cases 0 v h with rfl | ⟨b, rfl⟩ | ⟨i, rfl⟩ | ⟨y, rfl⟩ | ⟨m, xs, e, _⟩
    · cases r; exact .non
    · cases r; exact .bl b
    · cases r; exact .int i
    · cases r; exact .str y
    · omega
  | succ n ih =>
    intro v x h r
    rcases pln_cases _ v h with rfl | ⟨b, rfl⟩ | ⟨i, rfl⟩ | ⟨y, rfl⟩ | ⟨m, xs, e, e2, ha⟩
    · cases r; exact .non
    · cases r; exact .bl b
    · cases r; exact .int i
    · cases r; exact .str y
    · obtain rfl : n = m := by omega
      rcases e2 with rfl | rfl
      · cases r with
        | tup hs hr => rw [toD]; exact .tup (SqT.up hs t.sub) (dp_reps ih ha hr)
      · cases r with
        | lst hs hr => rw [toD]; exact .lst (.inl (Rd.up hs t.sub)) (dp_reps ih ha hr)
theorem dp_repT (t : HT K w H T) {n : Nat} {v : PV} {x : V} (h : pln n v = true) (r : RepT K w H v x) : Dp K H x (toD v) := by
  rcases r with r | ⟨a, xs, vs, rfl, rfl, h1, h2, _⟩
  · exact dp_rep t n v x h r
  · rcases pln_cases _ _ h with e | ⟨b, e⟩ | ⟨i, e⟩ | ⟨y, e⟩ | ⟨m, ys, e, e2, ha⟩
    · cases e
    · cases e
    · cases e
    · cases e
    · rcases e2 with e2 | e2
      · cases e2
      · cases e2
        rw [toD]
        exact .lst (SqL.of h1) (dp_reps (dp_rep t m) ha h2)
end
/-- == of data is eqv -/
theorem eqv_ok : ∀ (n m : Nat) (a b : PV), pln n a = true → pln m b = true → eqv a b = PyData.eqv (toD a) (toD b) := by
  have all : ∀ (n m : Nat), (∀ a b, pln n a = true → pln m b = true → eqv a b = PyData.eqv (toD a) (toD b)) → ∀ xs ys : List PV, xs.all (pln n) = true → ys.all (pln m) = true → eqvs xs ys = PyData.eqvAll (toDs xs) (toDs ys) := by
    intro n m k xs
    induction xs with
    | nil =>
      intro ys _ _
      cases ys with
      | nil => simp only [eqvs, toDs, PyData.eqvAll]
      | cons y ys => simp only [eqvs, toDs, PyData.eqvAll]
    | cons x xs ih =>
      intro ys h1 h2
      cases ys with
      | nil => simp only [eqvs, toDs, PyData.eqvAll]
      | cons y ys =>
        rw [List.all_cons, Bool.and_eq_true] at h1 h2
        simp only [eqvs, toDs, PyData.eqvAll]
        rw [k x y h1.1 h2.1, ih ys h1.2 h2.2]
  intro n
  induction n with
  | zero =>
    intro m a b ha hb
    rcases pln_cases 0 a ha with rfl | ⟨b', rfl⟩ | ⟨i, rfl⟩ | ⟨y, rfl⟩ | ⟨m', xs, e, _⟩
    · rcases pln_cases m b hb with rfl | ⟨b', rfl⟩ | ⟨i, rfl⟩ | ⟨y, rfl⟩ | ⟨m', xs, e, rfl | rfl, _⟩ <;> simp only [eqv, toD, PyData.eqv]
    · rcases pln_cases m b hb with rfl | ⟨b', rfl⟩ | ⟨i, rfl⟩ | ⟨y, rfl⟩ | ⟨m', xs, e, rfl | rfl, _⟩ <;> simp only [eqv, toD, PyData.eqv]
    · rcases pln_cases m b hb with rfl | ⟨b', rfl⟩ | ⟨i, rfl⟩ | ⟨y, rfl⟩ | ⟨m', xs, e, rfl | rfl, _⟩ <;> simp only [eqv, toD, PyData.eqv]
    · rcases pln_cases m b hb with rfl | ⟨b', rfl⟩ | ⟨i, rfl⟩ | ⟨y, rfl⟩ | ⟨m', xs, e, rfl | rfl, _⟩ <;> simp only [eqv, toD, PyData.eqv]
    · omega
  | succ n ih =>
    intro m a b ha hb
    rcases pln_cases _ a ha with rfl | ⟨b', rfl⟩ | ⟨i, rfl⟩ | ⟨y, rfl⟩ | ⟨n', xs, e, e2, hx⟩
    · rcases pln_cases m b hb with rfl | ⟨b', rfl⟩ | ⟨i, rfl⟩ | ⟨y, rfl⟩ | ⟨m', xs, e, rfl | rfl, _⟩ <;> simp only [eqv, toD, PyData.eqv]
    · rcases pln_cases m b hb with rfl | ⟨b', rfl⟩ | ⟨i, rfl⟩ | ⟨y, rfl⟩ | ⟨m', xs, e, rfl | rfl, _⟩ <;> simp only [eqv, toD, PyData.eqv]
    · rcases pln_cases m b hb with rfl | ⟨b', rfl⟩ | ⟨i, rfl⟩ | ⟨y, rfl⟩ | ⟨m', xs, e, rfl | rfl, _⟩ <;> simp only [eqv, toD, PyData.eqv]
    · rcases pln_cases m b hb with rfl | ⟨b', rfl⟩ | ⟨i, rfl⟩ | ⟨y, rfl⟩ | ⟨m', xs, e, rfl | rfl, _⟩ <;> simp only [eqv, toD, PyData.eqv]
    · obtain rfl : n = n' := by omega
      rcases pln_cases m b hb with rfl | ⟨b', rfl⟩ | ⟨i, rfl⟩ | ⟨y, rfl⟩ | ⟨m', ys, rfl, e3, hy⟩
      · rcases e2 with rfl | rfl <;> simp only [eqv, toD, PyData.eqv]
      · rcases e2 with rfl | rfl <;> simp only [eqv, toD, PyData.eqv]
      · rcases e2 with rfl | rfl <;> simp only [eqv, toD, PyData.eqv]
      · rcases e2 with rfl | rfl <;> simp only [eqv, toD, PyData.eqv]
      · have z := all n m' (ih m') xs ys hx hy
        rcases e2 with rfl | rfl <;> rcases e3 with rfl | rfl <;> simp only [eqv, toD, PyData.eqv] <;> exact z

/-! ### what an operation asks -/
/-- the answer of an operation, its end -/
def Done (K : Frg) (w : W) (H : Hp) (T : Cells) (r : Option PV) (Q : VK) : Prop := match r with
  | some p => ∀ z w' H', Stp w H w' H' → HT K w' H' T → Rep K w' p z → Q z H'
  | none => False
theorem Done.here {K : Frg} {w : W} {H : Hp} {T : Cells} {p : PV} {z : V} {Q : VK} (h : Done K w H T (some p) Q) (t : HT K w H T) (r : Rep K w p z) : Q z H := h z w H (Stp.refl w H) t r
theorem Done.newT {K : Frg} {w : W} {H : Hp} {T : Cells} {xs : List PV} {vs : List V} {q : Addr} {Q : VK} (h : Done K w H T (some (.tup xs)) Q) (t : HT K w H T) (r : Reps K w xs vs) (hp : H q = none) : Q (.ref q) (upd H q (.tup vs)) :=
  h _ _ _ (Stp.add t hp) (t.add hp) (Rep.newT t hp r)
theorem Done.newL {K : Frg} {w : W} {H : Hp} {T : Cells} {xs : List PV} {vs : List V} {q : Addr} {Q : VK} (h : Done K w H T (some (.lst xs)) Q) (t : HT K w H T) (r : Reps K w xs vs) (hp : H q = none) : Q (.ref q) (upd H q (.lst vs)) :=
  h _ _ _ (Stp.add t hp) (t.add hp) (Rep.newL t hp r)
def r2 (K : Frg) (g : PV → PV → Option PV) : R2 := fun x y H Q => ∃ (w : W) (T : Cells) (v u : PV), HT K w H T ∧ RepT K w H v x ∧ RepT K w H u y ∧ Done K w H T (g v u) Q

theorem OpR.imp {X : Cx} {f : Value → Value → Sem Value} {r r' : R2} (h : OpR X f r) (k : ∀ x y H Q, r' x y H Q → r x y H Q) : OpR X f r' := fun pins s σ H x y v u Q I rx ry q => h pins s σ H x y v u Q I rx ry (k _ _ _ _ q)

section
variable {X : Cx} {pins : List (Addr × Obj)} {σ : Sl} {H : Hp} {s : Shared} {l : Addr} {xs : List V}
theorem lstR (I : Inv X pins σ H s) (h : Rd H l (.lst xs)) : xs.length ≤ sizeLine ∧ ∃ (its : List Value) (n : Nat), Vals xs its ∧ xs.length = its.length ∧ s.heap.get? l = some { cls := .type "list", data := .seq its.toArray n } := by
  obtain ⟨z, its, n, r, e⟩ := h.ok I.hok
  exact ⟨z, its, n, r, r.length, e⟩
end
theorem mulOk_ok {i j : Int} (h : mulOk i j = true) : IntMulOk i j := by
  unfold mulOk at h
  simp only [Bool.or_eq_true, Bool.and_eq_true, decide_eq_true_eq] at h
  rcases h with (h | h) | ⟨h1, h2⟩
  · exact .of_left (intBits_le_64 (by omega) (by omega))
  · exact .of_right (intBits_le_64 (by omega) (by omega))
  · have b : ∀ x : Int, x.natAbs < 2 ^ 100000 → x.natAbs.log2 < 100000 := fun x hx => PySem.Flt.log2_lt_of (by decide) hx
    have h3 := b i h1
    have h4 := b j h2
    exact CMulW.ok (show i.natAbs.log2 + j.natAbs.log2 < 1000000 by omega)
theorem divOk_ok {i j : Int} (h : divOk j = true) : j ≠ 0 ∧ Builtin.divisionGoesByPylong i j = false := by
  unfold divOk at h
  simp only [Bool.and_eq_true, decide_eq_true_eq] at h
  exact ⟨h.1, PyProof.noPylong_of_log2 (Nat.lt_trans (PySem.Flt.log2_lt_of (by decide) h.2) (by decide))⟩

section
variable {X : Cx}
theorem opB_add : OpR X (binaryOp .Add) (r2 X.K (binop .add)) := by
  intro pins s σ H x y v u Q I rx ry ⟨w, T, p, q, t, h1, h2, hd⟩
  cases p <;> cases q <;> first
    | exact False.elim hd
    | skip
  case int.int i j =>
    cases h1.int; cases h2.int
    exact op_add pins s σ H _ _ v u Q I rx ry ⟨i, j, rfl, rfl, hd.here t (.int _)⟩
  case str.str i j =>
    cases h1.str; cases h2.str
    simp only [binop] at hd
    split at hd
    · rename_i hl
      rw [line_eq] at hl
      exact op_add_str pins s σ H _ _ v u Q I rx ry ⟨i, j, rfl, rfl, hl, hd.here t (.str _)⟩
    · exact False.elim hd
  case tup.tup xs ys =>
    obtain ⟨a, vs, rfl, ha, ra⟩ := h1.tup t
    obtain ⟨b, us, rfl, hb, rb⟩ := h2.tup t
    simp only [binop] at hd
    split at hd
    · rename_i hl
      rw [line_eq, ra.length, rb.length] at hl
      refine op_catA pins s σ H _ _ v u Q I rx ry ⟨a, b, vs, us, rfl, rfl, ha, hb, hl, fun e => ?_, fun _ e => ?_, fun _ _ p hp => ?_⟩
      · subst e
        cases ra
        rcases h2 with h2 | ⟨_, _, _, e, _⟩
        · exact hd.here t h2
        · cases e
      · subst e
        cases rb
        rw [List.append_nil] at hd
        rcases h1 with h1 | ⟨_, _, _, e, _⟩
        · exact hd.here t h1
        · cases e
      · exact hd.newT t (ra.append rb) hp
    · exact False.elim hd
  case lst.lst xs ys =>
    obtain ⟨a, vs, rfl, ha, ra⟩ := h1.lst t
    obtain ⟨b, us, rfl, hb, rb⟩ := h2.lst t
    simp only [binop] at hd
    split at hd
    · rename_i hl
      rw [line_eq, ra.length, rb.length] at hl
      cases rx
      cases ry
      obtain ⟨z, its, n, r, hl1, e⟩ := lstR I ha
      obtain ⟨z2, its2, n2, r2, hl2, e2⟩ := lstR I hb
      refine PySem.P.add_list e e2 ?_ (by rw [List.size_toArray, List.size_toArray]; omega)
      have ea : its.toArray ++ its2.toArray = (its ++ its2).toArray := by simp
      rw [ea]
      exact ⟨.ref _, _, I.lnew (t' := s.toks) (r.append r2) (by rw [List.length_append]; omega), rfl, hd.newL t (ra.append rb) I.fresh⟩
    · exact False.elim hd
theorem opB_sub : OpR X (binaryOp .Sub) (r2 X.K (binop .sub)) := by
  intro pins s σ H x y v u Q I rx ry ⟨w, T, p, q, t, h1, h2, hd⟩
  cases p <;> cases q <;> first
    | exact False.elim hd
    | skip
  case int.int i j =>
    cases h1.int; cases h2.int
    exact op_sub pins s σ H _ _ v u Q I rx ry ⟨i, j, rfl, rfl, hd.here t (.int _)⟩
theorem opB_fdiv : OpR X (binaryOp .FloorDiv) (r2 X.K (binop .fdiv)) := by
  intro pins s σ H x y v u Q I rx ry ⟨w, T, p, q, t, h1, h2, hd⟩
  cases p <;> cases q <;> first
    | exact False.elim hd
    | skip
  case int.int i j =>
    cases h1.int; cases h2.int
    simp only [binop] at hd
    split at hd
    · rename_i hl
      obtain ⟨t1, rfl⟩ := rx
      obtain ⟨t2, rfl⟩ := ry
      obtain ⟨h0, h3⟩ := divOk_ok (i := i) hl
      exact floordiv_int h0 ⟨.int _, H, I.tok _, ⟨_, rfl⟩, hd.here t (.int _)⟩ (.inl h3)
    · exact False.elim hd
theorem opB_mod : OpR X (binaryOp .Mod) (r2 X.K (binop .mod)) := by
  intro pins s σ H x y v u Q I rx ry ⟨w, T, p, q, t, h1, h2, hd⟩
  cases p <;> cases q <;> first
    | exact False.elim hd
    | skip
  case int.int i j =>
    cases h1.int; cases h2.int
    simp only [binop] at hd
    split at hd
    · rename_i hl
      exact op_modN pins s σ H _ _ v u Q I rx ry ⟨i, j, rfl, rfl, hl, hd.here t (.int _)⟩
    · exact False.elim hd
theorem opB_pow : OpR X (binaryOp .Pow) (r2 X.K (binop .pow)) := by
  intro pins s σ H x y v u Q I rx ry ⟨w, T, p, q, t, h1, h2, hd⟩
  cases p <;> cases q <;> first
    | exact False.elim hd
    | skip
  case int.int i j =>
    cases h1.int; cases h2.int
    simp only [binop] at hd
    split at hd
    · rename_i hl
      exact op_pow pins s σ H _ _ v u Q I rx ry ⟨i, j, rfl, rfl, ⟨hl.1, by omega, hl.2.2⟩, hd.here t (.int _)⟩
    · exact False.elim hd
theorem rep_list {pins : List (Addr × Obj)} {s : Shared} {σ : Sl} {H : Hp} {l : Addr} {k : Int} {xs : List V} {t : Tok} {Q : VK} (I : Inv X pins σ H s) (hH : Rd H l (.lst xs)) (h1 : -(2 ^ 63) ≤ k) (h2 : k < 2 ^ 63)
    (hz : xs.length * k.toNat ≤ sizeLine) (q : ∀ p, H p = none → Q (.ref p) (upd H p (.lst (List.replicate k.toNat xs).flatten))) : wpAny (model X.prog X.w) X.A (binaryOp .Mult (.ref l) (.int k t)) (EP X pins σ Q) X.xe s := by
  obtain ⟨z, its, n, r, hl, e⟩ := lstR I hH
  have hlen : its.toArray.size * k.toNat ≤ sizeLine := by rw [List.size_toArray, ← hl]; exact hz
  have hcap : ¬ its.toArray.size * k.toNat > (2 ^ 63 - 1) / 8 := by
    have : (sizeLine : Nat) ≤ (2 ^ 63 - 1) / 8 := by decide
    omega
  have hfit : ¬ (!Builtin.List.listFitsIndex k) = true := by
    rw [fitsIndex_both h1 h2]
    exact Bool.false_ne_true
  have hlong : ¬ Builtin.List.listTooLong (its.toArray.size * k.toNat) = true := by
    rw [notLongL hlen]
    exact Bool.false_ne_true
  have hnew : List.foldl (fun x1 x2 => x1 ++ x2) #[] (List.replicate (if its.toArray.isEmpty = true then 0 else k.toNat) its.toArray) = (List.replicate k.toNat its).flatten.toArray := by
    have f0 : ∀ m : Nat, List.foldl (fun x1 x2 => x1 ++ x2) #[] (List.replicate m its.toArray) = (List.replicate m its).flatten.toArray := fun m => by
      have := foldl_rep its m []
      rw [List.nil_append] at this
      exact this
    rw [f0]
    cases its with
    | nil => simp
    | cons a r' => rw [if_neg (by simp)]
  refine wpAny_binaryOp_repeat_ref (T := "list") (U := "int") (by decide) ⟨_, e, rfl⟩ (fun s' => typeIs_int s' k t) noFill_list_mul F.fills_int_mul F.slot_int_rmul repeat_list F.slot_int_index.lookup
    (call_meets F.slot_int_rmul (typeIs_int s k t) F.entry_int_rmul (F.args_int_rmul_2 _ _) (int___rmul___int_list k t l its.toArray n)
      ⟨e, rfl, ⟨_, e, rfl⟩, call_meets F.slot_list_mul ⟨_, e, rfl⟩ F.entry_list_mul (F.args_list_mul_2 _ _) (AutoListH.list___mul___list_int_3 l its.toArray n k t hfit hcap hlong) ⟨e, ?_⟩⟩)
  rw [hnew]
  exact ⟨.ref _, _, I.lnew (t' := s.toks) (r.rep k.toNat) (by rw [PyProof.Rows.lm_len_rep_flat, Nat.mul_comm]; exact hz), rfl, q _ I.fresh⟩
theorem rep_tup {pins : List (Addr × Obj)} {s : Shared} {σ : Sl} {H : Hp} {l : Addr} {k : Int} {xs : List V} {t : Tok} {Q : VK} (I : Inv X pins σ H s) (hH : SqT X.K H l xs) (h0 : xs ≠ []) (h1 : 2 ≤ k) (h2 : k ≤ 1000)
    (hz : xs.length ≤ 1000) (q : ∀ p, H p = none → Q (.ref p) (upd H p (.tup (List.replicate k.toNat xs).flatten))) : wpAny (model X.prog X.w) X.A (binaryOp .Mult (.ref l) (.int k t)) (EP X pins σ Q) X.xe s :=
  op_repT pins s σ H (.ref l) (.int k) _ _ Q I rfl ⟨t, rfl⟩ ⟨l, k, xs, rfl, rfl, hH, h0, h1, h2, hz, q⟩
/-- a tuple once: itself -/
theorem tup_once (l : Addr) (its : Array Value) (n : Nat) (dd : Option Addr) (sl : Array (Option Value)) (u : Tok) :
    Meets (Builtin.«tuple.__mul__» ⟨[.ref l, .int 1 u], []⟩) (fun _ R s => s.heap.get? l = some { cls := .type "tuple", dict := dd, data := .seq its n, slots := sl } ∧ R (.ok (.ret (Value.ref l))) s) :=
  .of_wp fun prog w A R s h => by
    obtain ⟨hp, g, d, tk, os⟩ := s
    obtain ⟨hl, h⟩ := h
    have f1 := AutoSeq1.idx_int
    wp_walk using wpAny_loadPart' hl
    exact ⟨_, rfl, h⟩
theorem rep_tup1 {pins : List (Addr × Obj)} {s : Shared} {σ : Sl} {H : Hp} {l : Addr} {xs : List V} {t : Tok} {Q : VK} (I : Inv X pins σ H s) (hH : SqT X.K H l xs) (q : Q (.ref l) H) : wpAny (model X.prog X.w) X.A (binaryOp .Mult (.ref l) (.int 1 t)) (EP X pins σ Q) X.xe s := by
  obtain ⟨its, r, ⟨⟨cls, dd, data, sl⟩, ho, hc, n, hd⟩, hs⟩ := I.tuple hH
  simp only at hc hd
  subst hc hd
  refine wpAny_binaryOp_repeat_ref (T := "tuple") (U := "int") (by decide) ⟨_, ho, rfl⟩ (fun s' => typeIs_int s' 1 t) noFill_tuple_mul F.fills_int_mul F.slot_int_rmul repeat_tuple F.slot_int_index.lookup
    (call_meets F.slot_int_rmul (typeIs_int s 1 t) F.entry_int_rmul (F.args_int_rmul_2 _ _) (int_rmul_tuple 1 t l its.toArray n dd sl)
      ⟨ho, rfl, ⟨_, ho, rfl⟩, call_meets F.slot_tuple_mul ⟨_, ho, rfl⟩ F.entry_tuple_mul (F.args_tuple_mul_2 _ _) (tup_once l its.toArray n dd sl t) ⟨ho, ?_⟩⟩)
  exact ⟨.ref l, H, I, rfl, q⟩
theorem opB_mul : OpR X (binaryOp .Mult) (r2 X.K (binop .mul)) := by
  intro pins s σ H x y v u Q I rx ry ⟨w, T, p, q, t, h1, h2, hd⟩
  cases p <;> cases q <;> first
    | exact False.elim hd
    | skip
  case int.int i j =>
    cases h1.int; cases h2.int
    simp only [binop] at hd
    split at hd
    · rename_i hl
      obtain ⟨t1, rfl⟩ := rx
      obtain ⟨t2, rfl⟩ := ry
      exact mul_int ⟨.int _, H, I.tok _, ⟨_, rfl⟩, hd.here t (.int _)⟩ (mulOk_ok hl)
    · exact False.elim hd
  case lst.int xs k =>
    obtain ⟨a, vs, rfl, ha, ra⟩ := h1.lst t
    cases h2.int
    simp only [binop] at hd
    split at hd
    · rename_i hl
      rw [line_eq, ra.length] at hl
      cases rx
      obtain ⟨t2, rfl⟩ := ry
      exact rep_list I ha (by omega) (by omega) hl.2.2 fun p hp => hd.newL t (ra.rep _) hp
    · exact False.elim hd
  case tup.int xs k =>
    have h1' := h1
    obtain ⟨a, vs, rfl, ha, ra⟩ := h1.tup t
    cases h2.int
    simp only [binop] at hd
    by_cases hk : k = 1
    · subst hk
      cases rx
      obtain ⟨t2, rfl⟩ := ry
      rw [if_pos rfl] at hd
      refine rep_tup1 I ha (hd.here t ?_)
      rcases h1' with z | ⟨_, _, _, z, _⟩
      · exact z
      · cases z
    rw [if_neg hk] at hd
    split at hd
    · rename_i hl
      rw [ra.length] at hl
      cases rx
      obtain ⟨t2, rfl⟩ := ry
      exact rep_tup I ha (by intro e; subst e; simp at hl) hl.1 hl.2.1 hl.2.2.2 fun p hp => hd.newT t (ra.rep _) hp
    · exact False.elim hd
/-- the operator of a sign -/
def bopOf : BOp → Operator
  | .add => .Add
  | .sub => .Sub
  | .mul => .Mult
  | .fdiv => .FloorDiv
  | .mod => .Mod
  | .pow => .Pow
theorem opB (o : BOp) : OpR X (binaryOp (bopOf o)) (r2 X.K (binop o)) := by
  cases o
  · exact opB_add
  · exact opB_sub
  · exact opB_mul
  · exact opB_fdiv
  · exact opB_mod
  · exact opB_pow

/-! ### comparisons -/
def copOf : COp → CmpOp
  | .eq => .Eq
  | .ne => .NotEq
  | .lt => .Lt
  | .le => .LtE
  | .gt => .Gt
  | .ge => .GtE
  | .is_ => .Is
  | .isn => .IsNot
  | .in_ => .In
  | .nin => .NotIn
def cmpv (o : COp) (x y : PV) : Option PV := (cmpop o x y).map .bl
theorem flat_V {K : Frg} {w : W} {p : PV} {x : V} (h : flat p = true) (r : Rep K w p x) : flatV x = true := by
  cases p <;> first | (cases r; rfl) | cases h
theorem flat_Vs {K : Frg} {w : W} : ∀ {ps : List PV} {xs : List V}, ps.all flat = true → Reps K w ps xs → xs.all flatV = true
  | _, _, _, .nil => rfl
  | _, _, h, .cons r rs => by
    rw [List.all_cons, Bool.and_eq_true] at h ⊢
    exact ⟨flat_V h.1 r, flat_Vs h.2 rs⟩
theorem flat_eq {K : Frg} {w : W} {p q : PV} {x y : V} (h : flat p = true) (h' : flat q = true) (r : Rep K w p x) (r' : Rep K w q y) : eqV x y = eqv p q := by
  cases p <;> first | (cases h; done) | skip
  all_goals (cases q <;> first | (cases h'; done) | skip)
  all_goals (cases r; cases r'; simp only [eqV, eqv])
theorem flat_in {K : Frg} {w : W} {p : PV} {x : V} (h : flat p = true) (r : Rep K w p x) : ∀ {ps : List PV} {xs : List V}, ps.all flat = true → Reps K w ps xs → inV x xs = memv p ps
  | _, _, _, .nil => rfl
  | _, _, h', .cons q qs => by
    rw [List.all_cons, Bool.and_eq_true] at h'
    have ih := flat_in h r h'.2 qs
    unfold inV memv at ih ⊢
    rw [List.any_cons, List.any_cons, flat_eq h'.1 h q r, ih]
theorem any_toD {n m : Nat} {p : PV} (h : pln n p = true) : ∀ {ps : List PV}, ps.all (pln m) = true → memv p ps = (toDs ps).any fun z => PyData.eqv z (toD p)
  | [], _ => by rw [toDs]; rfl
  | q :: qs, h' => by
    rw [List.all_cons, Bool.and_eq_true] at h'
    have ih := any_toD (m := m) h h'.2
    rw [toDs]
    unfold memv at ih ⊢
    rw [List.any_cons, List.any_cons, ih, eqv_ok m n q p h'.1 h]
theorem lst_shaped {ps : List PV} (h : ps.all (pln 40) = true) : SeqAt.shaped (.list (toDs ps)) = true := by
  obtain ⟨h1, h2⟩ := pln_all h (pln_ok 40)
  unfold SeqAt.shaped
  rw [show (PyData.list (toDs ps)).canLay0 = true by simp only [PyData.canLay0]; exact h1, decide_eq_true (show (PyData.list (toDs ps)).depth ≤ 64 by simp only [PyData.depth]; omega)]
  rfl
theorem in_of {neg : Bool} {K : Frg} {w : W} {H : Hp} {T : Cells} {p q : PV} {x y : V} {Q : VK} (t : HT K w H T) (h1 : RepT K w H p x) (h2 : RepT K w H q y) (hd : Done K w H T (((inop p q).map fun b => if neg then !b else b).map .bl) Q) :
    (∃ a vs, y = .ref a ∧ SqT K H a vs ∧ flatV x = true ∧ vs.all flatV = true ∧ Q (.bl (if neg then !inV x vs else inV x vs)) H) ∨
    (∃ d ds, Dp K H x d ∧ (Dp K H y (.list ds) ∨ Dp K H y (.tuple ds)) ∧ SeqAt.shaped d = true ∧ SeqAt.shaped (.list ds) = true ∧ Q (.bl (if neg then !(ds.any fun z => PyData.eqv z d) else ds.any fun z => PyData.eqv z d)) H) ∨
    (∃ i j : Str, x = .str i ∧ y = .str j ∧ i.length = 1 ∧ Q (.bl (if neg then !(j.cps.toList.contains (i.cps.toList.headD 0)) else j.cps.toList.contains (i.cps.toList.headD 0))) H) := by
  cases q with
  | tup ys =>
    obtain ⟨a, vs, rfl, ha, ra⟩ := h2.tup t
    simp only [inop] at hd
    cases hl : (flat p && ys.all flat) with
    | true =>
      rw [hl] at hd
      rw [Bool.and_eq_true] at hl
      have r1 : Rep K w p x := by
        rcases h1 with h1 | ⟨_, _, _, rfl, _⟩
        · exact h1
        · cases hl.1
      refine .inl ⟨a, vs, rfl, ha, flat_V hl.1 r1, flat_Vs hl.2 ra, ?_⟩
      rw [flat_in hl.1 r1 hl.2 ra]
      exact hd.here t (.bl _)
    | false =>
      rw [hl, if_neg (by simp)] at hd
      cases hl2 : (pln 40 p && ys.all (pln 40)) with
      | true =>
        rw [hl2] at hd
        rw [Bool.and_eq_true] at hl2
        refine .inr (.inl ⟨toD p, toDs ys, dp_repT t hl2.1 h1, .inr (.tup ha (dp_reps (dp_rep t 40) hl2.2 ra)), pln_shaped hl2.1, lst_shaped hl2.2, ?_⟩)
        rw [← any_toD hl2.1 hl2.2]
        exact hd.here t (.bl _)
      | false => rw [hl2] at hd; exact False.elim hd
  | lst ys =>
    simp only [inop] at hd
    cases hl : (pln 40 p && ys.all (pln 40)) with
    | true =>
      rw [hl] at hd
      rw [Bool.and_eq_true] at hl
      obtain ⟨a, vs, rfl, ha, ra⟩ := h2.lst t
      refine .inr (.inl ⟨toD p, toDs ys, dp_repT t hl.1 h1, .inl (.lst (.inl ha) (dp_reps (dp_rep t 40) hl.2 ra)), pln_shaped hl.1, lst_shaped hl.2, ?_⟩)
      rw [← any_toD hl.1 hl.2]
      exact hd.here t (.bl _)
    | false => rw [hl] at hd; exact False.elim hd
  | str j =>
    cases h2.str
    cases p <;> first | exact False.elim hd | skip
    rename_i i
    cases h1.str
    simp only [inop] at hd
    by_cases hl : i.length = 1
    · rw [if_pos hl] at hd
      exact .inr (.inr ⟨i, j, rfl, rfl, hl, hd.here t (.bl _)⟩)
    · rw [if_neg hl] at hd; exact False.elim hd
  | _ => exact False.elim hd
theorem one_sign {i : Str} (h : i.length = 1) : i = ⟨#[i.cps.toList.headD 0]⟩ := by
  obtain ⟨⟨l⟩⟩ := i
  have h : l.length = 1 := h
  match l, h with
  | [c], _ => rfl
theorem contains_dec (l : List Nat) (c : Nat) : l.contains c = decide (c ∈ l) := by
  rw [Bool.eq_iff_iff, List.contains_iff_mem, decide_eq_true_iff]
theorem opC_in (hu : X.A.units + 65 < cLine) : OpR X (compareOp .In) (r2 X.K (cmpv .in_)) := by
  intro pins s σ H x y v u Q I rx ry ⟨w, T, p, q, t, h1, h2, hd⟩
  have hd : Done X.K w H T (((inop p q).map fun b => if false then !b else b).map .bl) Q := by
    rw [show (fun b : Bool => if false then !b else b) = id by funext b; rfl, Option.map_id]; exact hd
  rcases in_of t h1 h2 hd with ⟨a, vs, rfl, h3, h4, h5, q⟩ | ⟨d, ds, h3, h4, h5, h6, q⟩ | ⟨i, j, rfl, rfl, h3, q⟩
  · exact op_in_seq pins s σ H _ _ v u Q I rx ry ⟨a, vs, rfl, .inr h3, h4, h5, q⟩
  · rcases h4 with h4 | h4
    · exact op_inD hu pins s σ H _ _ v u Q I rx ry ⟨d, ds, h3, h4, h5, h6, q⟩
    · obtain ⟨as, r1⟩ := Dp.reads I d x v h3 rx
      obtain ⟨bs, r2⟩ := Dp.reads I (.tuple ds) y u h4 ry
      exact SeqAt.in_tuple_reads r2 r1 (SeqAt.canLay_of_shaped h6) (SeqAt.canLay_of_shaped h5) (room_in_shaped h5 hu) ⟨.bl _, H, I, rfl, q⟩
  · refine op_in_sign pins s σ H _ _ v u Q I rx ry ⟨i.cps.toList.headD 0, j, by rw [← one_sign h3], rfl, ?_⟩
    rw [← contains_dec]; exact q
theorem opC_nin (hu : X.A.units + 65 < cLine) : OpR X (compareOp .NotIn) (r2 X.K (cmpv .nin)) := by
  intro pins s σ H x y v u Q I rx ry ⟨w, T, p, q, t, h1, h2, hd⟩
  have hd : Done X.K w H T (((inop p q).map fun b => if true then !b else b).map .bl) Q := hd
  rcases in_of t h1 h2 hd with ⟨a, vs, rfl, h3, h4, h5, q⟩ | ⟨d, ds, h3, h4, h5, h6, q⟩ | ⟨i, j, rfl, rfl, h3, q⟩
  · exact op_notIn_seq pins s σ H _ _ v u Q I rx ry ⟨a, vs, rfl, .inr h3, h4, h5, q⟩
  · rcases h4 with h4 | h4
    · exact op_notInD hu pins s σ H _ _ v u Q I rx ry ⟨d, ds, h3, h4, h5, h6, q⟩
    · obtain ⟨as, r1⟩ := Dp.reads I d x v h3 rx
      obtain ⟨bs, r2⟩ := Dp.reads I (.tuple ds) y u h4 ry
      exact SeqAt.notIn_tuple_reads r2 r1 (SeqAt.canLay_of_shaped h6) (SeqAt.canLay_of_shaped h5) (room_in_shaped h5 hu) ⟨.bl _, H, I, rfl, q⟩
  · refine op_notIn_sign pins s σ H _ _ v u Q I rx ry ⟨i.cps.toList.headD 0, j, by rw [← one_sign h3], rfl, ?_⟩
    rw [← contains_dec]; exact q
theorem isNon_V {K : Frg} {w : W} {H : Hp} {p : PV} {x : V} (r : RepT K w H p x) : isNon p = decide (x = .non) := by
  rcases r with r | ⟨a, xs, vs, rfl, rfl, _⟩
  · cases r <;> simp [isNon]
  · simp [isNon]
/-- a comparison's answer -/
theorem opC (o : COp) (hu : X.A.units + 65 < cLine) : OpR X (compareOp (copOf o)) (r2 X.K (cmpv o)) := by
  cases o
  case in_ => exact opC_in hu
  case nin => exact opC_nin hu
  all_goals intro pins s σ H x y v u Q I rx ry ⟨w, T, p, q, t, h1, h2, hd⟩
  case eq =>
    simp only [cmpv, cmpop] at hd
    cases hl : (pln 40 p && pln 40 q) with
    | true =>
      rw [hl] at hd
      rw [Bool.and_eq_true] at hl
      refine op_eqD (by omega) pins s σ H x y v u Q I rx ry ⟨_, _, dp_repT t hl.1 h1, dp_repT t hl.2 h2, pln_shaped hl.1, pln_shaped hl.2, ?_⟩
      rw [← eqv_ok 40 40 p q hl.1 hl.2]
      exact hd.here t (.bl _)
    | false => rw [hl] at hd; exact False.elim hd
  case ne =>
    simp only [cmpv, cmpop] at hd
    cases hl : (pln 40 p && pln 40 q) with
    | true =>
      rw [hl] at hd
      rw [Bool.and_eq_true] at hl
      refine op_neD (by omega) pins s σ H x y v u Q I rx ry ⟨_, _, dp_repT t hl.1 h1, dp_repT t hl.2 h2, pln_shaped hl.1, pln_shaped hl.2, ?_⟩
      rw [← eqv_ok 40 40 p q hl.1 hl.2]
      exact hd.here t (.bl _)
    | false => rw [hl] at hd; exact False.elim hd
  case lt =>
    cases p <;> cases q <;> first | exact False.elim hd | skip
    cases h1.int; cases h2.int
    exact op_lt pins s σ H _ _ v u Q I rx ry ⟨_, _, rfl, rfl, hd.here t (.bl _)⟩
  case le =>
    cases p <;> cases q <;> first | exact False.elim hd | skip
    cases h1.int; cases h2.int
    exact op_le pins s σ H _ _ v u Q I rx ry ⟨_, _, rfl, rfl, hd.here t (.bl _)⟩
  case gt =>
    cases p <;> cases q <;> first | exact False.elim hd | skip
    cases h1.int; cases h2.int
    exact op_gt pins s σ H _ _ v u Q I rx ry ⟨_, _, rfl, rfl, hd.here t (.bl _)⟩
  case ge =>
    cases p <;> cases q <;> first | exact False.elim hd | skip
    cases h1.int; cases h2.int
    exact op_ge pins s σ H _ _ v u Q I rx ry ⟨_, _, rfl, rfl, hd.here t (.bl _)⟩
  case is_ =>
    cases q <;> first | (cases p <;> exact False.elim hd) | skip
    cases h2.non
    refine op_isN pins s σ H _ _ v u Q I rx ry ⟨rfl, ?_⟩
    rw [← isNon_V h1]
    have hd : Done X.K w H T (some (.bl (isNon p))) Q := by cases p <;> exact hd
    exact hd.here t (.bl _)
  case isn =>
    cases q <;> first | (cases p <;> exact False.elim hd) | skip
    cases h2.non
    refine op_notN pins s σ H _ _ v u Q I rx ry ⟨rfl, ?_⟩
    rw [← isNon_V h1]
    have hd : Done X.K w H T (some (.bl (!isNon p))) Q := by cases p <;> exact hd
    exact hd.here t (.bl _)

/-! ### truth -/
theorem tru_V {K : Frg} {w : W} {H : Hp} {T : Cells} {p : PV} {x : V} {k : Bool} (t : HT K w H T) (r : RepT K w H p x) (h : truth p = some k) : TruV K x H k := by
  cases p with
  | non => cases r.non; simp [truth] at h; subst h; rfl
  | bl b => cases r.bl; simp [truth] at h; subst h; rfl
  | int i => cases r.int; simp [truth] at h; subst h; rfl
  | str y =>
    cases r.str
    simp only [truth] at h
    by_cases hl : y.length ≤ MP.line
    · rw [if_pos hl] at h
      rw [line_eq] at hl
      refine ⟨hl, ?_⟩
      cases h
      rw [Bool.eq_iff_iff]; simp
    · rw [if_neg hl] at h; cases h
  | tup xs =>
    obtain ⟨a, vs, rfl, ha, ra⟩ := r.tup t
    simp only [truth, Option.some.injEq] at h
    exact .inr (.inl ⟨vs, ha, by rw [← h, ra.nil_iff]⟩)
  | lst xs =>
    obtain ⟨a, vs, rfl, ha, ra⟩ := r.lst t
    simp only [truth, Option.some.injEq] at h
    exact .inl ⟨vs, .inl ha, by rw [← h, ra.nil_iff]⟩
  | _ => cases h

/-! ### places, slices -/
theorem ixn_eq : ixn = ixN := rfl
theorem ix_get {K : Frg} {w : W} {xs : List PV} {vs : List V} {i : Int} {p : PV} (r : Reps K w xs vs) (h : ((ixn xs.length i).bind fun j => xs[j]?) = some p) : ∃ v, atI vs i = some v ∧ Rep K w p v := by
  unfold atI
  rw [ixn_eq, r.length] at h
  cases e : ixN vs.length i with
  | none => rw [e] at h; cases h
  | some j =>
    rw [e] at h
    obtain ⟨v, h1, h2⟩ := r.get (i := j) (p := p) h
    exact ⟨v, h1, h2⟩
def rIdx (K : Frg) : R2 := fun x y H Q => ∃ (w : W) (T : Cells) (v u : PV), HT K w H T ∧ RepT K w H v x ∧ RepT K w H u y ∧ Done K w H T (index T v u) Q
theorem ix_ok : IxR X (rIdx X.K) := by
  intro ea eb pins s σ H x y v u Q I rx ry ⟨w, T, p, q, t, h1, h2, hd⟩ hs
  cases q <;> first | (cases p <;> exact False.elim hd) | skip
  rename_i i
  cases h2.int
  cases p <;> first | exact False.elim hd | skip
  case tup xs =>
    obtain ⟨a, vs, rfl, ha, ra⟩ := h1.tup t
    simp only [MP.index] at hd
    cases e : ((ixn xs.length i).bind fun j => xs[j]?) with
    | none => rw [e] at hd; exact False.elim hd
    | some p =>
      rw [e] at hd
      obtain ⟨z, h3, h4⟩ := ix_get ra e
      exact ix_tup ea eb pins s σ H _ _ v u Q I rx ry ⟨a, vs, i, z, rfl, rfl, ha, h3, hd.here t h4⟩ hs
  case lst xs =>
    obtain ⟨a, vs, rfl, ha, ra⟩ := h1.lst t
    simp only [MP.index] at hd
    cases e : ((ixn xs.length i).bind fun j => xs[j]?) with
    | none => rw [e] at hd; exact False.elim hd
    | some p =>
      rw [e] at hd
      obtain ⟨z, h3, h4⟩ := ix_get ra e
      exact ix_list ea eb pins s σ H _ _ v u Q I rx ry ⟨a, vs, i, z, rfl, rfl, .inl ha, h3, hd.here t h4⟩ hs
  case cel n =>
    rcases h1 with h1 | ⟨_, _, _, e, _⟩
    · cases h1 with
      | @cel n a hc =>
        simp only [MP.index] at hd
        cases e0 : T[n]? with
        | none => rw [e0] at hd; exact False.elim hd
        | some xs =>
          rw [e0] at hd
          simp only [Option.bind_some] at hd
          obtain ⟨vs, ha, ra⟩ := t.cel n a xs hc e0
          cases e : ((ixn xs.length i).bind fun j => xs[j]?) with
          | none => rw [e] at hd; exact False.elim hd
          | some p =>
            rw [e] at hd
            obtain ⟨z, h3, h4⟩ := ix_get ra e
            exact ix_list ea eb pins s σ H _ _ v u Q I rx ry ⟨a, vs, i, z, rfl, rfl, SqL.of ha, h3, hd.here t h4⟩ hs
    · cases e
  case str y =>
    cases h1.str
    simp only [MP.index] at hd
    by_cases hl : y.length ≤ MP.line
    · rw [if_pos hl] at hd
      rw [line_eq] at hl
      cases e : ixn y.cps.toList.length i with
      | none => rw [e] at hd; exact False.elim hd
      | some j =>
        rw [e] at hd
        simp only [Option.bind_some] at hd
        cases e2 : y.cps.toList[j]? with
        | none => rw [e2] at hd; exact False.elim hd
        | some c =>
          rw [e2] at hd
          exact ix_str ea eb pins s σ H _ _ v u Q I rx ry ⟨y, i, c, rfl, rfl, hl, by unfold atI; rw [← ixn_eq, e]; exact e2, hd.here t (.str _)⟩ hs
    · rw [if_neg hl] at hd; exact False.elim hd
theorem six_eq : six = HT.sIx := by
  funext n d o
  cases o <;> rfl
theorem cut_reps {K : Frg} {w : W} {xs : List PV} {vs : List V} (r : Reps K w xs vs) (lo hi : Option Int) : Reps K w (cut xs lo hi) (cutV vs lo hi) := by
  unfold cut cutV
  rw [six_eq, r.length]
  exact (r.drop _).take _
theorem cut_whole {xs : List PV} {lo hi : Option Int} (h : six xs.length 0 lo = 0 ∧ six xs.length xs.length hi = xs.length) : cut xs lo hi = xs := by
  unfold cut
  rw [h.1, h.2, List.drop_zero, Nat.sub_zero, List.take_length]
def rSl (K : Frg) : V → Option Int → Option Int → Hp → VK → Prop := fun x lo hi H Q => ∃ (w : W) (T : Cells) (v : PV), HT K w H T ∧ RepT K w H v x ∧ Done K w H T (cutv lo hi v) Q
theorem sl_ok : SlR X (rSl X.K) := by
  intro pins s σ H x v vl vu lo hi sl Q I rx hs pl pu ⟨w, T, p, t, h1, hd⟩
  cases p <;> first | exact False.elim hd | skip
  case tup xs =>
    obtain ⟨a, vs, rfl, ha, ra⟩ := h1.tup t
    have hd : Done X.K w H T (some (.tup (cut xs lo hi))) Q := hd
    refine sl_tupA pins s σ H _ v vl vu lo hi sl Q I rx hs pl pu ⟨a, vs, rfl, ha, fun e => ?_, fun e q hq => ?_⟩
    · rw [← six_eq, ← ra.length] at e
      rw [cut_whole e] at hd
      rcases h1 with h1 | ⟨_, _, _, e, _⟩
      · exact hd.here t h1
      · cases e
    · exact hd.newT t (cut_reps ra lo hi) hq
  case lst xs =>
    obtain ⟨a, vs, rfl, ha, ra⟩ := h1.lst t
    have hd : Done X.K w H T (some (.lst (cut xs lo hi))) Q := hd
    exact sl_list pins s σ H _ v vl vu lo hi sl Q I rx hs pl pu ⟨a, vs, rfl, .inl ha, fun q hq => hd.newL t (cut_reps ra lo hi) hq⟩
  case st xs =>
    obtain ⟨a, vs, rfl, ha, ra⟩ := h1.st t
    have hd : Done X.K w H T (some (.lst (cut xs lo hi))) Q := hd
    exact sl_list pins s σ H _ v vl vu lo hi sl Q I rx hs pl pu ⟨a, vs, rfl, ha, fun q hq => hd.newL t (cut_reps ra lo hi) hq⟩
end
end MPS
end

section
set_option Elab.async false
set_option linter.all false
set_option maxRecDepth 100000
set_option autoImplicit false
namespace MPS
open PySem PySem.Spec PyProof.Rows L2 MP

/-! ### built-in calls -/
inductive RepTs (K : Frg) (w : W) (H : Hp) : List PV → List V → Prop
  | nil : RepTs K w H [] []
  | cons {p : PV} {ps : List PV} {v : V} {vs : List V} : RepT K w H p v → RepTs K w H ps vs → RepTs K w H (p :: ps) (v :: vs)
theorem RepTs.step {K : Frg} {w w' : W} {H H' : Hp} (s : Stp w H w' H') : ∀ {ps : List PV} {vs : List V}, RepTs K w H ps vs → RepTs K w' H' ps vs
  | _, _, .nil => .nil
  | _, _, .cons r rs => .cons (r.step s) (rs.step s)
theorem RepTs.of {K : Frg} {w : W} {H : Hp} : ∀ {ps : List PV} {vs : List V}, Reps K w ps vs → RepTs K w H ps vs
  | _, _, .nil => .nil
  | _, _, .cons r rs => .cons (.inl r) (RepTs.of rs)
theorem RepTs.one {K : Frg} {w : W} {H : Hp} {p : PV} {xs : List V} (h : RepTs K w H [p] xs) : ∃ x, xs = [x] ∧ RepT K w H p x := by
  cases h with
  | cons r rs => cases rs; exact ⟨_, rfl, r⟩
theorem RepTs.two {K : Frg} {w : W} {H : Hp} {p q : PV} {xs : List V} (h : RepTs K w H [p, q] xs) : ∃ x y, xs = [x, y] ∧ RepT K w H p x ∧ RepT K w H q y := by
  cases h with
  | cons r rs =>
    cases rs with
    | cons r' rs => cases rs; exact ⟨_, _, rfl, r, r'⟩
def rBi (K : Frg) (g : List PV → Option PV) : List V → Hp → VK → Prop := fun xs H Q => ∃ (w : W) (T : Cells) (ps : List PV), HT K w H T ∧ RepTs K w H ps xs ∧ Done K w H T (g ps) Q
theorem seq_of {K : Frg} {w : W} {H : Hp} {T : Cells} {p : PV} {x : V} {xs : List PV} (t : HT K w H T) (r : RepT K w H p x) (h : seqOf p = some xs) : ∃ a vs, x = .ref a ∧ (SqL K H a vs ∨ SqT K H a vs) ∧ Reps K w xs vs := by
  cases p <;> first | cases h | skip
  · obtain ⟨a, vs, rfl, ha, ra⟩ := r.tup t
    exact ⟨a, vs, rfl, .inr ha, ra⟩
  · obtain ⟨a, vs, rfl, ha, ra⟩ := r.lst t
    exact ⟨a, vs, rfl, .inl (.inl ha), ra⟩
theorem minl_foldl : ∀ (r : List Int) (a : Int), minl a r = r.foldl min a
  | [], _ => rfl
  | b :: r, a => by
    rw [minl, List.foldl_cons, minl_foldl r]
    congr 1
    rw [Int.min_def]
    by_cases h : b < a
    · rw [if_pos h, if_neg (by omega)]
    · rw [if_neg h, if_pos (by omega)]
theorem maxl_foldl : ∀ (r : List Int) (a : Int), maxl a r = r.foldl max a
  | [], _ => rfl
  | b :: r, a => by
    rw [maxl, List.foldl_cons, maxl_foldl r]
    congr 1
    rw [Int.max_def]
    by_cases h : b > a
    · rw [if_pos h, if_pos (by omega)]
    · rw [if_neg h]
      by_cases h2 : a = b
      · rw [h2, if_pos (Int.le_refl _)]
      · rw [if_neg (by omega)]
theorem alike_ints : ∀ (is : List Int), PySem.W.AlikeAll (is.map PyData.int) := fun is => by
  refine ⟨fun x hx y hy => ?_, fun x hx => ?_⟩
  · obtain ⟨i, _, rfl⟩ := List.mem_map.mp hx
    obtain ⟨j, _, rfl⟩ := List.mem_map.mp hy
    simp only [PySem.W.alike]
  · obtain ⟨i, _, rfl⟩ := List.mem_map.mp hx
    exact fun e => nomatch e
theorem depth_ints : ∀ (is : List Int), PyData.depthAll (is.map PyData.int) = 0
  | [] => by rw [List.map_nil, PyData.depthAll]
  | i :: is => by rw [List.map_cons, PyData.depthAll, depth_ints is]; simp only [PyData.depth]; rfl
theorem reads_ints {h : Heap} : ∀ {is : List Int} {us : List Value}, Vals (is.map V.int) us → ∃ as, ReadsAll h us (is.map PyData.int) as
  | [], _, r => by rw [List.map_nil] at r; cases r; exact ⟨_, .nil⟩
  | i :: is, _, r => by
    rw [List.map_cons] at r
    cases r with
    | cons r1 rs =>
      obtain ⟨t, rfl⟩ := r1
      obtain ⟨as, h2⟩ := reads_ints rs
      exact ⟨_, .cons (.int i t) h2⟩
section
variable {X : Cx}
theorem bi_len : CallR X (.builtin "len") (rBi X.K (bi .len)) := by
  intro pins s σ H xs us Q I r ⟨w, T, ps, t, hr, hd⟩
  match ps, hr, hd with
  | [.str y], hr, hd =>
    obtain ⟨x, rfl, h1⟩ := hr.one
    cases h1.str
    simp only [bi] at hd
    by_cases hl : y.length ≤ MP.line
    · rw [if_pos hl] at hd
      rw [line_eq] at hl
      exact call_len pins s σ H _ us Q I r ⟨_, y.length, rfl, ⟨hl, rfl⟩, hd.here t (.int _)⟩
    · rw [if_neg hl] at hd; exact False.elim hd
  | [.tup ys], hr, hd =>
    obtain ⟨x, rfl, h1⟩ := hr.one
    obtain ⟨a, vs, rfl, ha, ra⟩ := h1.tup t
    refine call_len pins s σ H _ us Q I r ⟨_, vs.length, rfl, .inr ⟨vs, ha, rfl⟩, ?_⟩
    rw [← ra.length]
    exact hd.here t (.int _)
  | [.lst ys], hr, hd =>
    obtain ⟨x, rfl, h1⟩ := hr.one
    obtain ⟨a, vs, rfl, ha, ra⟩ := h1.lst t
    refine call_len pins s σ H _ us Q I r ⟨_, vs.length, rfl, .inl ⟨vs, .inl ha, rfl⟩, ?_⟩
    rw [← ra.length]
    exact hd.here t (.int _)
  | [], _, hd => exact False.elim hd
  | [.non], _, hd => exact False.elim hd
  | [.bl _], _, hd => exact False.elim hd
  | [.int _], _, hd => exact False.elim hd
  | [.st _], _, hd => exact False.elim hd
  | [.cel _], _, hd => exact False.elim hd
  | [.fn _], _, hd => exact False.elim hd
  | _ :: _ :: _, _, hd => exact False.elim (by simp only [bi, Done] at hd)
theorem bi_abs : CallR X (.builtin "abs") (rBi X.K (bi .abs)) := by
  intro pins s σ H xs us Q I r ⟨w, T, ps, t, hr, hd⟩
  match ps, hr, hd with
  | [.int i], hr, hd =>
    obtain ⟨x, rfl, h1⟩ := hr.one
    cases h1.int
    refine call_abs pins s σ H _ us Q I r ⟨i, rfl, ?_⟩
    have e : (if i < 0 then -i else i) = (i.natAbs : Int) := by split <;> omega
    rw [e]
    exact hd.here t (.int _)
  | [], _, hd => exact False.elim hd
  | [.non], _, hd => exact False.elim hd
  | [.bl _], _, hd => exact False.elim hd
  | [.str _], _, hd => exact False.elim hd
  | [.tup _], _, hd => exact False.elim hd
  | [.lst _], _, hd => exact False.elim hd
  | [.st _], _, hd => exact False.elim hd
  | [.cel _], _, hd => exact False.elim hd
  | [.fn _], _, hd => exact False.elim hd
  | _ :: _ :: _, _, hd => exact False.elim (by simp only [bi, Done] at hd)
theorem bi_int : CallR X (.type "int") (rBi X.K (bi .int_)) := by
  intro pins s σ H xs us Q I r ⟨w, T, ps, t, hr, hd⟩
  match ps, hr, hd with
  | [.int i], hr, hd =>
    obtain ⟨x, rfl, h1⟩ := hr.one
    cases h1.int
    exact call_int1 pins s σ H _ us Q I r (.inl ⟨i, rfl, hd.here t (.int _)⟩)
  | [.bl b], hr, hd =>
    obtain ⟨x, rfl, h1⟩ := hr.one
    cases h1.bl
    exact call_int1 pins s σ H _ us Q I r (.inr ⟨b, rfl, hd.here t (.int _)⟩)
  | [], _, hd => exact False.elim hd
  | [.non], _, hd => exact False.elim hd
  | [.str _], _, hd => exact False.elim hd
  | [.tup _], _, hd => exact False.elim hd
  | [.lst _], _, hd => exact False.elim hd
  | [.st _], _, hd => exact False.elim hd
  | [.cel _], _, hd => exact False.elim hd
  | [.fn _], _, hd => exact False.elim hd
  | _ :: _ :: _, _, hd => exact False.elim (by simp only [bi, Done] at hd)
theorem bi_str : CallR X (.type "str") (rBi X.K (bi .str_)) := by
  intro pins s σ H xs us Q I r ⟨w, T, ps, t, hr, hd⟩
  match ps, hr, hd with
  | [.int i], hr, hd =>
    obtain ⟨x, rfl, h1⟩ := hr.one
    cases h1.int
    simp only [bi] at hd
    by_cases hl : i.natAbs.log2 < 1920
    · rw [if_pos hl] at hd
      exact call_str_int pins s σ H _ us Q I r ⟨i, rfl, hl, hd.here t (.str _)⟩
    · rw [if_neg hl] at hd; exact False.elim hd
  | [], _, hd => exact False.elim hd
  | [.non], _, hd => exact False.elim hd
  | [.bl _], _, hd => exact False.elim hd
  | [.str _], _, hd => exact False.elim hd
  | [.tup _], _, hd => exact False.elim hd
  | [.lst _], _, hd => exact False.elim hd
  | [.st _], _, hd => exact False.elim hd
  | [.cel _], _, hd => exact False.elim hd
  | [.fn _], _, hd => exact False.elim hd
  | _ :: _ :: _, _, hd => exact False.elim (by simp only [bi, Done] at hd)
theorem bi_tuple : CallR X (.type "tuple") (rBi X.K (bi .tuple_)) := by
  intro pins s σ H xs us Q I r ⟨w, T, ps, t, hr, hd⟩
  match ps, hr, hd with
  | [.lst ys], hr, hd =>
    obtain ⟨x, rfl, h1⟩ := hr.one
    obtain ⟨a, vs, rfl, ha, ra⟩ := h1.lst t
    exact call_tuple_of pins s σ H _ us Q I r ⟨a, vs, rfl, .inl ⟨.inl ha, fun l hl => hd.newT t ra hl⟩⟩
  | [.tup ys], hr, hd =>
    obtain ⟨x, rfl, h1⟩ := hr.one
    obtain ⟨a, vs, rfl, ha, ra⟩ := h1.tup t
    refine call_tuple_of pins s σ H _ us Q I r ⟨a, vs, rfl, .inr ⟨ha, ?_⟩⟩
    rcases h1 with h1 | ⟨_, _, _, e, _⟩
    · exact hd.here t h1
    · cases e
  | [], _, hd => exact False.elim hd
  | [.non], _, hd => exact False.elim hd
  | [.bl _], _, hd => exact False.elim hd
  | [.int _], _, hd => exact False.elim hd
  | [.str _], _, hd => exact False.elim hd
  | [.st _], _, hd => exact False.elim hd
  | [.cel _], _, hd => exact False.elim hd
  | [.fn _], _, hd => exact False.elim hd
  | _ :: _ :: _, _, hd => exact False.elim (by simp only [bi, Done] at hd)
theorem bi_list : CallR X (.type "list") (rBi X.K (bi .list_)) := by
  intro pins s σ H xs us Q I r ⟨w, T, ps, t, hr, hd⟩
  match ps, hr, hd with
  | [.lst ys], hr, hd =>
    obtain ⟨x, rfl, h1⟩ := hr.one
    obtain ⟨a, vs, rfl, ha, ra⟩ := h1.lst t
    exact call_list_of pins s σ H _ us Q I r ⟨a, vs, rfl, .inl (.inl ha), fun l hl => hd.newL t ra hl⟩
  | [.tup ys], hr, hd =>
    obtain ⟨x, rfl, h1⟩ := hr.one
    obtain ⟨a, vs, rfl, ha, ra⟩ := h1.tup t
    exact call_list_of pins s σ H _ us Q I r ⟨a, vs, rfl, .inr ha, fun l hl => hd.newL t ra hl⟩
  | [], _, hd => exact False.elim hd
  | [.non], _, hd => exact False.elim hd
  | [.bl _], _, hd => exact False.elim hd
  | [.int _], _, hd => exact False.elim hd
  | [.str _], _, hd => exact False.elim hd
  | [.st _], _, hd => exact False.elim hd
  | [.cel _], _, hd => exact False.elim hd
  | [.fn _], _, hd => exact False.elim hd
  | _ :: _ :: _, _, hd => exact False.elim (by simp only [bi, Done] at hd)
theorem bi_sum (hc : X.calm = true) : CallR X (.builtin "sum") (rBi X.K (bi .sum)) := by
  intro pins s σ H xs us Q I r ⟨w, T, ps, t, hr, hd⟩
  match ps, hr, hd with
  | [.lst ys], hr, hd =>
    obtain ⟨x, rfl, h1⟩ := hr.one
    obtain ⟨a, vs, rfl, ha, ra⟩ := h1.lst t
    simp only [bi] at hd
    cases e : intsOf ys with
    | none => rw [e] at hd; exact False.elim hd
    | some is =>
      rw [e] at hd
      obtain rfl := ra.intsOf e
      exact cr_sum hc pins s σ H _ us Q I r ⟨a, is, rfl, .inl ha, hd.here t (.int _)⟩
  | [], _, hd => exact False.elim hd
  | [.non], _, hd => exact False.elim hd
  | [.bl _], _, hd => exact False.elim hd
  | [.int _], _, hd => exact False.elim hd
  | [.str _], _, hd => exact False.elim hd
  | [.tup _], _, hd => exact False.elim hd
  | [.st _], _, hd => exact False.elim hd
  | [.cel _], _, hd => exact False.elim hd
  | [.fn _], _, hd => exact False.elim hd
  | _ :: _ :: _, _, hd => exact False.elim (by simp only [bi, Done] at hd)
theorem Reps.bools {K : Frg} {w : W} : ∀ {ps : List PV} {vs : List V} {bs : List Bool}, Reps K w ps vs → boolsOf ps = some bs → vs = bs.map V.bl
  | _, _, is, .nil, e => by simp [boolsOf] at e; subst e; rfl
  | _, _, is, .cons h r, e => by
    cases h <;> simp [boolsOf] at e
    obtain ⟨js, e1, rfl⟩ := e
    rw [List.map_cons, Reps.bools r e1]
theorem bi_all (hc : X.calm = true) : CallR X (.builtin "all") (rBi X.K (bi .all)) := by
  intro pins s σ H xs us Q I r ⟨w, T, ps, t, hr, hd⟩
  match ps, hr, hd with
  | [.lst ys], hr, hd =>
    obtain ⟨x, rfl, h1⟩ := hr.one
    obtain ⟨a, vs, rfl, ha, ra⟩ := h1.lst t
    simp only [bi] at hd
    cases e : boolsOf ys with
    | none => rw [e] at hd; exact False.elim hd
    | some is =>
      rw [e] at hd
      obtain rfl := Reps.bools ra e
      exact cr_all hc pins s σ H _ us Q I r ⟨a, is, rfl, .inl ha, hd.here t (.bl _)⟩
  | [], _, hd => exact False.elim hd
  | [.non], _, hd => exact False.elim hd
  | [.bl _], _, hd => exact False.elim hd
  | [.int _], _, hd => exact False.elim hd
  | [.str _], _, hd => exact False.elim hd
  | [.tup _], _, hd => exact False.elim hd
  | [.st _], _, hd => exact False.elim hd
  | [.cel _], _, hd => exact False.elim hd
  | [.fn _], _, hd => exact False.elim hd
  | _ :: _ :: _, _, hd => exact False.elim (by simp only [bi, Done] at hd)
theorem bi_any (hc : X.calm = true) : CallR X (.builtin "any") (rBi X.K (bi .any)) := by
  intro pins s σ H xs us Q I r ⟨w, T, ps, t, hr, hd⟩
  match ps, hr, hd with
  | [.lst ys], hr, hd =>
    obtain ⟨x, rfl, h1⟩ := hr.one
    obtain ⟨a, vs, rfl, ha, ra⟩ := h1.lst t
    simp only [bi] at hd
    cases e : boolsOf ys with
    | none => rw [e] at hd; exact False.elim hd
    | some is =>
      rw [e] at hd
      obtain rfl := Reps.bools ra e
      exact cr_any hc pins s σ H _ us Q I r ⟨a, is, rfl, .inl ha, hd.here t (.bl _)⟩
  | [], _, hd => exact False.elim hd
  | [.non], _, hd => exact False.elim hd
  | [.bl _], _, hd => exact False.elim hd
  | [.int _], _, hd => exact False.elim hd
  | [.str _], _, hd => exact False.elim hd
  | [.tup _], _, hd => exact False.elim hd
  | [.st _], _, hd => exact False.elim hd
  | [.cel _], _, hd => exact False.elim hd
  | [.fn _], _, hd => exact False.elim hd
  | _ :: _ :: _, _, hd => exact False.elim (by simp only [bi, Done] at hd)

theorem min_seq {pins : List (Addr × Obj)} {s : Shared} {σ : Sl} {H : Hp} {a : Addr} {i : Int} {is : List Int} {Q : VK} (hc : X.calm = true) (hu : X.A.units + 65 < cLine) (I : Inv X pins σ H s) (h : SqL X.K H a ((i :: is).map V.int) ∨ SqT X.K H a ((i :: is).map V.int))
    (q : Q (.int (minl i is)) H) : wpAny (model X.prog X.w) X.A (call (.builtin "min") [.ref a]) (EP X pins σ Q) X.xe s := by
  have hu' : X.A.units + 1 + PyData.depthAll (PyData.int i :: is.map PyData.int) < cLine := by
    have e := depth_ints (i :: is)
    rw [List.map_cons] at e
    rw [e]; omega
  have al := alike_ints (i :: is)
  rw [List.map_cons] at al
  have fin : ∀ (v : Value) (h' : Heap) (tk : Nat) (bs : List Addr), Reads h' v (PySem.W.minD (.int i) (is.map PyData.int)) bs → (∀ b o, s.heap.get? b = some o → h'.get? b = some o) → EP X pins σ Q v { s with heap := h', toks := tk } := fun v h' tk bs hr k => by
    rw [PySem.W.minD_ints] at hr
    cases hr with
    | int _ t => exact ⟨.int _, H, I.kept k, ⟨t, rfl⟩, by rw [← minl_foldl]; exact q⟩
  rcases h with h | h
  · obtain ⟨its, rv, hl, _⟩ := I.list h
    obtain ⟨as, hr⟩ := reads_ints (h := s.heap) rv
    exact PySem.W.min_list_data (I.ok.hd hc) hl.isList hr al hu' fun _ v h' tk bs _ r k => fin v h' tk bs r k
  · obtain ⟨its, rv, hl, _⟩ := I.tuple h
    obtain ⟨as, hr⟩ := reads_ints (h := s.heap) rv
    exact PySem.W.min_tuple_data (I.ok.hd hc) (show s.heap.IsTuple a its.toArray from hl) hr al hu' fun _ v h' tk bs _ r k => fin v h' tk bs r k
theorem max_seq {pins : List (Addr × Obj)} {s : Shared} {σ : Sl} {H : Hp} {a : Addr} {i : Int} {is : List Int} {Q : VK} (hc : X.calm = true) (hu : X.A.units + 65 < cLine) (I : Inv X pins σ H s) (h : SqL X.K H a ((i :: is).map V.int) ∨ SqT X.K H a ((i :: is).map V.int))
    (q : Q (.int (maxl i is)) H) : wpAny (model X.prog X.w) X.A (call (.builtin "max") [.ref a]) (EP X pins σ Q) X.xe s := by
  have hu' : X.A.units + 1 + PyData.depthAll (PyData.int i :: is.map PyData.int) < cLine := by
    have e := depth_ints (i :: is)
    rw [List.map_cons] at e
    rw [e]; omega
  have al := alike_ints (i :: is)
  rw [List.map_cons] at al
  have fin : ∀ (v : Value) (h' : Heap) (tk : Nat) (bs : List Addr), Reads h' v (PySem.W.maxD (.int i) (is.map PyData.int)) bs → (∀ b o, s.heap.get? b = some o → h'.get? b = some o) → EP X pins σ Q v { s with heap := h', toks := tk } := fun v h' tk bs hr k => by
    rw [PySem.W.maxD_ints] at hr
    cases hr with
    | int _ t => exact ⟨.int _, H, I.kept k, ⟨t, rfl⟩, by rw [← maxl_foldl]; exact q⟩
  rcases h with h | h
  · obtain ⟨its, rv, hl, _⟩ := I.list h
    obtain ⟨as, hr⟩ := reads_ints (h := s.heap) rv
    exact PySem.W.max_list_data (I.ok.hd hc) hl.isList hr al hu' fun _ v h' tk bs _ r k => fin v h' tk bs r k
  · obtain ⟨its, rv, hl, _⟩ := I.tuple h
    obtain ⟨as, hr⟩ := reads_ints (h := s.heap) rv
    exact PySem.W.max_tuple_data (I.ok.hd hc) (show s.heap.IsTuple a its.toArray from hl) hr al hu' fun _ v h' tk bs _ r k => fin v h' tk bs r k
theorem bi_min (hc : X.calm = true) (hu : X.A.units + 65 < cLine) : CallR X (.builtin "min") (rBi X.K (bi .min)) := by
  intro pins s σ H xs us Q I r ⟨w, T, ps, t, hr, hd⟩
  have one : ∀ p : PV, ps = [p] → wpAny (model X.prog X.w) X.A (call (.builtin "min") us) (EP X pins σ Q) X.xe s := fun p e => by
    subst e
    obtain ⟨x, rfl, h1⟩ := hr.one
    have hd : Done X.K w H T ((seqOf p).bind fun xs => (intsOf xs).bind fun is => match is with
      | [] => none
      | a :: r => some (.int (minl a r))) Q := by cases p <;> exact hd
    cases e1 : seqOf p with
    | none => rw [e1] at hd; exact False.elim hd
    | some ys =>
      rw [e1] at hd
      obtain ⟨a, vs, rfl, ha, ra⟩ := seq_of t h1 e1
      simp only [Option.bind_some] at hd
      cases e2 : intsOf ys with
      | none => rw [e2] at hd; exact False.elim hd
      | some is =>
        rw [e2] at hd
        obtain rfl := ra.intsOf e2
        cases is with
        | nil => exact False.elim hd
        | cons i is =>
          rw [Vals.ref1 r]
          exact min_seq hc hu I ha (hd.here t (.int _))
  match ps, hr, hd, one with
  | [p], _, _, one => exact one p rfl
  | [.int i, .int j], hr, hd, _ =>
    obtain ⟨x, y, rfl, h1, h2⟩ := hr.two
    cases h1.int; cases h2.int
    exact call_min2 hc pins s σ H _ us Q I r ⟨i, j, rfl, hd.here t (.int _)⟩
  | [], _, hd, _ => exact False.elim hd
  | _ :: _ :: _ :: _, _, hd, _ => exact False.elim (by simp only [bi, Done] at hd)
  | [.non, _], _, hd, _ => exact False.elim hd
  | [.bl _, _], _, hd, _ => exact False.elim hd
  | [.str _, _], _, hd, _ => exact False.elim hd
  | [.tup _, _], _, hd, _ => exact False.elim hd
  | [.lst _, _], _, hd, _ => exact False.elim hd
  | [.st _, _], _, hd, _ => exact False.elim hd
  | [.cel _, _], _, hd, _ => exact False.elim hd
  | [.fn _, _], _, hd, _ => exact False.elim hd
  | [.int _, .non], _, hd, _ => exact False.elim hd
  | [.int _, .bl _], _, hd, _ => exact False.elim hd
  | [.int _, .str _], _, hd, _ => exact False.elim hd
  | [.int _, .tup _], _, hd, _ => exact False.elim hd
  | [.int _, .lst _], _, hd, _ => exact False.elim hd
  | [.int _, .st _], _, hd, _ => exact False.elim hd
  | [.int _, .cel _], _, hd, _ => exact False.elim hd
  | [.int _, .fn _], _, hd, _ => exact False.elim hd
theorem bi_max (hc : X.calm = true) (hu : X.A.units + 65 < cLine) : CallR X (.builtin "max") (rBi X.K (bi .max)) := by
  intro pins s σ H xs us Q I r ⟨w, T, ps, t, hr, hd⟩
  have one : ∀ p : PV, ps = [p] → wpAny (model X.prog X.w) X.A (call (.builtin "max") us) (EP X pins σ Q) X.xe s := fun p e => by
    subst e
    obtain ⟨x, rfl, h1⟩ := hr.one
    have hd : Done X.K w H T ((seqOf p).bind fun xs => (intsOf xs).bind fun is => match is with
      | [] => none
      | a :: r => some (.int (maxl a r))) Q := by cases p <;> exact hd
    cases e1 : seqOf p with
    | none => rw [e1] at hd; exact False.elim hd
    | some ys =>
      rw [e1] at hd
      obtain ⟨a, vs, rfl, ha, ra⟩ := seq_of t h1 e1
      simp only [Option.bind_some] at hd
      cases e2 : intsOf ys with
      | none => rw [e2] at hd; exact False.elim hd
      | some is =>
        rw [e2] at hd
        obtain rfl := ra.intsOf e2
        cases is with
        | nil => exact False.elim hd
        | cons i is =>
          rw [Vals.ref1 r]
          exact max_seq hc hu I ha (hd.here t (.int _))
  match ps, hr, hd, one with
  | [p], _, _, one => exact one p rfl
  | [.int i, .int j], hr, hd, _ =>
    obtain ⟨x, y, rfl, h1, h2⟩ := hr.two
    cases h1.int; cases h2.int
    exact call_max2 hc pins s σ H _ us Q I r ⟨i, j, rfl, hd.here t (.int _)⟩
  | [], _, hd, _ => exact False.elim hd
  | _ :: _ :: _ :: _, _, hd, _ => exact False.elim (by simp only [bi, Done] at hd)
  | [.non, _], _, hd, _ => exact False.elim hd
  | [.bl _, _], _, hd, _ => exact False.elim hd
  | [.str _, _], _, hd, _ => exact False.elim hd
  | [.tup _, _], _, hd, _ => exact False.elim hd
  | [.lst _, _], _, hd, _ => exact False.elim hd
  | [.st _, _], _, hd, _ => exact False.elim hd
  | [.cel _, _], _, hd, _ => exact False.elim hd
  | [.fn _, _], _, hd, _ => exact False.elim hd
  | [.int _, .non], _, hd, _ => exact False.elim hd
  | [.int _, .bl _], _, hd, _ => exact False.elim hd
  | [.int _, .str _], _, hd, _ => exact False.elim hd
  | [.int _, .tup _], _, hd, _ => exact False.elim hd
  | [.int _, .lst _], _, hd, _ => exact False.elim hd
  | [.int _, .st _], _, hd, _ => exact False.elim hd
  | [.int _, .cel _], _, hd, _ => exact False.elim hd
  | [.int _, .fn _], _, hd, _ => exact False.elim hd
end
end MPS
end

section
set_option Elab.async false
set_option linter.all false
set_option maxRecDepth 100000
set_option autoImplicit false
namespace MPS
open PySem PySem.Spec PyProof.Rows L2 MP

/-! ### the readings -/
/-- exceptions by numbers -/
def excName : Nat → Str
  | 0 => "Unfit"
  | 1 => "CanNot"
  | 2 => "TooMany"
  | 3 => "BadText"
  | _ => "NothingDone"
/-- how an exception lies: its class, its own dict -/
def XRep (K : Frg) (w : W) (H : Hp) (x : Exn) (c : Value) (d : Option Addr) : Prop :=
  c = .ref (He.ga K (excName x.name)) ∧ match x.args with
    | [] => d = none
    | [p] => ∃ dx v, d = some dx ∧ H dx = some (.xd [("line", v)]) ∧ Rep K w p v
    | _ => False
abbrev Rel (α β : Type) := W → Hp → α → β → Prop
def RR (K : Frg) : Rel PV V := fun w _ p v => Rep K w p v
def RT (K : Frg) : Rel PV V := fun w H p v => RepT K w H p v
def RRs (K : Frg) : Rel (List PV) (List V) := fun w _ p v => Reps K w p v
def RTs (K : Frg) : Rel (List PV) (List V) := fun w H p v => RepTs K w H p v
def RB : Rel Bool Bool := fun _ _ a b => a = b
section
variable {α β γ δ : Type}
/-- what is asked behind a run -/
def Pst (K : Frg) (Wx : WX) (σ : Sl) (R : Rel α β) (w : W) (H : Hp) (r : Res α) (Q : β → Hp → Prop) : Prop := match r with
  | .ok v T' => ∀ x w' H', Stp w H w' H' → HT K w' H' T' → R w' H' v x → Q x H'
  | .ex xn T' => ∀ w' H' c d, Stp w H w' H' → HT K w' H' T' → XRep K w' H' xn c d → Wx c d σ H'
  | .bad => False
theorem Pst.mono {K : Frg} {Wx : WX} {σ : Sl} {R : Rel α β} {w : W} {H : Hp} {r : Res α} {Q Q' : β → Hp → Prop} (h : Pst K Wx σ R w H r Q) (k : ∀ x H', Q x H' → Q' x H') : Pst K Wx σ R w H r Q' := by
  cases r with
  | ok v T => exact fun x w' H' s t p => k x H' (h x w' H' s t p)
  | ex x T => exact h
  | bad => exact h
theorem Pst.rel {K : Frg} {Wx : WX} {σ : Sl} {R R' : Rel α β} {w : W} {H : Hp} {r : Res α} {Q : β → Hp → Prop} (h : Pst K Wx σ R w H r Q) (k : ∀ w H v x, R' w H v x → R w H v x) : Pst K Wx σ R' w H r Q := by
  cases r with
  | ok v T => exact fun x w' H' s t p => h x w' H' s t (k _ _ _ _ p)
  | ex x T => exact h
  | bad => exact h
theorem Pst.step {K : Frg} {Wx : WX} {σ : Sl} {R : Rel α β} {w w1 : W} {H H1 : Hp} {r : Res α} {Q : β → Hp → Prop} (h : Pst K Wx σ R w H r Q) (s : Stp w H w1 H1) : Pst K Wx σ R w1 H1 r Q := by
  cases r with
  | ok v T => exact fun x w' H' s' t p => h x w' H' (s.trans s') t p
  | ex x T => exact fun w' H' c d s' t p => h w' H' c d (s.trans s') t p
  | bad => exact h
theorem Pst.bind {K : Frg} {Wx : WX} {σ : Sl} {R : Rel α β} {R2 : Rel γ δ} {w : W} {H : Hp} {r : Res α} {f : α → Store → Res γ} {Q : δ → Hp → Prop} (h : Pst K Wx σ R2 w H (r.bind f) Q) :
    Pst K Wx σ R w H r fun y H1 => ∃ v w1 T1, Stp w H w1 H1 ∧ HT K w1 H1 T1 ∧ R w1 H1 v y ∧ Pst K Wx σ R2 w1 H1 (f v T1) Q := by
  cases r with
  | ok v T => exact fun x w' H' s t p => ⟨v, w', T, s, t, p, Pst.step h s⟩
  | ex x T => exact h
  | bad => exact h
theorem Pst.done {K : Frg} {Wx : WX} {σ : Sl} {w : W} {H : Hp} {T : Cells} {r : Option PV} {Q : VK} (h : Pst K Wx σ (RR K) w H (.of T r) Q) : Done K w H T r Q := by
  cases r with
  | none => exact h
  | some p => exact fun z w' H' s t r => h z w' H' s t r
theorem Pst.here {K : Frg} {Wx : WX} {σ : Sl} {R : Rel α β} {w : W} {H : Hp} {T : Cells} {v : α} {x : β} {Q : β → Hp → Prop} (h : Pst K Wx σ R w H (.ok v T) Q) (t : HT K w H T) (r : R w H v x) : Q x H := h x w H (Stp.refl w H) t r

/-- a run's reading -/
def tM (K : Frg) (Wx : WX) (R : Rel α β) (m : MP.Env → Store → Res α) (σ : Sl) (H : Hp) (Q : β → Hp → Prop) : Prop :=
  ∃ (w : W) (ρ : MP.Env) (T : Cells) (H0 : Hp), HT K w H T ∧ Er K H0 w H σ ρ ∧ Pst K Wx σ R w H (m ρ T) Q
end
theorem PE.imp {X : Cx} {e : Expr} {t t' : TE} (h : PE X e t) (k : ∀ σ H Q, t' σ H Q → t σ H Q) : PE X e t' := ⟨fun pins s σ H Q I q => h.run pins s σ H Q I (k _ _ _ q)⟩
theorem PT.imp {X : Cx} {e : Expr} {t t' : TT} (h : PT X e t) (k : ∀ σ H Q, t' σ H Q → t σ H Q) : PT X e t' := ⟨fun pins s σ H Q I q => h.run pins s σ H Q I (k _ _ _ q)⟩
theorem PA.imp {X : Cx} {e : List Expr} {t t' : TA} (h : PA X e t) (k : ∀ σ H Q, t' σ H Q → t σ H Q) : PA X e t' := ⟨fun p pins s σ H Q I q => h.run p pins s σ H Q I (k _ _ _ q)⟩
abbrev MM (α : Type) := MP.Env → Store → Res α
/-- the expression e does what m does -/
abbrev EJ (X : Cx) (Wx : WX) (e : Expr) (m : MM PV) : Prop := PE X e (tM X.K Wx (RR X.K) m)
abbrev EJT (X : Cx) (Wx : WX) (e : Expr) (m : MM PV) : Prop := PE X e (tM X.K Wx (RT X.K) m)
abbrev AJ (X : Cx) (Wx : WX) (es : List Expr) (m : MM (List PV)) : Prop := PA X es (tM X.K Wx (RRs X.K) m)
abbrev AJT (X : Cx) (Wx : WX) (es : List Expr) (m : MM (List PV)) : Prop := PA X es (tM X.K Wx (RTs X.K) m)
abbrev TJ (X : Cx) (Wx : WX) (e : Expr) (m : MM Bool) : Prop := PT X e (tM X.K Wx RB m)
abbrev testM (m : MM PV) : MM Bool := fun ρ T => (m ρ T).bind fun x T => .of T (truth x)

theorem EJ.t {X : Cx} {Wx : WX} {e : Expr} {m : MM PV} (h : EJ X Wx e m) : EJT X Wx e m := PE.imp h fun σ H Q ⟨w, ρ, T, H0, t, er, p⟩ => ⟨w, ρ, T, H0, t, er, p.rel fun _ _ _ _ r => .inl r⟩
theorem AJ.t {X : Cx} {Wx : WX} {e : List Expr} {m : MM (List PV)} (h : AJ X Wx e m) : AJT X Wx e m := PA.imp h fun σ H Q ⟨w, ρ, T, H0, t, er, p⟩ => ⟨w, ρ, T, H0, t, er, p.rel fun _ _ _ _ r => RepTs.of r⟩
section
variable {X : Cx} {Wx : WX} {a b c e : Expr} {es rest : List Expr} {ma mb mc : MM PV} {pos : Pos}
/-- two in a row -/
theorem two {α β γ δ : Type} {K : Frg} {Wx : WX} {R : Rel α β} {R2 : Rel γ δ} {m : MM α} {f : α → MM γ} {σ : Sl} {H : Hp} {Q : δ → Hp → Prop} (h : tM K Wx R2 (fun ρ T => (m ρ T).bind fun x T => f x ρ T) σ H Q) :
    tM K Wx R m σ H fun y H1 => ∃ v w1 ρ T1 H0, HT K w1 H1 T1 ∧ Er K H0 w1 H1 σ ρ ∧ R w1 H1 v y ∧ Pst K Wx σ R2 w1 H1 (f v ρ T1) Q := by
  obtain ⟨w, ρ, T, H0, t, er, p⟩ := h
  exact ⟨w, ρ, T, H0, t, er, Pst.mono p.bind fun y H1 ⟨v, w1, T1, s, t1, r, q⟩ => ⟨v, w1, ρ, T1, H0, t1, er.step s, r, q⟩⟩
theorem next {α β γ δ : Type} {K : Frg} {Wx : WX} {R : Rel α β} {R2 : Rel γ δ} {m : MM α} {f : α → Store → Res γ} {σ : Sl} {w : W} {ρ : MP.Env} {T : Cells} {H0 H : Hp} {Q : δ → Hp → Prop} (t : HT K w H T) (er : Er K H0 w H σ ρ) (p : Pst K Wx σ R2 w H ((m ρ T).bind f) Q) :
    tM K Wx R m σ H fun y H1 => ∃ v w1 T1, Stp w H w1 H1 ∧ HT K w1 H1 T1 ∧ Er K H0 w1 H1 σ ρ ∧ R w1 H1 v y ∧ Pst K Wx σ R2 w1 H1 (f v T1) Q :=
  ⟨w, ρ, T, H0, t, er, Pst.mono p.bind fun y H1 ⟨v, w1, T1, s, t1, r, q⟩ => ⟨v, w1, T1, s, t1, er.step s, r, q⟩⟩

theorem ej_var {i : Nat} {x : Str} (hN : X.N[i]? = some x) (hv : Vis X.env.scope x) (hd : (x == ("__debug__" : Str)) = false) (hcd : (x == ("__classdict__" : Str)) = false) : EJ X Wx (.Name x pos) (fun ρ T => .of T (getv ρ i)) :=
  PE.imp (pe_var hN hv hd hcd) fun σ H Q ⟨w, ρ, T, H0, t, er, p⟩ => by
    (try dsimp only at p)
    cases e : getv ρ i with
    | none => rw [e] at p; exact p.elim
    | some v =>
      rw [e] at p
      unfold getv at e
      split at e
      · rename_i v' e'
        cases e
        obtain ⟨x, h1, h2⟩ := er.va i _ e'
        exact ⟨x, h1, p.here t h2⟩
      · cases e
theorem ej_pk {i : Nat} {x : Str} (hN : X.N[i]? = some x) (hv : Vis X.env.scope x) (hd : (x == ("__debug__" : Str)) = false) (hcd : (x == ("__classdict__" : Str)) = false) : EJT X Wx (.Name x pos) (fun ρ T => .of T (peek ρ i)) :=
  PE.imp (pe_var hN hv hd hcd) fun σ H Q ⟨w, ρ, T, H0, t, er, p⟩ => by
    (try dsimp only at p)
    cases e : peek ρ i with
    | none => rw [e] at p; exact p.elim
    | some v =>
      rw [e] at p
      unfold peek at e
      split at e
      · rename_i v' e'
        cases e
        obtain ⟨a, vs, h1, h2, h3, h4, h5, _⟩ := er.ow i _ e'
        exact ⟨_, h1, p.here t (.inr ⟨a, _, vs, rfl, rfl, h2, h3, h4, h5⟩)⟩
      · rename_i v' e'
        cases e
        obtain ⟨x, h1, h2⟩ := er.va i _ e'
        exact ⟨x, h1, p.here t (.inl h2)⟩
      · cases e
theorem ej_int {i : Int} {j : Nat} : EJ X Wx (.Constant (.int i) j pos) (fun _ T => .ok (.int i) T) := PE.imp pe_int fun σ H Q ⟨w, ρ, T, H0, t, er, p⟩ => p.here t (.int i)
theorem ej_bl {i : Bool} {j : Nat} : EJ X Wx (.Constant (.bool i) j pos) (fun _ T => .ok (.bl i) T) := PE.imp pe_bl fun σ H Q ⟨w, ρ, T, H0, t, er, p⟩ => p.here t (.bl i)
theorem ej_non {j : Nat} : EJ X Wx (.Constant .none j pos) (fun _ T => .ok .non T) := PE.imp pe_non fun σ H Q ⟨w, ρ, T, H0, t, er, p⟩ => p.here t .non
theorem ej_str {i : Str} {j : Nat} : EJ X Wx (.Constant (.str i) j pos) (fun _ T => .ok (.str i) T) := PE.imp pe_str fun σ H Q ⟨w, ρ, T, H0, t, er, p⟩ => p.here t (.str i)
theorem ej_glo {x : Str} {v : V} {u : Value} {q : Option PV} (hg : Gl X x) (hm : X.mg x = some u) (r : RelV v u) (hr : ∀ p, q = some p → ∀ w, Rep X.K w p v) (hd : (x == ("__debug__" : Str)) = false) : EJ X Wx (.Name x pos) (fun _ T => .of T q) :=
  PE.imp (pe_glob hg hm r hd) fun σ H Q ⟨w, ρ, T, H0, t, er, p⟩ => by
    (try dsimp only at p)
    cases q with
    | none => exact p.elim
    | some q => exact p.here t (hr q rfl w)
theorem ej_bin (o : BOp) (ha : EJT X Wx a ma) (hb : EJT X Wx b mb) : EJ X Wx (.BinOp a (bopOf o) b pos) (fun ρ T => (ma ρ T).bind fun x T => (mb ρ T).bind fun y T => .of T (binop o x y)) :=
  PE.imp (pe_op (opB o) ha hb) fun σ H Q ⟨w, ρ, T, H0, t, er, p⟩ => by
    (try dsimp only at p)
    obtain ⟨w, ρ', T', H0', t', er', p'⟩ := next (m := ma) (R := RT X.K) t er p
    exact ⟨w, ρ', T', H0', t', er', p'.mono fun x H1 ⟨v, w1, T1, s1, t1, er1, r1, q1⟩ => by
      obtain ⟨w, ρ', T', H0', t', er', p'⟩ := next (m := mb) (R := RT X.K) t1 er1 q1
      exact ⟨w, ρ', T', H0', t', er', p'.mono fun y H2 ⟨u, w2, T2, s2, t2, er2, r2, q2⟩ => ⟨w2, T2, v, u, t2, r1.step s2, r2, q2.done⟩⟩⟩
theorem ej_cmp (o : COp) (hu : X.A.units + 65 < cLine) (ha : EJT X Wx a ma) (hb : EJT X Wx b mb) (hm : behindInMarks (copOf o) b = false) : EJ X Wx (.Compare a [copOf o] [b] pos) (fun ρ T => (ma ρ T).bind fun x T => (mb ρ T).bind fun y T => .of T ((cmpop o x y).map .bl)) :=
  PE.imp (pe_cmpR (opC o hu) ha hb hm) fun σ H Q ⟨w, ρ, T, H0, t, er, p⟩ => by
    (try dsimp only at p)
    obtain ⟨w, ρ', T', H0', t', er', p'⟩ := next (m := ma) (R := RT X.K) t er p
    exact ⟨w, ρ', T', H0', t', er', p'.mono fun x H1 ⟨v, w1, T1, s1, t1, er1, r1, q1⟩ => by
      obtain ⟨w, ρ', T', H0', t', er', p'⟩ := next (m := mb) (R := RT X.K) t1 er1 q1
      exact ⟨w, ρ', T', H0', t', er', p'.mono fun y H2 ⟨u, w2, T2, s2, t2, er2, r2, q2⟩ => ⟨w2, T2, v, u, t2, r1.step s2, r2, q2.done⟩⟩⟩
/-- a test of a value that is a bool -/
theorem tj_bl {m : MM PV} {t : TE} (h : PT X e (tTest t)) (k : ∀ σ H Q, tM X.K Wx (RR X.K) m σ H Q → t σ H Q) (hb : ∀ ρ T v T', m ρ T = .ok v T' → ∃ b, v = .bl b) : TJ X Wx e (testM m) :=
  PT.imp h fun σ H Q ⟨w, ρ, T, H0, t, er, p⟩ => by
    (try dsimp only at p)
    refine k σ H _ ⟨w, ρ, T, H0, t, er, ?_⟩
    have p : Pst X.K Wx σ RB w H ((m ρ T).bind fun x T => .of T (truth x)) Q := p
    cases em : m ρ T with
    | ok v T' =>
      rw [em] at p
      obtain ⟨b, rfl⟩ := hb ρ T v T' em
      intro x w' H' s t' r
      cases (show Rep X.K w' (.bl b) x from r)
      exact ⟨b, rfl, p b w' H' s t' rfl⟩
    | ex x T' => rw [em] at p; exact p
    | bad => rw [em] at p; exact p
theorem bl_of {r : Res PV} {g : PV → PV → Option Bool} {s : PV → Store → Res PV} {v : PV} {T' : Cells} : ((r.bind fun x T => (s x T).bind fun y T => .of T ((g x y).map .bl)) = .ok v T') → ∃ b, v = .bl b := by
  intro h
  cases r with
  | ok x T =>
    rw [Res.bind_ok] at h
    cases e : s x T with
    | ok y T2 =>
      rw [e, Res.bind_ok] at h
      cases e2 : g x y with
      | none => rw [e2] at h; cases h
      | some b => rw [e2] at h; cases h; exact ⟨b, rfl⟩
    | ex _ _ => rw [e] at h; cases h
    | bad => rw [e] at h; cases h
  | ex _ _ => cases h
  | bad => cases h
theorem tj_cmp (o : COp) (hu : X.A.units + 65 < cLine) (ha : EJT X Wx a ma) (hb : EJT X Wx b mb) (hm : behindInMarks (copOf o) b = false) : TJ X Wx (.Compare a [copOf o] [b] pos) (testM fun ρ T => (ma ρ T).bind fun x T => (mb ρ T).bind fun y T => .of T ((cmpop o x y).map .bl)) :=
  tj_bl (pt_cmpR (opC o hu) ha hb hm) (fun σ H Q ⟨w, ρ, T, H0, t, er, p⟩ => by
    (try dsimp only at p)
    obtain ⟨w, ρ', T', H0', t', er', p'⟩ := next (m := ma) (R := RT X.K) t er p
    exact ⟨w, ρ', T', H0', t', er', p'.mono fun x H1 ⟨v, w1, T1, s1, t1, er1, r1, q1⟩ => by
      obtain ⟨w, ρ', T', H0', t', er', p'⟩ := next (m := mb) (R := RT X.K) t1 er1 q1
      exact ⟨w, ρ', T', H0', t', er', p'.mono fun y H2 ⟨u, w2, T2, s2, t2, er2, r2, q2⟩ => ⟨w2, T2, v, u, t2, r1.step s2, r2, q2.done⟩⟩⟩) fun ρ T v T' h => bl_of h
/-- a op b op c -/
abbrev cmp2M (o p : COp) (ma mb mc : MM PV) : MM PV := fun ρ T => (ma ρ T).bind fun x T => (mb ρ T).bind fun y T => match cmpop o x y with
    | some true => (mc ρ T).bind fun z T => .of T ((cmpop p y z).map .bl)
    | some false => .ok (.bl false) T
    | none => .bad
theorem cmp2_read {o p : COp} {σ : Sl} {H : Hp} {Q : VK} : tM X.K Wx (RR X.K) (cmp2M o p ma mb mc) σ H Q → tChain (r2 X.K (cmpv o)) (r2 X.K (cmpv p)) (tM X.K Wx (RT X.K) ma) (tM X.K Wx (RT X.K) mb) (tM X.K Wx (RT X.K) mc) σ H Q := fun ⟨w, ρ, T, H0, t, er, q⟩ => by
  obtain ⟨w, ρ', T', H0', t', er', p'⟩ := next (m := ma) (R := RT X.K) t er q
  exact ⟨w, ρ', T', H0', t', er', p'.mono fun x H1 ⟨v, w1, T1, s1, t1, er1, r1, q1⟩ => by
    obtain ⟨w, ρ', T', H0', t', er', p'⟩ := next (m := mb) (R := RT X.K) t1 er1 q1
    exact ⟨w, ρ', T', H0', t', er', p'.mono fun y H2 ⟨u, w2, T2, s2, t2, er2, r2, q2⟩ => by
      cases e : cmpop o v u with
      | none => rw [e] at q2; exact q2.elim
      | some k =>
        rw [e] at q2
        refine ⟨w2, T2, v, u, t2, r1.step s2, r2, ?_⟩
        unfold cmpv
        rw [e]
        intro z w' H' s3 t3 r3
        cases r3
        cases k with
        | false => exact ⟨false, rfl, by rw [if_neg Bool.false_ne_true]; exact q2.step s3 |>.here t3 (.bl false)⟩
        | true =>
          refine ⟨true, rfl, ?_⟩
          rw [if_pos rfl]
          obtain ⟨w, ρ', T', H0', t', er', p'⟩ := next (m := mc) (R := RT X.K) t3 (er2.step s3) (q2.step s3)
          exact ⟨w, ρ', T', H0', t', er', p'.mono fun z H4 ⟨u', w4, T4, s4, t4, er4, r4, q4⟩ => ⟨w4, T4, u, u', t4, (r2.step s3).step s4, r4, q4.done⟩⟩⟩⟩
theorem ej_cmp2 (o p : COp) (hu : X.A.units + 65 < cLine) (ha : EJT X Wx a ma) (hb : EJT X Wx b mb) (hc : EJT X Wx c mc) (hm : lastMarks [copOf o, copOf p] [b, c] = false) : EJ X Wx (.Compare a [copOf o, copOf p] [b, c] pos) (cmp2M o p ma mb mc) :=
  PE.imp (pe_chain (opC o hu) (opC p hu) ha hb hc hm) fun σ H Q h => cmp2_read h
theorem cmp2_bl {o p : COp} {ρ : MP.Env} {T : Store} {v : PV} {T' : Store} (h : cmp2M o p ma mb mc ρ T = .ok v T') : ∃ b, v = .bl b := by
  unfold cmp2M at h
  cases e : ma ρ T with
  | ok x T1 =>
    rw [e, Res.bind_ok] at h
    cases e2 : mb ρ T1 with
    | ok y T2 =>
      rw [e2, Res.bind_ok] at h
      cases e3 : cmpop o x y with
      | none => rw [e3] at h; cases h
      | some k =>
        rw [e3] at h
        cases k with
        | false => cases h; exact ⟨false, rfl⟩
        | true =>
          cases e4 : mc ρ T2 with
          | ok z T3 =>
            simp only [e4, Res.bind_ok] at h
            cases e5 : cmpop p y z with
            | none => rw [e5] at h; cases h
            | some k => rw [e5] at h; cases h; exact ⟨k, rfl⟩
          | ex _ _ => simp only [e4] at h; cases h
          | bad => simp only [e4] at h; cases h
    | ex _ _ => rw [e2] at h; cases h
    | bad => rw [e2] at h; cases h
  | ex _ _ => rw [e] at h; cases h
  | bad => rw [e] at h; cases h
theorem tj_cmp2 (o p : COp) (hu : X.A.units + 65 < cLine) (ha : EJT X Wx a ma) (hb : EJT X Wx b mb) (hc : EJT X Wx c mc) (hm : lastMarks [copOf o, copOf p] [b, c] = false) : TJ X Wx (.Compare a [copOf o, copOf p] [b, c] pos) (testM (cmp2M o p ma mb mc)) :=
  tj_bl (pt_chain (opC o hu) (opC p hu) ha hb hc hm) (fun σ H Q h => cmp2_read h) fun ρ T v T' h => cmp2_bl h
/-- a value's truth as a test -/
theorem tj_truth (ha : EJT X Wx a ma) (he : ∀ whole, isTrue a X.env whole = (do let v ← whole; standAt a.pos; holding [v] (truthy v))) : TJ X Wx a (testM ma) :=
  PT.imp (pt_truth ha he) fun σ H Q ⟨w, ρ, T, H0, t, er, p⟩ => by
    (try dsimp only at p)
    obtain ⟨w, ρ', T', H0', t', er', p'⟩ := next (m := ma) (R := RT X.K) t er p
    exact ⟨w, ρ', T', H0', t', er', p'.mono fun x H1 ⟨v, w1, T1, s1, t1, er1, r1, q1⟩ => by
      cases e : truth v with
      | none => rw [e] at q1; exact q1.elim
      | some k => rw [e] at q1; exact ⟨k, tru_V t1 r1 e, q1.here t1 rfl⟩⟩
theorem ej_neg (ha : EJT X Wx a ma) : EJ X Wx (.UnaryOp .USub a pos) (fun ρ T => (ma ρ T).bind fun x T => match x with
    | .int i => .ok (.int (-i)) T
    | _ => .bad) :=
  PE.imp (pe_un un_neg ha) fun σ H Q ⟨w, ρ, T, H0, t, er, p⟩ => by
    (try dsimp only at p)
    obtain ⟨w, ρ', T', H0', t', er', p'⟩ := next (m := ma) (R := RT X.K) t er p
    exact ⟨w, ρ', T', H0', t', er', p'.mono fun x H1 ⟨v, w1, T1, s1, t1, er1, r1, q1⟩ => by
      cases v <;> first | exact q1.elim | skip
      cases r1.int
      exact ⟨_, rfl, q1.here t1 (.int _)⟩⟩
theorem ej_nt (ha : EJT X Wx a ma) : EJ X Wx (.UnaryOp .Not a pos) (fun ρ T => (ma ρ T).bind fun x T => .of T ((truth x).map fun b => .bl (!b))) :=
  PE.imp (pe_notT ha) fun σ H Q ⟨w, ρ, T, H0, t, er, p⟩ => by
    (try dsimp only at p)
    obtain ⟨w, ρ', T', H0', t', er', p'⟩ := next (m := ma) (R := RT X.K) t er p
    exact ⟨w, ρ', T', H0', t', er', p'.mono fun x H1 ⟨v, w1, T1, s1, t1, er1, r1, q1⟩ => by
      cases e : truth v with
      | none => rw [e] at q1; exact q1.elim
      | some k => rw [e] at q1; exact ⟨k, tru_V t1 r1 e, q1.here t1 (.bl _)⟩⟩
theorem tj_nt (ha : TJ X Wx a (testM ma)) : TJ X Wx (.UnaryOp .Not a pos) (testM fun ρ T => (ma ρ T).bind fun x T => .of T ((truth x).map fun b => .bl (!b))) :=
  PT.imp (pt_not ha) fun σ H Q ⟨w, ρ, T, H0, t, er, p⟩ => by
    (try dsimp only at p)
    refine ⟨w, ρ, T, H0, t, er, ?_⟩
    have p : Pst X.K Wx σ RB w H (((ma ρ T).bind fun x T => .of T ((truth x).map fun b => .bl (!b))).bind fun x T => .of T (truth x)) Q := p
    show Pst X.K Wx σ RB w H ((ma ρ T).bind fun x T => .of T (truth x)) fun c H1 => Q (!c) H1
    cases em : ma ρ T with
    | ok v T' =>
      rw [em] at p
      rw [Res.bind_ok] at p ⊢
      cases e : truth v with
      | none => rw [e] at p; exact p
      | some k =>
        rw [e] at p
        intro x w' H' s t' r
        have r : k = x := r
        subst r
        exact p (!k) w' H' s t' rfl
    | ex x T' => rw [em] at p; exact p
    | bad => rw [em] at p; exact p

/-! ### and, or, if -/
abbrev anM (ma mb : MM PV) : MM PV := fun ρ T => (ma ρ T).bind fun x T => match truth x with
    | some true => mb ρ T
    | some false => .ok x T
    | none => .bad
abbrev orM (ma mb : MM PV) : MM PV := fun ρ T => (ma ρ T).bind fun x T => match truth x with
    | some false => mb ρ T
    | some true => .ok x T
    | none => .bad
abbrev ifM (mc ma mb : MM PV) : MM PV := fun ρ T => (mc ρ T).bind fun x T => match truth x with
    | some true => ma ρ T
    | some false => mb ρ T
    | none => .bad
theorem ej_an (ha : EJ X Wx a ma) (hb : EJ X Wx (.BoolOp .And (b :: rest) pos) mb) : EJ X Wx (.BoolOp .And (a :: b :: rest) pos) (anM ma mb) :=
  PE.imp (pe_andT ha hb) fun σ H Q ⟨w, ρ, T, H0, t, er, p⟩ => by
    (try dsimp only at p)
    obtain ⟨w, ρ', T', H0', t', er', p'⟩ := next (m := ma) (R := RR X.K) t er p
    exact ⟨w, ρ', T', H0', t', er', p'.mono fun x H1 ⟨v, w1, T1, s1, t1, er1, r1, q1⟩ => by
      cases e : truth v with
      | none => rw [e] at q1; exact q1.elim
      | some k =>
        rw [e] at q1
        refine ⟨k, tru_V t1 (.inl r1) e, ?_⟩
        cases k with
        | true => rw [if_pos rfl]; exact ⟨w1, ρ, T1, H0, t1, er1, q1⟩
        | false => rw [if_neg Bool.false_ne_true]; exact q1.here t1 r1⟩
theorem ej_or (ha : EJ X Wx a ma) (hb : EJ X Wx (.BoolOp .Or (b :: rest) pos) mb) : EJ X Wx (.BoolOp .Or (a :: b :: rest) pos) (orM ma mb) :=
  PE.imp (pe_orT ha hb) fun σ H Q ⟨w, ρ, T, H0, t, er, p⟩ => by
    (try dsimp only at p)
    obtain ⟨w, ρ', T', H0', t', er', p'⟩ := next (m := ma) (R := RR X.K) t er p
    exact ⟨w, ρ', T', H0', t', er', p'.mono fun x H1 ⟨v, w1, T1, s1, t1, er1, r1, q1⟩ => by
      cases e : truth v with
      | none => rw [e] at q1; exact q1.elim
      | some k =>
        rw [e] at q1
        refine ⟨k, tru_V t1 (.inl r1) e, ?_⟩
        cases k with
        | false => rw [if_neg Bool.false_ne_true]; exact ⟨w1, ρ, T1, H0, t1, er1, q1⟩
        | true => rw [if_pos rfl]; exact q1.here t1 r1⟩
theorem ej_one {op : PySem.BoolOp} (hb : EJ X Wx b mb) : EJ X Wx (.BoolOp op [b] pos) mb := pe_one hb
theorem pw_bool {op : PySem.BoolOp} {vs : List Expr} {t : TT} (h : PT X (.BoolOp op vs pos) t) : PW X (.BoolOp op vs pos) t := ⟨fun wh pins s σ H Q I q => h.run pins s σ H Q I q⟩
theorem test_cases {m : MM PV} {ρ : MP.Env} {T : Store} : (∃ v T' k, m ρ T = .ok v T' ∧ truth v = some k ∧ testM m ρ T = .ok k T') ∨ (∃ x T', m ρ T = .ex x T' ∧ testM m ρ T = .ex x T') ∨ testM m ρ T = .bad := by
  unfold testM
  cases e : m ρ T with
  | ok v T' =>
    rw [Res.bind_ok]
    cases e2 : truth v with
    | none => exact .inr (.inr rfl)
    | some k => exact .inl ⟨v, T', k, rfl, e2, rfl⟩
  | ex x T' => exact .inr (.inl ⟨x, T', rfl, rfl⟩)
  | bad => exact .inr (.inr rfl)
theorem tj_an (ha : TJ X Wx a (testM ma)) (hb : PW X (.BoolOp .And (b :: rest) pos) (tM X.K Wx RB (testM mb))) : PW X (.BoolOp .And (a :: b :: rest) pos) (tM X.K Wx RB (testM (anM ma mb))) := by
  have h := pw_and ha hb
  refine ⟨fun wh pins s σ H Q I q => h.run wh pins s σ H Q I ?_⟩
  obtain ⟨w, ρ, T, H0, t, er, p⟩ := q
  refine ⟨w, ρ, T, H0, t, er, ?_⟩
  have p : Pst X.K Wx σ RB w H ((anM ma mb ρ T).bind fun x T => .of T (truth x)) Q := p
  unfold anM at p
  rcases test_cases (m := ma) (ρ := ρ) (T := T) with ⟨v, T', k, e1, e2, e3⟩ | ⟨x, T', e1, e3⟩ | e3
  · rw [e3]
    rw [e1] at p
    simp only [Res.bind_ok, e2] at p
    intro c w' H' s t' r
    have r : k = c := r
    subst r
    cases k with
    | true => rw [if_pos rfl]; exact ⟨w', ρ, T', H0, t', er.step s, p.step s⟩
    | false =>
      rw [if_neg Bool.false_ne_true]
      simp only [Res.bind_ok, e2, Res.of_some] at p
      exact p false w' H' s t' rfl
  · rw [e3]; rw [e1] at p; exact p
  · rw [e3]
    unfold testM at e3
    cases e : ma ρ T with
    | ok v T' =>
      rw [e] at e3 p
      simp only [Res.bind_ok] at e3 p
      cases e2 : truth v with
      | none => rw [e2] at p; exact p
      | some k => rw [e2] at e3; cases e3
    | ex x T' => rw [e] at e3; cases e3
    | bad => rw [e] at p; exact p
theorem tj_or (ha : TJ X Wx a (testM ma)) (hb : PW X (.BoolOp .Or (b :: rest) pos) (tM X.K Wx RB (testM mb))) : PW X (.BoolOp .Or (a :: b :: rest) pos) (tM X.K Wx RB (testM (orM ma mb))) := by
  have h := pw_or ha hb
  refine ⟨fun wh pins s σ H Q I q => h.run wh pins s σ H Q I ?_⟩
  obtain ⟨w, ρ, T, H0, t, er, p⟩ := q
  refine ⟨w, ρ, T, H0, t, er, ?_⟩
  have p : Pst X.K Wx σ RB w H ((orM ma mb ρ T).bind fun x T => .of T (truth x)) Q := p
  unfold orM at p
  rcases test_cases (m := ma) (ρ := ρ) (T := T) with ⟨v, T', k, e1, e2, e3⟩ | ⟨x, T', e1, e3⟩ | e3
  · rw [e3]
    rw [e1] at p
    simp only [Res.bind_ok, e2] at p
    intro c w' H' s t' r
    have r : k = c := r
    subst r
    cases k with
    | false => rw [if_neg Bool.false_ne_true]; exact ⟨w', ρ, T', H0, t', er.step s, p.step s⟩
    | true =>
      rw [if_pos rfl]
      simp only [Res.bind_ok, e2, Res.of_some] at p
      exact p true w' H' s t' rfl
  · rw [e3]; rw [e1] at p; exact p
  · rw [e3]
    unfold testM at e3
    cases e : ma ρ T with
    | ok v T' =>
      rw [e] at e3 p
      simp only [Res.bind_ok] at e3 p
      cases e2 : truth v with
      | none => rw [e2] at p; exact p
      | some k => rw [e2] at e3; cases e3
    | ex x T' => rw [e] at e3; cases e3
    | bad => rw [e] at p; exact p
/-- behind a test -/
theorem if_read {β : Type} {R : Rel PV β} {tc : TT} {σ : Sl} {H : Hp} {Q : β → Hp → Prop} (h : tM X.K Wx R (ifM mc ma mb) σ H Q) :
    tM X.K Wx RB (testM mc) σ H fun k H1 => if k = true then tM X.K Wx R ma σ H1 Q else tM X.K Wx R mb σ H1 Q := by
  obtain ⟨w, ρ, T, H0, t, er, p⟩ := h
  refine ⟨w, ρ, T, H0, t, er, ?_⟩
  unfold ifM at p
  rcases test_cases (m := mc) (ρ := ρ) (T := T) with ⟨v, T', k, e1, e2, e3⟩ | ⟨x, T', e1, e3⟩ | e3
  · rw [e3]
    rw [e1] at p
    simp only [Res.bind_ok, e2] at p
    intro c w' H' s t' r
    have r : k = c := r
    subst r
    cases k with
    | false => rw [if_neg Bool.false_ne_true]; exact ⟨w', ρ, T', H0, t', er.step s, p.step s⟩
    | true => rw [if_pos rfl]; exact ⟨w', ρ, T', H0, t', er.step s, p.step s⟩
  · rw [e3]; rw [e1] at p; exact p
  · rw [e3]
    unfold testM at e3
    cases e : mc ρ T with
    | ok v T' =>
      rw [e] at e3 p
      simp only [Res.bind_ok] at e3 p
      cases e2 : truth v with
      | none => rw [e2] at p; exact p
      | some k => rw [e2] at e3; cases e3
    | ex x T' => rw [e] at e3; cases e3
    | bad => rw [e] at p; exact p
theorem ej_ife (hc : TJ X Wx c (testM mc)) (ha : EJ X Wx a ma) (hb : EJ X Wx b mb) : EJ X Wx (.IfExp c a b pos) (ifM mc ma mb) := PE.imp (pe_ifExp hc ha hb) fun σ H Q h => if_read (tc := tNot (fun _ _ _ => True)) h
end
end MPS
end

section
set_option Elab.async false
set_option linter.all false
set_option maxRecDepth 100000
set_option autoImplicit false
namespace MPS
open PySem PySem.Spec PyProof.Rows L2 MP

/-! ### arguments -/
def notStar : Expr → Bool
  | .Starred .. => false
  | _ => true
theorem star_cons {e : Expr} (h : notStar e = true) (es : List Expr) (env : PySem.Env) : starEach (e :: es) env = (false, eval e env) :: starEach es env := by
  cases e <;> first | rfl | cases h
theorem star_any : ∀ {es : List Expr}, es.all notStar = true → ∀ (env : PySem.Env) (pos : Pos), (backTo pos (starEach es env)).any (·.1) = false
  | [], _, _, _ => rfl
  | e :: es, h, env, pos => by
    rw [List.all_cons, Bool.and_eq_true] at h
    rw [star_cons h.1]
    exact star_any h.2 env pos
section
variable {X : Cx} {Wx : WX} {a b c e : Expr} {es rest : List Expr} {ma mb mc : MM PV} {ms : MM (List PV)} {pos p : Pos} {x : Str}
abbrev nilM : MM (List PV) := fun _ T => .ok [] T
abbrev consM (ma : MM PV) (ms : MM (List PV)) : MM (List PV) := fun ρ T => (ma ρ T).bind fun x T => (ms ρ T).bind fun xs T => .ok (x :: xs) T
theorem aj_nil : AJ X Wx [] nilM := PA.imp pa_nil fun σ H Q ⟨w, ρ, T, H0, t, er, p⟩ => p.here t .nil
theorem Reps.step {K : Frg} {w w' : W} {H H' : Hp} {ps : List PV} {vs : List V} (r : Reps K w ps vs) (s : Stp w H w' H') : Reps K w' ps vs := r.up s.le
theorem aj_cons (ha : EJ X Wx e ma) (hr : AJ X Wx es ms) (hs : notStar e = true) : AJ X Wx (e :: es) (consM ma ms) :=
  PA.imp (pa_cons ha hr (star_cons hs _ _)) fun σ H Q ⟨w, ρ, T, H0, t, er, p⟩ => by
    obtain ⟨w, ρ', T', H0', t', er', p'⟩ := next (m := ma) (R := RR X.K) t er p
    exact ⟨w, ρ', T', H0', t', er', p'.mono fun x H1 ⟨v, w1, T1, s1, t1, er1, r1, q1⟩ => by
      obtain ⟨w, ρ', T', H0', t', er', p'⟩ := next (m := ms) (R := RRs X.K) t1 er1 q1
      exact ⟨w, ρ', T', H0', t', er', p'.mono fun y H2 ⟨u, w2, T2, s2, t2, er2, r2, q2⟩ => q2.here t2 (.cons (Rep.up s2.le r1) r2)⟩⟩
theorem ajt_nil : AJT X Wx [] nilM := PA.imp pa_nil fun σ H Q ⟨w, ρ, T, H0, t, er, p⟩ => p.here t .nil
theorem ajt_cons (ha : EJT X Wx e ma) (hr : AJT X Wx es ms) (hs : notStar e = true) : AJT X Wx (e :: es) (consM ma ms) :=
  PA.imp (pa_cons ha hr (star_cons hs _ _)) fun σ H Q ⟨w, ρ, T, H0, t, er, p⟩ => by
    obtain ⟨w, ρ', T', H0', t', er', p'⟩ := next (m := ma) (R := RT X.K) t er p
    exact ⟨w, ρ', T', H0', t', er', p'.mono fun x H1 ⟨v, w1, T1, s1, t1, er1, r1, q1⟩ => by
      obtain ⟨w, ρ', T', H0', t', er', p'⟩ := next (m := ms) (R := RTs X.K) t1 er1 q1
      exact ⟨w, ρ', T', H0', t', er', p'.mono fun y H2 ⟨u, w2, T2, s2, t2, er2, r2, q2⟩ => q2.here t2 (.cons (r1.step s2) r2)⟩⟩
/-- as many answers as arguments -/
def LenOk (n : Nat) (ms : MM (List PV)) : Prop := n ≤ 1000 ∧ ∀ ρ T xs T', ms ρ T = .ok xs T' → xs.length = n
theorem len_guard {n : Nat} (h : LenOk n ms) {ρ : MP.Env} {T : Store} {f : List PV → Store → Res PV} : ((ms ρ T).bind fun xs T => f xs T) = (ms ρ T).bind fun xs T => if xs.length ≤ 1000 then f xs T else .bad := by
  cases e : ms ρ T with
  | ok xs T' => rw [Res.bind_ok, Res.bind_ok, if_pos (by rw [h.2 _ _ _ _ e]; exact h.1)]
  | ex _ _ => rfl
  | bad => rfl
theorem small1 {n : Nat} (h : n ≤ 1000) : n ≤ sizeLine := by rw [sizeLine_eq]; omega
theorem ej_tup {n k : Nat} (ha : AJ X Wx es ms) (hl : LenOk n ms) : EJ X Wx (.Tuple es k pos) (fun ρ T => (ms ρ T).bind fun xs T => .ok (.tup xs) T) :=
  PE.imp (pe_tup ha) fun σ H Q ⟨w, ρ, T, H0, t, er, p⟩ => by
    (try dsimp only at p)
    rw [len_guard hl] at p
    obtain ⟨w, ρ', T', H0', t', er', p'⟩ := next (m := ms) (R := RRs X.K) t er p
    exact ⟨w, ρ', T', H0', t', er', p'.mono fun x H1 ⟨v, w1, T1, s1, t1, er1, r1, q1⟩ => by
      by_cases hz : v.length ≤ 1000
      · rw [if_pos hz] at q1
        exact ⟨by rw [← r1.length]; exact small1 hz, fun p hp => q1 _ _ _ (Stp.add t1 hp) (t1.add hp) (Rep.newT t1 hp r1)⟩
      · rw [if_neg hz] at q1; exact q1.elim⟩
theorem ej_lst {n : Nat} (ha : AJ X Wx es ms) (hl : LenOk n ms) : EJ X Wx (.List es pos) (fun ρ T => (ms ρ T).bind fun xs T => .ok (.lst xs) T) :=
  PE.imp (pe_lst ha) fun σ H Q ⟨w, ρ, T, H0, t, er, p⟩ => by
    (try dsimp only at p)
    rw [len_guard hl] at p
    obtain ⟨w, ρ', T', H0', t', er', p'⟩ := next (m := ms) (R := RRs X.K) t er p
    exact ⟨w, ρ', T', H0', t', er', p'.mono fun x H1 ⟨v, w1, T1, s1, t1, er1, r1, q1⟩ => by
      by_cases hz : v.length ≤ 1000
      · rw [if_pos hz] at q1
        exact ⟨by rw [← r1.length]; exact small1 hz, fun p hp => q1 _ _ _ (Stp.add t1 hp) (t1.add hp) (Rep.newL t1 hp r1)⟩
      · rw [if_neg hz] at q1; exact q1.elim⟩
/-- a new cell at p -/
def W.cell (w : W) (p : Addr) : W := ⟨w.G, w.cs ++ [p]⟩
theorem Wle.cell (w : W) (p : Addr) : Wle w (w.cell p) := ⟨fun _ _ e => e, List.prefix_append _ _⟩
theorem HT.cell {K : Frg} {w : W} {H : Hp} {T : Cells} {p : Addr} {xs : List PV} {vs : List V} (t : HT K w H T) (hp : H p = none) (r : Reps K w xs vs) : HT K (w.cell p) (upd H p (.lst vs)) (T ++ [xs]) where
  sub := (t.lay hp).sub
  len := by show (w.cs ++ [p]).length = _; rw [List.length_append, List.length_append, t.len]; rfl
  cel := fun n a ys e1 e2 => by
    have e1 : (w.cs ++ [p])[n]? = some a := e1
    by_cases h : n < w.cs.length
    · rw [List.getElem?_append_left h] at e1
      rw [List.getElem?_append_left (by rw [← t.len]; exact h)] at e2
      obtain ⟨us, h1, h2⟩ := (t.lay (o := .lst vs) hp).cel n a ys e1 e2
      exact ⟨us, h1, h2.up (Wle.cell w p)⟩
    · rw [List.getElem?_append_right (by omega)] at e1
      rw [List.getElem?_append_right (by rw [← t.len]; omega), ← t.len] at e2
      have hz : n - w.cs.length = 0 := by
        have := (List.getElem?_eq_some_iff.mp e1).1
        simp at this; omega
      rw [hz] at e1 e2
      simp at e1 e2
      subst e1 e2
      exact ⟨vs, upd_same, r.up (Wle.cell w p)⟩
  cG := fun a ha => by
    have ha : a ∈ w.cs ++ [p] := ha
    rcases List.mem_append.mp ha with h | h
    · exact t.cG a h
    · have h : a = p := by simpa using h
      subst h; exact t.fresh hp
  nd := by
    show (w.cs ++ [p]).Nodup
    rw [List.nodup_append]
    refine ⟨t.nd, by simp, fun x hx y hy => ?_⟩
    have hy : y = p := by simpa using hy
    subst hy
    intro e; subst e
    exact t.ncs hp hx
theorem Stp.cell {K : Frg} {w : W} {H : Hp} {T : Cells} {p : Addr} {vs : List V} (t : HT K w H T) (hp : H p = none) : Stp w H (w.cell p) (upd H p (.lst vs)) where
  le := Wle.cell w p
  newG := fun a h k => absurd k h
  newC := fun a h k => by
    have h : a ∈ w.cs ++ [p] := h
    rcases List.mem_append.mp h with h | h
    · exact absurd h k
    · have h : a = p := by simpa using h
      subst h; exact hp
  keep := fun a u e _ => by rw [upd_ne (ne_of_none e hp)]; exact e
  dom := fun a u e => ⟨u, by rw [upd_ne (ne_of_none e hp)]; exact e⟩
theorem ej_nce {n : Nat} (ha : AJ X Wx es ms) (hl : LenOk n ms) : EJ X Wx (.List es pos) (fun ρ T => (ms ρ T).bind fun xs T => .ok (.cel T.length) (T ++ [xs])) :=
  PE.imp (pe_lst ha) fun σ H Q ⟨w, ρ, T, H0, t, er, p⟩ => by
    (try dsimp only at p)
    rw [len_guard hl] at p
    obtain ⟨w, ρ', T', H0', t', er', p'⟩ := next (m := ms) (R := RRs X.K) t er p
    exact ⟨w, ρ', T', H0', t', er', p'.mono fun x H1 ⟨v, w1, T1, s1, t1, er1, r1, q1⟩ => by
      by_cases hz : v.length ≤ 1000
      · rw [if_pos hz] at q1
        refine ⟨by rw [← r1.length]; exact small1 hz, fun p hp => q1 _ _ _ (Stp.cell t1 hp) (t1.cell hp r1) (.cel ?_)⟩
        show (w1.cs ++ [p])[T1.length]? = some p
        rw [List.getElem?_append_right (by rw [t1.len]; exact Nat.le_refl _), t1.len, Nat.sub_self]; rfl
      · rw [if_neg hz] at q1; exact q1.elim⟩
theorem ej_idx (ha : EJT X Wx a ma) (hb : EJT X Wx b mb) (hs : PlainIx b) : EJ X Wx (.Subscript a b pos) (fun ρ T => (ma ρ T).bind fun x T => (mb ρ T).bind fun y T => .of T (index T x y)) :=
  PE.imp (pe_ix ix_ok ha hb hs) fun σ H Q ⟨w, ρ, T, H0, t, er, p⟩ => by
    obtain ⟨w, ρ', T', H0', t', er', p'⟩ := next (m := ma) (R := RT X.K) t er p
    exact ⟨w, ρ', T', H0', t', er', p'.mono fun x H1 ⟨v, w1, T1, s1, t1, er1, r1, q1⟩ => by
      obtain ⟨w, ρ', T', H0', t', er', p'⟩ := next (m := mb) (R := RT X.K) t1 er1 q1
      exact ⟨w, ρ', T', H0', t', er', p'.mono fun y H2 ⟨u, w2, T2, s2, t2, er2, r2, q2⟩ => ⟨w2, T2, v, u, t2, r1.step s2, r2, q2.done⟩⟩⟩
/-! ### slices -/
def ROI : Rel (Option Int) (Option Int) := fun _ _ a b => a = b
abbrev PJ (X : Cx) (Wx : WX) (e : Option Expr) (m : MM (Option Int)) : Prop := PO X e (tM X.K Wx ROI m)
theorem PO.imp {e : Option Expr} {t t' : TO} (h : PO X e t) (k : ∀ σ H Q, t' σ H Q → t σ H Q) : PO X e t' := ⟨fun pins s σ H Q I q => h.run pins s σ H Q I (k _ _ _ q)⟩
theorem pj_none : PJ X Wx none (fun ρ T => (.ok .non T : Res PV).bind (partV true)) := PO.imp po_none fun σ H Q ⟨w, ρ, T, H0, t, er, p⟩ => p.here t rfl
theorem pj_some (ha : EJT X Wx a ma) : PJ X Wx (some a) (fun ρ T => (ma ρ T).bind (partV false)) :=
  PO.imp (po_some ha) fun σ H Q ⟨w, ρ, T, H0, t, er, p⟩ => by
    obtain ⟨w, ρ', T', H0', t', er', p'⟩ := next (m := ma) (R := RT X.K) t er p
    exact ⟨w, ρ', T', H0', t', er', p'.mono fun x H1 ⟨v, w1, T1, s1, t1, er1, r1, q1⟩ => by
      cases v <;> first | exact q1.elim | skip
      cases r1.int
      exact ⟨_, rfl, q1.here t1 rfl⟩⟩
theorem ej_sl {lo hi : Option Expr} {ml mh : MM (Option Int)} {p2 : Pos} (ha : EJT X Wx a ma) (hl : PJ X Wx lo ml) (hh : PJ X Wx hi mh) : EJ X Wx (.Subscript a (.Slice lo hi none p2) pos) (fun ρ T => (ma ρ T).bind fun x T => (ml ρ T).bind fun l T => (mh ρ T).bind fun h T => .of T (cutv l h x)) :=
  PE.imp (pe_slice sl_ok ha hl hh) fun σ H Q ⟨w, ρ, T, H0, t, er, p⟩ => by
    obtain ⟨w, ρ', T', H0', t', er', p'⟩ := next (m := ma) (R := RT X.K) t er p
    exact ⟨w, ρ', T', H0', t', er', p'.mono fun x H1 ⟨v, w1, T1, s1, t1, er1, r1, q1⟩ => by
      obtain ⟨w, ρ', T', H0', t', er', p'⟩ := next (m := ml) (R := ROI) t1 er1 q1
      exact ⟨w, ρ', T', H0', t', er', p'.mono fun y H2 ⟨u, w2, T2, s2, t2, er2, r2, q2⟩ => by
        obtain ⟨w, ρ', T', H0', t', er', p'⟩ := next (m := mh) (R := ROI) t2 er2 q2
        exact ⟨w, ρ', T', H0', t', er', p'.mono fun z H3 ⟨u3, w3, T3, s3, t3, er3, r3, q3⟩ => by
          have r2 : u = y := r2
          have r3 : u3 = z := r3
          subst r2; subst r3
          exact ⟨w3, T3, v, t3, (r1.step s2).step s3, q3.done⟩⟩⟩⟩
/-! ### built-in functions and types -/
theorem ej_biB {id : String} {g : List PV → Option PV} (hc : CallR X (.builtin id) (rBi X.K g)) (hg : Gl X x) (hm : X.mg x = none) (hv : bootBuiltins x = some (.builtin id)) (ha : AJT X Wx (e :: es) ms) (hs : (e :: es).all notStar = true) (hn : x ≠ "__name__") (hdb : (x == ("__debug__" : Str)) = false) :
    EJ X Wx (.Call (.Name x p) (e :: es) [] pos) (fun ρ T => (ms ρ T).bind fun xs T => .of T (g xs)) := by
  rw [List.all_cons, Bool.and_eq_true] at hs
  refine PE.imp (pe_callB hc hg hm hv ha hn hdb (star_cons hs.1 _ _) (star_any hs.2 _ _)) fun σ H Q ⟨w, ρ, T, H0, t, er, p⟩ => ?_
  obtain ⟨w, ρ', T', H0', t', er', p'⟩ := next (m := ms) (R := RTs X.K) t er p
  exact ⟨w, ρ', T', H0', t', er', p'.mono fun x H1 ⟨v, w1, T1, s1, t1, er1, r1, q1⟩ => ⟨w1, T1, v, t1, r1, q1.done⟩⟩
theorem ej_biT {id : String} {g : List PV → Option PV} (hc : CallR X (.type id) (rBi X.K g)) (hg : Gl X x) (hm : X.mg x = none) (hv : bootBuiltins x = some (.type id)) (ha : AJT X Wx (e :: es) ms) (hs : (e :: es).all notStar = true) (hn : x ≠ "__name__") (hdb : (x == ("__debug__" : Str)) = false) :
    EJ X Wx (.Call (.Name x p) (e :: es) [] pos) (fun ρ T => (ms ρ T).bind fun xs T => .of T (g xs)) := by
  rw [List.all_cons, Bool.and_eq_true] at hs
  refine PE.imp (pe_callTy hc hg hm hv ha hn hdb (star_cons hs.1 _ _) (star_any hs.2 _ _)) fun σ H Q ⟨w, ρ, T, H0, t, er, p⟩ => ?_
  obtain ⟨w, ρ', T', H0', t', er', p'⟩ := next (m := ms) (R := RTs X.K) t er p
  exact ⟨w, ρ', T', H0', t', er', p'.mono fun x H1 ⟨v, w1, T1, s1, t1, er1, r1, q1⟩ => ⟨w1, T1, v, t1, r1, q1.done⟩⟩
/-! ### isinstance -/
def tyNm : Ty → String
  | .int => "int"
  | .bool => "bool"
  | .str => "str"
  | .tup => "tuple"
  | .lst => "list"
/-- a value's type by name -/
def kdNm : PV → Option String
  | .non => some "NoneType"
  | .bl _ => some "bool"
  | .int _ => some "int"
  | .str _ => some "str"
  | .tup _ => some "tuple"
  | .lst _ => some "list"
  | _ => none
theorem kit_1 {t : Ty} {v : PV} {b : Bool} (h : isTy t v = some b) : ∃ n, kdNm v = some n ∧ kitB n (tyNm t) = some b := by
  cases v <;> first
    | (cases t <;> cases h; done)
    | (refine ⟨_, rfl, ?_⟩; cases t <;> (cases h; decide +kernel))
theorem tyx {K : Frg} {w : W} {H : Hp} {T : Cells} {p : PV} {x : V} {n : String} (t : HT K w H T) (r : RepT K w H p x) (h : kdNm p = some n) : TyX K H x (.type n) := by
  cases p <;> cases h
  · cases r.non; exact .base .non
  · cases r.bl; exact .base (.bl _)
  · cases r.int; exact .base (.int _)
  · cases r.str; exact .base (.str _)
  · obtain ⟨a, vs, rfl, ha, ra⟩ := r.tup t
    rcases ha with (ha | ⟨o, ha⟩) | ⟨o, its, n, h1, h2, _⟩
    · exact .base (.tup ha)
    · exact .fTuple ha
    · exact .kTuple h1 h2
  · obtain ⟨a, vs, rfl, ha, ra⟩ := r.lst t
    rcases ha with ha | ⟨o, ha⟩
    · exact .base (.lst ha)
    · exact .base (.frz ha)
theorem kit_any {K : Frg} {v : PV} {n : String} (hn : kdNm v = some n) : ∀ {ts : List Ty} {b : Bool}, isTys ts v = some b → PySem.W.kitAny K (.type n) (ts.map fun t => Value.type (tyNm t)) = some b
  | [], b, h => by cases h; exact kitAny_nil
  | t :: ts, b, h => by
    rw [isTys] at h
    cases e : isTy t v with
    | none => rw [e] at h; cases h
    | some k =>
      rw [e] at h
      obtain ⟨n', h1, h2⟩ := kit_1 e
      rw [hn] at h1
      cases h1
      rw [List.map_cons]
      refine kitAny_cons (kit_ty h2) (fun hk => ?_) fun hk => ?_
      · subst hk; exact kit_any hn h
      · subst hk; cases h; rfl
theorem boot_ty (t : Ty) : bootBuiltins (Str.ofString (tyNm t)) = some (.type (tyNm t)) := by cases t <;> decide +kernel
theorem nm_ty (t : Ty) : (Str.ofString (tyNm t) == ("__debug__" : Str)) = false ∧ Str.ofString (tyNm t) ≠ "__name__" := by cases t <;> decide +kernel
theorem pe_ty (t : Ty) (hg : Gl X (Str.ofString (tyNm t))) (hm : X.mg (Str.ofString (tyNm t)) = none) : PE X (.Name (Str.ofString (tyNm t)) p) (tC (.ty (tyNm t))) :=
  pe_bltn hg hm (boot_ty t) rfl (nm_ty t).2 (nm_ty t).1
theorem boot_isi : bootBuiltins "isinstance" = some (.builtin "isinstance") := by decide +kernel
theorem ej_isi {t : Ty} {p2 : Pos} (hg : Gl X "isinstance") (hm : X.mg "isinstance" = none) (ha : EJT X Wx a ma) (hs : notStar a = true) (hgt : Gl X (Str.ofString (tyNm t))) (hmt : X.mg (Str.ofString (tyNm t)) = none) :
    EJ X Wx (.Call (.Name "isinstance" p) [a, .Name (Str.ofString (tyNm t)) p2] [] pos) (fun ρ T => (ma ρ T).bind fun x T => .of T ((isTys [t] x).map .bl)) := by
  have hA := pa_cons ha (pa_cons (pe_ty (p := p2) t hgt hmt) pa_nil (star_cons rfl _ _)) (star_cons hs _ _)
  refine PE.imp (pe_callB call_isi hg hm boot_isi hA (by decide) (by decide) (star_cons hs _ _) (star_any rfl _ _)) fun σ H Q ⟨w, ρ, T, H0, tt, er, p⟩ => ?_
  obtain ⟨w, ρ', T', H0', t', er', p'⟩ := next (m := ma) (R := RT X.K) tt er p
  refine ⟨w, ρ', T', H0', t', er', p'.mono fun x H1 ⟨v, w1, T1, s1, t1, er1, r1, q1⟩ => ?_⟩
  cases e : isTys [t] v with
  | none => rw [e] at q1; exact q1.elim
  | some b =>
    rw [e] at q1
    have e2 : isTy t v = some b := by
      rw [isTys] at e
      cases e3 : isTy t v with
      | none => rw [e3] at e; cases e
      | some k => rw [e3] at e; cases k <;> exact e
    obtain ⟨n, hn, hk⟩ := kit_1 e2
    exact ⟨x, .ty (tyNm t), .type n, .type (tyNm t), b, rfl, .ty _, tyx t1 r1 hn, kit_ty hk, q1.here t1 (.bl _)⟩
/-- the written names of types -/
inductive TyEs (X : Cx) : List Ty → List Expr → Prop
  | nil : TyEs X [] []
  | cons {t : Ty} {ts : List Ty} {es : List Expr} {p : Pos} : Gl X (Str.ofString (tyNm t)) → X.mg (Str.ofString (tyNm t)) = none → TyEs X ts es → TyEs X (t :: ts) (.Name (Str.ofString (tyNm t)) p :: es)
theorem pa_tys : ∀ {ts : List Ty} {es : List Expr}, TyEs X ts es → PA X es (fun σ H Q => Q (ts.map fun t => V.ty (tyNm t)) H)
  | _, _, .nil => pa_nil
  | _, _, .cons h1 h2 r => PA.imp (pa_cons (pe_ty _ h1 h2) (pa_tys r) (star_cons rfl _ _)) fun σ H Q h => h
theorem paired_tys : ∀ ts : List Ty, Paired ClsV (ts.map fun t => V.ty (tyNm t)) (ts.map fun t => Value.type (tyNm t))
  | [] => .nil
  | t :: ts => .cons (.ty _) (paired_tys ts)
theorem ej_isiT {ts : List Ty} {te : List Expr} {k : Nat} {p2 : Pos} (hg : Gl X "isinstance") (hm : X.mg "isinstance" = none) (ha : EJT X Wx a ma) (hs : notStar a = true) (ht : TyEs X ts te) (hl : ts.length ≤ 1000) (h0 : ts ≠ []) :
    EJ X Wx (.Call (.Name "isinstance" p) [a, .Tuple te k p2] [] pos) (fun ρ T => (ma ρ T).bind fun x T => .of T ((isTys ts x).map .bl)) := by
  have hA := pa_cons ha (pa_cons (pe_tup (x1 := k) (pos := p2) (pa_tys ht)) pa_nil (star_cons rfl _ _)) (star_cons hs _ _)
  refine PE.imp (pe_callB call_isiT hg hm boot_isi hA (by decide) (by decide) (star_cons hs _ _) (star_any rfl _ _)) fun σ H Q ⟨w, ρ, T, H0, tt, er, p⟩ => ?_
  obtain ⟨w, ρ', T', H0', t', er', p'⟩ := next (m := ma) (R := RT X.K) tt er p
  refine ⟨w, ρ', T', H0', t', er', p'.mono fun x H1 ⟨v, w1, T1, s1, t1, er1, r1, q1⟩ => ?_⟩
  refine ⟨by rw [List.length_map]; exact small1 hl, fun q hq => ?_⟩
  cases e : isTys ts v with
  | none => rw [e] at q1; exact q1.elim
  | some b =>
    rw [e] at q1
    have hn : ∃ n, kdNm v = some n := by
      cases ts with
      | nil => exact absurd rfl h0
      | cons t ts =>
        rw [isTys] at e
        cases e3 : isTy t v with
        | none => rw [e3] at e; cases e
        | some k => obtain ⟨n, h1, _⟩ := kit_1 e3; exact ⟨n, h1⟩
    obtain ⟨n, hn⟩ := hn
    have st : Stp w1 H1 w1 (upd H1 q (.tup (ts.map fun t => V.ty (tyNm t)))) := Stp.lay hq
    have t2 := t1.lay (o := .tup (ts.map fun t => V.ty (tyNm t))) hq
    exact ⟨x, q, _, .type n, _, b, rfl, upd_same, paired_tys ts, tyx t2 (r1.step st) hn, kit_any hn e, (q1.step st).here t2 (.bl _)⟩
end
end MPS
end

section
set_option Elab.async false
set_option linter.all false
set_option maxRecDepth 100000
set_option autoImplicit false
namespace MPS
open PySem PySem.Spec PyProof.Rows L2 MP

/-! ### calls of defs -/
/-- the promise of a def that does what g does -/
def spF (K : Frg) (n : Nat) (g : List PV → Store → Res PV) : Sp := fun vs H Q E => ∃ (w : W) (T : Cells) (ps : List PV), vs.length = n ∧ HT K w H T ∧ Reps K w ps vs ∧ match g ps T with
  | .ok r T' => ∀ x w' H', Stp w H w' H' → HT K w' H' T' → Rep K w' r x → Q x H'
  | .ex xn T' => ∀ w' H' c d, Stp w H w' H' → HT K w' H' T' → XRep K w' H' xn c d → E c d H'
  | .bad => False
section
variable {X : Cx} {Wx : WX} {a b c e : Expr} {es rest : List Expr} {ma mb mc : MM PV} {ms : MM (List PV)} {pos p : Pos} {x : Str}
/-- the def of number f is there -/
structure FnIs (X : Cx) (k : Nat) (f : Nat) (n : Nat) (g : List PV → Store → Res PV) : Prop where
  mg : X.mg (fnNm f) = some (.ref (He.ga X.K (fnNm f)))
  kp : PySem.W.keepIn X.K (.ref (He.ga X.K (fnNm f))) = true
  ex : ∃ fd ps, FnOk X.prog X.w X.K X.mg X.base (L2.CX X.prog X.w) k (He.ga X.K (fnNm f)) fd ps (spF X.K n g) ∧ Binds X.K fd ps []
theorem ej_call {k f n : Nat} {g : List PV → Store → Res PV} (F : FnIs X k f n g) (tk : Takes X Wx) (hr : Room k X.A) (hg : Gl X (fnNm f)) (hdb : (fnNm f == ("__debug__" : Str)) = false) (ha : AJ X Wx (e :: es) ms) (hs : (e :: es).all notStar = true) (hl : LenOk n ms) :
    EJ X Wx (.Call (.Name (fnNm f) p) (e :: es) [] pos) (fun ρ T => (ms ρ T).bind fun xs T => g xs T) := by
  obtain ⟨fd, ps, F1, F2⟩ := F.ex
  rw [List.all_cons, Bool.and_eq_true] at hs
  refine PE.imp (pe_callS F1 hr hg F.mg F.kp F2 (fun σ => passAt tk σ) ha hdb (star_cons hs.1 _ _) (star_any hs.2 _ _)) fun σ H Q ⟨w, ρ, T, H0, t, er, p⟩ => ?_
  have p : Pst X.K Wx σ (RR X.K) w H ((ms ρ T).bind fun xs T => if xs.length = n then g xs T else .bad) Q := by
    cases e : ms ρ T with
    | ok xs T' => have p : Pst X.K Wx σ (RR X.K) w H ((ms ρ T).bind fun xs T => g xs T) Q := p
                  rw [e, Res.bind_ok] at p; rw [Res.bind_ok, if_pos (hl.2 _ _ _ _ e)]; exact p
    | ex _ _ => have p : Pst X.K Wx σ (RR X.K) w H ((ms ρ T).bind fun xs T => g xs T) Q := p
                rw [e] at p; exact p
    | bad => have p : Pst X.K Wx σ (RR X.K) w H ((ms ρ T).bind fun xs T => g xs T) Q := p
             rw [e] at p; exact p
  obtain ⟨w, ρ', T', H0', t', er', p'⟩ := next (m := ms) (R := RRs X.K) t er p
  refine ⟨w, ρ', T', H0', t', er', p'.mono fun x H1 ⟨v, w1, T1, s1, t1, er1, r1, q1⟩ => ?_⟩
  by_cases hz : v.length = n
  · rw [if_pos hz] at q1
    refine ⟨w1, T1, v, by rw [← Reps.length r1]; exact hz, t1, r1, ?_⟩
    cases e2 : g v T1 with
    | ok r T2 => rw [e2] at q1; exact q1
    | ex r T2 => rw [e2] at q1; exact q1
    | bad => rw [e2] at q1; exact q1
  · rw [if_neg hz] at q1; exact q1.elim
/-! ### list(range(..)), tuple(range(..)) -/
def RRg : Rel (Int × Int) (Int × Int) := fun _ _ a b => a = b
abbrev rg1M (ma : MM PV) : MM (Int × Int) := fun ρ T => (ma ρ T).bind fun x T => match x with
  | .int i => if smallR i then .ok (0, i) T else .bad
  | _ => .bad
abbrev rg2M (ma mb : MM PV) : MM (Int × Int) := fun ρ T => (ma ρ T).bind fun x T => (mb ρ T).bind fun y T => match x, y with
  | .int i, .int j => if smallR i && smallR j then .ok (i, j) T else .bad
  | _, _ => .bad
/-- an expression that makes a range -/
def RgJ (X : Cx) (Wx : WX) (e : Expr) (m : MM (Int × Int)) : Prop := PRg X e (fun σ H Q => tM X.K Wx RRg m σ H fun r H1 => Q r.1 r.2 H1)
theorem PRg.imp {e : Expr} {t t' : L2.St → Hp → (Int → Int → Hp → Prop) → Prop} (h : PRg X e t) (k : ∀ σ H Q, t' σ H Q → t σ H Q) : PRg X e t' := fun pins s σ H Q I q => h pins s σ H Q I (k _ _ _ q)
theorem rgj_1 (hg : Gl X "range") (hm : X.mg "range" = none) (ha : EJT X Wx a ma) (hs : notStar a = true) : RgJ X Wx (.Call (.Name "range" p) [a] [] pos) (rg1M ma) :=
  PRg.imp (prg_1 hg hm ha (star_cons hs _ _)) fun σ H Q ⟨w, ρ, T, H0, t, er, p⟩ => by
    obtain ⟨w, ρ', T', H0', t', er', p'⟩ := next (m := ma) (R := RT X.K) t er p
    refine ⟨w, ρ', T', H0', t', er', p'.mono fun x H1 ⟨v, w1, T1, s1, t1, er1, r1, q1⟩ => ?_⟩
    cases v <;> first | exact q1.elim | skip
    rename_i i
    cases r1.int
    dsimp only at q1
    split at q1
    · exact ⟨i, rfl, q1.here t1 rfl⟩
    · exact q1.elim
theorem rgj_2 (hg : Gl X "range") (hm : X.mg "range" = none) (ha : EJT X Wx a ma) (hb : EJT X Wx b mb) (hs : notStar a = true) (hs2 : notStar b = true) : RgJ X Wx (.Call (.Name "range" p) [a, b] [] pos) (rg2M ma mb) :=
  PRg.imp (prg_2 hg hm ha hb (star_cons hs _ _) (star_cons hs2 _ _) (star_any (by simp [hs2]) _ _)) fun σ H Q ⟨w, ρ, T, H0, t, er, p⟩ => by
    obtain ⟨w, ρ', T', H0', t', er', p'⟩ := next (m := ma) (R := RT X.K) t er p
    refine ⟨w, ρ', T', H0', t', er', p'.mono fun x H1 ⟨v, w1, T1, s1, t1, er1, r1, q1⟩ => ?_⟩
    obtain ⟨w, ρ', T', H0', t', er', p'⟩ := next (m := mb) (R := RT X.K) t1 er1 q1
    refine ⟨w, ρ', T', H0', t', er', p'.mono fun y H2 ⟨u, w2, T2, s2, t2, er2, r2, q2⟩ => ?_⟩
    match v, u, r1, r2, q2 with
    | .int i, .int j, r1, r2, q2 =>
      cases r1.int
      cases r2.int
      have q2 : Pst X.K Wx σ RRg w2 H2 (if (smallR i && smallR j) = true then .ok (i, j) T2 else .bad) _ := q2
      by_cases hz : (smallR i && smallR j) = true
      · rw [if_pos hz] at q2; exact ⟨i, j, rfl, rfl, q2.here t2 rfl⟩
      · rw [if_neg hz] at q2; exact q2.elim
    | .int _, .non, _, _, q2 => exact q2.elim
    | .int _, .bl _, _, _, q2 => exact q2.elim
    | .int _, .str _, _, _, q2 => exact q2.elim
    | .int _, .tup _, _, _, q2 => exact q2.elim
    | .int _, .lst _, _, _, q2 => exact q2.elim
    | .int _, .st _, _, _, q2 => exact q2.elim
    | .int _, .cel _, _, _, q2 => exact q2.elim
    | .int _, .fn _, _, _, q2 => exact q2.elim
    | .non, _, _, _, q2 => exact q2.elim
    | .bl _, _, _, _, q2 => exact q2.elim
    | .str _, _, _, _, q2 => exact q2.elim
    | .tup _, _, _, _, q2 => exact q2.elim
    | .lst _, _, _, _, q2 => exact q2.elim
    | .st _, _, _, _, q2 => exact q2.elim
    | .cel _, _, _, _, q2 => exact q2.elim
    | .fn _, _, _, _, q2 => exact q2.elim
theorem small_of {i : Int} (h : smallR i = true) : -(2 ^ 62) ≤ i ∧ i < 2 ^ 62 := by
  unfold smallR at h
  simpa using h
abbrev frmM (tu : Bool) (m : MM (Int × Int)) : MM PV := fun ρ T => (m ρ T).bind fun r T => if (smallR r.1 && smallR r.2) = true then (if (rng r.1 r.2).length ≤ line then .ok (if tu then .tup (rng r.1 r.2) else .lst (rng r.1 r.2)) T else .bad) else .bad
theorem rng_reps {K : Frg} {w : W} (a b : Int) : Reps K w (rng a b) (rgV a b) := by
  unfold rng rgV
  induction List.range (b - a).toNat with
  | nil => exact .nil
  | cons x xs ih => exact .cons (.int _) ih
theorem rng_len (a b : Int) : (rng a b).length = (b - a).toNat := by unfold rng; rw [List.length_map, List.length_range]
theorem frm_read {tu : Bool} {m : MM (Int × Int)} {σ : Sl} {H : Hp} {Q : VK} (h : tM X.K Wx (RR X.K) (frmM tu m) σ H Q) :
    tM X.K Wx RRg m σ H fun r H1 => RgOk r.1 r.2 ∧ ∀ q, H1 q = none → Q (.ref q) (upd H1 q (if tu = true then .tup (rgV r.1 r.2) else .lst (rgV r.1 r.2))) := by
  obtain ⟨w, ρ, T, H0, t, er, p⟩ := h
  obtain ⟨w, ρ', T', H0', t', er', p'⟩ := next (m := m) (R := RRg) t er p
  refine ⟨w, ρ', T', H0', t', er', p'.mono fun x H1 ⟨v, w1, T1, s1, t1, er1, r1, q1⟩ => ?_⟩
  have r1 : v = x := r1
  subst r1
  by_cases h1 : (smallR v.1 && smallR v.2) = true
  · rw [if_pos h1] at q1
    rw [Bool.and_eq_true] at h1
    by_cases h2 : (rng v.1 v.2).length ≤ MP.line
    · rw [if_pos h2] at q1
      rw [line_eq, sizeLine_eq, rng_len] at h2
      obtain ⟨a1, a2⟩ := small_of h1.1
      obtain ⟨b1, b2⟩ := small_of h1.2
      refine ⟨⟨a1, a2, b1, b2, by omega⟩, fun q hq => ?_⟩
      cases tu with
      | true => exact q1 _ _ _ (Stp.add t1 hq) (t1.add hq) (Rep.newT t1 hq (rng_reps _ _))
      | false => exact q1 _ _ _ (Stp.add t1 hq) (t1.add hq) (Rep.newL t1 hq (rng_reps _ _))
    · rw [if_neg h2] at q1; exact q1.elim
  · rw [if_neg h1] at q1; exact q1.elim
theorem ej_frmT {m : MM (Int × Int)} (hc : X.calm = true) (hg : Gl X "tuple") (hm : X.mg "tuple" = none) (ha : RgJ X Wx a m) (hs : notStar a = true) : EJ X Wx (.Call (.Name "tuple" p) [a] [] pos) (frmM true m) :=
  PE.imp (pe_tupRg hc hg hm ha (star_cons hs _ _)) fun σ H Q h => frm_read h
theorem ej_frmL {m : MM (Int × Int)} (hc : X.calm = true) (hg : Gl X "list") (hm : X.mg "list" = none) (ha : RgJ X Wx a m) (hs : notStar a = true) : EJ X Wx (.Call (.Name "list" p) [a] [] pos) (frmM false m) :=
  PE.imp (pe_listRg hc hg hm ha (star_cons hs _ _)) fun σ H Q h => frm_read h

/-! ### what is walked -/
/-- J walks xs, whatever holds P -/
structure WP (K : Frg) (P : W → Hp → Prop) (J : L2.It) (xs : List PV) : Prop where
  go : ∀ i w H T, i < xs.length → P w H → HT K w H T → J.go i H
  stop : ∀ w H T, P w H → HT K w H T → J.stop xs.length H
  yld : ∀ i w H T x H', i < xs.length → P w H → HT K w H T → J.yld i H x H' → ∃ w', Stp w H w' H' ∧ HT K w' H' T ∧ ∀ p, xs[i]? = some p → Rep K w' p x
theorem WP.mono {K : Frg} {P P' : W → Hp → Prop} {J : L2.It} {xs : List PV} (h : WP K P J xs) (k : ∀ w H, P' w H → P w H) : WP K P' J xs :=
  ⟨fun i w H T a b c => h.go i w H T a (k _ _ b) c, fun w H T b c => h.stop w H T (k _ _ b) c, fun i w H T x H' a b c d => h.yld i w H T x H' a (k _ _ b) c d⟩
/-- a row that stands as long as P holds -/
def Stays (K : Frg) (P : W → Hp → Prop) (a : Addr) (o : HO) : Prop := ∀ w H T, P w H → HT K w H T → Rd H a o
theorem wp_list {K : Frg} {P : W → Hp → Prop} {a : Addr} {xs : List PV} {vs : List V} (h : Stays K P a (.lst vs)) (hr : ∀ w H, P w H → Reps K w xs vs) : WP K P (Itl K a) xs where
  go := fun i w H T hi p t => by
    have r := hr w H p
    have z : i < vs.length := by rw [← r.length]; exact hi
    exact ⟨vs, vs[i], .inl (h w H T p t), List.getElem?_eq_getElem z⟩
  stop := fun w H T p t => ⟨vs, .inl (h w H T p t), by rw [(hr w H p).length]; exact Nat.le_refl _⟩
  yld := fun i w H T x H' hi p t y => by
    obtain ⟨rfl, y⟩ := y
    refine ⟨w, Stp.refl _ _, t, fun q e => ?_⟩
    obtain ⟨v, h1, h2⟩ := (hr w _ p).get e
    rw [y vs (.inl (h w _ T p t))] at h1
    cases h1; exact h2
theorem wp_tup {K : Frg} {P : W → Hp → Prop} {a : Addr} {xs : List PV} {vs : List V} (h : ∀ w H T, P w H → HT K w H T → SqT K H a vs) (hr : ∀ w H, P w H → Reps K w xs vs) : WP K P (Itt K a) xs where
  go := fun i w H T hi p t => by
    have r := hr w H p
    have z : i < vs.length := by rw [← r.length]; exact hi
    exact ⟨vs, vs[i], h w H T p t, List.getElem?_eq_getElem z⟩
  stop := fun w H T p t => ⟨vs, h w H T p t, by rw [(hr w H p).length]; exact Nat.le_refl _⟩
  yld := fun i w H T x H' hi p t y => by
    obtain ⟨rfl, y⟩ := y
    refine ⟨w, Stp.refl _ _, t, fun q e => ?_⟩
    obtain ⟨v, h1, h2⟩ := (hr w _ p).get e
    rw [y vs (h w _ T p t)] at h1
    cases h1; exact h2
theorem wp_rng {K : Frg} {P : W → Hp → Prop} (lo hi : Int) : WP K P (Itr lo (hi - lo).toNat) (rng lo hi) where
  go := fun i w H T h p t => by rw [rng_len] at h; exact h
  stop := fun w H T p t => by rw [rng_len]; exact Nat.le_refl _
  yld := fun i w H T x H' h p t y => by
    obtain ⟨rfl, rfl⟩ := y
    refine ⟨w, Stp.refl _ _, t, fun q e => ?_⟩
    have r := (rng_reps (K := K) (w := w) lo hi).get e
    obtain ⟨v, h1, h2⟩ := r
    rw [rng_len] at h
    unfold rgV at h1
    rw [List.getElem?_map, List.getElem?_range h] at h1
    cases h1; exact h2
theorem wp_str {K : Frg} {P : W → Hp → Prop} (z : Str) : WP K P (Its z) (z.cps.toList.map fun c => PV.str ⟨#[c]⟩) where
  go := fun i w H T h p t => by rw [List.length_map, Array.length_toList] at h; exact h
  stop := fun w H T p t => by rw [List.length_map, Array.length_toList]; exact Nat.le_refl _
  yld := fun i w H T x H' h p t y => by
    obtain ⟨rfl, c, h1, rfl⟩ := y
    refine ⟨w, Stp.refl _ _, t, fun q e => ?_⟩
    rw [List.getElem?_map, Array.getElem?_toList, h1] at e
    cases e; exact .str _
/-- each turn a new pair -/
theorem yld_pair {K : Frg} {w : W} {H H' : Hp} {T : Cells} {q : Addr} {x y v : V} {p1 p2 : PV} (t : HT K w H T) (e1 : v = .ref q) (e2 : H q = none) (e3 : H' = upd H q (.tup [x, y])) (r1 : Rep K w p1 x) (r2 : Rep K w p2 y) :
    ∃ w', Stp w H w' H' ∧ HT K w' H' T ∧ Rep K w' (.tup [p1, p2]) v := by
  subst e1 e3
  exact ⟨_, Stp.add t e2, t.add e2, Rep.newT t e2 (.cons r1 (.cons r2 .nil))⟩
theorem enum_get {xs : List PV} {i : Nat} {p : PV} (h : (enum_ xs)[i]? = some p) : ∃ q, xs[i]? = some q ∧ p = .tup [.int (i : Nat), q] := by
  unfold enum_ at h
  rw [List.getElem?_map, List.getElem?_zipIdx] at h
  cases e : xs[i]? with
  | none => rw [e] at h; cases h
  | some q => rw [e] at h; simp at h; exact ⟨q, rfl, h.symm⟩
theorem enum_len (xs : List PV) : (enum_ xs).length = xs.length := by unfold enum_; rw [List.length_map, List.length_zipIdx]
theorem wp_enum {K : Frg} {P : W → Hp → Prop} {a : Addr} {xs : List PV} {vs : List V} (h : Stays K P a (.lst vs)) (hr : ∀ w H, P w H → Reps K w xs vs) : WP K P (Ite K a) (enum_ xs) where
  go := fun i w H T hi p t => by
    rw [enum_len] at hi
    have r := hr w H p
    have z : i < vs.length := by rw [← r.length]; exact hi
    exact ⟨vs, vs[i], .inl (h w H T p t), List.getElem?_eq_getElem z⟩
  stop := fun w H T p t => ⟨vs, .inl (h w H T p t), by rw [enum_len, (hr w H p).length]; exact Nat.le_refl _⟩
  yld := fun i w H T x H' hi p t y => by
    rw [enum_len] at hi
    obtain ⟨q, v, e1, e2, e3, y⟩ := y
    obtain ⟨p0, hp0⟩ : ∃ p0, xs[i]? = some p0 := ⟨_, List.getElem?_eq_getElem hi⟩
    obtain ⟨v', h1, h2⟩ := (hr w _ p).get hp0
    rw [y vs (.inl (h w _ T p t))] at h1
    cases h1
    obtain ⟨w', s', t', r'⟩ := yld_pair t e1 e2 e3 (.int _) h2
    refine ⟨w', s', t', fun q' e => ?_⟩
    obtain ⟨q2, e4, rfl⟩ := enum_get e
    rw [hp0] at e4; cases e4; exact r'
theorem zip2_get {xs ys : List PV} {i : Nat} {p : PV} (h : (zip2 xs ys)[i]? = some p) : ∃ q q', xs[i]? = some q ∧ ys[i]? = some q' ∧ p = .tup [q, q'] := by
  unfold zip2 at h
  rw [List.getElem?_map] at h
  cases e : (xs.zip ys)[i]? with
  | none => rw [e] at h; cases h
  | some q =>
    rw [e] at h
    simp at h
    obtain ⟨h1, h2⟩ := List.getElem?_zip_eq_some.mp e
    exact ⟨q.1, q.2, h1, h2, h.symm⟩
theorem zip2_len (xs ys : List PV) : (zip2 xs ys).length = min xs.length ys.length := by unfold zip2; rw [List.length_map, List.length_zip]
theorem wp_zip {K : Frg} {P : W → Hp → Prop} {a b : Addr} {xs ys : List PV} {vs us : List V} (h : Stays K P a (.lst vs)) (h' : Stays K P b (.lst us)) (hr : ∀ w H, P w H → Reps K w xs vs) (hr' : ∀ w H, P w H → Reps K w ys us) : WP K P (Itz K a b) (zip2 xs ys) where
  go := fun i w H T hi p t => by
    rw [zip2_len] at hi
    have r := hr w H p
    have r' := hr' w H p
    have z : i < vs.length := by rw [← r.length]; omega
    have z' : i < us.length := by rw [← r'.length]; omega
    exact ⟨vs, us, vs[i], us[i], .inl (h w H T p t), .inl (h' w H T p t), List.getElem?_eq_getElem z, List.getElem?_eq_getElem z'⟩
  stop := fun w H T p t => ⟨vs, us, .inl (h w H T p t), .inl (h' w H T p t), by
    have r := (hr w H p).length
    have r' := (hr' w H p).length
    rw [zip2_len]; omega⟩
  yld := fun i w H T x H' hi p t y => by
    rw [zip2_len] at hi
    obtain ⟨q, v, u, e1, e2, e3, y, y'⟩ := y
    obtain ⟨p0, hp0⟩ : ∃ p0, xs[i]? = some p0 := ⟨_, List.getElem?_eq_getElem (by omega)⟩
    obtain ⟨p1, hp1⟩ : ∃ p0, ys[i]? = some p0 := ⟨_, List.getElem?_eq_getElem (by omega)⟩
    obtain ⟨v', h1, h2⟩ := (hr w _ p).get hp0
    obtain ⟨u', h3, h4⟩ := (hr' w _ p).get hp1
    rw [y vs (.inl (h w _ T p t))] at h1
    rw [y' us (.inl (h' w _ T p t))] at h3
    cases h1; cases h3
    obtain ⟨w', s', t', r'⟩ := yld_pair t e1 e2 e3 h2 h4
    refine ⟨w', s', t', fun q' e => ?_⟩
    obtain ⟨q2, q3, e4, e5, rfl⟩ := zip2_get e
    rw [hp0] at e4; rw [hp1] at e5; cases e4; cases e5; exact r'
theorem wp_zipT {K : Frg} {P : W → Hp → Prop} {a b : Addr} {xs ys : List PV} {vs us : List V} (h : ∀ w H T, P w H → HT K w H T → SqT K H a vs) (h' : ∀ w H T, P w H → HT K w H T → SqT K H b us) (hr : ∀ w H, P w H → Reps K w xs vs) (hr' : ∀ w H, P w H → Reps K w ys us) : WP K P (RZ.ItzT K a b) (zip2 xs ys) where
  go := fun i w H T hi p t => by
    rw [zip2_len] at hi
    have r := hr w H p
    have r' := hr' w H p
    have z : i < vs.length := by rw [← r.length]; omega
    have z' : i < us.length := by rw [← r'.length]; omega
    exact ⟨vs, us, vs[i], us[i], h w H T p t, h' w H T p t, List.getElem?_eq_getElem z, List.getElem?_eq_getElem z'⟩
  stop := fun w H T p t => ⟨vs, us, h w H T p t, h' w H T p t, by
    have r := (hr w H p).length
    have r' := (hr' w H p).length
    rw [zip2_len]; omega⟩
  yld := fun i w H T x H' hi p t y => by
    rw [zip2_len] at hi
    obtain ⟨q, v, u, e1, e2, e3, y, y'⟩ := y
    obtain ⟨p0, hp0⟩ : ∃ p0, xs[i]? = some p0 := ⟨_, List.getElem?_eq_getElem (by omega)⟩
    obtain ⟨p1, hp1⟩ : ∃ p0, ys[i]? = some p0 := ⟨_, List.getElem?_eq_getElem (by omega)⟩
    obtain ⟨v', h1, h2⟩ := (hr w _ p).get hp0
    obtain ⟨u', h3, h4⟩ := (hr' w _ p).get hp1
    rw [y vs (h w _ T p t)] at h1
    rw [y' us (h' w _ T p t)] at h3
    cases h1; cases h3
    obtain ⟨w', s', t', r'⟩ := yld_pair t e1 e2 e3 h2 h4
    refine ⟨w', s', t', fun q' e => ?_⟩
    obtain ⟨q2, q3, e4, e5, rfl⟩ := zip2_get e
    rw [hp0] at e4; rw [hp1] at e5; cases e4; cases e5; exact r'
end
end MPS
end

section
set_option Elab.async false
set_option linter.all false
set_option maxRecDepth 100000
set_option autoImplicit false
/-! enumerate of a tuple -/
namespace MPS
open PySem PySem.Spec PyProof.Rows L2
open PySem.Sem (wp)
open PySem.AutoSeq1 (wpAny_loadPart')
set_option maxHeartbeats 1000000 in
theorem meets_enum_newT (l : Addr) (items : Array Value) (n : Nat) (dct : Option Addr) (sl : Array (Option Value)) :
    Meets (Builtin.«enumerate.__new__» ⟨[.type "enumerate", .ref l], []⟩) (fun _ R s => s.heap.get? l = some { cls := .type "tuple", dict := dct, data := .seq items n, slots := sl } ∧
      R (.ok (.ret (.ref (s.heap.push { cls := .type "tuple_iterator", data := .fields #[.ref l, .int 0 0] }).objs.size)))
        { s with heap := (s.heap.push { cls := .type "tuple_iterator", data := .fields #[.ref l, .int 0 0] }).push { cls := .type "enumerate", data := .fields #[.none, .bool false, .ref s.heap.objs.size, rawInt 0, .none, .none] } }) :=
  .of_wp fun prog w A R s h => by
    obtain ⟨hp, g, d, tk, os⟩ := s; obtain ⟨hl, h⟩ := h
    have hsub := sub_enumerate
    have hL : Heap.IsTuple (Shared.heap ⟨hp, g, d, tk, os⟩) l items := ⟨_, hl, rfl, n, rfl⟩
    wp_walk using wpAny_loadPart' hl
    refine wpAny_stack_any fun st => wpAny_pure ?_
    split
    · rename_i c _ _ _ _ _
      cases (c == Value.type "enumerate")
      · wp_walk using wpAny_loadPart' hl, wpAny_pyIter_tuple hL
        exact ⟨_, rfl, h⟩
      · wp_walk using wpAny_loadPart' hl, wpAny_pyIter_tuple hL
        exact ⟨_, rfl, h⟩
    · wp_walk using wpAny_loadPart' hl, wpAny_pyIter_tuple hL
      exact ⟨_, rfl, h⟩
section
variable {prog : Program} {w : World} {A : Around} {E : Value → Shared → Prop} {s : Shared}
theorem call_enum_tup {l : Addr} {items : Array Value} {Q : Value → Shared → Prop} (hL : s.heap.IsTuple l items)
    (h : ∀ h', IsEnum h' (s.heap.objs.size + 1) s.heap.objs.size 0 .none → h'.IsTupleIter s.heap.objs.size l 0 → h'.objs.size = s.heap.objs.size + 2 →
      (∀ b o, s.heap.get? b = some o → h'.get? b = some o) → Q (.ref (s.heap.objs.size + 1)) { s with heap := h' }) :
    wpAny (model prog w) A (call (.type "enumerate") [.ref l]) Q E s := by
  obtain ⟨⟨c, dct, dt, sl⟩, hl, hc, n, hd⟩ := hL
  replace hc : c = .type "tuple" := hc
  replace hd : dt = .seq items n := hd
  subst hc hd
  refine callType_new F.called_enumerate (by decide) (F.typeCall_enumerate_1 _) (F.newCall_enumerate_1 _) (fun obj => F.args_object_init_2 obj _) F.entry_enumerate_new
    (meets_enum_newT l items n dct sl) ⟨hl, ?_⟩
  have hz : (s.heap.push { cls := .type "tuple_iterator", data := .fields #[.ref l, .int 0 0] }).objs.size = s.heap.objs.size + 1 := Heap.size_push ..
  show _ ∧ _
  rw [hz]
  have he : IsEnum ((s.heap.push { cls := .type "tuple_iterator", data := .fields #[.ref l, .int 0 0] }).push
      { cls := .type "enumerate", data := .fields #[.none, .bool false, .ref s.heap.objs.size, rawInt 0, .none, .none] }) (s.heap.objs.size + 1) s.heap.objs.size 0 .none := by
    have := Heap.get?_push_size (s.heap.push { cls := .type "tuple_iterator", data := .fields #[.ref l, .int 0 0] })
      (o := { cls := .type "enumerate", data := .fields #[.none, .bool false, .ref s.heap.objs.size, rawInt 0, .none, .none] }) rfl
    rw [hz] at this; exact this
  refine ⟨⟨_, he, rfl⟩, h _ he ⟨_, Heap.get?_push_of_some _ (Heap.get?_push_size _ rfl), rfl, rfl⟩ (by rw [Heap.size_push, hz]) fun b o x => Heap.get?_push_of_some _ (Heap.get?_push_of_some _ x)⟩
end
theorem draws_tup {prog : Program} {w : World} {A : Around} (hh : A.handled = none) (it l : Addr) (hne : l ≠ it) (items : Array Value) :
    Draws prog w A it [it, l] items.size (fun i v => items[i]? = some v) (fun i h => h.IsTupleIter it l i ∧ h.IsTuple l items) where
  live := fun _ _ st => let ⟨o, ho, _⟩ := st.1; ⟨o, ho⟩
  frame := fun _ _ _ st hk => ⟨st.1.at fun o e => hk it (by simp) o e, let ⟨o, ho, r⟩ := st.2; ⟨o, hk l (by simp) o ho, r⟩⟩
  item := fun i s Q E hi st hQ => by
    refine RZ.nextOf_tuple_item st.1 st.2 (x := items[i]) (by simp [hi]) fun h' hit' hs' => ?_
    exact hQ _ h' s.toks (by simp [hi]) ⟨hit', st.2.extBut hs'.extBut hne⟩ hs'
  done := fun s Q E st hE => RZ.nextOf_tuple_end hh st.1 st.2 (by simp) hE

def IteT (K : PySem.W.Frag) (a : Addr) : It :=
  ⟨fun i H => ∃ (xs : List V) (x : V), SqT K H a xs ∧ xs[i]? = some x, fun i H v H' => ∃ T x, v = .ref T ∧ H T = none ∧ H' = upd H T (.tup [.int (i : Nat), x]) ∧ ∀ xs, SqT K H a xs → xs[i]? = some x, fun i H => ∃ xs : List V, SqT K H a xs ∧ xs.length ≤ i⟩
theorem turn_enumT {P : Program} {w : World} {K : PySem.W.Frag} {elts : List Expr} {kk : Nat} {tpos : Pos} (a e it : Addr) :
    Turn P w K (.Tuple elts kk tpos) (IteT K a) [e, it] e (fun i h => (∃ old, IsEnum h e it ((i : Nat) : Int) old) ∧ h.IsTupleIter it a i ∧ e ≠ it ∧ a ≠ it ∧ a ≠ e) where
  mem := by simp
  obj := fun i h st b hb => by
    obtain ⟨⟨old, he⟩, ⟨o, ho, hc, hd⟩, _⟩ := st
    have e' : b = e ∨ b = it := by simpa using hb
    rcases e' with z | z
    · rw [z]; exact ⟨_, he, fun v q => nomatch q⟩
    · rw [z]; exact ⟨o, ho, fun v q => by rw [hd] at q; cases q⟩
  keep := fun i h h' st k => let ⟨⟨old, he⟩, hi, hne⟩ := st; ⟨⟨old, k e (by simp) _ he⟩, hi.at fun o q => k it (by simp) o q, hne⟩
  item := by
    intro X hP hw hK hc i pins s σ H E I hf st hg
    subst hP hw hK
    obtain ⟨⟨old, he⟩, hit, hne, hai, hae⟩ := st
    obtain ⟨xs, x, hq, hx⟩ := hg
    obtain ⟨its, rv, p, hz⟩ := I.tuple hq
    have hel : e < s.heap.objs.size := Heap.lt_size he
    have hil : it < s.heap.objs.size := by obtain ⟨_, q, _⟩ := hit; exact Heap.lt_size q
    have hlen := rv.length
    have hi : i < its.toArray.size := by
      obtain ⟨u, hu, _⟩ := rv.get hx
      simpa using (List.getElem?_eq_some_iff.mp hu).1
    refine wpAny_pyNext_enum_itemD (draws_tup (A := X.A.in1) (by exact (I.ok.hd hc)) it a hai its.toArray) he ⟨hit, p⟩ hi hne (by simp [hne, Ne.symm hae]) fun u' h' tk hP' ho hit' hT hsz hk => ?_
    obtain ⟨u, hu, ru⟩ := rv.get hx
    have hu' : u' = u := by
      have z : its.toArray[i]? = some u := by simpa using hu
      rw [z] at hP'; cases hP'; rfl
    subst hu'
    refine ⟨_, rfl, wpAny_letOwnedTupleGo_enum (s := { s with heap := h', toks := tk + 1 }) ho fun h'' he' sb => ?_⟩
    have hT2 : h''.get? s.heap.objs.size = some { cls := .type "tuple", data := .seq #[.int i tk, u'] } := (sb.2 _ (Nat.ne_of_gt hel)).trans hT
    have new : ObjOk X.prog X.w (upd H s.heap.objs.size (.tup [.int (i : Nat), x])) h'' s.heap.objs.size (.tup [.int (i : Nat), x]) :=
      ⟨by show 2 ≤ sizeLine; decide, [.int i tk, u'], .cons ⟨_, rfl⟩ (.cons ru .nil), ⟨_, hT2, rfl, _, rfl⟩⟩
    have I1 : Inv X pins σ (upd H s.heap.objs.size (.tup [.int (i : Nat), x])) { s with heap := h'', toks := tk + 1 } :=
      I.turnedNew (ch := [e, it]) (fun b ob hb q => (sb.2 b (fun z => hb (by simp [z]))).trans (hk b ob (fun z => hb (by simp [z])) (fun z => hb (by simp [z])) q)) hf (Nat.le_refl _) new
    refine ⟨.ref s.heap.objs.size, _, I1, rfl, ⟨_, x, rfl, I.hok.fresh (Nat.le_refl _), rfl, fun ys hy => by rw [I.tuple_inj hy hq]; exact hx⟩, ⟨⟨u', ?_⟩, hit'.1.at fun o q => (sb.2 it (Ne.symm hne)).trans q, hne, hai, hae⟩, fun b hb => ?_⟩
    · have e1 : ((i + 1 : Nat) : Int) = (i : Int) + 1 := by omega
      rw [e1]; exact he'
    · have hb' : b < s.heap.objs.size := by
        have e' : b = e ∨ b = it := by simpa using hb
        rcases e' with z | z
        · rw [z]; exact hel
        · rw [z]; exact hil
      rw [upd_ne (Nat.ne_of_lt hb')]
      exact (hf b hb).1
  done := by
    intro X hP hw hK hc i pins s σ H E I hf st hg
    subst hP hw hK
    obtain ⟨⟨old, he⟩, hit, hne, hai, hae⟩ := st
    obtain ⟨xs, hq, hx⟩ := hg
    obtain ⟨its, rv, p, hz⟩ := I.tuple hq
    obtain ⟨f0, f1, f2, f3, f4, f5⟩ := hf it (by simp)
    have hl := rv.length
    -- past the end
    have hT : s.TypeIs (.ref e) "enumerate" := ⟨_, he, rfl⟩
    unfold pyNext
    refine wpAny_bind (wpAny_attempt (wpAny_callSpecial?_slot (name := Str.ofString "__next__") hT F.slot_enumerate_next
      (wpAny_call_entry F.slot_enumerate_next hT F.entry_enumerate_next ?_ (F.args_enumerate_next_1 _))))
    show wpAny _ _ (field (.ref e) 2 >>= _) _ _ _
    refine wpAny_bind (wpAny_field he rfl (x := .ref it) rfl ?_)
    refine wpAny_bind (RZ.nextOf_tuple_end (I.ok.hd hc) hit p (by simp; omega) fun h' x hx' he' => ?_)
    obtain ⟨o, ho, hc'⟩ := he'
    refine wpAny_bind (wpAny_isInstance (T := "StopIteration") (b := true) ⟨o, ho, hc'⟩ isSubtype_stop ?_)
    exact wpAny_pure ⟨rfl, I.turned (t' := s.toks) (fun b o hb q => hx' b o hb q) f0 f1 f3 f4 f5⟩
  self := fun A i s Q E st h => let ⟨⟨_, he⟩, _⟩ := st; wpAny_pyIter_enum he h

/-- enumerate of a list or of a tuple -/
def iEnumA (K : PySem.W.Frag) (ta : TA) : TI := fun σ H R => ta σ H fun vs H1 => ∃ a xs, vs = [.ref a] ∧ ((SqL K H1 a xs ∧ R (Ite K a) H1) ∨ (SqT K H1 a xs ∧ R (IteT K a) H1))
theorem pi_enumA {X : Cx} {e : Expr} {ta : TA} {p pos tpos : Pos} {elts : List Expr} {kk : Nat} (hg : Gl X "enumerate") (hm : X.mg "enumerate" = none) (ha : PA X [e] ta) (hs : starEach [e] X.env = [(false, eval e X.env)]) :
    PI X (.Tuple elts kk tpos) (.Call (.Name "enumerate" p) [e] [] pos) (iEnumA X.K ta) := by
  refine ⟨fun pins s σ H R I h => ?_⟩
  refine Call_ (ld_blt I hg hm boot_enumerate (PyProof.Rows.callWith_type1 (thn (ha.run pos pins s σ H _ I h) fun us s1 ⟨vs, H1, I1, r1, q1⟩ => ?_) hs rfl))
  obtain ⟨a, xs, ex, q⟩ := q1
  subst ex
  cases r1 with
  | cons r rr =>
    cases rr
    cases r
    have fp : ∀ b, b ∈ [s1.heap.objs.size + 1, s1.heap.objs.size] → FpOk X pins H1 b := fun b hb => by
      have e' : b = s1.heap.objs.size + 1 ∨ b = s1.heap.objs.size := by simpa using hb
      have hle : s1.heap.objs.size ≤ b := by
        rcases e' with z | z
        · rw [z]; exact Nat.le_add_right _ _
        · rw [z]; exact Nat.le_refl _
      exact I1.fpOk hle (I1.hok.fresh hle)
    rcases q with ⟨hq, q⟩ | ⟨hq, q⟩
    · obtain ⟨its, rv, p', hz⟩ := I1.list hq
      refine call_enumerate_list p'.isList fun h' he hit hsz hk => wpAny_pyIter_enum he ?_
      have I2 : Inv X pins σ H1 { s1 with heap := h' } := I1.kept (t' := s1.toks) hk
      exact ⟨s1.heap.objs.size + 1, [s1.heap.objs.size + 1, s1.heap.objs.size], _, _, H1, rfl, I2, turn_enum a (s1.heap.objs.size + 1) s1.heap.objs.size, ⟨⟨.none, he⟩, hit, Nat.succ_ne_self _⟩, fp, q⟩
    · obtain ⟨its, rv, p', hz⟩ := I1.tuple hq
      obtain ⟨oa, hoa, _⟩ := id p'
      have hla : a < s1.heap.objs.size := Heap.lt_size hoa
      refine call_enum_tup (show s1.heap.IsTuple a its.toArray from p') fun h' he hit hsz hk => wpAny_pyIter_enum he ?_
      have I2 : Inv X pins σ H1 { s1 with heap := h' } := I1.kept (t' := s1.toks) hk
      exact ⟨s1.heap.objs.size + 1, [s1.heap.objs.size + 1, s1.heap.objs.size], _, _, H1, rfl, I2, turn_enumT a (s1.heap.objs.size + 1) s1.heap.objs.size, ⟨⟨.none, he⟩, hit, Nat.succ_ne_self _, Nat.ne_of_lt hla, Nat.ne_of_lt (Nat.lt_succ_of_lt hla)⟩, fp, q⟩

/-- a row or a text, by what stands there -/
def iRow (K : PySem.W.Frag) (tl : TE) : TI := fun σ H R => tl σ H fun x H1 => (∃ a xs, x = .ref a ∧ SqL K H1 a xs ∧ R (Itl K a) H1) ∨ (∃ a xs, x = .ref a ∧ SqT K H1 a xs ∧ R (Itt K a) H1) ∨ ∃ z, x = .str z ∧ R (Its z) H1
theorem pi_row {X : Cx} {tg l : Expr} {tl : TE} (hl : PE X l tl) : PI X tg l (iRow X.K tl) := by
  refine ⟨fun pins s σ H R I h => ?_⟩
  refine thn (hl.run pins s σ H _ I h) fun v s1 ⟨x, H1, I1, r1, q1⟩ => ?_
  rcases q1 with ⟨a, xs, e, hq, q⟩ | ⟨a, xs, e, hq, q⟩ | ⟨x, e, q⟩
  · subst e
    cases r1
    obtain ⟨its, rv, p, hz⟩ := I1.list hq
    exact wpAny_pyIter_list p.isList (pi_one (tk := s1.toks) I1 _ (turn_list a _) ⟨_, Heap.get?_push_size _ rfl, rfl, rfl⟩ q)
  · subst e
    cases r1
    obtain ⟨its, rv, p, hz⟩ := I1.tuple hq
    exact wpAny_pyIter_tuple (show s1.heap.IsTuple a its.toArray from p) (pi_one (tk := s1.toks) I1 _ (turn_tuple a _) ⟨_, Heap.get?_push_size _ rfl, rfl, rfl⟩ q)
  · subst e
    obtain ⟨t, rfl⟩ := r1
    cases ha : x.cps.all (· < 128)
    · exact wpAny_pyIter_wide ha (pi_one (tk := s1.toks) I1 _ (turn_str _ x t "str_iterator" (.inr rfl)) ⟨_, Heap.get?_push_size _ rfl, rfl, rfl⟩ q)
    · exact wpAny_pyIter_ascii ha (pi_one (tk := s1.toks) I1 _ (turn_str _ x t "str_ascii_iterator" (.inl rfl)) ⟨_, Heap.get?_push_size _ rfl, rfl, rfl⟩ q)
end MPS
end

section
set_option Elab.async false
set_option linter.all false
set_option maxRecDepth 100000
set_option autoImplicit false
/-! what is walked: readings -/
namespace MPS
open PySem PySem.Spec PyProof.Rows L2 MP
abbrev Rpl := W → Hp → W → Hp → Prop
/-- how values stand (RV, RVs), and what keeps them (PP) -/
structure Walks (K : Frg) (RV : Rel PV V) (RVs : Rel (List PV) (List V)) (PP : Rpl) : Prop where
  lst : ∀ {w H T xs v}, RV w H (.lst xs) v → HT K w H T → ∃ a vs, v = .ref a ∧ Reps K w xs vs ∧ ∀ w2 H2 T2, PP w H w2 H2 → HT K w2 H2 T2 → Rd H2 a (.lst vs)
  tup : ∀ {w H T xs v}, RV w H (.tup xs) v → HT K w H T → ∃ a vs, v = .ref a ∧ Reps K w xs vs ∧ ∀ w2 H2 T2, PP w H w2 H2 → HT K w2 H2 T2 → SqT K H2 a vs
  str : ∀ {w H z v}, RV w H (.str z) v → v = .str z
  int : ∀ {w H i v}, RV w H (.int i) v → v = .int i
  one : ∀ {w H p vs}, RVs w H [p] vs → ∃ x, vs = [x] ∧ RV w H p x
  two : ∀ {w H p q vs}, RVs w H [p, q] vs → ∃ x y, vs = [x, y] ∧ RV w H p x ∧ RV w H q y
  le : ∀ {w H w2 H2}, PP w H w2 H2 → Wle w w2
  rfl' : ∀ w H, PP w H w H
def PPl : Rpl := fun w _ w2 _ => Wle w w2
def PPs : Rpl := fun w H w2 H2 => Stp w H w2 H2
theorem walksL (K : Frg) : Walks K (RR K) (RRs K) PPl where
  lst := fun r t => by
    cases (show Rep K _ _ _ from r) with
    | lst hs hr => exact ⟨_, _, rfl, hr, fun w2 H2 T2 p t2 => Rd.up (Rd.up hs p.G) t2.sub⟩
  tup := fun r t => by
    cases (show Rep K _ _ _ from r) with
    | tup hs hr => exact ⟨_, _, rfl, hr, fun w2 H2 T2 p t2 => SqT.up (SqT.up hs p.G) t2.sub⟩
  str := fun r => by cases (show Rep K _ _ _ from r); rfl
  int := fun r => by cases (show Rep K _ _ _ from r); rfl
  one := fun r => by
    have r1 : Reps K _ _ _ := r
    clear r
    cases r1 with
    | cons h r2 => cases r2 with
      | nil => exact ⟨_, rfl, h⟩
  two := fun r => by
    have r1 : Reps K _ _ _ := r
    clear r
    cases r1 with
    | cons h r2 =>
      cases r2 with
      | cons h' r3 => cases r3 with
        | nil => exact ⟨_, _, rfl, h, h'⟩
  le := fun p => p
  rfl' := fun w H => Wle.refl w
theorem walksS (K : Frg) : Walks K (RT K) (RTs K) PPs where
  lst := fun r t => by
    rcases (show RepT K _ _ _ _ from r) with r | ⟨a, ys, vs, e1, e2, h2, h3, h4, h5⟩
    · obtain ⟨a, vs, e, hr, k⟩ := (walksL K).lst r t
      exact ⟨a, vs, e, hr, fun w2 H2 T2 p t2 => k w2 H2 T2 p.le t2⟩
    · cases e1
      exact ⟨a, vs, e2, h3, fun w2 H2 T2 p t2 => .inl (p.keep a _ h2 h5)⟩
  tup := fun r t => by
    rcases (show RepT K _ _ _ _ from r) with r | ⟨a, ys, vs, e1, _⟩
    · obtain ⟨a, vs, e, hr, k⟩ := (walksL K).tup r t
      exact ⟨a, vs, e, hr, fun w2 H2 T2 p t2 => k w2 H2 T2 p.le t2⟩
    · cases e1
  str := fun r => (show RepT K _ _ _ _ from r).str
  int := fun r => (show RepT K _ _ _ _ from r).int
  one := fun r => RepTs.one r
  two := fun r => RepTs.two r
  le := fun p => p.le
  rfl' := fun w H => Stp.refl w H
/-- what is walked stands as long as PP holds -/
def RW (K : Frg) (PP : Rpl) : Rel (List PV) L2.It := fun w H xs J => WP K (PP w H) J xs
section
variable {X : Cx} {Wx : WX} {a b c e tg : Expr} {es rest : List Expr} {ma mb mc : MM PV} {ms : MM (List PV)} {pos p : Pos} {RV : Rel PV V} {RVs : Rel (List PV) (List V)} {PP : Rpl}
theorem PI.imp {tg e : Expr} {t t' : TI} (h : PI X tg e t) (k : ∀ σ H Q, t' σ H Q → t σ H Q) : PI X tg e t' := ⟨fun pins s σ H Q I q => h.run pins s σ H Q I (k _ _ _ q)⟩
/-- the iterable e is walked as m says -/
abbrev IJ (X : Cx) (Wx : WX) (PP : Rpl) (tg e : Expr) (m : MM (List PV)) : Prop := PI X tg e (tM X.K Wx (RW X.K PP) m)
theorem wrow {K : Frg} (hw : Walks K RV RVs PP) {w : W} {H : Hp} {T : Cells} {v : PV} {x : V} {xs : List PV} (t : HT K w H T) (r : RV w H v x) (e : rows v = some xs) :
    (∃ a vs, x = .ref a ∧ SqL K H a vs ∧ WP K (PP w H) (Itl K a) xs) ∨ (∃ a vs, x = .ref a ∧ SqT K H a vs ∧ WP K (PP w H) (Itt K a) xs) ∨ ∃ z, x = .str z ∧ WP K (PP w H) (Its z) xs := by
  cases v <;> first | cases e | skip
  · have r := hw.str r
    exact .inr (.inr ⟨_, r, wp_str _⟩)
  · obtain ⟨a, vs, e, hr, k⟩ := hw.tup r t
    exact .inr (.inl ⟨a, vs, e, k w H T (hw.rfl' w H) t, wp_tup (vs := vs) (fun w2 H2 T2 p t2 => k w2 H2 T2 p t2) fun w2 H2 p => hr.up (hw.le p)⟩)
  · obtain ⟨a, vs, e, hr, k⟩ := hw.lst r t
    exact .inl ⟨a, vs, e, .inl (k w H T (hw.rfl' w H) t), wp_list (vs := vs) (fun w2 H2 T2 p t2 => k w2 H2 T2 p t2) fun w2 H2 p => hr.up (hw.le p)⟩
abbrev rowM (ma : MM PV) : MM (List PV) := fun ρ T => (ma ρ T).bind fun x T => .of T (rows x)
theorem ij_row (hw : Walks X.K RV RVs PP) (ha : PE X e (tM X.K Wx RV ma)) : IJ X Wx PP tg e (rowM ma) :=
  PI.imp (pi_row ha) fun σ H Q ⟨w, ρ, T, H0, t, er, p⟩ => by
    obtain ⟨w, ρ', T', H0', t', er', p'⟩ := next (m := ma) (R := RV) t er p
    exact ⟨w, ρ', T', H0', t', er', p'.mono fun x H1 ⟨v, w1, T1, s1, t1, er1, r1, q1⟩ => by
      cases e : rows v with
      | none => rw [e] at q1; exact q1.elim
      | some xs =>
        rw [e] at q1
        rcases wrow hw t1 r1 e with ⟨a, vs, e1, h1, k⟩ | ⟨a, vs, e1, h1, k⟩ | ⟨z, e1, k⟩
        · exact .inl ⟨a, vs, e1, h1, q1.here t1 k⟩
        · exact .inr (.inl ⟨a, vs, e1, h1, q1.here t1 k⟩)
        · exact .inr (.inr ⟨z, e1, q1.here t1 k⟩)⟩
abbrev r1M (ma : MM PV) : MM (List PV) := fun ρ T => (ma ρ T).bind fun x T => match x with
    | .int i => if smallR i then .ok (rng 0 i) T else .bad
    | _ => .bad
abbrev r2M (ma mb : MM PV) : MM (List PV) := fun ρ T => (ma ρ T).bind fun x T => (mb ρ T).bind fun y T => match x, y with
    | .int i, .int j => if smallR i && smallR j then .ok (rng i j) T else .bad
    | _, _ => .bad
theorem ij_rng1 (hg : Gl X "range") (hm : X.mg "range" = none) (ha : EJT X Wx a ma) (hs : notStar a = true) : IJ X Wx PP tg (.Call (.Name "range" p) [a] [] pos) (r1M ma) :=
  PI.imp (pi_range1 hg hm (ajt_cons ha ajt_nil hs) (star_cons hs _ _)) fun σ H Q ⟨w, ρ, T, H0, t, er, q⟩ => by
    refine ⟨w, ρ, T, H0, t, er, ?_⟩
    have q : Pst X.K Wx σ (RW X.K PP) w H ((ma ρ T).bind fun x T => match x with
        | .int i => if smallR i then .ok (rng 0 i) T else .bad
        | _ => .bad) Q := q
    show Pst X.K Wx σ (RTs X.K) w H ((ma ρ T).bind fun x T => .ok [x] T) _
    cases em : ma ρ T with
    | bad => rw [em] at q; exact q.elim
    | ex x T' => rw [em] at q; exact q
    | ok v T' =>
      rw [em, Res.bind_ok] at q
      show Pst X.K Wx σ (RTs X.K) w H (Res.ok [v] T') _
      intro xs w' H' s t' r
      obtain ⟨x, rfl, r1⟩ := RepTs.one r
      cases v with
      | int i =>
        cases r1.int
        have q : Pst X.K Wx σ (RW X.K PP) w H (if smallR i = true then .ok (rng 0 i) T' else .bad) Q := q
        by_cases hz : smallR i = true
        · rw [if_pos hz] at q
          obtain ⟨z1, z2⟩ := small_of hz
          refine ⟨i, rfl, z1, z2, (q.step s).here t' ?_⟩
          have k := wp_rng (K := X.K) (P := PP w' H') 0 i
          rw [Int.sub_zero] at k; exact k
        · rw [if_neg hz] at q; exact q.elim
      | _ => exact q.elim
/-- a pair of answers, taken together -/
theorem pst_two {α β : Type} {K : Frg} {Wx : WX} {R : Rel α β} {ρ : MP.Env} {T : Store} {σ : L2.St} {w : W} {H : Hp} {Q : β → Hp → Prop} {f : PV → PV → Store → Res α} (q : Pst K Wx σ R w H ((ma ρ T).bind fun x T => (mb ρ T).bind fun y T => f x y T) Q) :
    Pst K Wx σ (RVs) w H ((ma ρ T).bind fun x T => (mb ρ T).bind fun y T => .ok [x, y] T) fun vs H1 => ∃ x y w1 T1, HT K w1 H1 T1 ∧ Stp w H w1 H1 ∧ RVs w1 H1 [x, y] vs ∧ Pst K Wx σ R w1 H1 (f x y T1) Q := by
  cases em : ma ρ T with
  | bad => rw [em] at q; exact q.elim
  | ex x T' => rw [em] at q; exact q
  | ok v T' =>
    rw [em, Res.bind_ok] at q
    rw [Res.bind_ok]
    cases en : mb ρ T' with
    | bad => rw [en] at q; exact q.elim
    | ex x T' => rw [en] at q; exact q
    | ok u T2 =>
      rw [en, Res.bind_ok] at q
      exact fun xs w' H' s t' r => ⟨v, u, w', T2, t', s, r, q.step s⟩
theorem cons2 : consM ma (consM mb nilM) = fun ρ T => (ma ρ T).bind fun x T => (mb ρ T).bind fun y T => .ok [x, y] T := by
  funext ρ T
  show ((ma ρ T).bind fun x T => ((mb ρ T).bind fun y T => .ok [y] T).bind fun xs T => .ok (x :: xs) T) = _
  cases ma ρ T with
  | ok v T' =>
    rw [Res.bind_ok, Res.bind_ok]
    cases mb ρ T' <;> rfl
  | ex _ _ => rfl
  | bad => rfl
theorem ij_rng2 (hg : Gl X "range") (hm : X.mg "range" = none) (ha : EJT X Wx a ma) (hb : EJT X Wx b mb) (hs : notStar a = true) (hs2 : notStar b = true) : IJ X Wx PP tg (.Call (.Name "range" p) [a, b] [] pos) (r2M ma mb) :=
  PI.imp (pi_range2 hg hm (cons2 ▸ (ajt_cons ha (ajt_cons hb ajt_nil hs2) hs : AJT X Wx [a, b] (consM ma (consM mb nilM)))) (by rw [star_cons hs, star_cons hs2]; rfl) (star_cons hs2 _ _)) fun σ H Q ⟨w, ρ, T, H0, t, er, q⟩ => by
    refine ⟨w, ρ, T, H0, t, er, ?_⟩
    refine Pst.mono (pst_two (RVs := RTs X.K) q) fun vs H1 ⟨x, y, w1, T1, t1, s1, r, q1⟩ => ?_
    obtain ⟨x', y', rfl, r1, r2⟩ := RepTs.two r
    match x, y, r1, r2, q1 with
    | .int i, .int j, r1, r2, q1 =>
      cases r1.int
      cases r2.int
      have q1 : Pst X.K Wx σ (RW X.K PP) w1 H1 (if (smallR i && smallR j) = true then .ok (rng i j) T1 else .bad) Q := q1
      by_cases hz : (smallR i && smallR j) = true
      · rw [if_pos hz] at q1
        rw [Bool.and_eq_true] at hz
        obtain ⟨z1, z2⟩ := small_of hz.1
        obtain ⟨z3, z4⟩ := small_of hz.2
        exact ⟨i, j, rfl, ⟨z1, z2, z3, z4⟩, q1.here t1 (wp_rng i j)⟩
      · rw [if_neg hz] at q1; exact q1.elim
    | .int _, .non, _, _, q2 => exact q2.elim
    | .int _, .bl _, _, _, q2 => exact q2.elim
    | .int _, .str _, _, _, q2 => exact q2.elim
    | .int _, .tup _, _, _, q2 => exact q2.elim
    | .int _, .lst _, _, _, q2 => exact q2.elim
    | .int _, .st _, _, _, q2 => exact q2.elim
    | .int _, .cel _, _, _, q2 => exact q2.elim
    | .int _, .fn _, _, _, q2 => exact q2.elim
    | .non, _, _, _, q2 => exact q2.elim
    | .bl _, _, _, _, q2 => exact q2.elim
    | .str _, _, _, _, q2 => exact q2.elim
    | .tup _, _, _, _, q2 => exact q2.elim
    | .lst _, _, _, _, q2 => exact q2.elim
    | .st _, _, _, _, q2 => exact q2.elim
    | .cel _, _, _, _, q2 => exact q2.elim
    | .fn _, _, _, _, q2 => exact q2.elim
abbrev zipM (ma mb : MM PV) : MM (List PV) := fun ρ T => (ma ρ T).bind fun x T => (mb ρ T).bind fun y T => match x, y with
    | .lst xs, .lst ys => .ok (zip2 xs ys) T
    | .tup xs, .tup ys => .ok (zip2 xs ys) T
    | _, _ => .bad
theorem ij_zip {elts : List Expr} {kk : Nat} {tpos : Pos} (hw : Walks X.K RV RVs PP) (hg : Gl X "zip") (hm : X.mg "zip" = none) (ha : PA X [a, b] (tM X.K Wx RVs fun ρ T => (ma ρ T).bind fun x T => (mb ρ T).bind fun y T => .ok [x, y] T)) (hs : notStar a = true) (hs2 : notStar b = true) :
    IJ X Wx PP (.Tuple elts kk tpos) (.Call (.Name "zip" p) [a, b] [] pos) (zipM ma mb) :=
  PI.imp (RZ.pi_zipA hg hm ha (star_cons hs _ _) (star_any (by simp [hs2]) _ _)) fun σ H Q ⟨w, ρ, T, H0, t, er, q⟩ => by
    refine ⟨w, ρ, T, H0, t, er, ?_⟩
    refine Pst.mono (pst_two q) fun vs H1 ⟨x, y, w1, T1, t1, s1, r, q1⟩ => ?_
    obtain ⟨x', y', rfl, r1, r2⟩ := hw.two r
    cases x with
    | lst xs =>
      cases y with
      | lst ys =>
        obtain ⟨a, vs, e, hr, k⟩ := hw.lst r1 t1
        obtain ⟨a', vs', e', hr', k'⟩ := hw.lst r2 t1
        subst e e'
        exact ⟨a, a', vs, vs', rfl, .inl ⟨.inl (k _ _ _ (hw.rfl' _ _) t1), .inl (k' _ _ _ (hw.rfl' _ _) t1), q1.here t1 (wp_zip (vs := vs) (us := vs') (fun w2 H2 T2 p t2 => k w2 H2 T2 p t2) (fun w2 H2 T2 p t2 => k' w2 H2 T2 p t2) (fun w2 H2 p => hr.up (hw.le p)) fun w2 H2 p => hr'.up (hw.le p))⟩⟩
      | _ => exact q1.elim
    | tup xs =>
      cases y with
      | tup ys =>
        obtain ⟨a, vs, e, hr, k⟩ := hw.tup r1 t1
        obtain ⟨a', vs', e', hr', k'⟩ := hw.tup r2 t1
        subst e e'
        exact ⟨a, a', vs, vs', rfl, .inr ⟨k _ _ _ (hw.rfl' _ _) t1, k' _ _ _ (hw.rfl' _ _) t1, q1.here t1 (wp_zipT (vs := vs) (us := vs') (fun w2 H2 T2 p t2 => k w2 H2 T2 p t2) (fun w2 H2 T2 p t2 => k' w2 H2 T2 p t2) (fun w2 H2 p => hr.up (hw.le p)) fun w2 H2 p => hr'.up (hw.le p))⟩⟩
      | _ => exact q1.elim
    | _ => exact q1.elim
theorem wp_enumT {K : Frg} {P : W → Hp → Prop} {a : Addr} {xs : List PV} {vs : List V} (h : ∀ w H T, P w H → HT K w H T → SqT K H a vs) (hr : ∀ w H, P w H → Reps K w xs vs) : WP K P (IteT K a) (enum_ xs) where
  go := fun i w H T hi p t => by
    rw [enum_len] at hi
    have r := hr w H p
    have z : i < vs.length := by rw [← r.length]; exact hi
    exact ⟨vs, vs[i], h w H T p t, List.getElem?_eq_getElem z⟩
  stop := fun w H T p t => ⟨vs, h w H T p t, by rw [enum_len, (hr w H p).length]; exact Nat.le_refl _⟩
  yld := fun i w H T x H' hi p t y => by
    rw [enum_len] at hi
    obtain ⟨q, v, e1, e2, e3, y⟩ := y
    obtain ⟨p0, hp0⟩ : ∃ p0, xs[i]? = some p0 := ⟨_, List.getElem?_eq_getElem hi⟩
    obtain ⟨v', h1, h2⟩ := (hr w _ p).get hp0
    rw [y vs (h w _ T p t)] at h1
    cases h1
    obtain ⟨w', s', t', r'⟩ := yld_pair t e1 e2 e3 (.int _) h2
    refine ⟨w', s', t', fun q' e => ?_⟩
    obtain ⟨q2, e4, rfl⟩ := enum_get e
    rw [hp0] at e4; cases e4; exact r'
abbrev enuM (ma : MM PV) : MM (List PV) := fun ρ T => (ma ρ T).bind fun x T => match seqOf x with
    | some xs => .ok (enum_ xs) T
    | none => .bad
theorem ij_enu {elts : List Expr} {kk : Nat} {tpos : Pos} (hw : Walks X.K RV RVs PP) (hg : Gl X "enumerate") (hm : X.mg "enumerate" = none) (ha : PA X [a] (tM X.K Wx RVs fun ρ T => (ma ρ T).bind fun x T => .ok [x] T)) (hs : notStar a = true) :
    IJ X Wx PP (.Tuple elts kk tpos) (.Call (.Name "enumerate" p) [a] [] pos) (enuM ma) :=
  PI.imp (pi_enumA hg hm ha (star_cons hs _ _)) fun σ H Q ⟨w, ρ, T, H0, t, er, q⟩ => by
    refine ⟨w, ρ, T, H0, t, er, ?_⟩
    have q : Pst X.K Wx σ (RW X.K PP) w H ((ma ρ T).bind fun x T => match seqOf x with
        | some xs => .ok (enum_ xs) T
        | none => .bad) Q := q
    show Pst X.K Wx σ RVs w H ((ma ρ T).bind fun x T => .ok [x] T) _
    cases em : ma ρ T with
    | bad => rw [em] at q; exact q.elim
    | ex x T' => rw [em] at q; exact q
    | ok v T' =>
      rw [em, Res.bind_ok] at q
      show Pst X.K Wx σ RVs w H (Res.ok [v] T') _
      intro xs w' H' s t' r
      obtain ⟨x, rfl, r1⟩ := hw.one r
      cases v <;> first | exact q.elim | skip
      · obtain ⟨a, vs, e, hr, k⟩ := hw.tup r1 t'
        exact ⟨a, vs, by rw [e], .inr ⟨k _ _ _ (hw.rfl' _ _) t', (q.step s).here t' (wp_enumT (vs := vs) (fun w2 H2 T2 p t2 => k w2 H2 T2 p t2) fun w2 H2 p => hr.up (hw.le p))⟩⟩
      · obtain ⟨a, vs, e, hr, k⟩ := hw.lst r1 t'
        exact ⟨a, vs, by rw [e], .inl ⟨.inl (k _ _ _ (hw.rfl' _ _) t'), (q.step s).here t' (wp_enum (vs := vs) (fun w2 H2 T2 p t2 => k w2 H2 T2 p t2) fun w2 H2 p => hr.up (hw.le p))⟩⟩
end
end MPS
end

section
set_option Elab.async false
set_option linter.all false
set_option maxRecDepth 100000
set_option autoImplicit false
/-! rows of our own, targets -/
namespace MPS
open PySem PySem.Spec PyProof.Rows L2 MP
/-- a new row that nothing else knows -/
def RO (K : Frg) (Hs : Hp) : Rel PV V := fun w H p v => ∃ a xs vs, p = .lst xs ∧ v = .ref a ∧ H a = some (.lst vs) ∧ Reps K w xs vs ∧ w.G a = none ∧ a ∉ w.cs ∧ Hs a = none
def tO (K : Frg) (Wx : WX) (m : MM PV) : TE := fun σ H Q => ∃ (w : W) (ρ : MP.Env) (T : Cells) (H0 : Hp), HT K w H T ∧ Er K H0 w H σ ρ ∧ Pst K Wx σ (RO K H) w H (m ρ T) Q
abbrev EJO (X : Cx) (Wx : WX) (e : Expr) (m : MM PV) : Prop := PE X e (tO X.K Wx m)
section
variable {K : Frg} {w w1 w2 : W} {H H1 H2 : Hp} {T : Cells}
theorem Stp.frz {a : Addr} {o : HO} (s : Stp w H w1 H1) (h : H a = none) (hg : w1.G a = none) : Stp w H (w1.add a o) H1 where
  le := s.le.trans (Wle.add hg)
  newG := fun x h1 h2 => by
    by_cases e : x = a
    · subst e; exact h
    · have h1 : upd w1.G a o x ≠ none := h1
      rw [upd_ne e] at h1; exact s.newG x h1 h2
  newC := s.newC
  keep := s.keep
  dom := s.dom
/-- what our own row becomes -/
theorem Stp.put {a : Addr} {o : HO} (s : Stp w H w1 H1) (h : H a = none) : Stp w H w1 (upd H1 a o) where
  le := s.le
  newG := s.newG
  newC := s.newC
  keep := fun x u e k => by rw [upd_ne (ne_of_none e h)]; exact s.keep x u e k
  dom := fun x u e => by
    obtain ⟨u', e'⟩ := s.dom x u e
    exact ⟨u', by rw [upd_ne (ne_of_none e h)]; exact e'⟩
theorem HT.put {a : Addr} {o : HO} (t : HT K w H T) (hg : w.G a = none) (hc : a ∉ w.cs) : HT K w (upd H a o) T where
  sub := fun x u e => by rw [upd_ne (ne_of_none e hg)]; exact t.sub x u e
  len := t.len
  cel := fun n x xs e1 e2 => by
    obtain ⟨vs, h1, h2⟩ := t.cel n x xs e1 e2
    have hx : x ≠ a := fun e => by subst e; exact hc (List.mem_of_getElem? e1)
    exact ⟨vs, by rw [upd_ne hx]; exact h1, h2⟩
  cG := t.cG
  nd := t.nd
theorem Stp.noneG (s : Stp w H w1 H1) {a : Addr} (h : H1 a ≠ none) (h0 : H a ≠ none) (hg : w.G a = none) : w1.G a = none := by
  cases q : w1.G a with
  | none => rfl
  | some o => exact absurd (s.newG a (by rw [q]; simp) hg) h0
theorem Stp.nCs (s : Stp w H w1 H1) {a : Addr} (h0 : H a ≠ none) (hc : a ∉ w.cs) : a ∉ w1.cs := fun z => h0 (s.newC a z hc)
end
section
variable {X : Cx} {Wx : WX} {a b c e tg : Expr} {es rest : List Expr} {ma mb mc : MM PV} {ms : MM (List PV)} {pos p : Pos}
theorem PstO.frz {K : Frg} {Wx : WX} {σ : L2.St} {w : W} {H : Hp} {r : Res PV} {Q : VK} (h : Pst K Wx σ (RR K) w H r Q) : Pst K Wx σ (RO K H) w H r Q := by
  cases r with
  | ok v T =>
    intro x w' H' s t ⟨a, xs, vs, e1, e2, h1, h2, h3, h4, h5⟩
    subst e1 e2
    exact h _ (w'.add a (.lst vs)) H' (s.frz h5 h3) (t.frz h1 h3 h4) (.lst (.inl upd_same) (h2.up (Wle.add h3)))
  | ex x T => exact h
  | bad => exact h
theorem EJO.ej (h : EJO X Wx e ma) : EJ X Wx e ma := PE.imp h fun σ H Q ⟨w, ρ, T, H0, t, er, p⟩ => ⟨w, ρ, T, H0, t, er, PstO.frz p⟩
theorem ejo_lst {n : Nat} (ha : AJ X Wx es ms) (hl : LenOk n ms) : EJO X Wx (.List es pos) (fun ρ T => (ms ρ T).bind fun xs T => .ok (.lst xs) T) :=
  PE.imp (pe_lst ha) fun σ H Q ⟨w, ρ, T, H0, t, er, p⟩ => by
    (try dsimp only at p)
    rw [len_guard hl] at p
    obtain ⟨w, ρ', T', H0', t', er', p'⟩ := next (m := ms) (R := RRs X.K) t er p
    exact ⟨w, ρ', T', H0', t', er', p'.mono fun x H1 ⟨v, w1, T1, s1, t1, er1, r1, q1⟩ => by
      by_cases hz : v.length ≤ 1000
      · rw [if_pos hz] at q1
        refine ⟨by rw [← r1.length]; exact small1 hz, fun p hp => q1 _ _ _ (Stp.lay hp) (t1.lay hp) ⟨p, _, x, rfl, rfl, upd_same, r1, t1.fresh hp, t1.ncs hp, ?_⟩⟩
        cases q : H p with
        | none => rfl
        | some o =>
          obtain ⟨o', e'⟩ := s1.dom p o q
          rw [hp] at e'; cases e'
      · rw [if_neg hz] at q1; exact q1.elim⟩
def rList (K : Frg) : List V → Hp → VK → Prop := fun xs H Q => ∃ (w : W) (T : Cells) (v : PV), HT K w H T ∧ RepTs K w H [v] xs ∧ match seqOf v with
  | some ys => ∀ x vs H', x = .ref H' → H H' = none → Reps K w ys vs → Q x (upd H H' (.lst vs))
  | none => False
theorem bi_listO : CallR X (.type "list") (rList X.K) := by
  intro pins s σ H xs us Q I r ⟨w, T, v, t, hr, hd⟩
  obtain ⟨x, rfl, h1⟩ := hr.one
  cases e : seqOf v with
  | none => rw [e] at hd; exact hd.elim
  | some ys =>
    rw [e] at hd
    obtain ⟨a, vs, rfl, ha, ra⟩ := seq_of t h1 e
    exact call_list_of pins s σ H _ us Q I r ⟨a, vs, rfl, ha, fun l hl => hd _ vs l rfl hl ra⟩
abbrev listM (ma : MM PV) : MM PV := fun ρ T => (ma ρ T).bind fun x T => .of T (bi .list_ [x])
theorem ejo_list {x : Str} (hg : Gl X x) (hm : X.mg x = none) (hv : bootBuiltins x = some (.type "list")) (ha : EJT X Wx e ma) (hs : notStar e = true) (hn : x ≠ "__name__") (hdb : (x == ("__debug__" : Str)) = false) :
    EJO X Wx (.Call (.Name x p) [e] [] pos) (listM ma) := by
  refine PE.imp (pe_callTy bi_listO hg hm hv (ajt_cons ha ajt_nil hs) hn hdb (star_cons hs _ _) (star_any (es := []) rfl _ _)) fun σ H Q ⟨w, ρ, T, H0, t, er, p⟩ => ?_
  refine ⟨w, ρ, T, H0, t, er, ?_⟩
  have p : Pst X.K Wx σ (RO X.K H) w H ((ma ρ T).bind fun x T => .of T (bi .list_ [x])) Q := p
  show Pst X.K Wx σ (RTs X.K) w H ((ma ρ T).bind fun x T => .ok [x] T) _
  cases em : ma ρ T with
  | bad => rw [em] at p; exact p.elim
  | ex x T' => rw [em] at p; exact p
  | ok v T' =>
    rw [em, Res.bind_ok] at p
    intro xs w' H' s t' r
    refine ⟨w', T', v, t', r, ?_⟩
    have key : ∀ ys, bi .list_ [v] = some (.lst ys) → ∀ x vs (l : Addr), x = .ref l → H' l = none → Reps X.K w' ys vs → Q x (upd H' l (.lst vs)) := fun ys e x vs l e1 e2 e3 => by
      subst e1
      rw [e] at p
      refine p _ w' _ (s.trans (Stp.lay e2)) (t'.lay e2) ⟨l, ys, vs, rfl, rfl, upd_same, e3, t'.fresh e2, t'.ncs e2, ?_⟩
      cases q : H l with
      | none => rfl
      | some o =>
        obtain ⟨o', e'⟩ := s.dom l o q
        rw [e2] at e'; cases e'
    cases v with
    | tup ys => exact key ys rfl
    | lst ys => exact key ys rfl
    | _ => exact p.elim
theorem ejo_or (ha : EJO X Wx a ma) (hb : EJO X Wx b mb) : EJO X Wx (.BoolOp .Or [a, b] pos) (orM ma mb) :=
  PE.imp (pe_orT ha (pe_one hb)) fun σ H Q ⟨w, ρ, T, H0, t, er, p⟩ => by
    refine ⟨w, ρ, T, H0, t, er, ?_⟩
    have p : Pst X.K Wx σ (RO X.K H) w H ((ma ρ T).bind fun x T => match truth x with
      | some false => mb ρ T
      | some true => .ok x T
      | none => .bad) Q := p
    cases em : ma ρ T with
    | bad => rw [em] at p; exact p.elim
    | ex x T' => rw [em] at p; exact p
    | ok v T' =>
      rw [em, Res.bind_ok] at p
      intro x w' H' s t' ⟨l, xs, vs, e1, e2, h1, h2, h3, h4, h5⟩
      subst e1 e2
      have p : Pst X.K Wx σ (RO X.K H) w H (match some (!xs.isEmpty) with
        | some false => mb ρ T'
        | some true => .ok (.lst xs) T'
        | none => .bad) Q := p
      refine ⟨!xs.isEmpty, tru_V t' (.inr ⟨l, xs, vs, rfl, rfl, h1, h2, h3, h4⟩) rfl, ?_⟩
      cases hx : (!xs.isEmpty) with
      | true =>
        rw [hx] at p
        exact p _ w' H' s t' ⟨l, xs, vs, rfl, rfl, h1, h2, h3, h4, h5⟩
      | false =>
        rw [hx] at p
        have p : Pst X.K Wx σ (RO X.K H) w H (mb ρ T') Q := p
        refine ⟨w', ρ, T', H0, t', er.step s, ?_⟩
        cases en : mb ρ T' with
        | bad => rw [en] at p; exact p.elim
        | ex x T2 => rw [en] at p; exact fun w2 H2 c d s2 t2 r2 => p w2 H2 c d (s.trans s2) t2 r2
        | ok u T2 =>
          rw [en] at p
          intro y w2 H2 s2 t2 ⟨l2, xs2, vs2, e1, e2, k1, k2, k3, k4, k5⟩
          refine p y w2 H2 (s.trans s2) t2 ⟨l2, xs2, vs2, e1, e2, k1, k2, k3, k4, ?_⟩
          cases q : H l2 with
          | none => rfl
          | some o =>
            obtain ⟨o', e'⟩ := s.dom l2 o q
            rw [k5] at e'; cases e'
end
/-! ### names' values -/
section
variable {K : Frg} {H0 H H1 : Hp} {w w1 : W} {σ : L2.St} {ρ ρ' : MP.Env}
theorem set_va {ρ : MP.Env} {i j : Nat} {v : SV} {u : SV} (h : (ρ.set i v)[j]? = some u) : (i = j ∧ v = u) ∨ (i ≠ j ∧ ρ[j]? = some u) := by
  by_cases e : i = j
  · subst e
    by_cases hl : i < ρ.length
    · rw [List.getElem?_set_self hl] at h; cases h; exact .inl ⟨rfl, rfl⟩
    · rw [List.getElem?_eq_none (by simpa using hl)] at h; cases h
  · rw [List.getElem?_set_ne e] at h; exact .inr ⟨e, h⟩
theorem set_lt {ρ : MP.Env} {i : Nat} {v : SV} {u : SV} (h : (ρ.set i v)[i]? = some u) : i < ρ.length := by
  have := (List.getElem?_eq_some_iff.mp h).1
  simpa using this
theorem Er.set {p : PV} {v : V} (h : Er K H0 w H σ ρ) (r : Rep K w p v) (i : Nat) : Er K H0 w H (σ.set i (some v)) (ρ.set i (.va p)) where
  len := by rw [List.length_set, List.length_set, h.len]
  va := fun j q e => by
    rcases set_va e with ⟨rfl, e2⟩ | ⟨ne, e2⟩
    · cases e2
      have hl := set_lt e
      exact ⟨v, by rw [List.getElem?_set_self (by rw [h.len]; exact hl)], r⟩
    · rw [List.getElem?_set_ne ne]; exact h.va j q e2
  ow := fun j xs e => by
    rcases set_va e with ⟨rfl, e2⟩ | ⟨ne, e2⟩
    · cases e2
    · rw [List.getElem?_set_ne ne]; exact h.ow j xs e2
  dj := fun j k xs ys a e1 e2 e3 e4 => by
    rcases set_va e1 with ⟨_, z⟩ | ⟨n1, z1⟩
    · cases z
    · rcases set_va e2 with ⟨_, z⟩ | ⟨n2, z2⟩
      · cases z
      · rw [List.getElem?_set_ne n1] at e3
        rw [List.getElem?_set_ne n2] at e4
        exact h.dj j k xs ys a z1 z2 e3 e4
/-- less is known -/
structure Less (ρ' ρ : MP.Env) : Prop where
  len : ρ'.length = ρ.length
  eq : ∀ (i : Nat) (v : SV), ρ'[i]? = some v → v ≠ .un → ρ[i]? = some v
theorem Er.less (h : Er K H0 w H σ ρ) (k : Less ρ' ρ) : Er K H0 w H σ ρ' where
  len := h.len.trans k.len.symm
  va := fun i v e => h.va i v (k.eq i _ e (by simp))
  ow := fun i v e => h.ow i v (k.eq i _ e (by simp))
  dj := fun i j xs ys a e1 e2 => h.dj i j xs ys a (k.eq i _ e1 (by simp)) (k.eq j _ e2 (by simp))
theorem mwipe_len (ρ : MP.Env) : ∀ vs : List Nat, (MP.wipe ρ vs).length = ρ.length
  | [] => rfl
  | v :: vs => by unfold MP.wipe; rw [List.length_set, mwipe_len ρ vs]
theorem mwipe_some {ρ : MP.Env} {i : Nat} {x : SV} (hx : x ≠ .un) : ∀ {vs : List Nat}, (MP.wipe ρ vs)[i]? = some x → ρ[i]? = some x ∧ i ∉ vs
  | [], h => ⟨h, by simp⟩
  | v :: vs, h => by
    unfold MP.wipe at h
    rcases set_va h with ⟨_, e⟩ | ⟨ne, e⟩
    · exact absurd e.symm hx
    · obtain ⟨h1, h2⟩ := mwipe_some hx e
      exact ⟨h1, by simp only [List.mem_cons, not_or]; exact ⟨fun e => ne e.symm, h2⟩⟩
theorem Less.wipe (ρ : MP.Env) (vs : List Nat) : Less (MP.wipe ρ vs) ρ := ⟨mwipe_len ρ vs, fun i v e ne => (mwipe_some ne e).1⟩
theorem wipe_out' {σ : L2.St} {i : Nat} : ∀ {vs : List Nat}, i ∉ vs → (L2.wipe σ vs)[i]? = σ[i]? := fun h => wipe_out h
theorem Er.wipe (h : Er K H0 w H σ ρ) (vs : List Nat) : Er K H0 w H (L2.wipe σ vs) (MP.wipe ρ vs) where
  len := by rw [L2.wipe_length, mwipe_len, h.len]
  va := fun i v e => by
    obtain ⟨e1, e2⟩ := mwipe_some (by simp) e
    rw [wipe_out' e2]; exact h.va i v e1
  ow := fun i v e => by
    obtain ⟨e1, e2⟩ := mwipe_some (by simp) e
    rw [wipe_out' e2]; exact h.ow i v e1
  dj := fun i j xs ys a e1 e2 e3 e4 => by
    obtain ⟨z1, z2⟩ := mwipe_some (by simp) e1
    obtain ⟨z3, z4⟩ := mwipe_some (by simp) e2
    rw [wipe_out' z2] at e3
    rw [wipe_out' z4] at e4
    exact h.dj i j xs ys a z1 z3 e3 e4
theorem wipe_in {σ : L2.St} {i : Nat} (hi : i < σ.length) : ∀ {vs : List Nat}, i ∈ vs → (L2.wipe σ vs)[i]? = some none
  | v :: vs, h => by
    unfold L2.wipe
    by_cases e : v = i
    · subst e; rw [List.getElem?_set_self (by rw [L2.wipe_length]; exact hi)]
    · rw [List.getElem?_set_ne e]
      exact wipe_in hi ((List.mem_cons.mp h).resolve_left fun z => e z.symm)
theorem wipe_eq {σ σ' : L2.St} {vs : List Nat} (hl : σ'.length = σ.length) (h : ∀ j, j ∉ vs → σ'[j]? = σ[j]?) : L2.wipe σ' vs = L2.wipe σ vs := by
  apply List.ext_getElem?
  intro i
  by_cases e : i ∈ vs
  · by_cases hi : i < σ.length
    · rw [wipe_in hi e, wipe_in (by rw [hl]; exact hi) e]
    · rw [List.getElem?_eq_none (by rw [L2.wipe_length]; omega), List.getElem?_eq_none (by rw [L2.wipe_length]; omega)]
  · rw [wipe_out' e, wipe_out' e, h i e]
end
/-! ### targets -/
/-- wherever the first stands, the second does -/
def Trf (K : Frg) (H0 : Hp) (w : W) (σ : L2.St) (ρ : MP.Env) (σ' : L2.St) (ρ' : MP.Env) : Prop := ∀ w2 H2, Wle w w2 → Er K H0 w2 H2 σ ρ → Er K H0 w2 H2 σ' ρ'
/-- a store into the target t -/
def gM (K : Frg) (t : Tg) : TG := fun v σ H Q => ∃ (w : W) (ρ : MP.Env) (T : Cells) (H0 : Hp) (p : PV), HT K w H T ∧ Er K H0 w H σ ρ ∧ Rep K w p v ∧ match bindTg t ρ p with
  | some ρ' => ∀ σ', Trf K H0 w σ ρ σ' ρ' → σ'.length = σ.length → (∀ j, j ∉ t.ns → σ'[j]? = σ[j]?) → Q σ' H
  | none => False
def gMs (K : Frg) (ts : Tgs) : TGs := fun vs σ H Q => ∃ (w : W) (ρ : MP.Env) (T : Cells) (H0 : Hp) (ps : List PV), HT K w H T ∧ Er K H0 w H σ ρ ∧ Reps K w ps vs ∧ match bindTgs ts ρ ps with
  | some ρ' => ∀ σ', Trf K H0 w σ ρ σ' ρ' → σ'.length = σ.length → (∀ j, j ∉ ts.ns → σ'[j]? = σ[j]?) → Q σ' H
  | none => False
section
variable {X : Cx} {e : Expr} {es : List Expr} {pos : Pos}
theorem PG.imp {t t' : TG} (h : PG X e t) (k : ∀ v σ H Q, t' v σ H Q → t v σ H Q) : PG X e t' := ⟨fun pins s σ H v u Q I r q => h.run pins s σ H v u Q I r (k _ _ _ _ q)⟩
theorem PGs.imp {t t' : TGs} (h : PGs X es t) (k : ∀ v σ H Q, t' v σ H Q → t v σ H Q) : PGs X es t' := ⟨fun pins s σ H v u Q I r q => h.run pins s σ H v u Q I r (k _ _ _ _ q)⟩
theorem gj_name {i : Nat} {x : Str} (hN : X.N.Nodup) (hi : X.N[i]? = some x) (hx : Loc X.env.scope x) (hf : X.fn x = true ∨ X.env.scope.names.lookup x = some .local) : PG X (.Name x pos) (gM X.K (.nm i)) :=
  PG.imp (pg_name hN hi hx hf) fun v σ H Q ⟨w, ρ, T, H0, p, t, er, r, q⟩ => by
    refine q _ (fun w2 H2 le er => er.set (r.up le) i) (by rw [List.length_set]) fun j hj => ?_
    rw [List.getElem?_set_ne (fun z => hj (by subst z; simp [Tg.ns]))]
theorem gjs_nil : PGs X [] (gMs X.K .nil) :=
  PGs.imp pgs_nil fun v σ H Q ⟨w, ρ, T, H0, p, t, er, r, q⟩ => by
    cases r with
    | nil => exact ⟨rfl, q _ (fun w2 H2 le er => er) rfl fun _ _ => rfl⟩
    | cons _ _ => exact q.elim
theorem each_cons (h : notStar e = true) (es : List Expr) (env : PySem.Env) : assignEach (e :: es) env = (false, assign e env) :: assignEach es env := by
  cases e <;> first | rfl | cases h
theorem each_len : ∀ {es : List Expr}, es.all notStar = true → ∀ (env : PySem.Env), (assignEach es env).length = es.length ∧ (assignEach es env).findIdx? (·.1) = none
  | [], _, _ => ⟨rfl, rfl⟩
  | e :: es, h, env => by
    rw [List.all_cons, Bool.and_eq_true] at h
    obtain ⟨h1, h2⟩ := each_len h.2 env
    rw [each_cons h.1]
    refine ⟨by rw [List.length_cons, h1]; rfl, ?_⟩
    rw [List.findIdx?_cons]
    simp [h2]
theorem gjs_cons {t : Tg} {ts : Tgs} (h1 : PG X e (gM X.K t)) (h2 : PGs X es (gMs X.K ts)) (hs : notStar e = true) : PGs X (e :: es) (gMs X.K (.cons t ts)) :=
  PGs.imp (pgs_cons h1 h2 (by rw [each_cons hs]; rfl)) fun vv σ H Q ⟨w, ρ, T, H0, p, t', er, r, q⟩ => by
    cases r with
    | nil => exact q.elim
    | @cons p ps v vs r rs =>
      refine ⟨v, vs, rfl, w, ρ, T, H0, p, t', er, r, ?_⟩
      have q : match (bindTg t ρ p).bind fun ρ => bindTgs ts ρ ps with
        | some ρ' => ∀ σ', Trf X.K H0 w σ ρ σ' ρ' → σ'.length = σ.length → (∀ j, j ∉ t.ns ++ ts.ns → σ'[j]? = σ[j]?) → Q σ' H
        | none => False := q
      cases e1 : bindTg t ρ p with
      | none => rw [e1] at q; exact q.elim
      | some ρ1 =>
        rw [e1] at q
        intro σ1 er1 hl1 k1
        refine ⟨w, ρ1, T, H0, ps, t', er1 w H (Wle.refl w) er, rs, ?_⟩
        have q : match bindTgs ts ρ1 ps with
          | some ρ' => ∀ σ', Trf X.K H0 w σ ρ σ' ρ' → σ'.length = σ.length → (∀ j, j ∉ t.ns ++ ts.ns → σ'[j]? = σ[j]?) → Q σ' H
          | none => False := q
        cases e2 : bindTgs ts ρ1 ps with
        | none => rw [e2] at q; exact q.elim
        | some ρ2 =>
          rw [e2] at q
          intro σ2 er2 hl2 k2
          refine q σ2 (fun w2 H2 le er => er2 w2 H2 le (er1 w2 H2 le er)) (hl2.trans hl1) fun j hj => ?_
          rw [List.mem_append, not_or] at hj
          rw [k2 j hj.2, k1 j hj.1]
theorem PG.or {t t' : TG} (h : PG X e t) (h' : PG X e t') : PG X e (fun v σ H Q => t v σ H Q ∨ t' v σ H Q) :=
  ⟨fun pins s σ H v u Q I r q => q.elim (h.run pins s σ H v u Q I r) (h'.run pins s σ H v u Q I r)⟩
theorem bind_len : ∀ {ts : Tgs} {ρ ρ' : MP.Env} {ps : List PV} {n : Nat}, PGs X es (gMs X.K ts) → True := fun _ => trivial
def Tgs.len : Tgs → Nat
  | .nil => 0
  | .cons _ ts => Tgs.len ts + 1
theorem bindTgs_len : ∀ {ts : Tgs} {ρ ρ' : MP.Env} {ps : List PV}, bindTgs ts ρ ps = some ρ' → ps.length = Tgs.len ts
  | .nil, _, _, [], _ => rfl
  | .nil, _, _, _ :: _, h => by cases h
  | .cons _ _, _, _, [], h => by cases h
  | .cons t ts, ρ, ρ', p :: ps, h => by
    have h : (bindTg t ρ p).bind (fun ρ => bindTgs ts ρ ps) = some ρ' := h
    cases e : bindTg t ρ p with
    | none => rw [e] at h; cases h
    | some ρ1 =>
      rw [e] at h
      have h : bindTgs ts ρ1 ps = some ρ' := h
      rw [List.length_cons, bindTgs_len h]
      rfl
theorem gj_tup {k : Nat} {ts : Tgs} (hc : X.calm = true) (h : PGs X es (gMs X.K ts)) (hs : es.all notStar = true) (hl : es.length = Tgs.len ts) : PG X (.Tuple es k pos) (gM X.K (.tp ts)) := by
  obtain ⟨n1, n2⟩ := each_len hs X.env
  refine PG.imp (PG.or (pg_tup hc h n1 n2) (pg_unl hc h n1 n2)) fun v σ H Q ⟨w, ρ, T, H0, p, t, er, r, q⟩ => ?_
  cases r with
  | @tup a ps vs h1 h2 =>
    refine .inl ⟨a, vs, rfl, SqT.up h1 t.sub, ?_, w, ρ, T, H0, ps, t, er, h2, q⟩
    have q : match bindTgs ts ρ ps with
      | some ρ' => ∀ σ', Trf X.K H0 w σ ρ σ' ρ' → σ'.length = σ.length → (∀ j, j ∉ ts.ns → σ'[j]? = σ[j]?) → Q σ' H
      | none => False := q
    cases e : bindTgs ts ρ ps with
    | none => rw [e] at q; exact q.elim
    | some ρ' => rw [← h2.length, bindTgs_len e, hl]
  | @lst a ps vs h1 h2 =>
    refine .inr ⟨a, vs, rfl, .inl (Rd.up h1 t.sub), ?_, w, ρ, T, H0, ps, t, er, h2, q⟩
    have q : match bindTgs ts ρ ps with
      | some ρ' => ∀ σ', Trf X.K H0 w σ ρ σ' ρ' → σ'.length = σ.length → (∀ j, j ∉ ts.ns → σ'[j]? = σ[j]?) → Q σ' H
      | none => False := q
    cases e : bindTgs ts ρ ps with
    | none => rw [e] at q; exact q.elim
    | some ρ' => rw [← h2.length, bindTgs_len e, hl]
  | _ => exact q.elim
end
end MPS
end

section
set_option Elab.async false
set_option linter.all false
set_option maxRecDepth 100000
set_option autoImplicit false
/-! list comprehensions -/
namespace MPS
open PySem PySem.Spec PyProof.Rows L2 MP
abbrev clM (tg : Tg) (mI : MM (List PV)) (mt : MM Bool) (k : MM (List PV)) : MM (List PV) := fun ρ T => (mI ρ T).bind fun xs T => loopC (fun x T => match bindTg tg (MP.wipe ρ tg.ns) x with
    | none => .bad
    | some ρ' => (mt ρ' T).bind fun b T => if b then k ρ' T else .ok [] T) xs T
abbrev eltM (me : MM PV) : MM (List PV) := fun ρ T => (me ρ T).bind fun v T => .ok [v] T
def NoX : WX := fun _ _ _ _ => False
section
variable {K : Frg} {w1 w w' : W} {H1 H H' : Hp} {D : Addr} {T T' : Cells} {pacc : List PV}
/-- the new list at D holds pacc -/
structure Acc (K : Frg) (w1 : W) (H1 : Hp) (D : Addr) (w : W) (H : Hp) (T : Cells) (pacc : List PV) : Prop where
  t : HT K w H T
  s : Stp w1 H1 w H
  l : ∃ acc, H D = some (.lst acc) ∧ Reps K w pacc acc
  g : w.G D = none
  c : D ∉ w.cs
theorem Acc.new (t : HT K w1 H1 T) (hD : H1 D = none) : Acc K w1 H1 D w1 (upd H1 D (.lst [])) T [] :=
  ⟨t.lay hD, Stp.lay hD, ⟨[], upd_same, .nil⟩, t.fresh hD, t.ncs hD⟩
theorem Acc.step (a : Acc K w1 H1 D w H T pacc) (s : Stp w H w' H') (t : HT K w' H' T') : Acc K w1 H1 D w' H' T' pacc := by
  obtain ⟨acc, h1, h2⟩ := a.l
  have hne : H D ≠ none := by rw [h1]; simp
  refine ⟨t, a.s.trans s, ⟨acc, s.keep D _ h1 a.c, h2.up s.le⟩, ?_, s.nCs hne a.c⟩
  cases q : w'.G D with
  | none => rfl
  | some o => exact absurd (s.newG D (by rw [q]; simp) a.g) hne
theorem Acc.push {acc : List V} {p : PV} {y : V} (a : Acc K w1 H1 D w H T pacc) (hD : H1 D = none) (h : H D = some (.lst acc)) (r : Rep K w p y) : Acc K w1 H1 D w (upd H D (.lst (acc ++ [y]))) T (pacc ++ [p]) := by
  obtain ⟨acc', h1, h2⟩ := a.l
  rw [h] at h1; cases h1
  exact ⟨a.t.put a.g a.c, a.s.put hD, ⟨_, upd_same, h2.append (.cons r .nil)⟩, a.g, a.c⟩
end
theorem loopC_cons {f : PV → Store → Res (List PV)} {x : PV} {xs : List PV} {T Tn : Store} {r : List PV} (h : loopC f (x :: xs) T = .ok r Tn) : ∃ a T' b, f x T = .ok a T' ∧ loopC f xs T' = .ok b Tn ∧ r = a ++ b := by
  have h : ((f x T).bind fun a T => (loopC f xs T).bind fun b T => .ok (a ++ b) T) = .ok r Tn := h
  cases e : f x T with
  | bad => rw [e] at h; cases h
  | ex _ _ => rw [e] at h; cases h
  | ok a T' =>
    rw [e, Res.bind_ok] at h
    cases e2 : loopC f xs T' with
    | bad => rw [e2] at h; cases h
    | ex _ _ => rw [e2] at h; cases h
    | ok b T2 => rw [e2] at h; cases h; exact ⟨a, T', b, rfl, e2, rfl⟩
theorem turn_ok {tg : Tg} {mt : MM Bool} {k : MM (List PV)} {ρ : MP.Env} {x : PV} {T T' : Store} {a : List PV} (h : (match bindTg tg ρ x with
    | none => Res.bad
    | some ρ' => (mt ρ' T).bind fun b T => if b then k ρ' T else .ok [] T) = .ok a T') : ∃ ρ' b T1, bindTg tg ρ x = some ρ' ∧ mt ρ' T = .ok b T1 ∧ (if b = true then k ρ' T1 = .ok a T' else a = [] ∧ T' = T1) := by
  cases e : bindTg tg ρ x with
  | none => rw [e] at h; cases h
  | some ρ' =>
    rw [e] at h
    have h : ((mt ρ' T).bind fun b T => if b = true then k ρ' T else .ok [] T) = .ok a T' := h
    cases e2 : mt ρ' T with
    | bad => rw [e2] at h; cases h
    | ex _ _ => rw [e2] at h; cases h
    | ok b T1 =>
      rw [e2, Res.bind_ok] at h
      refine ⟨ρ', b, T1, rfl, e2, ?_⟩
      cases b with
      | true => rw [if_pos rfl] at h ⊢; exact h
      | false => rw [if_neg Bool.false_ne_true] at h ⊢; cases h; exact ⟨rfl, rfl⟩
theorem compR_ok {r : Res (List PV)} {K : Frg} {Wx : WX} {σ : L2.St} {R : Rel PV V} {w : W} {H : Hp} {Q : VK} (h : Pst K Wx σ R w H (compR r) Q) : ∃ ys T, r = .ok ys T ∧ ys.length ≤ MP.line ∧ Pst K Wx σ R w H (.ok (.lst ys) T) Q := by
  cases r with
  | bad => exact h.elim
  | ex _ _ => exact h.elim
  | ok ys T =>
    have h : Pst K Wx σ R w H (if ys.length ≤ MP.line then .ok (.lst ys) T else .bad) Q := h
    by_cases hz : ys.length ≤ MP.line
    · rw [if_pos hz] at h; exact ⟨ys, T, rfl, hz, h⟩
    · rw [if_neg hz] at h; exact h.elim
theorem clM_ok {tg : Tg} {mI : MM (List PV)} {mt : MM Bool} {k : MM (List PV)} {ρ : MP.Env} {T Tn : Store} {ys : List PV} (h : clM tg mI mt k ρ T = .ok ys Tn) : ∃ xs T1, mI ρ T = .ok xs T1 ∧ loopC (fun x T => match bindTg tg (MP.wipe ρ tg.ns) x with
    | none => .bad
    | some ρ' => (mt ρ' T).bind fun b T => if b then k ρ' T else .ok [] T) xs T1 = .ok ys Tn := by
  unfold clM at h
  cases e : mI ρ T with
  | bad => rw [e] at h; cases h
  | ex _ _ => rw [e] at h; cases h
  | ok xs T1 => rw [e, Res.bind_ok] at h; exact ⟨xs, T1, rfl, h⟩
theorem drop_at {α : Type} {xs : List α} {i : Nat} (h : i < xs.length) : xs.drop i = xs[i] :: xs.drop (i + 1) := List.drop_eq_getElem_cons h
section
variable {K : Frg} {Wx : WX} {tg tg1 : Tg} {mI mI1 : MM (List PV)} {mt mt1 : MM Bool} {me : MM PV} {vs : List Nat}
/-- one clause -/
theorem lc1_read (hsub : ∀ i ∈ tg.ns, i ∈ vs) {σ : L2.St} {H : Hp} {Q : VK} (h : tO K Wx (fun ρ T => compR (clM tg mI mt (eltM me) (MP.wipe ρ vs) T)) σ H Q) :
    tLc (tM K Wx (RW K PPs) mI) (gM K tg) (tM K NoX RB mt) (tM K NoX (RR K) me) vs σ H Q := by
  obtain ⟨w, ρ, T, H0, t, er, p⟩ := h
  obtain ⟨ys, Tn, e1, hlen, p⟩ := compR_ok p
  obtain ⟨xs, T1, e2, e3⟩ := clM_ok e1
  refine ⟨w, MP.wipe ρ vs, T, H0, t, er.less (Less.wipe ρ vs), ?_⟩
  rw [e2]
  intro J w1 H1 s1 t1 k D hD
  generalize hf : (fun x T => match bindTg tg (MP.wipe (MP.wipe ρ vs) tg.ns) x with
    | none => Res.bad
    | some ρ' => (mt ρ' T).bind fun b T => if b then eltM me ρ' T else .ok [] T) = f at e3
  refine ⟨fun i m H' => m = xs.length - i ∧ i ≤ xs.length ∧ ∃ w' T' pacc rest, Acc K w1 H1 D w' H' T' pacc ∧ loopC f (xs.drop i) T' = .ok rest Tn ∧ ys = pacc ++ rest,
    ⟨xs.length, rfl, Nat.zero_le _, w1, T1, [], ys, Acc.new t1 hD, e3, rfl⟩, ?_⟩
  rintro i m H' ⟨rfl, hi, w', T', pacc, rest, A, e4, e5⟩
  by_cases hlt : i < xs.length
  · refine .inr ⟨k.go i w' H' T' hlt A.s A.t, fun H' => ∃ w' T' pacc rest, Acc K w1 H1 D w' H' T' pacc ∧ loopC f (xs.drop (i + 1)) T' = .ok rest Tn ∧ ys = pacc ++ rest, fun H2 h2 => ⟨xs.length - (i + 1), by omega, rfl, hlt, h2⟩, fun x H2 y => ?_⟩
    obtain ⟨w2, s2, t2, r2⟩ := k.yld i w' H' T' x H2 hlt A.s A.t y
    have r2 := r2 _ (List.getElem?_eq_getElem hlt)
    rw [drop_at hlt] at e4
    obtain ⟨av, Ta, bv, f1, f2, f3⟩ := loopC_cons e4
    rw [← hf] at f1
    obtain ⟨ρ', b, T3, b1, b2, b3⟩ := turn_ok f1
    have A2 := A.step s2 t2
    have er2 : Er K H0 w2 H2 (L2.wipe σ vs) (MP.wipe (MP.wipe ρ vs) tg.ns) := ((er.step (s1.trans A2.s)).wipe vs).less (Less.wipe _ _)
    refine ⟨w2, _, T', H0, xs[i], t2, er2, r2, ?_⟩
    rw [b1]
    intro σ2 tr2 hl2 hk2
    have er3 := tr2 w2 H2 (Wle.refl _) er2
    refine ⟨?_, w2, ρ', T', H0, t2, er3, ?_⟩
    · rw [wipe_eq hl2 fun j hj => hk2 j fun z => hj (hsub j z)]
      refine wipe_eq (L2.wipe_length _ _) fun j hj => wipe_out' hj
    · rw [b2]
      intro b' w3 H3 s3 t3 rb
      have rb : b = b' := rb
      subst rb
      have A3 := A2.step s3 t3
      cases b with
      | false =>
        rw [if_neg Bool.false_ne_true] at b3 ⊢
        obtain ⟨rfl, rfl⟩ := b3
        exact ⟨w3, Ta, pacc, bv, A3, f2, by rw [e5, f3]; rfl⟩
      | true =>
        rw [if_pos rfl] at b3 ⊢
        refine ⟨w3, ρ', T3, H0, t3, er3.step s3, ?_⟩
        have b3 : ((me ρ' T3).bind fun v T => .ok [v] T) = Res.ok av Ta := b3
        cases e6 : me ρ' T3 with
        | bad => rw [e6] at b3; cases b3
        | ex _ _ => rw [e6] at b3; cases b3
        | ok v T4 =>
          rw [e6] at b3
          cases b3
          intro y w4 H4 s4 t4 r4
          have A4 := A3.step s4 t4
          obtain ⟨acc, a1, a2⟩ := A4.l
          refine ⟨acc, a1, ?_, w4, _, pacc ++ [v], bv, A4.push hD a1 r4, f2, by rw [e5, f3]; simp⟩
          have z : pacc.length + (1 + bv.length) ≤ MP.line := by rw [e5, f3] at hlen; simpa [Nat.add_comm, Nat.add_left_comm] using hlen
          rw [line_eq] at z
          rw [← a2.length]; omega
  · have e : i = xs.length := by omega
    subst e
    refine .inl ⟨k.stop w' H' T' A.s A.t, ?_⟩
    rw [List.drop_length] at e4
    cases e4
    obtain ⟨acc, a1, a2⟩ := A.l
    refine p _ w' H' (s1.trans A.s) A.t ⟨D, ys, acc, rfl, rfl, a1, by rw [e5]; simpa using a2, A.g, A.c, ?_⟩
    cases q : H D with
    | none => rfl
    | some o =>
      obtain ⟨o', e'⟩ := s1.dom D o q
      rw [hD] at e'; cases e'
/-- two clauses -/
theorem lc2_read (hsub : ∀ i ∈ tg.ns, i ∈ vs) {σ : L2.St} {H : Hp} {Q : VK} (h : tO K Wx (fun ρ T => compR (clM tg mI mt (clM tg1 mI1 mt1 (eltM me)) (MP.wipe ρ vs) T)) σ H Q) :
    tLc2 (tM K Wx (RW K PPs) mI) (gM K tg) (tM K NoX RB mt) (tM K NoX (RW K PPl) mI1) (gM K tg1) (tM K NoX RB mt1) (tM K NoX (RR K) me) vs tg1.ns σ H Q := by
  obtain ⟨w, ρ, T, H0, t, er, p⟩ := h
  obtain ⟨ys, Tn, e1, hlen, p⟩ := compR_ok p
  obtain ⟨xs, T1, e2, e3⟩ := clM_ok e1
  refine ⟨w, MP.wipe ρ vs, T, H0, t, er.less (Less.wipe ρ vs), ?_⟩
  rw [e2]
  intro J w1 H1 s1 t1 k D hD
  generalize hf : (fun x T => match bindTg tg (MP.wipe (MP.wipe ρ vs) tg.ns) x with
    | none => Res.bad
    | some ρ' => (mt ρ' T).bind fun b T => if b then clM tg1 mI1 mt1 (eltM me) ρ' T else .ok [] T) = f at e3
  refine ⟨fun i m H' => m = xs.length - i ∧ i ≤ xs.length ∧ ∃ w' T' pacc rest, Acc K w1 H1 D w' H' T' pacc ∧ loopC f (xs.drop i) T' = .ok rest Tn ∧ ys = pacc ++ rest,
    ⟨xs.length, rfl, Nat.zero_le _, w1, T1, [], ys, Acc.new t1 hD, e3, rfl⟩, ?_⟩
  rintro i m H' ⟨rfl, hi, w', T', pacc, rest, A, e4, e5⟩
  by_cases hlt : i < xs.length
  · refine .inr ⟨k.go i w' H' T' hlt A.s A.t, fun H' => ∃ w' T' pacc rest, Acc K w1 H1 D w' H' T' pacc ∧ loopC f (xs.drop (i + 1)) T' = .ok rest Tn ∧ ys = pacc ++ rest, fun H2 h2 => ⟨xs.length - (i + 1), by omega, rfl, hlt, h2⟩, fun x H2 y => ?_⟩
    obtain ⟨w2, s2, t2, r2⟩ := k.yld i w' H' T' x H2 hlt A.s A.t y
    have r2 := r2 _ (List.getElem?_eq_getElem hlt)
    rw [drop_at hlt] at e4
    obtain ⟨av, Ta, bv, f1, f2, f3⟩ := loopC_cons e4
    rw [← hf] at f1
    obtain ⟨ρ', b, T3, b1, b2, b3⟩ := turn_ok f1
    have A2 := A.step s2 t2
    have er2 : Er K H0 w2 H2 (L2.wipe σ vs) (MP.wipe (MP.wipe ρ vs) tg.ns) := ((er.step (s1.trans A2.s)).wipe vs).less (Less.wipe _ _)
    refine ⟨w2, _, T', H0, xs[i], t2, er2, r2, ?_⟩
    rw [b1]
    intro σ2 tr2 hl2 hk2
    have er3 := tr2 w2 H2 (Wle.refl _) er2
    refine ⟨?_, w2, ρ', T', H0, t2, er3, ?_⟩
    · rw [wipe_eq hl2 fun j hj => hk2 j fun z => hj (hsub j z)]
      refine wipe_eq (L2.wipe_length _ _) fun j hj => wipe_out' hj
    · rw [b2]
      intro b' w3 H3 s3 t3 rb
      have rb : b = b' := rb
      subst rb
      have A3 := A2.step s3 t3
      cases b with
      | false =>
        rw [if_neg Bool.false_ne_true] at b3 ⊢
        obtain ⟨rfl, rfl⟩ := b3
        exact ⟨w3, Ta, pacc, bv, A3, f2, by rw [e5, f3]; rfl⟩
      | true =>
        rw [if_pos rfl] at b3 ⊢
        obtain ⟨xs1, T4, g1, g2⟩ := clM_ok b3
        have er4 := er3.step s3
        refine ⟨w3, ρ', T3, H0, t3, er4, ?_⟩
        rw [g1]
        intro J1 w4 H4 s4 t4 k1
        have A4 := A3.step s4 t4
        generalize hf1 : (fun x T => match bindTg tg1 (MP.wipe ρ' tg1.ns) x with
          | none => Res.bad
          | some ρ' => (mt1 ρ' T).bind fun b T => if b then eltM me ρ' T else .ok [] T) = f1 at g2
        refine ⟨fun j m H' => m = xs1.length - j ∧ j ≤ xs1.length ∧ ∃ w' T' pacc1 rest1, Acc K w1 H1 D w' H' T' (pacc ++ pacc1) ∧ Wle w4 w' ∧ loopC f1 (xs1.drop j) T' = .ok rest1 Ta ∧ av = pacc1 ++ rest1,
          ⟨xs1.length, rfl, Nat.zero_le _, w4, T4, [], av, by simpa using A4, Wle.refl _, g2, rfl⟩, ?_⟩
        rintro j m H5 ⟨rfl, hj, w5, T5, pacc1, rest1, A5, le5, c4, c5⟩
        by_cases hlt1 : j < xs1.length
        · refine .inr ⟨k1.go j w5 H5 T5 hlt1 le5 A5.t, fun H' => ∃ w' T' pacc1 rest1, Acc K w1 H1 D w' H' T' (pacc ++ pacc1) ∧ Wle w4 w' ∧ loopC f1 (xs1.drop (j + 1)) T' = .ok rest1 Ta ∧ av = pacc1 ++ rest1, fun H2 h2 => ⟨xs1.length - (j + 1), by omega, rfl, hlt1, h2⟩, fun x H6 y1 => ?_⟩
          obtain ⟨w6, s6, t6, r6⟩ := k1.yld j w5 H5 T5 x H6 hlt1 le5 A5.t y1
          have r6 := r6 _ (List.getElem?_eq_getElem hlt1)
          rw [drop_at hlt1] at c4
          obtain ⟨av1, Ta1, bv1, d1, d2, d3⟩ := loopC_cons c4
          rw [← hf1] at d1
          obtain ⟨ρ6, b1, T6, b11, b12, b13⟩ := turn_ok d1
          have A6 := A5.step s6 t6
          have er6 : Er K H0 w6 H6 σ2 ρ' := tr2 w6 H6 (((s3.le.trans s4.le).trans le5).trans s6.le) (((er.step (s1.trans A6.s)).wipe vs).less (Less.wipe _ _))
          refine ⟨w6, _, T5, H0, xs1[j], t6, er6.wipe _, r6, ?_⟩
          rw [b11]
          intro σ3 tr3 hl3 hk3
          have er7 := tr3 w6 H6 (Wle.refl _) (er6.wipe _)
          refine ⟨?_, w6, ρ6, T5, H0, t6, er7, ?_⟩
          · rw [wipe_eq hl3 fun j hj => hk3 j hj]
            refine wipe_eq (L2.wipe_length _ _) fun j hj => wipe_out' hj
          · rw [b12]
            intro b' w7 H7 s7 t7 rb
            have rb : b1 = b' := rb
            subst rb
            have A7 := A6.step s7 t7
            cases b1 with
            | false =>
              rw [if_neg Bool.false_ne_true] at b13 ⊢
              obtain ⟨rfl, rfl⟩ := b13
              exact ⟨w7, Ta1, pacc1, bv1, A7, (le5.trans s6.le).trans s7.le, d2, by rw [c5, d3]; rfl⟩
            | true =>
              rw [if_pos rfl] at b13 ⊢
              refine ⟨w7, ρ6, T6, H0, t7, er7.step s7, ?_⟩
              have b3 : ((me ρ6 T6).bind fun v T => .ok [v] T) = Res.ok av1 Ta1 := b13
              cases e6 : me ρ6 T6 with
              | bad => rw [e6] at b3; cases b3
              | ex _ _ => rw [e6] at b3; cases b3
              | ok v T8 =>
                rw [e6] at b3
                cases b3
                intro y w8 H8 s8 t8 r8
                have A8 := A7.step s8 t8
                obtain ⟨acc, a1, a2⟩ := A8.l
                refine ⟨acc, a1, ?_, w8, _, pacc1 ++ [v], bv1, by rw [← List.append_assoc]; exact A8.push hD a1 r8, ((le5.trans s6.le).trans s7.le).trans s8.le, d2, by rw [c5, d3]; simp⟩
                have z : pacc.length + (pacc1.length + (1 + (bv1.length + bv.length))) ≤ MP.line := by rw [e5, f3, c5, d3] at hlen; simpa [Nat.add_comm, Nat.add_left_comm, Nat.add_assoc] using hlen
                rw [line_eq] at z
                rw [← a2.length, List.length_append]; omega
        · have e : j = xs1.length := by omega
          subst e
          refine .inl ⟨k1.stop w5 H5 T5 le5 A5.t, ?_⟩
          rw [List.drop_length] at c4
          cases c4
          exact ⟨w5, _, pacc ++ pacc1, bv, A5, f2, by rw [e5, f3, c5]; simp⟩
  · have e : i = xs.length := by omega
    subst e
    refine .inl ⟨k.stop w' H' T' A.s A.t, ?_⟩
    rw [List.drop_length] at e4
    cases e4
    obtain ⟨acc, a1, a2⟩ := A.l
    refine p _ w' H' (s1.trans A.s) A.t ⟨D, ys, acc, rfl, rfl, a1, by rw [e5]; simpa using a2, A.g, A.c, ?_⟩
    cases q : H D with
    | none => rfl
    | some o =>
      obtain ⟨o', e'⟩ := s1.dom D o q
      rw [hD] at e'; cases e'
end
end MPS
end

section
set_option Elab.async false
set_option linter.all false
set_option maxRecDepth 100000
set_option autoImplicit false
/-! comprehensions as expressions; statements -/
namespace MPS
open PySem PySem.Spec PyProof.Rows L2 MP
/-- in every block of X with that scope -/
def Blk (X : Cx) (scope : Scope) (P : Cx → Prop) : Prop := ∀ (s : Shared) (H : Hp) (C : Addr) (cl : List (Str × Addr)) (fp : List Addr), P (X.blk s H scope (compEnvC scope cl C X.env) fp)
abbrev compM (vs : List Nat) (m : MM (List PV)) : MM PV := fun ρ T => compR (m (MP.wipe ρ vs) T)
section
variable {X : Cx} {Wx : WX} {elt tgE iter tgE1 iter1 : Expr} {ifs ifs1 : List Expr} {scope : Scope} {own : List (Str × Nat)} {pos : Pos} {tg tg1 : Tg} {mI mI1 : MM (List PV)} {mt mt1 : MM Bool} {me : MM PV}
theorem ejo_lc1 (hc : X.calm = true) (hN : X.N.Nodup) (hi : IJ X Wx PPs tgE iter mI) (ok : BlkOk X.N X.env.scope scope own) (hsub : ∀ i ∈ tg.ns, i ∈ own.map (·.2)) (hg : Blk X scope fun B => PG B tgE (gM X.K tg)) (ht : Blk X scope fun B => PTs B ifs (tM X.K NoX RB mt)) (he : Blk X scope fun B => PE B elt (tM X.K NoX (RR X.K) me)) (hs : ∀ x, foldedSetIterable iter X.env x = pure x) :
    EJO X Wx (.ListComp elt [⟨tgE, iter, ifs, 0⟩] scope pos) (compM (own.map (·.2)) (clM tg mI mt (eltM me))) :=
  PE.imp (pe_lc hc hN hi ok hg ht he hs) fun σ H Q h => lc1_read hsub h
theorem ejo_lc2 (hc : X.calm = true) (hN : X.N.Nodup) (hi : IJ X Wx PPs tgE iter mI) (ok : BlkOk X.N X.env.scope scope own) (hsub : ∀ i ∈ tg.ns, i ∈ own.map (·.2)) (hv : ∀ i ∈ tg1.ns, i ∈ own.map (·.2)) (hg : Blk X scope fun B => PG B tgE (gM X.K tg)) (ht : Blk X scope fun B => PTs B ifs (tM X.K NoX RB mt))
    (hi1 : Blk X scope fun B => PI B tgE1 iter1 (tM X.K NoX (RW X.K PPl) mI1)) (hg1 : Blk X scope fun B => PG B tgE1 (gM X.K tg1)) (ht1 : Blk X scope fun B => PTs B ifs1 (tM X.K NoX RB mt1))
    (he : Blk X scope fun B => PE B elt (tM X.K NoX (RR X.K) me)) (hs : ∀ x, foldedSetIterable iter X.env x = pure x) (hs1 : ∀ env x, foldedSetIterable iter1 env x = pure x) :
    EJO X Wx (.ListComp elt [⟨tgE, iter, ifs, 0⟩, ⟨tgE1, iter1, ifs1, 0⟩] scope pos) (compM (own.map (·.2)) (clM tg mI mt (clM tg1 mI1 mt1 (eltM me)))) :=
  PE.imp (pe_lc2 hc hN hi ok hv hg ht hi1 hg1 ht1 he hs hs1) fun σ H Q h => lc2_read hsub h
end
theorem PTs.imp {X : Cx} {e : List Expr} {t t' : TT} (h : PTs X e t) (k : ∀ σ H Q, t' σ H Q → t σ H Q) : PTs X e t' := ⟨fun pins s σ H Q I q => h.run pins s σ H Q I (k _ _ _ q)⟩
theorem pts_j0 {X : Cx} {Wx : WX} : PTs X [] (tM X.K Wx RB fun _ T => .ok true T) := PTs.imp pts_nil fun σ H Q ⟨w, ρ, T, H0, t, er, p⟩ => p.here t rfl
abbrev if1M (m : MM PV) : MM Bool := fun ρ T => (m ρ T).bind fun x T => match truth x with
    | some true => .ok true T
    | some false => .ok false T
    | none => .bad
theorem if1_eq (m : MM PV) : if1M m = testM m := by
  funext ρ T
  show ((m ρ T).bind fun x T => match truth x with
    | some true => .ok true T
    | some false => .ok false T
    | none => .bad) = (m ρ T).bind fun x T => .of T (truth x)
  congr 1
  funext x T
  cases truth x with
  | none => rfl
  | some b => cases b <;> rfl
theorem pts_j1 {X : Cx} {Wx : WX} {c : Expr} {m : MM PV} (h : TJ X Wx c (testM m)) : PTs X [c] (tM X.K Wx RB (if1M m)) := by
  rw [if1_eq]
  exact pts_one h

/-! ### statements -/
/-- since the def's start (w0, H0); wb is kept -/
structure Bs (w0 : W) (H0 : Hp) (wb w : W) (H : Hp) : Prop where
  s : Stp w0 H0 w H
  le : Wle wb w
theorem Bs.trans {w0 wb w w' : W} {H0 H H' : Hp} (b : Bs w0 H0 wb w H) (s : Stp w H w' H') : Bs w0 H0 wb w' H' := ⟨b.s.trans s, b.le.trans s.le⟩
theorem Bs.wk {w0 wb w1 w : W} {H0 H : Hp} (k : Wle wb w1) (b : Bs w0 H0 w1 w H) : Bs w0 H0 wb w H := ⟨b.s, k.trans b.le⟩
theorem Bs.frz {w0 wb w : W} {H0 H : Hp} {a : Addr} {o : HO} (b : Bs w0 H0 wb w H) (h : H0 a = none) (hg : w.G a = none) : Bs w0 H0 wb (w.add a o) H := ⟨b.s.frz h hg, b.le.trans (Wle.add hg)⟩
theorem Bs.put {w0 wb w : W} {H0 H : Hp} {a : Addr} {o : HO} (b : Bs w0 H0 wb w H) (h : H0 a = none) : Bs w0 H0 wb w (upd H a o) := ⟨b.s.put h, b.le⟩
abbrev SM := MP.Env → Store → SR
/-- what is asked behind a statement's run -/
def Sst (K : Frg) (Wx : WX) (w0 : W) (H0 : Hp) (wb : W) (r : SR) (D : Ends) : Prop := match r with
  | .nx ρ T => ∀ σ w H, HT K w H T → Er K H0 w H σ ρ → Bs w0 H0 wb w H → D.nx σ H
  | .rt v T => ∀ x w H, HT K w H T → Bs w0 H0 wb w H → Rep K w v x → D.rt x H
  | .bk ρ T => ∀ σ w H, HT K w H T → Er K H0 w H σ ρ → Bs w0 H0 wb w H → D.bk σ H
  | .ct ρ T => ∀ σ w H, HT K w H T → Er K H0 w H σ ρ → Bs w0 H0 wb w H → D.ct σ H
  | .ex xn T => ∀ σ w H c d, HT K w H T → Bs w0 H0 wb w H → XRep K w H xn c d → Wx c d σ H
  | .bad => False
def tS (K : Frg) (Wx : WX) (m : SM) : TS := fun D σ H => ∃ (w : W) (ρ : MP.Env) (T : Cells) (w0 : W) (H0 : Hp) (wb : W), HT K w H T ∧ Er K H0 w H σ ρ ∧ Bs w0 H0 wb w H ∧ Sst K Wx w0 H0 wb (m ρ T) D
abbrev SJ (X : Cx) (Wx : WX) (st : Stmt) (m : SM) : Prop := PS X st (tS X.K Wx m)
abbrev SsJ (X : Cx) (Wx : WX) (sts : List Stmt) (m : SM) : Prop := PSs X sts (tS X.K Wx m)
theorem PS.imp {X : Cx} {e : Stmt} {t t' : TS} (h : PS X e t) (k : ∀ D σ H, t' D σ H → t D σ H) : PS X e t' := ⟨fun pins s σ H D I q => h.run pins s σ H D I (k _ _ _ q)⟩
theorem PSs.imp {X : Cx} {e : List Stmt} {t t' : TS} (h : PSs X e t) (k : ∀ D σ H, t' D σ H → t D σ H) : PSs X e t' := ⟨fun pins s σ H D I q => h.run pins s σ H D I (k _ _ _ q)⟩
/-- an expression first -/
theorem snext {α β : Type} {K : Frg} {Wx : WX} {R : Rel α β} {m : MM α} {f : α → Store → SR} {σ : L2.St} {w w0 wb : W} {ρ : MP.Env} {T : Cells} {H0 H : Hp} {D : Ends} (t : HT K w H T) (er : Er K H0 w H σ ρ) (s0 : Bs w0 H0 wb w H) (p : Sst K Wx w0 H0 wb ((m ρ T).s f) D) :
    Pst K Wx σ R w H (m ρ T) fun y H1 => ∃ v w1 T1, Stp w H w1 H1 ∧ HT K w1 H1 T1 ∧ Er K H0 w1 H1 σ ρ ∧ Bs w0 H0 wb w1 H1 ∧ R w1 H1 v y ∧ Sst K Wx w0 H0 wb (f v T1) D := by
  cases em : m ρ T with
  | bad => rw [em] at p; exact p.elim
  | ex x T' => rw [em] at p; exact fun w' H' c d s t' r => p σ w' H' c d t' (s0.trans s) r
  | ok v T' => rw [em, Res.s_ok] at p; exact fun x w' H' s t' r => ⟨v, w', T', s, t', er.step s, s0.trans s, r, p⟩
section
variable {X : Cx} {Wx : WX} {st : Stmt} {rest sts : List Stmt} {e tgE iter c : Expr} {a b body : List Stmt} {m mr ma mb : SM} {me mc : MM PV} {mI : MM (List PV)} {ms : MM (List PV)} {pos p py : Pos} {tg : Tg} {i : Nat} {x : Str}
theorem sj_nil : SsJ X Wx [] fun ρ T => .nx ρ T := PSs.imp pss_nil fun D σ H ⟨w, ρ, T, w0, H0, wb, t, er, s0, p⟩ => p σ w H t er s0
abbrev seqM (m mr : SM) : SM := fun ρ T => match m ρ T with
  | .nx ρ' T' => mr ρ' T'
  | x => x
theorem sj_cons (h : SJ X Wx st m) (hr : SsJ X Wx rest mr) : SsJ X Wx (st :: rest) (seqM m mr) :=
  PSs.imp (pss_cons h hr) fun D σ H ⟨w, ρ, T, w0, H0, wb, t, er, s0, p⟩ => by
    refine ⟨w, ρ, T, w0, H0, wb, t, er, s0, ?_⟩
    have p : Sst X.K Wx w0 H0 wb (match m ρ T with
      | .nx ρ' T' => mr ρ' T'
      | x => x) D := p
    cases em : m ρ T with
    | nx ρ' T' => rw [em] at p; exact fun σ' w' H' t' er' s' => ⟨w', ρ', T', w0, H0, wb, t', er', s', p⟩
    | _ => rw [em] at p; exact p
/-- what a slot held is forgotten -/
theorem sj_kill (hr : SsJ X Wx rest mr) : SsJ X Wx rest fun ρ T => mr (ρ.set i .un) T :=
  PSs.imp hr fun D σ H ⟨w, ρ, T, w0, H0, wb, t, er, s0, p⟩ => ⟨w, _, T, w0, H0, wb, t, er.less ⟨by rw [List.length_set], fun j v e ne => by
    rcases set_va e with ⟨_, z⟩ | ⟨_, z⟩
    · exact absurd z.symm ne
    · exact z⟩, s0, p⟩
theorem Er.frz {K : Frg} {H0 H : Hp} {w : W} {σ : L2.St} {ρ : MP.Env} {xs : List PV} {a : Addr} {vs : List V} (h : Er K H0 w H σ ρ) (e : ρ[i]? = some (.ow xs)) (ha : σ[i]? = some (some (.ref a))) (hr : Reps K w xs vs) (hg : w.G a = none) : Er K H0 (w.add a (.lst vs)) H σ (ρ.set i (.va (.lst xs))) where
  len := by rw [List.length_set, h.len]
  va := fun j v e => by
    rcases set_va e with ⟨rfl, z⟩ | ⟨_, z⟩
    · cases z
      exact ⟨_, ha, .lst (.inl upd_same) (hr.up (Wle.add hg))⟩
    · obtain ⟨x, h1, h2⟩ := h.va j v z
      exact ⟨x, h1, h2.up (Wle.add hg)⟩
  ow := fun j ys e' => by
    rcases set_va e' with ⟨_, z⟩ | ⟨ne, z⟩
    · cases z
    · obtain ⟨a', vs', h1, h2, h3, h4, h5, h6⟩ := h.ow j ys z
      refine ⟨a', vs', h1, h2, h3.up (Wle.add hg), ?_, h5, h6⟩
      have hne : a' ≠ a := fun z' => by
        subst z'
        exact ne (h.dj i j xs ys a' e z ha h1)
      show upd w.G a (.lst vs) a' = none
      rw [upd_ne hne]; exact h4
  dj := fun j k ys zs a' e1 e2 e3 e4 => by
    rcases set_va e1 with ⟨_, z⟩ | ⟨_, z1⟩
    · cases z
    · rcases set_va e2 with ⟨_, z⟩ | ⟨_, z2⟩
      · cases z
      · exact h.dj j k ys zs a' z1 z2 e3 e4
/-- a row of ours is told to the rest -/
theorem sj_frz (hr : SsJ X Wx rest mr) : SsJ X Wx rest fun ρ T => match owned ρ i with
    | some xs => mr (ρ.set i (.va (.lst xs))) T
    | none => mr ρ T :=
  PSs.imp hr fun D σ H ⟨w, ρ, T, w0, H0, wb, t, er, s0, p⟩ => by
    have p : Sst X.K Wx w0 H0 wb (match owned ρ i with
      | some xs => mr (ρ.set i (.va (.lst xs))) T
      | none => mr ρ T) D := p
    cases e : owned ρ i with
    | none => rw [e] at p; exact ⟨w, ρ, T, w0, H0, wb, t, er, s0, p⟩
    | some xs =>
      rw [e] at p
      unfold owned at e
      split at e
      · rename_i ys e'
        cases e
        obtain ⟨a, vs, h1, h2, h3, h4, h5, h6⟩ := er.ow i _ e'
        exact ⟨w.add a (.lst vs), _, T, w0, H0, wb, t.frz h2 h4 h5, er.frz e' h1 h3 h4, s0.frz h6 h4, p⟩
      · cases e
theorem sj_pass : SJ X Wx (.Pass pos) fun ρ T => .nx ρ T := PS.imp ps_pass fun D σ H ⟨w, ρ, T, w0, H0, wb, t, er, s0, p⟩ => p σ w H t er s0
theorem sj_brk : SJ X Wx (.Break pos) fun ρ T => .bk ρ T := PS.imp ps_break fun D σ H ⟨w, ρ, T, w0, H0, wb, t, er, s0, p⟩ => p σ w H t er s0
theorem sj_cont : SJ X Wx (.Continue pos) fun ρ T => .ct ρ T := PS.imp ps_continue fun D σ H ⟨w, ρ, T, w0, H0, wb, t, er, s0, p⟩ => p σ w H t er s0
theorem sj_ret (he : EJ X Wx e me) : SJ X Wx (.Return (some e) pos) fun ρ T => (me ρ T).s fun v T => .rt v T :=
  PS.imp (ps_ret he) fun D σ H ⟨w, ρ, T, w0, H0, wb, t, er, s0, p⟩ => ⟨w, ρ, T, H0, t, er, (snext (R := RR X.K) t er s0 p).mono fun x H1 ⟨v, w1, T1, s1, t1, er1, s01, r1, q1⟩ => q1 x w1 H1 t1 s01 r1⟩
theorem sj_retn : SJ X Wx (.Return none pos) fun ρ T => .rt .non T := PS.imp ps_retN fun D σ H ⟨w, ρ, T, w0, H0, wb, t, er, s0, p⟩ => p _ w H t s0 .non
theorem sj_if (hc : TJ X Wx c (testM mc)) (ha : SsJ X Wx a ma) (hb : SsJ X Wx b mb) : SJ X Wx (.If c a b pos) fun ρ T => (testM mc ρ T).s fun x T => if x then ma ρ T else mb ρ T :=
  PS.imp (ps_if hc ha hb) fun D σ H ⟨w, ρ, T, w0, H0, wb, t, er, s0, p⟩ => by
    refine ⟨w, ρ, T, H0, t, er, (snext (R := RB) t er s0 p).mono fun x H1 ⟨v, w1, T1, s1, t1, er1, s01, r1, q1⟩ => ?_⟩
    have r1 : v = x := r1
    subst r1
    cases v with
    | true => exact ⟨w1, ρ, T1, w0, H0, wb, t1, er1, s01, q1⟩
    | false => exact ⟨w1, ρ, T1, w0, H0, wb, t1, er1, s01, q1⟩
theorem sj_asg (he : EJ X Wx e me) (hg : PG X tgE (gM X.K tg)) (hs : swapsWithSole [tgE] e pos.line X.env = pure false) (hw : swappedStores [tgE] e X.env = pure none) (h1 : (assignEach [tgE] X.env).map (·.2) = [assign tgE X.env]) :
    SJ X Wx (.Assign [tgE] e pos) fun ρ T => (me ρ T).s fun v T => ofEnv T (bindTg tg ρ v) :=
  PS.imp (ps_asg he hg hs hw h1) fun D σ H ⟨w, ρ, T, w0, H0, wb, t, er, s0, p⟩ => by
    refine ⟨w, ρ, T, H0, t, er, (snext (R := RR X.K) t er s0 p).mono fun x H1 ⟨v, w1, T1, s1, t1, er1, s01, r1, q1⟩ => ?_⟩
    refine ⟨w1, ρ, T1, H0, v, t1, er1, r1, ?_⟩
    cases e : bindTg tg ρ v with
    | none => rw [e] at q1; exact q1.elim
    | some ρ' => rw [e] at q1; exact fun σ' tr _ _ => q1 σ' w1 H1 t1 (tr w1 H1 (Wle.refl _) er1) s01
theorem sj_for (hp : PassesOwn (model X.prog X.w) X.A X.env X.xe) (hc : X.calm = true) (hi : IJ X Wx PPl tgE iter mI) (hg : PG X tgE (gM X.K tg)) (hb : SsJ X Wx body mb) (hs : ∀ x, foldedSetIterable iter X.env x = pure x) :
    SJ X Wx (.For tgE iter body [] pos) fun ρ T => (mI ρ T).s fun xs T => loopS (fun x ρ T => match bindTg tg ρ x with
      | some ρ' => mb ρ' T
      | none => .bad) xs ρ T :=
  PS.imp (ps_for hp hc hi hg hb hs) fun D σ H ⟨w, ρ, T, w0, H0, wb, t, er, s0, p⟩ => by
    refine ⟨w, ρ, T, H0, t, er, (snext (R := RW X.K PPl) t er s0 p).mono fun J H1 ⟨xs, w1, T1, s1, t1, er1, s01, k, q1⟩ => ?_⟩
    generalize hf : (fun x ρ T => match bindTg tg ρ x with
      | some ρ' => mb ρ' T
      | none => SR.bad) = f at q1
    refine ⟨fun i m σ H => m = xs.length - i ∧ i ≤ xs.length ∧ ∃ w ρ T, HT X.K w H T ∧ Er X.K H0 w H σ ρ ∧ Bs w0 H0 w1 w H ∧ Sst X.K Wx w0 H0 wb (loopS f (xs.drop i) ρ T) D, ⟨xs.length, rfl, Nat.zero_le _, w1, ρ, T1, t1, er1, ⟨s01.s, Wle.refl _⟩, q1⟩, ?_⟩
    rintro i m σ2 H2 ⟨rfl, hi, w2, ρ2, T2, t2, er2, s02, q2⟩
    by_cases hlt : i < xs.length
    · refine .inr ⟨k.go i w2 H2 T2 hlt s02.le t2, fun σ H => ∃ w ρ T, HT X.K w H T ∧ Er X.K H0 w H σ ρ ∧ Bs w0 H0 w1 w H ∧ Sst X.K Wx w0 H0 wb (loopS f (xs.drop (i + 1)) ρ T) D, fun σ' H' h => ⟨xs.length - (i + 1), by omega, rfl, hlt, h⟩, fun x H3 y => ?_⟩
      obtain ⟨w3, s3, t3, r3⟩ := k.yld i w2 H2 T2 x H3 hlt s02.le t2 y
      have r3 := r3 _ (List.getElem?_eq_getElem hlt)
      rw [drop_at hlt] at q2
      refine ⟨w3, ρ2, T2, H0, xs[i], t3, er2.step s3, r3, ?_⟩
      have e0 : f xs[i] ρ2 T2 = match bindTg tg ρ2 xs[i] with
        | some ρ' => mb ρ' T2
        | none => SR.bad := by rw [← hf]
      have q2 : Sst X.K Wx w0 H0 wb (match f xs[i] ρ2 T2 with
        | .nx ρ' T' => loopS f (xs.drop (i + 1)) ρ' T'
        | .ct ρ' T' => loopS f (xs.drop (i + 1)) ρ' T'
        | .bk ρ' T' => .nx ρ' T'
        | .rt v T' => .rt v T'
        | .ex x T' => .ex x T'
        | .bad => .bad) D := q2
      cases e : bindTg tg ρ2 xs[i] with
      | none => rw [e] at e0; rw [e0] at q2; exact q2.elim
      | some ρ' =>
        rw [e] at e0
        have e0 : f xs[i] ρ2 T2 = mb ρ' T2 := e0
        rw [e0] at q2
        intro σ' tr _ _
        refine ⟨w3, ρ', T2, w0, H0, w1, t3, tr w3 H3 (Wle.refl _) (er2.step s3), s02.trans s3, ?_⟩
        cases em : mb ρ' T2 with
        | nx ρ4 T4 =>
          rw [em] at q2
          exact fun σ4 w4 H4 t4 er4 s04 => ⟨w4, ρ4, T4, t4, er4, s04, q2⟩
        | ct ρ4 T4 =>
          rw [em] at q2
          exact fun σ4 w4 H4 t4 er4 s04 => ⟨w4, ρ4, T4, t4, er4, s04, q2⟩
        | bk ρ4 T4 => rw [em] at q2; exact fun σ4 w4 H4 t4 er4 s04 => q2 σ4 w4 H4 t4 er4 (s04.wk s01.le)
        | rt v T4 => rw [em] at q2; exact fun x w4 H4 t4 s04 r4 => q2 x w4 H4 t4 (s04.wk s01.le) r4
        | ex x T4 => rw [em] at q2; exact fun σ4 w4 H4 c d t4 s04 r4 => q2 σ4 w4 H4 c d t4 (s04.wk s01.le) r4
        | bad => rw [em] at q2; exact q2
    · have e : i = xs.length := by omega
      subst e
      rw [List.drop_length] at q2
      exact .inl ⟨k.stop w2 H2 T2 s02.le t2, q2 σ2 w2 H2 t2 er2 (s02.wk s01.le)⟩
end
end MPS
end

section
set_option Elab.async false
set_option linter.all false
set_option maxRecDepth 100000
set_option autoImplicit false
/-! more statements -/
namespace MPS
open PySem PySem.Spec PyProof.Rows L2 MP
section
variable {K : Frg} {H0 H Hs : Hp} {w : W} {σ : L2.St} {ρ : MP.Env} {a : Addr} {xs : List PV} {vs : List V} {i : Nat} {T : Cells}
theorem Er.setOw (h : Er K H0 w H σ ρ) (e : H a = some (.lst vs)) (r : Reps K w xs vs) (g : w.G a = none) (c : a ∉ w.cs) (z : H0 a = none) (nw : ∀ (j : Nat) (ys : List PV), ρ[j]? = some (.ow ys) → σ[j]? ≠ some (some (.ref a))) : Er K H0 w H (σ.set i (some (.ref a))) (ρ.set i (.ow xs)) where
  len := by rw [List.length_set, List.length_set, h.len]
  va := fun j q e' => by
    rcases set_va e' with ⟨_, e2⟩ | ⟨ne, e2⟩
    · cases e2
    · rw [List.getElem?_set_ne ne]; exact h.va j q e2
  ow := fun j ys e' => by
    rcases set_va e' with ⟨rfl, e2⟩ | ⟨ne, e2⟩
    · cases e2
      have hl := set_lt e'
      exact ⟨a, vs, by rw [List.getElem?_set_self (by rw [h.len]; exact hl)], e, r, g, c, z⟩
    · rw [List.getElem?_set_ne ne]; exact h.ow j ys e2
  dj := fun j k ys zs b e1 e2 e3 e4 => by
    rcases set_va e1 with ⟨rfl, z1⟩ | ⟨n1, z1⟩
    · have hl := set_lt e1
      rw [List.getElem?_set_self (by rw [h.len]; exact hl)] at e3
      cases e3
      rcases set_va e2 with ⟨rfl, _⟩ | ⟨n2, z2⟩
      · rfl
      · rw [List.getElem?_set_ne n2] at e4
        exact absurd e4 (nw _ _ z2)
    · rw [List.getElem?_set_ne n1] at e3
      rcases set_va e2 with ⟨rfl, _⟩ | ⟨n2, z2⟩
      · have hl := set_lt e2
        rw [List.getElem?_set_self (by rw [h.len]; exact hl)] at e4
        cases e4
        exact absurd e3 (nw _ _ z1)
      · rw [List.getElem?_set_ne n2] at e4
        exact h.dj j k ys zs b z1 z2 e3 e4
/-- no row of ours lies where nothing lay -/
theorem Er.nw (h : Er K H0 w Hs σ ρ) (e : Hs a = none) : ∀ (j : Nat) (ys : List PV), ρ[j]? = some (.ow ys) → σ[j]? ≠ some (some (.ref a)) := fun j ys e1 e2 => by
  obtain ⟨b, vs, h1, h2, _⟩ := h.ow j ys e1
  rw [e2] at h1; cases h1
  rw [e] at h2; cases h2
/-- a row of ours is written -/
theorem Er.putOw {ys' : List PV} {us : List V} (h : Er K H0 w H σ ρ) (e : ρ[i]? = some (.ow xs)) (hs : σ[i]? = some (some (.ref a))) (r : Reps K w ys' us) : Er K H0 w (upd H a (.lst us)) σ (ρ.set i (.ow ys')) where
  len := by rw [List.length_set, h.len]
  va := fun j q e' => by
    rcases set_va e' with ⟨_, e2⟩ | ⟨ne, e2⟩
    · cases e2
    · exact h.va j q e2
  ow := fun j zs e' => by
    obtain ⟨b, vs, h1, h2, h3, h4, h5, h6⟩ := h.ow i _ e
    rw [hs] at h1; cases h1
    rcases set_va e' with ⟨rfl, e2⟩ | ⟨ne, e2⟩
    · cases e2
      exact ⟨a, us, hs, upd_same, r, h4, h5, h6⟩
    · obtain ⟨b, vs', k1, k2, k3, k4, k5, k6⟩ := h.ow j _ e2
      have hne : b ≠ a := fun z => by subst z; exact ne (h.dj i j _ _ b e e2 hs k1)
      exact ⟨b, vs', k1, by rw [upd_ne hne]; exact k2, k3, k4, k5, k6⟩
  dj := fun j k ys zs b e1 e2 e3 e4 => by
    have f : ∀ {j : Nat} {zs : List PV}, (ρ.set i (.ow ys'))[j]? = some (SV.ow zs) → ∃ zs', ρ[j]? = some (.ow zs') := fun {j zs} e' => by
      rcases set_va e' with ⟨rfl, e2⟩ | ⟨ne, e2⟩
      · exact ⟨_, e⟩
      · exact ⟨_, e2⟩
    obtain ⟨_, z1⟩ := f e1
    obtain ⟨_, z2⟩ := f e2
    exact h.dj j k _ _ b z1 z2 e3 e4
theorem owned_at (h : owned ρ i = some xs) : ρ[i]? = some (.ow xs) := by
  unfold owned at h
  split at h
  · rename_i e; cases h; exact e
  · cases h
/-- what stands in our slot -/
theorem Er.own (h : Er K H0 w H σ ρ) (e : owned ρ i = some xs) : ∃ a vs, σ[i]? = some (some (.ref a)) ∧ H a = some (.lst vs) ∧ Reps K w xs vs ∧ w.G a = none ∧ a ∉ w.cs ∧ H0 a = none := h.ow i xs (owned_at e)
theorem Bs.none0 {w0 wb : W} (b : Bs w0 H0 wb w H) (e : H a = none) : H0 a = none := by
  cases q : H0 a with
  | none => rfl
  | some o =>
    obtain ⟨o', e'⟩ := b.s.dom a o q
    rw [e] at e'; cases e'
end
abbrev ownM (i : Nat) (m : MM PV) : SM := fun ρ T => (m ρ T).s fun v T => match v with
    | .lst xs => .nx (ρ.set i (.ow xs)) T
    | _ => .bad
abbrev nmM (i : Nat) (m : MM PV) : SM := fun ρ T => (m ρ T).s fun v T => ofEnv T (bindTg (.nm i) ρ v)
theorem own_read {K : Frg} {Wx : WX} {te : TE} {m : MM PV} {i : Nat} (k : ∀ σ H Q, tO K Wx m σ H Q → te σ H Q) : ∀ D σ H, tS K Wx (ownM i m) D σ H → tAsg te (gName i) D σ H := fun D σ H ⟨w, ρ, T, w0, H0, wb, t, er, s0, p⟩ => by
  refine k σ H _ ⟨w, ρ, T, H0, t, er, (snext (R := RO K H) t er s0 p).mono fun x H1 ⟨v, w1, T1, s1, t1, er1, s01, ⟨a, xs, vs, e1, e2, h1, h2, h3, h4, h5⟩, q1⟩ => ?_⟩
  subst e1 e2
  exact q1 _ w1 H1 t1 (er1.setOw h1 h2 h3 h4 (s0.none0 h5) (er.nw h5)) s01
theorem nm_read {K : Frg} {Wx : WX} {te : TE} {m : MM PV} {i : Nat} (k : ∀ σ H Q, tO K Wx m σ H Q → te σ H Q) : ∀ D σ H, tS K Wx (nmM i m) D σ H → tAsg te (gName i) D σ H := fun D σ H ⟨w, ρ, T, w0, H0, wb, t, er, s0, p⟩ => by
  refine k σ H _ ⟨w, ρ, T, H0, t, er, PstO.frz ((snext (R := RR K) t er s0 p).mono fun x H1 ⟨v, w1, T1, s1, t1, er1, s01, r1, q1⟩ => ?_)⟩
  exact q1 _ w1 H1 t1 (er1.set r1 i) s01
section
variable {X : Cx} {Wx : WX} {st : Stmt} {rest sts : List Stmt} {e e1 e2 e3 tgE iter c k : Expr} {a b body : List Stmt} {m mr ma mb : SM} {me mc mk m1 m2 m3 : MM PV} {mI : MM (List PV)} {ms : MM (List PV)} {pos p py p1 ap cp : Pos} {tg : Tg} {i j l : Nat} {x y z : Str}
theorem sj_own (hN : X.N.Nodup) (hi : X.N[i]? = some x) (hx : Loc X.env.scope x) (he : EJO X Wx e me) (hs : swapsWith e (some (.Name x py)) pos.line X.env = pure false) (hf : X.fn x = true ∨ X.env.scope.names.lookup x = some .local) :
    SJ X Wx (.Assign [.Name x py] e pos) (ownM i me) := PS.imp (ps_set hN hi hx he hs hf) (own_read fun _ _ _ h => h)
theorem sj_exp (he : EJ X Wx e me) (hs : swapsWith e none pos.line X.env = pure false) : SJ X Wx (.Expr e pos) fun ρ T => (me ρ T).s fun _ T => .nx ρ T :=
  PS.imp (ps_expr he hs) fun D σ H ⟨w, ρ, T, w0, H0, wb, t, er, s0, p⟩ => ⟨w, ρ, T, H0, t, er, (snext (R := RR X.K) t er s0 p).mono fun x H1 ⟨v, w1, T1, s1, t1, er1, s01, r1, q1⟩ => q1 σ w1 H1 t1 er1 s01⟩
theorem sj_aug (hN : X.N.Nodup) (hi : X.N[i]? = some x) (hx : Loc X.env.scope x) (he : EJ X Wx e me) (hf : X.fn x = true ∨ X.env.scope.names.lookup x = some .local) : SJ X Wx (.AugAssign (.Name x py) .Add e pos) fun ρ T => match getv ρ i with
    | some x => (me ρ T).s fun y T => match x, y with
      | .int _, .int _ => ofEnv T ((binop .add x y).map fun v => ρ.set i (.va v))
      | _, _ => .bad
    | none => .bad :=
  PS.imp (ps_aug hN hi hx he ip_add hf) fun D σ H ⟨w, ρ, T, w0, H0, wb, t, er, s0, p⟩ => by
    have p : Sst X.K Wx w0 H0 wb (match getv ρ i with
      | some x => (me ρ T).s fun y T => match x, y with
        | .int _, .int _ => ofEnv T ((binop .add x y).map fun v => ρ.set i (.va v))
        | _, _ => .bad
      | none => .bad) D := p
    cases e : getv ρ i with
    | none => rw [e] at p; exact p.elim
    | some v =>
      rw [e] at p
      have e' : ρ[i]? = some (.va v) := by
        unfold getv at e
        split at e
        · rename_i e'; cases e; exact e'
        · cases e
      obtain ⟨u, h1, h2⟩ := er.va i v e'
      refine ⟨u, h1, w, ρ, T, H0, t, er, (snext (R := RR X.K) t er s0 p).mono fun x H1 ⟨v2, w1, T1, s1, t1, er1, s01, r1, q1⟩ => ?_⟩
      have q1 : Sst X.K Wx w0 H0 wb (match (generalizing := false) v, v2 with
        | .int _, .int _ => ofEnv T1 ((binop .add v v2).map fun v => ρ.set i (.va v))
        | _, _ => .bad) D := q1
      cases v with
      | int a =>
        cases v2 with
        | int b =>
          cases h2
          cases (show Rep X.K w1 (.int b) x from r1)
          exact ⟨a, b, rfl, rfl, q1 _ w1 H1 t1 (er1.set (.int _) i) s01⟩
        | _ => exact q1.elim
      | _ => exact q1.elim
theorem sj_while {n : Nat} (hp : PassesOwn (model X.prog X.w) X.A X.env X.xe) (hc : TJ X Wx c (testM mc)) (hb : SsJ X Wx body mb) : SJ X Wx (.While c body [] pos) fun ρ T => loopW (testM mc) mb n ρ T :=
  PS.imp (ps_while hp hc hb) fun D σ H ⟨w, ρ, T, w0, H0, wb, t, er, s0, p⟩ => by
    refine ⟨fun m σ H => ∃ w ρ T, HT X.K w H T ∧ Er X.K H0 w H σ ρ ∧ Bs w0 H0 wb w H ∧ Sst X.K Wx w0 H0 wb (loopW (testM mc) mb m ρ T) D, ⟨n, w, ρ, T, t, er, s0, p⟩, ?_⟩
    rintro m σ H ⟨w, ρ, T, t, er, s0, p⟩
    cases m with
    | zero => exact p.elim
    | succ m =>
      have p : Sst X.K Wx w0 H0 wb ((testM mc ρ T).s fun b T => if b = true then match mb ρ T with
          | .nx ρ' T' => loopW (testM mc) mb m ρ' T'
          | .ct ρ' T' => loopW (testM mc) mb m ρ' T'
          | .bk ρ' T' => .nx ρ' T'
          | .rt v T' => .rt v T'
          | .ex x T' => .ex x T'
          | .bad => .bad
        else .nx ρ T) D := p
      refine ⟨w, ρ, T, H0, t, er, (snext (R := RB) t er s0 p).mono fun x H1 ⟨v, w1, T1, s1, t1, er1, s01, r1, q1⟩ => ?_⟩
      have r1 : v = x := r1
      subst r1
      cases v with
      | false => rw [if_neg Bool.false_ne_true]; exact q1 σ w1 H1 t1 er1 s01
      | true =>
        rw [if_pos rfl] at q1 ⊢
        refine ⟨fun σ H => ∃ w ρ T, HT X.K w H T ∧ Er X.K H0 w H σ ρ ∧ Bs w0 H0 wb w H ∧ Sst X.K Wx w0 H0 wb (loopW (testM mc) mb m ρ T) D, fun σ' H' h => ⟨m, Nat.lt_succ_self m, h⟩, w1, ρ, T1, w0, H0, wb, t1, er1, s01, ?_⟩
        cases em : mb ρ T1 with
        | nx ρ4 T4 => rw [em] at q1; exact fun σ4 w4 H4 t4 er4 s04 => ⟨w4, ρ4, T4, t4, er4, s04, q1⟩
        | ct ρ4 T4 => rw [em] at q1; exact fun σ4 w4 H4 t4 er4 s04 => ⟨w4, ρ4, T4, t4, er4, s04, q1⟩
        | bk ρ4 T4 => rw [em] at q1; exact q1
        | rt v T4 => rw [em] at q1; exact q1
        | ex x T4 => rw [em] at q1; exact q1
        | bad => rw [em] at q1; exact q1
end
end MPS
end

section
set_option Elab.async false
set_option linter.all false
set_option maxRecDepth 100000
set_option autoImplicit false
/-! rows of ours, written; cells; exceptions -/
namespace MPS
open PySem PySem.Spec PyProof.Rows L2 MP
section
variable {K : Frg} {H0 H H1 : Hp} {w w0 wb : W} {σ : L2.St} {ρ : MP.Env} {a : Addr} {xs : List PV} {vs : List V} {i : Nat} {T : Cells}
/-- all that a written row leaves -/
theorem own_put {ys : List PV} {us : List V} (t : HT K w H T) (er : Er K H0 w H σ ρ) (b : Bs w0 H0 wb w H) (e : ρ[i]? = some (.ow xs)) (hs : σ[i]? = some (some (.ref a))) (hg : w.G a = none) (hc : a ∉ w.cs) (h0 : H0 a = none) (r : Reps K w ys us) :
    HT K w (upd H a (.lst us)) T ∧ Er K H0 w (upd H a (.lst us)) σ (ρ.set i (.ow ys)) ∧ Bs w0 H0 wb w (upd H a (.lst us)) :=
  ⟨t.put hg hc, er.putOw e hs r, b.put h0⟩
theorem tyL {p : Addr} {xs : List V} (h : H p = some (.lst xs)) : tyV K "list" (.ref p) H := .inl ⟨rfl, xs, .inl (.inl h)⟩
theorem at_len {y : PV} (r : Reps K w xs vs) {n : Int} {m : Nat} (h : ixn xs.length n = some m) : ixN vs.length n = some m := by rw [← ixn_eq, ← r.length]; exact h
theorem HT.cset {c : Nat} {ys : List PV} {us : List V} (t : HT K w H T) (hc : w.cs[c]? = some a) (r : Reps K w ys us) : HT K w (upd H a (.lst us)) (T.set c ys) where
  sub := fun x o e => by
    have hx : x ≠ a := fun z => by subst z; rw [t.cG x (List.mem_of_getElem? hc)] at e; cases e
    rw [upd_ne hx]; exact t.sub x o e
  len := by rw [List.length_set]; exact t.len
  cel := fun n b zs e1 e2 => by
    by_cases h : c = n
    · subst h
      rw [hc] at e1; cases e1
      have hl : c < T.length := by rw [← t.len]; exact (List.getElem?_eq_some_iff.mp hc).1
      rw [List.getElem?_set_self hl] at e2; cases e2
      exact ⟨us, upd_same, r⟩
    · rw [List.getElem?_set_ne h] at e2
      obtain ⟨vs, h1, h2⟩ := t.cel n b zs e1 e2
      have hb : b ≠ a := fun z => by
        subst z
        obtain ⟨l1, l2⟩ := List.getElem?_eq_some_iff.mp e1
        obtain ⟨l3, l4⟩ := List.getElem?_eq_some_iff.mp hc
        exact h ((List.getElem_inj t.nd).mp (l4.trans l2.symm))
      exact ⟨vs, by rw [upd_ne hb]; exact h1, h2⟩
  cG := t.cG
  nd := t.nd
theorem Stp.cset {o : HO} (hc : a ∈ w.cs) : Stp w H w (upd H a o) where
  le := Wle.refl w
  newG := fun _ h k => absurd k h
  newC := fun _ h k => absurd h k
  keep := fun x u e k => by
    have hx : x ≠ a := fun z => by subst z; exact k hc
    rw [upd_ne hx]; exact e
  dom := fun x u e => by
    by_cases hx : x = a
    · subst hx; exact ⟨o, upd_same⟩
    · exact ⟨u, by rw [upd_ne hx]; exact e⟩
end
/-! ### extend -/
set_option maxHeartbeats 1000000 in
theorem meets_ext_tup (l : Addr) (items : Array Value) (n : Nat) (b : Addr) (items2 : Array Value) (n2 : Nat) (dct : Option Addr) (sl : Array (Option Value)) (hs0 : ¬(!items.isEmpty && Builtin.List.listTooLong (items.size + items2.size)) = true) (hs1 : items.size ≤ sizeLine) (hs2 : items.size + items2.size ≤ sizeLine + 1) :
    Meets (Builtin.«list.extend» ⟨[.ref l, .ref b], []⟩) (fun _ R s => s.heap.get? l = some { cls := .type "list", dict := none, data := .seq items n, slots := #[] } ∧ s.heap.get? b = some { cls := .type "tuple", dict := dct, data := .seq items2 n2, slots := sl } ∧ R (.ok (.ret Value.none)) { s with heap := s.heap.update l (Obj.mapSeq fun x => x ++ items2), toks := s.toks }) :=
  .of_wp fun prog w A R s h => by
    obtain ⟨hp, g, d, tk, os⟩ := s; obtain ⟨hl, hb, h⟩ := h; have f1 := AutoSeq1.idx_int; have f2 := AutoSeq1.sub_tuple_tuple; have f3 := AutoSeq1.sub_list_list; have f4 := AutoSeq1.sub_tuple_list; have f5 := AutoSeq1.sub_list_tuple;
    have hz' : (items ++ items2).size ≤ sizeLine + 1 := by rw [Array.size_append]; exact hs2
    wp_walk using (wpAny_updateSeq hl rfl (hz := hs1) (_hz' := hz')), AutoSeq1.wpAny_loadPart' hl, AutoSeq1.wpAny_loadPart' hb; exact ⟨_, rfl, h⟩
def rExtA (K : Frg) : V → List V → Hp → VK → Prop := fun x vs H Q => ∃ l b xs zs, x = .ref l ∧ vs = [.ref b] ∧ H l = some (.lst xs) ∧ (Rd H b (.lst zs) ∨ SqT K H b zs) ∧ xs.length + zs.length ≤ sizeLine ∧ Q .non (upd H l (.lst (xs ++ zs)))
theorem rd_list {X : Cx} {pins : List (Addr × Obj)} {σ : L2.St} {H : Hp} {s : Shared} {b : Addr} {zs : List V} (I : Inv X pins σ H s) (h : Rd H b (.lst zs)) : ∃ (its : List Value) (n : Nat), Vals zs its ∧ s.heap.get? b = some { cls := .type "list", data := .seq its.toArray n } := by
  rcases h with h | ⟨o, h⟩
  · obtain ⟨z, its, n, r, e⟩ := I.hok b _ h
    exact ⟨its, n, r, e⟩
  · obtain ⟨_, z, its, n, r, e⟩ := I.hok b _ h
    exact ⟨its, n, r, e⟩
theorem mt_extA {X : Cx} : MtM X "list.extend" (rExtA X.K) := by
  intro pins s σ H x vs v us Q I rx rv h
  obtain ⟨l, b, xs, zs, rfl, rfl, hH, hB, hz, q⟩ := h
  cases rx
  obtain ⟨u, rfl, ru⟩ := rv.one
  cases ru
  obtain ⟨z, its, n, r, hl, e⟩ := I.lstM hH
  rcases hB with hB | hB
  · obtain ⟨its2, n2, r2, e2⟩ := rd_list I hB
    have hl2 := r2.length
    have hsz : its.toArray.size + its2.toArray.size ≤ sizeLine := by rw [List.size_toArray, List.size_toArray]; omega
    have hlong : ¬ (!its.toArray.isEmpty && Builtin.List.listTooLong (its.toArray.size + its2.toArray.size)) = true := by
      rw [notLongL hsz, Bool.and_false]
      exact Bool.false_ne_true
    refine call_meets F.slot_list_extend ⟨_, e, rfl⟩ F.entry_list_extend (F.args_list_extend_2 _ _)
      (AutoSeq1.list_extend_list_list_0 l its.toArray n b its2.toArray n2 hlong (by rw [List.size_toArray]; omega) (by omega)) ⟨e, e2, ?_⟩
    refine ⟨.non, _, I.lset (its' := its ++ its2) hH e (by simp) (r.append r2) ?_, rfl, q⟩
    rw [List.length_append]
    omega
  · obtain ⟨its2, r2, ht, z2⟩ := I.tuple hB
    obtain ⟨⟨cl, dct, dt, sl⟩, e2, hc, n2, hd⟩ := ht
    replace hc : cl = .type "tuple" := hc
    replace hd : dt = .seq its2.toArray n2 := hd
    subst hc hd
    have hl2 := r2.length
    have hsz : its.toArray.size + its2.toArray.size ≤ sizeLine := by rw [List.size_toArray, List.size_toArray]; omega
    have hlong : ¬ (!its.toArray.isEmpty && Builtin.List.listTooLong (its.toArray.size + its2.toArray.size)) = true := by
      rw [notLongL hsz, Bool.and_false]
      exact Bool.false_ne_true
    refine call_meets F.slot_list_extend ⟨_, e, rfl⟩ F.entry_list_extend (F.args_list_extend_2 _ _)
      (meets_ext_tup l its.toArray n b its2.toArray n2 dct sl hlong (by rw [List.size_toArray]; omega) (by omega)) ⟨e, e2, ?_⟩
    refine ⟨.non, _, I.lset (its' := its ++ its2) hH e (by simp) (r.append r2) ?_, rfl, q⟩
    rw [List.length_append]
    omega
section
variable {X : Cx} {Wx : WX} {e e1 e2 k o : Expr} {me mk m1 m2 mo : MM PV} {pos p py p1 ap cp ap2 cp2 : Pos} {tg : Tg} {i j l : Nat} {x y z : Str} {tgE : Expr}
theorem few1 {e : Expr} (hs : notStar e = true) (env : PySem.Env) (cp : Pos) : ((backTo cp (starEach [e] env)).all (fun x => !x.1) && (backToKw cp (keywordEach [] env)).all (fun x => x.1.isSome)
      && decide (([e] : List Expr).length + ([] : List Keyword).length + (if ([] : List Keyword).isEmpty then 0 else 1) < 30)) = true := by
  rw [star_cons hs]
  rfl
/-- xs.append(e) -/
theorem sj_app (hN : X.N[i]? = some x) (hv : Vis X.env.scope x) (hd : (x == ("__debug__" : Str)) = false) (hcd : (x == ("__classdict__" : Str)) = false) (he : EJ X Wx e me) (hs : notStar e = true) (hl : (ap.endLine == cp.line) = true) :
    SJ X Wx (.Expr (.Call (.Attribute (.Name x py) "append" ap) [e] [] cp) pos) fun ρ T => match owned ρ i with
      | some xs => (me ρ T).s fun v T => if xs.length < MP.line then .nx (ρ.set i (.ow (xs ++ [v]))) T else .bad
      | none => .bad :=
  PS.imp (ps_expr (pe_bm PySem.F.plainAttrs_list PySem.F.slot_list_append PySem.F.type_list_append mt_append (pe_var hN hv hd hcd) (pa_cons he pa_nil (star_cons hs _ _)) rfl (few1 hs _ _) hl (star_cons hs _ _) rfl) rfl) fun D σ H ⟨w, ρ, T, w0, H0, wb, t, er, s0, p⟩ => by
    dsimp only at p
    cases e : owned ρ i with
    | none => rw [e] at p; exact p.elim
    | some xs =>
      rw [e] at p
      obtain ⟨a, vs, h1, h2, h3, h4, h5, h6⟩ := er.own e
      refine ⟨.ref a, h1, tyL h2, w, ρ, T, H0, t, er, (snext (R := RR X.K) t er s0 p).mono fun y H1 ⟨v, w1, T1, s1, t1, er1, s01, r1, q1⟩ => ?_⟩
      obtain ⟨a', us, k1, k2, k3, k4, k5, k6⟩ := er1.own e
      rw [h1] at k1; cases k1
      by_cases hz : xs.length < MP.line
      · rw [if_pos hz] at q1
        have hz2 : us.length < sizeLine := by rw [← k3.length, ← line_eq]; exact hz
        refine ⟨a, us, y, rfl, rfl, k2, hz2, ?_⟩
        obtain ⟨z1, z2, z3⟩ := own_put t1 er1 s01 (owned_at e) h1 k4 k5 k6 (k3.append (.cons r1 .nil))
        exact q1 _ _ _ z1 z2 z3
      · rw [if_neg hz] at q1; exact q1.elim
/-- xs.extend(e) -/
theorem sj_ext (hN : X.N[i]? = some x) (hv : Vis X.env.scope x) (hd : (x == ("__debug__" : Str)) = false) (hcd : (x == ("__classdict__" : Str)) = false) (he : EJ X Wx e me) (hs : notStar e = true) (hl : (ap.endLine == cp.line) = true) :
    SJ X Wx (.Expr (.Call (.Attribute (.Name x py) "extend" ap) [e] [] cp) pos) fun ρ T => match owned ρ i with
      | some xs => (me ρ T).s fun v T => match seqOf v with
        | some ys => if xs.length + ys.length ≤ MP.line then .nx (ρ.set i (.ow (xs ++ ys))) T else .bad
        | none => .bad
      | none => .bad :=
  PS.imp (ps_expr (pe_bm PySem.F.plainAttrs_list PySem.F.slot_list_extend PySem.F.type_list_extend mt_extA (pe_var hN hv hd hcd) (pa_cons he pa_nil (star_cons hs _ _)) rfl (few1 hs _ _) hl (star_cons hs _ _) rfl) rfl) fun D σ H ⟨w, ρ, T, w0, H0, wb, t, er, s0, p⟩ => by
    dsimp only at p
    cases e : owned ρ i with
    | none => rw [e] at p; exact p.elim
    | some xs =>
      rw [e] at p
      obtain ⟨a, vs, h1, h2, h3, h4, h5, h6⟩ := er.own e
      refine ⟨.ref a, h1, tyL h2, w, ρ, T, H0, t, er, (snext (R := RR X.K) t er s0 p).mono fun y H1 ⟨v, w1, T1, s1, t1, er1, s01, r1, q1⟩ => ?_⟩
      obtain ⟨a', us, k1, k2, k3, k4, k5, k6⟩ := er1.own e
      rw [h1] at k1; cases k1
      cases es : seqOf v with
      | none => rw [es] at q1; exact q1.elim
      | some ys =>
        rw [es] at q1
        have q1 : Sst X.K Wx w0 H0 wb (if xs.length + ys.length ≤ MP.line then .nx (ρ.set i (.ow (xs ++ ys))) T1 else .bad) D := q1
        by_cases hz : xs.length + ys.length ≤ MP.line
        · rw [if_pos hz] at q1
          have fin : ∀ b zs, y = .ref b → (Rd H1 b (.lst zs) ∨ SqT X.K H1 b zs) → Reps X.K w1 ys zs → rExtA X.K (.ref a) [y] H1 fun _ H1 => D.nx σ H1 := fun b zs e1 e2 e3 => by
            have hz2 : us.length + zs.length ≤ sizeLine := by rw [← k3.length, ← e3.length, ← line_eq]; exact hz
            refine ⟨a, b, us, zs, rfl, by rw [e1], k2, e2, hz2, ?_⟩
            obtain ⟨z1, z2, z3⟩ := own_put t1 er1 s01 (owned_at e) h1 k4 k5 k6 (k3.append e3)
            exact q1 _ _ _ z1 z2 z3
          cases v with
          | tup zs =>
            cases es
            cases r1 with
            | tup g1 g2 => exact fin _ _ rfl (.inr (SqT.up g1 t1.sub)) g2
          | lst zs =>
            cases es
            cases r1 with
            | lst g1 g2 => exact fin _ _ rfl (.inl (Rd.up g1 t1.sub)) g2
          | _ => cases es
        · rw [if_neg hz] at q1; exact q1.elim
theorem pop_at {ys : List PV} {v y : PV} {zs : List PV} (h : popAt ys v = some (y, zs)) : ∃ (n : Int) (m : Nat), v = .int n ∧ -(2 ^ 62) ≤ n ∧ n < 2 ^ 62 ∧ ixn ys.length n = some m ∧ ys[m]? = some y ∧ zs = ys.eraseIdx m := by
  cases v with
  | int n =>
    have h : (if -(2 ^ 62) ≤ n ∧ n < 2 ^ 62 then (ixn ys.length n).bind fun m => (ys[m]?).map fun y => (y, ys.eraseIdx m) else none) = some (y, zs) := h
    by_cases hz : -(2 ^ 62) ≤ n ∧ n < 2 ^ 62
    · rw [if_pos hz] at h
      cases e : ixn ys.length n with
      | none => rw [e] at h; cases h
      | some m =>
        rw [e] at h
        have h : (ys[m]?).map (fun y => (y, ys.eraseIdx m)) = some (y, zs) := h
        cases e2 : ys[m]? with
        | none => rw [e2] at h; cases h
        | some y' => rw [e2] at h; cases h; exact ⟨n, m, rfl, hz.1, hz.2, e, e2, rfl⟩
    · rw [if_neg hz] at h; cases h
  | _ => cases h
/-- xs.append(ys.pop(k)) -/
theorem sj_apop (hN : X.N[i]? = some x) (hv : Vis X.env.scope x) (hd : (x == ("__debug__" : Str)) = false) (hcd : (x == ("__classdict__" : Str)) = false) (hN2 : X.N[j]? = some y) (hv2 : Vis X.env.scope y) (hd2 : (y == ("__debug__" : Str)) = false) (hcd2 : (y == ("__classdict__" : Str)) = false)
    (hk : EJ X Wx k mk) (hs : notStar k = true) (hl : (ap.endLine == cp.line) = true) (hl2 : (ap2.endLine == cp2.line) = true) :
    SJ X Wx (.Expr (.Call (.Attribute (.Name x py) "append" ap) [.Call (.Attribute (.Name y p1) "pop" ap2) [k] [] cp2] [] cp) pos) fun ρ T => match owned ρ i, owned ρ j with
      | some xs, some ys => (mk ρ T).s fun v T => match popAt ys v with
        | some (y, zs) => if xs.length < MP.line ∧ i ≠ j then .nx ((ρ.set j (.ow zs)).set i (.ow (xs ++ [y]))) T else .bad
        | none => .bad
      | _, _ => .bad :=
  PS.imp (ps_expr (pe_bm PySem.F.plainAttrs_list PySem.F.slot_list_append PySem.F.type_list_append mt_append (pe_var hN hv hd hcd)
    (pa_cons (pe_bm PySem.F.plainAttrs_list PySem.F.slot_list_pop PySem.F.type_list_pop mt_popAt (pe_var hN2 hv2 hd2 hcd2) (pa_cons hk pa_nil (star_cons hs _ _)) rfl (few1 hs _ _) hl2 (star_cons hs _ _) rfl) pa_nil (star_cons rfl _ _)) rfl (few1 rfl _ _) hl (star_cons rfl _ _) rfl) rfl) fun D σ H ⟨w, ρ, T, w0, H0, wb, t, er, s0, p⟩ => by
    dsimp only at p
    cases e : owned ρ i with
    | none => rw [e] at p; exact p.elim
    | some xs =>
      cases e2 : owned ρ j with
      | none => rw [e, e2] at p; exact p.elim
      | some ys =>
        rw [e, e2] at p
        obtain ⟨a, vs, h1, h2, h3, h4, h5, h6⟩ := er.own e
        obtain ⟨b, us, g1, g2, g3, g4, g5, g6⟩ := er.own e2
        refine ⟨.ref a, h1, tyL h2, .ref b, g1, tyL g2, w, ρ, T, H0, t, er, (snext (R := RR X.K) t er s0 p).mono fun n H1 ⟨v, w1, T1, s1, t1, er1, s01, r1, q1⟩ => ?_⟩
        cases e3 : popAt ys v with
        | none => rw [e3] at q1; exact q1.elim
        | some yz =>
          obtain ⟨y, zs⟩ := yz
          rw [e3] at q1
          have q1 : Sst X.K Wx w0 H0 wb (if xs.length < MP.line ∧ i ≠ j then .nx ((ρ.set j (.ow zs)).set i (.ow (xs ++ [y]))) T1 else .bad) D := q1
          by_cases hz : xs.length < MP.line ∧ i ≠ j
          · rw [if_pos hz] at q1
            obtain ⟨n', m, rfl, b1, b2, b3, b4, rfl⟩ := pop_at e3
            cases (show Rep X.K w1 (.int n') n from r1)
            obtain ⟨b', us', k1, k2, k3, k4, k5, k6⟩ := er1.own e2
            rw [g1] at k1; cases k1
            obtain ⟨yv, y1, y2⟩ := k3.get b4
            have h63 : (2 : Int) ^ 62 < 2 ^ 63 := by decide
            refine ⟨b, us', n', m, yv, rfl, rfl, k2, by omega, by omega, (ixN_seq (at_len (y := y) k3 b3)).1, y1, ?_⟩
            obtain ⟨z1, z2, z3⟩ := own_put t1 er1 s01 (owned_at e2) g1 k4 k5 k6 (k3.erase m)
            have ei : (ρ.set j (.ow (ys.eraseIdx m)))[i]? = some (.ow xs) := by rw [List.getElem?_set_ne (fun z => hz.2 z.symm)]; exact owned_at e
            obtain ⟨a', vs', l1, l2, l3, l4, l5, l6⟩ := z2.ow i xs ei
            rw [h1] at l1; cases l1
            refine ⟨a, vs', yv, rfl, rfl, l2, by rw [← l3.length, ← line_eq]; exact hz.1, ?_⟩
            obtain ⟨z4, z5, z6⟩ := own_put z1 z2 z3 ei h1 l4 l5 l6 (l3.append (.cons y2 .nil))
            exact q1 _ _ _ z4 z5 z6
          · rw [if_neg hz] at q1; exact q1.elim
/-- t = xs.pop() -/
theorem sj_pop (hN : X.N[j]? = some y) (hv : Vis X.env.scope y) (hd : (y == ("__debug__" : Str)) = false) (hcd : (y == ("__classdict__" : Str)) = false) (hl : (ap.endLine == cp.line) = true) (hg : PG X tgE (gM X.K tg))
    (hs : swapsWithSole [tgE] (.Call (.Attribute (.Name y py) "pop" ap) [] [] cp) pos.line X.env = pure false) (hw : swappedStores [tgE] (.Call (.Attribute (.Name y py) "pop" ap) [] [] cp) X.env = pure none) (h1 : (assignEach [tgE] X.env).map (·.2) = [assign tgE X.env]) :
    SJ X Wx (.Assign [tgE] (.Call (.Attribute (.Name y py) "pop" ap) [] [] cp) pos) fun ρ T => match owned ρ j with
      | some ys => match ys.getLast? with
        | some y => ofEnv T (bindTg tg (ρ.set j (.ow ys.dropLast)) y)
        | none => .bad
      | none => .bad :=
  PS.imp (ps_asg (pe_bm0 PySem.F.plainAttrs_list PySem.F.slot_list_pop PySem.F.type_list_pop mt_pop (pe_var hN hv hd hcd) rfl hl) hg hs hw h1) fun D σ H ⟨w, ρ, T, w0, H0, wb, t, er, s0, p⟩ => by
    dsimp only at p
    cases e : owned ρ j with
    | none => rw [e] at p; exact p.elim
    | some ys =>
      rw [e] at p
      have p : Sst X.K Wx w0 H0 wb (match ys.getLast? with
        | some y => ofEnv T (bindTg tg (ρ.set j (.ow ys.dropLast)) y)
        | none => .bad) D := p
      cases e2 : ys.getLast? with
      | none => rw [e2] at p; exact p.elim
      | some y =>
        rw [e2] at p
        obtain ⟨a, vs, h1, h2, h3, h4, h5, h6⟩ := er.own e
        have e3 : ys[ys.length - 1]? = some y := by rw [← List.getLast?_eq_getElem?]; exact e2
        obtain ⟨yv, y1, y2⟩ := h3.get e3
        refine ⟨.ref a, h1, tyL h2, a, vs, yv, rfl, rfl, h2, by rw [← h3.length]; exact y1, ?_⟩
        obtain ⟨z1, z2, z3⟩ := own_put t er s0 (owned_at e) h1 h4 h5 h6 h3.dropLast
        refine ⟨w, _, T, H0, y, z1, z2, y2, ?_⟩
        have p : Sst X.K Wx w0 H0 wb (ofEnv T (bindTg tg (ρ.set j (.ow ys.dropLast)) y)) D := p
        cases e4 : bindTg tg (ρ.set j (.ow ys.dropLast)) y with
        | none => rw [e4] at p; exact p.elim
        | some ρ' => rw [e4] at p; exact fun σ' tr _ _ => p σ' w _ z1 (tr w _ (Wle.refl _) z2) z3
theorem set_at {xs ys : List PV} {n v : PV} (h : setAt xs n v = some ys) : ∃ (k : Int) (m : Nat), n = .int k ∧ ixn xs.length k = some m ∧ ys = xs.set m v := by
  cases n with
  | int k =>
    have h : (ixn xs.length k).map (fun m => xs.set m v) = some ys := h
    cases e : ixn xs.length k with
    | none => rw [e] at h; cases h
    | some m => rw [e] at h; cases h; exact ⟨k, m, rfl, e, rfl⟩
  | _ => cases h
def notSlice : Expr → Bool
  | .Slice .. => false
  | _ => true
theorem sub_plain (hk : notSlice k = true) : ∀ v, assign (.Subscript o k p) X.env v = (do
      let ov ← holding [v] (eval o X.env)
      let iv ← holding [v, ov] (eval k X.env)
      standAt p
      holding [v, ov, iv] (setItem ov iv v)
      release [v, ov, iv] []) := by
  intro v
  cases k <;> first | rfl | cases hk
/-- xs[k] = e -/
theorem sj_sto (hN : X.N[i]? = some x) (hv : Vis X.env.scope x) (hd : (x == ("__debug__" : Str)) = false) (hcd : (x == ("__classdict__" : Str)) = false) (he : EJ X Wx e me) (hk : EJ X Wx k mk) (hn : notSlice k = true)
    (hs : swapsWithSole [.Subscript (.Name x py) k p] e pos.line X.env = pure false) (hw : swappedStores [.Subscript (.Name x py) k p] e X.env = pure none) :
    SJ X Wx (.Assign [.Subscript (.Name x py) k p] e pos) fun ρ T => (me ρ T).s fun v T => match owned ρ i with
      | some xs => (mk ρ T).s fun n T => match setAt xs n v with
        | some ys => .nx (ρ.set i (.ow ys)) T
        | none => .bad
      | none => .bad :=
  PS.imp (ps_asg he (pg_sub (pe_var hN hv hd hcd) hk set_list (sub_plain hn)) hs hw rfl) fun D σ H ⟨w, ρ, T, w0, H0, wb, t, er, s0, p⟩ => by
    refine ⟨w, ρ, T, H0, t, er, (snext (R := RR X.K) t er s0 p).mono fun y H1 ⟨v, w1, T1, s1, t1, er1, s01, r1, q1⟩ => ?_⟩
    cases e : owned ρ i with
    | none => rw [e] at q1; exact q1.elim
    | some xs =>
      rw [e] at q1
      obtain ⟨a, vs, h1, h2, h3, h4, h5, h6⟩ := er1.own e
      refine ⟨.ref a, h1, w1, ρ, T1, H0, t1, er1, (snext (R := RR X.K) t1 er1 s01 q1).mono fun n H2 ⟨nv, w2, T2, s2, t2, er2, s02, r2, q2⟩ => ?_⟩
      cases e2 : setAt xs nv v with
      | none => rw [e2] at q2; exact q2.elim
      | some ys =>
        rw [e2] at q2
        obtain ⟨kk, m, rfl, b1, rfl⟩ := set_at e2
        cases (show Rep X.K w2 (.int kk) n from r2)
        obtain ⟨a', us, k1, k2, k3, k4, k5, k6⟩ := er2.own e
        rw [h1] at k1; cases k1
        refine ⟨a, us, kk, m, rfl, rfl, k2, at_len (y := v) k3 b1, ?_⟩
        obtain ⟨z1, z2, z3⟩ := own_put t2 er2 s02 (owned_at e) h1 k4 k5 k6 (k3.set (Rep.up s2.le r1) m)
        exact q2 _ _ _ z1 z2 z3
/-- c[k] = e, c a cell -/
theorem sj_ste (he : EJ X Wx e me) (ho : EJ X Wx o mo) (hk : EJ X Wx k mk) (hn : notSlice k = true)
    (hs : swapsWithSole [.Subscript o k p] e pos.line X.env = pure false) (hw : swappedStores [.Subscript o k p] e X.env = pure none) :
    SJ X Wx (.Assign [.Subscript o k p] e pos) fun ρ T => (me ρ T).s fun v T => (mo ρ T).s fun c T => match c with
      | .cel c => (mk ρ T).s fun n T => match T[c]? with
        | some xs => match setAt xs n v with
          | some ys => .nx ρ (T.set c ys)
          | none => .bad
        | none => .bad
      | _ => .bad :=
  PS.imp (ps_asg he (pg_sub ho hk set_list (sub_plain hn)) hs hw rfl) fun D σ H ⟨w, ρ, T, w0, H0, wb, t, er, s0, p⟩ => by
    refine ⟨w, ρ, T, H0, t, er, (snext (R := RR X.K) t er s0 p).mono fun y H1 ⟨v, w1, T1, s1, t1, er1, s01, r1, q1⟩ => ?_⟩
    refine ⟨w1, ρ, T1, H0, t1, er1, (snext (R := RR X.K) t1 er1 s01 q1).mono fun cv H2 ⟨c, w2, T2, s2, t2, er2, s02, r2, q2⟩ => ?_⟩
    cases c with
    | cel c =>
      refine ⟨w2, ρ, T2, H0, t2, er2, (snext (R := RR X.K) t2 er2 s02 q2).mono fun n H3 ⟨nv, w3, T3, s3, t3, er3, s03, r3, q3⟩ => ?_⟩
      cases e1 : T3[c]? with
      | none => rw [e1] at q3; exact q3.elim
      | some xs =>
        rw [e1] at q3
        have q3 : Sst X.K Wx w0 H0 wb (match setAt xs nv v with
          | some ys => .nx ρ (T3.set c ys)
          | none => .bad) D := q3
        cases e2 : setAt xs nv v with
        | none => rw [e2] at q3; exact q3.elim
        | some ys =>
          rw [e2] at q3
          obtain ⟨kk, m, rfl, b1, rfl⟩ := set_at e2
          cases (show Rep X.K w3 (.int kk) n from r3)
          cases (show Rep X.K w3 (.cel c) cv from Rep.up s3.le r2) with
          | @cel _ a ha =>
            obtain ⟨us, k2, k3⟩ := t3.cel c a xs ha e1
            refine ⟨a, us, kk, m, rfl, rfl, k2, at_len (y := v) k3 b1, ?_⟩
            have st : Stp w3 H3 w3 (upd H3 a (.lst (us.set m y))) := Stp.cset (List.mem_of_getElem? ha)
            exact q3 _ _ _ (t3.cset ha (k3.set (Rep.up s3.le (Rep.up s2.le r1)) m)) (er3.step st) (s03.trans st)
    | _ => exact q2.elim
end
end MPS
end

section
set_option Elab.async false
set_option linter.all false
set_option maxRecDepth 100000
set_option autoImplicit false
/-! several names at once; raise -/
namespace MPS
open PySem PySem.Spec PyProof.Rows L2 MP
def RF (K : Frg) (f : Bool) (Hs : Hp) : Rel PV V := if f then RO K Hs else RR K
def tF (K : Frg) (Wx : WX) (f : Bool) (m : MM PV) : TE := fun σ H Q => ∃ (w : W) (ρ : MP.Env) (T : Cells) (H0 : Hp), HT K w H T ∧ Er K H0 w H σ ρ ∧ Pst K Wx σ (RF K f H) w H (m ρ T) Q
/-- an expression: a new row of ours (f) or a value -/
abbrev EJF (X : Cx) (Wx : WX) (f : Bool) (e : Expr) (m : MM PV) : Prop := PE X e (tF X.K Wx f m)
theorem EJO.f {X : Cx} {Wx : WX} {e : Expr} {m : MM PV} (h : EJO X Wx e m) : EJF X Wx true e m := PE.imp h fun _ _ _ q => q
theorem EJ.f {X : Cx} {Wx : WX} {e : Expr} {m : MM PV} (h : EJ X Wx e m) : EJF X Wx false e m := PE.imp h fun _ _ _ q => q
def setF (f : Bool) (i : Nat) (v : PV) (ρ : MP.Env) : Option MP.Env := match f, v with
  | false, v => some (ρ.set i (.va v))
  | true, .lst xs => some (ρ.set i (.ow xs))
  | _, _ => none
theorem putAll_cons {i : Nat} {f : Bool} {ts : List (Nat × Bool)} {v : PV} {vs : List PV} {ρ : MP.Env} : putAll ((i, f) :: ts) (v :: vs) ρ = (setF f i v ρ).bind (putAll ts vs) := by
  cases f with
  | false => rfl
  | true => cases v <;> rfl
section
variable {K : Frg} {H0 H Hs : Hp} {w w0 wb : W} {σ : L2.St} {ρ ρ' : MP.Env} {v : PV} {x : V} {i : Nat} {T : Cells} {f : Bool}
/-- a value in a slot -/
theorem Er.setF (h : Er K H0 w H σ ρ) (r : RF K f Hs w H v x) (h0 : ∀ a, Hs a = none → H0 a = none) (hs : Er K H0 w0 Hs σ ρ) (e : MPS.setF f i v ρ = some ρ') : Er K H0 w H (σ.set i (some x)) ρ' := by
  cases f with
  | false => cases e; exact h.set r i
  | true =>
    obtain ⟨a, xs, vs, rfl, rfl, h1, h2, h3, h4, h5⟩ := r
    cases e
    exact h.setOw h1 h2 h3 h4 (h0 a h5) (hs.nw h5)
end
theorem s_two {α β γ : Type} {a : Res α} {f : α → Store → Res β} {g : β → Store → SR} : (a.bind f).s g = a.s fun x T => (f x T).s g := by
  cases a <;> rfl
section
variable {X : Cx} {Wx : WX} {e1 e2 e3 : Expr} {m1 m2 m3 : MM PV} {pos p py p1 pt p2 px pz : Pos} {i j l kt k2 : Nat} {x y z : Str} {f1 f2 f3 : Bool}
theorem sj_par2 (hc : X.calm = true) (hN : X.N.Nodup) (hi : X.N[i]? = some x) (hj : X.N[j]? = some y) (hij : i ≠ j) (hx : X.env.scope.names.lookup x = some .local) (hy : X.env.scope.names.lookup y = some .local)
    (h1 : EJF X Wx f1 e1 m1) (h2 : EJF X Wx f2 e2 m2) (s1 : notStar e1 = true) (s2 : notStar e2 = true)
    (hw : swappedStores [.Tuple [.Name x px, .Name y py] kt pt] (.Tuple [e1, e2] k2 p2) X.env = pure (some [x, y])) :
    SJ X Wx (.Assign [.Tuple [.Name x px, .Name y py] kt pt] (.Tuple [e1, e2] k2 p2) pos) fun ρ T => (consM m1 (consM m2 nilM) ρ T).s fun vs T => ofEnv T (putAll [(i, f1), (j, f2)] vs ρ) :=
  PS.imp (ps_par hc hN hi hj hij hx hy (pa_cons h1 (pa_cons h2 pa_nil (star_cons s2 _ _)) (star_cons s1 _ _)) hw rfl) fun D σ H ⟨w, ρ, T, w0, H0, wb, t, er, s0, p⟩ => by
    have p : Sst X.K Wx w0 H0 wb ((m1 ρ T).s fun x T => (m2 ρ T).s fun y T => ofEnv T (putAll [(i, f1), (j, f2)] [x, y] ρ)) D := by
      have e : ((consM m1 (consM m2 nilM) ρ T).s fun vs T => ofEnv T (putAll [(i, f1), (j, f2)] vs ρ)) = (m1 ρ T).s fun x T => (m2 ρ T).s fun y T => ofEnv T (putAll [(i, f1), (j, f2)] [x, y] ρ) := by
        unfold consM
        cases m1 ρ T with
        | ok v1 T1 =>
          simp only [Res.bind_ok, Res.s_ok]
          cases m2 ρ T1 <;> rfl
        | ex _ _ => rfl
        | bad => rfl
      rw [← e]; exact p
    refine ⟨w, ρ, T, H0, t, er, (snext (R := RF X.K f1 H) t er s0 p).mono fun x1 H1 ⟨v1, w1, T1, st1, t1, er1, s01, r1, q1⟩ => ?_⟩
    refine ⟨w1, ρ, T1, H0, t1, er1, (snext (R := RF X.K f2 H1) t1 er1 s01 q1).mono fun x2 H2 ⟨v2, w2, T2, st2, t2, er2, s02, r2, q2⟩ => ?_⟩
    refine ⟨x1, x2, rfl, ?_⟩
    rw [putAll_cons] at q2
    cases e1 : setF f1 i v1 ρ with
    | none => rw [e1] at q2; exact q2.elim
    | some ρ1 =>
      rw [e1] at q2
      have q2 : Sst X.K Wx w0 H0 wb (ofEnv T2 (putAll [(j, f2)] [v2] ρ1)) D := q2
      rw [putAll_cons] at q2
      have z1 : Er X.K H0 w1 H1 (σ.set i (some x1)) ρ1 := er1.setF r1 (fun a ha => s0.none0 ha) er e1
      cases e2 : setF f2 j v2 ρ1 with
      | none => rw [e2] at q2; exact q2.elim
      | some ρ2 =>
        rw [e2] at q2
        exact q2 _ w2 H2 t2 ((z1.step st2).setF r2 (fun a ha => s01.none0 ha) z1 e2) s02
theorem sj_par3 (hc : X.calm = true) (hN : X.N.Nodup) (hi : X.N[i]? = some x) (hj : X.N[j]? = some y) (hl : X.N[l]? = some z) (hij : i ≠ j) (hil : i ≠ l) (hjl : j ≠ l) (hx : X.env.scope.names.lookup x = some .local) (hy : X.env.scope.names.lookup y = some .local) (hz : X.env.scope.names.lookup z = some .local)
    (h1 : EJF X Wx f1 e1 m1) (h2 : EJF X Wx f2 e2 m2) (h3 : EJF X Wx f3 e3 m3) (s1 : notStar e1 = true) (s2 : notStar e2 = true) (s3 : notStar e3 = true)
    (hw : swappedStores [.Tuple [.Name x px, .Name y py, .Name z pz] kt pt] (.Tuple [e1, e2, e3] k2 p2) X.env = pure (some [x, y, z])) :
    SJ X Wx (.Assign [.Tuple [.Name x px, .Name y py, .Name z pz] kt pt] (.Tuple [e1, e2, e3] k2 p2) pos) fun ρ T => (consM m1 (consM m2 (consM m3 nilM)) ρ T).s fun vs T => ofEnv T (putAll [(i, f1), (j, f2), (l, f3)] vs ρ) :=
  PS.imp (ps_par3 hc hN hi hj hl hij hil hjl hx hy hz (pa_cons h1 (pa_cons h2 (pa_cons h3 pa_nil (star_cons s3 _ _)) (star_cons s2 _ _)) (star_cons s1 _ _)) hw rfl) fun D σ H ⟨w, ρ, T, w0, H0, wb, t, er, s0, p⟩ => by
    have p : Sst X.K Wx w0 H0 wb ((m1 ρ T).s fun x T => (m2 ρ T).s fun y T => (m3 ρ T).s fun z T => ofEnv T (putAll [(i, f1), (j, f2), (l, f3)] [x, y, z] ρ)) D := by
      have e : ((consM m1 (consM m2 (consM m3 nilM)) ρ T).s fun vs T => ofEnv T (putAll [(i, f1), (j, f2), (l, f3)] vs ρ)) = (m1 ρ T).s fun x T => (m2 ρ T).s fun y T => (m3 ρ T).s fun z T => ofEnv T (putAll [(i, f1), (j, f2), (l, f3)] [x, y, z] ρ) := by
        unfold consM
        cases m1 ρ T with
        | ok v1 T1 =>
          simp only [Res.bind_ok, Res.s_ok]
          cases m2 ρ T1 with
          | ok v2 T2 =>
            simp only [Res.bind_ok, Res.s_ok]
            cases m3 ρ T2 <;> rfl
          | ex _ _ => rfl
          | bad => rfl
        | ex _ _ => rfl
        | bad => rfl
      rw [← e]; exact p
    refine ⟨w, ρ, T, H0, t, er, (snext (R := RF X.K f1 H) t er s0 p).mono fun x1 H1 ⟨v1, w1, T1, st1, t1, er1, s01, r1, q1⟩ => ?_⟩
    refine ⟨w1, ρ, T1, H0, t1, er1, (snext (R := RF X.K f2 H1) t1 er1 s01 q1).mono fun x2 H2 ⟨v2, w2, T2, st2, t2, er2, s02, r2, q2⟩ => ?_⟩
    refine ⟨w2, ρ, T2, H0, t2, er2, (snext (R := RF X.K f3 H2) t2 er2 s02 q2).mono fun x3 H3 ⟨v3, w3, T3, st3, t3, er3, s03, r3, q3⟩ => ?_⟩
    refine ⟨x1, x2, x3, rfl, ?_⟩
    rw [putAll_cons] at q3
    cases e1 : setF f1 i v1 ρ with
    | none => rw [e1] at q3; exact q3.elim
    | some ρ1 =>
      rw [e1] at q3
      have q3 : Sst X.K Wx w0 H0 wb (ofEnv T3 (putAll [(j, f2), (l, f3)] [v2, v3] ρ1)) D := q3
      rw [putAll_cons] at q3
      have z1 : Er X.K H0 w1 H1 (σ.set i (some x1)) ρ1 := er1.setF r1 (fun a ha => s0.none0 ha) er e1
      cases e2 : setF f2 j v2 ρ1 with
      | none => rw [e2] at q3; exact q3.elim
      | some ρ2 =>
        rw [e2] at q3
        have q3 : Sst X.K Wx w0 H0 wb (ofEnv T3 (putAll [(l, f3)] [v3] ρ2)) D := q3
        rw [putAll_cons] at q3
        have z2 : Er X.K H0 w2 H2 ((σ.set i (some x1)).set j (some x2)) ρ2 := (z1.step st2).setF r2 (fun a ha => s01.none0 ha) z1 e2
        cases e3 : setF f3 l v3 ρ2 with
        | none => rw [e3] at q3; exact q3.elim
        | some ρ3 =>
          rw [e3] at q3
          exact q3 _ w3 H3 t3 ((z2.step st3).setF r3 (fun a ha => s02.none0 ha) z2 e3) s03
section
variable {X : Cx} {Wx : WX} {e1 e2 e3 : Expr} {m1 m2 m3 : MM PV} {pos p py p1 pt p2 px pz : Pos} {i j l kt k2 : Nat} {x y z : Str} {f1 f2 f3 : Bool}
/-- three names, stored from a tuple -/
theorem sj_upar3 (hc : X.calm = true) (hN : X.N.Nodup) (hi : X.N[i]? = some x) (hj : X.N[j]? = some y) (hl : X.N[l]? = some z) (hx : Loc X.env.scope x) (hy : Loc X.env.scope y) (hz : Loc X.env.scope z)
    (fx : X.fn x = true ∨ X.env.scope.names.lookup x = some .local) (fy : X.fn y = true ∨ X.env.scope.names.lookup y = some .local) (fz : X.fn z = true ∨ X.env.scope.names.lookup z = some .local)
    (h1 : EJF X Wx f1 e1 m1) (h2 : EJF X Wx f2 e2 m2) (h3 : EJF X Wx f3 e3 m3) (s1 : notStar e1 = true) (s2 : notStar e2 = true) (s3 : notStar e3 = true)
    (hs : swapsWithSole [.Tuple [.Name x px, .Name y py, .Name z pz] kt pt] (.Tuple [e1, e2, e3] k2 p2) pos.line X.env = pure false)
    (hw : swappedStores [.Tuple [.Name x px, .Name y py, .Name z pz] kt pt] (.Tuple [e1, e2, e3] k2 p2) X.env = pure none) :
    SJ X Wx (.Assign [.Tuple [.Name x px, .Name y py, .Name z pz] kt pt] (.Tuple [e1, e2, e3] k2 p2) pos) fun ρ T => (consM m1 (consM m2 (consM m3 nilM)) ρ T).s fun vs T => ofEnv T (putAll [(i, f1), (j, f2), (l, f3)] vs ρ) := by
  have g : PG X (.Tuple [.Name x px, .Name y py, .Name z pz] kt pt) _ := pg_tup hc (pgs_cons (pg_name (pos := px) hN hi hx fx) (pgs_cons (pg_name (pos := py) hN hj hy fy) (pgs_cons (pg_name (pos := pz) hN hl hz fz) pgs_nil))) (n := 3)
  have v : PE X (.Tuple [e1, e2, e3] k2 p2) _ := pe_tup (pa_cons h1 (pa_cons h2 (pa_cons h3 pa_nil (star_cons s3 _ _)) (star_cons s2 _ _)) (star_cons s1 _ _))
  refine PS.imp (ps_asg v g hs hw) fun D σ H ⟨w, ρ, T, w0, H0, wb, t, er, s0, p⟩ => ?_
  have p : Sst X.K Wx w0 H0 wb ((m1 ρ T).s fun x T => (m2 ρ T).s fun y T => (m3 ρ T).s fun z T => ofEnv T (putAll [(i, f1), (j, f2), (l, f3)] [x, y, z] ρ)) D := by
    have e : ((consM m1 (consM m2 (consM m3 nilM)) ρ T).s fun vs T => ofEnv T (putAll [(i, f1), (j, f2), (l, f3)] vs ρ)) = (m1 ρ T).s fun x T => (m2 ρ T).s fun y T => (m3 ρ T).s fun z T => ofEnv T (putAll [(i, f1), (j, f2), (l, f3)] [x, y, z] ρ) := by
      unfold consM
      cases m1 ρ T with
      | ok v1 T1 =>
        simp only [Res.bind_ok, Res.s_ok]
        cases m2 ρ T1 with
        | ok v2 T2 =>
          simp only [Res.bind_ok, Res.s_ok]
          cases m3 ρ T2 <;> rfl
        | ex _ _ => rfl
        | bad => rfl
      | ex _ _ => rfl
      | bad => rfl
    rw [← e]; exact p
  refine ⟨w, ρ, T, H0, t, er, (snext (R := RF X.K f1 H) t er s0 p).mono fun x1 H1 ⟨v1, w1, T1, st1, t1, er1, s01, r1, q1⟩ => ?_⟩
  refine ⟨w1, ρ, T1, H0, t1, er1, (snext (R := RF X.K f2 H1) t1 er1 s01 q1).mono fun x2 H2 ⟨v2, w2, T2, st2, t2, er2, s02, r2, q2⟩ => ?_⟩
  refine ⟨w2, ρ, T2, H0, t2, er2, (snext (R := RF X.K f3 H2) t2 er2 s02 q2).mono fun x3 H3 ⟨v3, w3, T3, st3, t3, er3, s03, r3, q3⟩ => ?_⟩
  refine ⟨small1 (show 3 ≤ 1000 by decide), fun q hq => ?_⟩
  refine ⟨q, [x1, x2, x3], rfl, .inl (.inl upd_same), rfl, ?_⟩
  refine ⟨x1, [x2, x3], rfl, x2, [x3], rfl, x3, [], rfl, rfl, ?_⟩
  rw [putAll_cons] at q3
  cases e1 : setF f1 i v1 ρ with
  | none => rw [e1] at q3; exact q3.elim
  | some ρ1 =>
    rw [e1] at q3
    have q3 : Sst X.K Wx w0 H0 wb (ofEnv T3 (putAll [(j, f2), (l, f3)] [v2, v3] ρ1)) D := q3
    rw [putAll_cons] at q3
    have z1 : Er X.K H0 w1 H1 (σ.set i (some x1)) ρ1 := er1.setF r1 (fun a ha => s0.none0 ha) er e1
    cases e2 : setF f2 j v2 ρ1 with
    | none => rw [e2] at q3; exact q3.elim
    | some ρ2 =>
      rw [e2] at q3
      have q3 : Sst X.K Wx w0 H0 wb (ofEnv T3 (putAll [(l, f3)] [v3] ρ2)) D := q3
      rw [putAll_cons] at q3
      have z2 : Er X.K H0 w2 H2 ((σ.set i (some x1)).set j (some x2)) ρ2 := (z1.step st2).setF r2 (fun a ha => s01.none0 ha) z1 e2
      cases e3 : setF f3 l v3 ρ2 with
      | none => rw [e3] at q3; exact q3.elim
      | some ρ3 =>
        rw [e3] at q3
        have z3 := (z2.step st3).setF r3 (fun a ha => s02.none0 ha) z2 e3
        have ad := Stp.add (o := .tup [x1, x2, x3]) t3 hq
        exact q3 _ _ _ (t3.add hq) (z3.step ad) (s03.trans ad)
end
/-! ### raise -/
theorem pmk_own0 {C : Addr} {bmB : List Value} {B newId initId : String} (F : ExcBaseFacts B newId initId bmB) (q : PySem.W.excIn X.K C bmB newId = true) (gC : X.mg x = some (.ref C)) (kC : PySem.W.keepIn X.K (.ref C) = true) (r : Raises X (.ref C)) (hg : Gl X x)
    (hdb : (x == ("__debug__" : Str)) = false) : PMk X (.Call (.Name x p) [] [] pos) (fun _ H Q => Q (.ref C) none H) := by
  intro pins s σ H Q I h
  refine wpAny_Call_Name_kw (ld_glob I hg gC ?_ hdb)
  refine PySem.W.callWith_K0 I.kIn kC ?_
  obtain ⟨bm, N, nm, qn, bs, hdct, sn, sub, ab, col, dd, k0, k1, k2, k3, k5, mN, hC, hN, hni, T⟩ := exc_obj I.kIn q
  refine wpAny_call_exc_subT (rest := []) F T hC hN hni (fun h' e hm => ?_) (Nat.zero_le _)
  exact mk_of I hm r h (I.hok.gone hm.new)
/-- the exception class of number n is there -/
structure ExIs (X : Cx) (n : Nat) : Prop where
  ex : ∃ (bmB : List Value) (B newId initId : String), ExcBaseFacts B newId initId bmB ∧ PySem.W.excIn X.K (He.ga X.K (excName n)) bmB newId = true
  mg : X.mg (excName n) = some (.ref (He.ga X.K (excName n)))
  kp : PySem.W.keepIn X.K (.ref (He.ga X.K (excName n))) = true
  ra : Raises X (.ref (He.ga X.K (excName n)))
theorem sj_rse {n : Nat} (hc : X.calm = true) (tk : Takes X Wx) (F : ExIs X n) (hg : Gl X (excName n)) (hdb : (excName n == ("__debug__" : Str)) = false) : SJ X Wx (.Raise (some (.Call (.Name (excName n) p) [] [] p1)) none pos) fun ρ T => .ex ⟨n, []⟩ T := by
  obtain ⟨bmB, B, newId, initId, F1, F2⟩ := F.ex
  exact PS.imp (ps_raise hc tk (pmk_own0 F1 F2 F.mg F.kp F.ra hg hdb)) fun D σ H ⟨w, ρ, T, w0, H0, wb, t, er, s0, p⟩ => p σ w H _ _ t s0 ⟨rfl, rfl⟩
end
end MPS
end

section
set_option Elab.async false
set_option linter.all false
set_option maxRecDepth 100000
set_option autoImplicit false
namespace MPS
open PySem PySem.Spec PyProof.Rows L2 MP
/-! a call of a local that holds a def, with the exceptions σ-wise -/
section
variable {X : Cx} {CX : CXT} {k i : Nat} {f : Addr} {fd : FuncData} {ps : List Str} {sp : Sp} {E : L2.St → XK} {x : Str} {p pos : Pos} {e : Expr} {es : List Expr} {t : TA}
/-- of several defs that the slot may hold -/
structure HeldS (X : Cx) (CX : CXT) (k : Nat) (f : Addr) (sp : Sp) : Prop where
  ex : ∃ (fd : FuncData) (ps : List Str), FnOk X.prog X.w X.K X.mg X.base CX k f fd ps sp ∧ PySem.W.keepIn X.K (.ref f) = true ∧ Binds X.K fd ps []
def tCallLS (X : Cx) (CX : CXT) (k i : Nat) (E : L2.St → XK) (t : TA) : TE := fun σ H Q => ∃ f sp, σ[i]? = some (some (.ref f)) ∧ HeldS X CX k f sp ∧ t σ H fun vs H1 => sp vs H1 Q (E σ)
theorem pe_callLS (hr : Room k X.A) (hN : X.N[i]? = some x) (hv : Vis X.env.scope x) (hx : ∀ σ, PassesAt CX X σ (E σ)) (ha : PA X (e :: es) t)
    (hdb : (x == ("__debug__" : Str)) = false) (hcd : (x == ("__classdict__" : Str)) = false)
    (he : starEach (e :: es) X.env = (false, eval e X.env) :: starEach es X.env) (hpl : (backTo pos (starEach es X.env)).any (·.1) = false) : PE X (.Call (.Name x p) (e :: es) [] pos) (tCallLS X CX k i E t) := by
  refine ⟨fun pins s σ H Q I h => ?_⟩
  obtain ⟨f, sp, hs, hS, ht⟩ := h
  obtain ⟨fd, ps, F, hk, hb⟩ := hS.ex
  refine wpAny_Call_Name_kw (thn ((pe_var (pos := p) hN hv hdb hcd).run pins s σ H (fun v H1 => v = .ref f ∧ H1 = H) I ⟨.ref f, hs, rfl, rfl⟩) fun u s1 ⟨v, H1, I1, r1, q1⟩ => ?_)
  obtain ⟨rfl, rfl⟩ := q1
  cases r1
  refine PySem.W.callWith_K (h₀ := X.base) I.ok.mod.kin hk (thn (ha.run pos pins s1 σ _ _ I1 ht) fun us s2 ⟨vs, H2, I2, r, q⟩ => ⟨I2.kIn, ?_⟩) he hpl
  exact run_fnS F hr hb (hx σ) I2 r q
end
section
variable {X : Cx} {Wx : WX} {e : Expr} {es : List Expr} {ms : MM (List PV)} {pos p : Pos} {x : Str} {i k : Nat}
/-- a def as a value -/
theorem ej_fnv {f n : Nat} {g : List PV → Store → Res PV} (F : FnIs X k f n g) (hg : Gl X (fnNm f)) (hdb : (fnNm f == ("__debug__" : Str)) = false) : EJ X Wx (.Name (fnNm f) p) (fun _ T => .ok (.fn f) T) :=
  PE.imp (pe_glob (v := .ref (He.ga X.K (fnNm f))) hg F.mg rfl hdb) fun σ H Q ⟨w, ρ, T, H0, t, er, p⟩ => p.here t (.fn f)
abbrev callvM (i : Nat) (ms : MM (List PV)) (cf : Nat → List PV → Store → Res PV) : MM PV := fun ρ T => match getv ρ i with
    | some (.fn f) => (match ms ρ T with
      | .ok xs T => cf f xs T
      | _ => .bad)
    | _ => .bad
theorem ej_callv {cf : Nat → List PV → Store → Res PV} {ar : Nat → Option Nat} (F : ∀ f n : Nat, ar f = some n → FnIs X k f n (cf f)) (cfb : ∀ (f : Nat) (xs : List PV) (T : Store), cf f xs T ≠ .bad → ∃ n, ar f = some n ∧ xs.length = n) (tk : Takes X Wx) (hr : Room k X.A) (hN : X.N[i]? = some x) (hv : Vis X.env.scope x)
    (hdb : (x == ("__debug__" : Str)) = false) (hcd : (x == ("__classdict__" : Str)) = false) (ha : AJ X Wx (e :: es) ms) (hs : (e :: es).all notStar = true) :
    EJ X Wx (.Call (.Name x p) (e :: es) [] pos) (callvM i ms cf) := by
  rw [List.all_cons, Bool.and_eq_true] at hs
  refine PE.imp (pe_callLS hr hN hv (fun σ => passAt tk σ) ha hdb hcd (star_cons hs.1 _ _) (star_any hs.2 _ _)) fun σ H Q ⟨w, ρ, T, H0, t, er, p⟩ => ?_
  have p : Pst X.K Wx σ (RR X.K) w H (match getv ρ i with
    | some (.fn f) => (match ms ρ T with
      | .ok xs T => cf f xs T
      | _ => .bad)
    | _ => .bad) Q := p
  cases eg : getv ρ i with
  | none => rw [eg] at p; exact p.elim
  | some v =>
    rw [eg] at p
    cases v <;> first | exact p.elim | skip
    rename_i f
    have e' : ρ[i]? = some (.va (.fn f)) := by
      unfold getv at eg
      split at eg
      · rename_i e'; cases eg; exact e'
      · cases eg
    obtain ⟨u, h1, h2⟩ := er.va i _ e'
    cases h2
    cases em : ms ρ T with
    | ex _ _ => simp only [em] at p; exact p.elim
    | bad => simp only [em] at p; exact p.elim
    | ok xs T1 =>
      simp only [em] at p
      obtain ⟨n, e1, e2⟩ := cfb f xs T1 fun z => by rw [z] at p; exact p
      have FI := F f n e1
      obtain ⟨fd, ps, F1, F2⟩ := FI.ex
      refine ⟨_, _, h1, ⟨fd, ps, F1, FI.kp, F2⟩, w, ρ, T, H0, t, er, ?_⟩
      rw [em]
      intro vs w1 H1 s1 t1 r1
      refine ⟨w1, T1, xs, by rw [← Reps.length r1]; exact e2, t1, r1, ?_⟩
      have p := Pst.step p s1
      cases e3 : cf f xs T1 with
      | ok r T2 => rw [e3] at p; exact p
      | ex r T2 => rw [e3] at p; exact p
      | bad => rw [e3] at p; exact p
end
end MPS
end

section
set_option Elab.async false
set_option linter.all false
set_option maxRecDepth 100000
set_option autoImplicit false
/-! try with several clauses that name what they catch; each clause returns -/
namespace MPS
open PySem PySem.Spec PyProof.Rows L2 MP
/-- a clause: its class, its name's slot, its suite -/
abbrev Clz := Value × Nat × (Addr → Value → Option Addr → TS)
def only (D : Ends) : Ends := { nx := fun _ _ => False, rt := D.rt }
def wNam (K : Frg) (Wo : WX) (D : Ends) : List Clz → WX
  | [] => Wo
  | z :: r => fun cls d σ H => ∃ b, PySem.W.exmOne K cls z.1 = some b ∧ (b = true → ∀ a, H a = none → z.2.1 < σ.length → z.2.2 a cls d (only D) (σ.set z.2.1 (some (.ref a))) H) ∧ (b = false → wNam K Wo D r cls d σ H)
/-- the clauses as they are written -/
inductive HdN (X : Cx) : List ExceptHandler → List Clz → Prop
  | nil : HdN X [] []
  | cons {x n : Str} {z : Clz} {b0 : Stmt} {sts : List Stmt} {p q : Pos} {hds : List ExceptHandler} {l : List Clz} (g : Names X x z.1) (gi : X.N[z.2.1]? = some n) (gl : X.env.kindOf n = some .local)
      (gs : ∀ (a : Addr) (o : Obj) (cls : Value) (d : Option Addr) (pn : List (Addr × Obj)), Zc cls d o → (∃ vs, o.data = .fields vs) → PSs (X.suite a ((a, o) :: pn)) (b0 :: sts) (z.2.2 a cls d)) (r : HdN X hds l) :
      HdN X (.ExceptHandler (some (.Name x p)) (some n) (b0 :: sts) q :: hds) (z :: l)
section
variable {X : Cx} {body : List Stmt} {hd0 : ExceptHandler} {hds : List ExceptHandler} {l : List Clz} {pos : Pos} {tb : WX → TS} {Wo : WX}
/-- the exception at a stands where the clauses look -/
structure Caught (X : Cx) (pins : List (Addr × Obj)) (σ : L2.St) (H : Hp) (cls : Value) (d : Option Addr) (a : Addr) (B : Heap) (sI s' : Shared) (h : Heap) : Prop where
  inv : Inv X pins σ H sI
  nb : ∀ b o, sI.heap.get? b = some o → b ∉ frs X.stack → B.get? b = some o
  up : sI.heap.UpToSlots h
  os : s'.os = sI.os
  ag : AllBare s'.gens
  no : H a = none
  fl : HandSPX.FlyingZ B (X.env :: X.outer) a (Zc cls d) h
section
variable {pins : List (Addr × Obj)} {σ : L2.St} {H : Hp} {cls : Value} {d : Option Addr} {a : Addr} {B h : Heap} {sI s' : Shared}
theorem Caught.on (k : Caught X pins σ H cls d a B sI s' h) : Inv X pins σ H { s' with heap := h } := k.inv.landed k.nb k.fl.1 k.up k.os k.ag
/-- no frame is the exception -/
theorem Caught.nf (k : Caught X pins σ H cls d a B sI s' h) : a ∉ frs (X.env :: X.outer) := fun hm => by
  obtain ⟨o, vs, e, _, hd⟩ := k.fl.there
  obtain ⟨_, o2, e2, ne⟩ := k.fl.2.2.1.mem hm
  rw [e] at e2; cases e2
  exact ne _ hd
theorem Caught.suite (k : Caught X pins σ H cls d a B sI s' h) (hf : X.env.frame = some X.env.locals) : ∃ o, Zc cls d o ∧ (∃ vs, o.data = .fields vs) ∧ h.get? a = some o ∧ Inv (X.suite a ((a, o) :: (X.pn ++ pins))) [] σ H { s' with heap := h } := by
  obtain ⟨o, vs, e, hz, hd⟩ := k.fl.there
  have q := k.nf
  refine ⟨o, hz, ⟨vs, hd⟩, e, k.on.suite e hd k.no (fun z => q ?_) fun hm => q ?_⟩
  · exact List.mem_filterMap.mpr ⟨X.env, List.mem_cons_self, by rw [hf, z]⟩
  · obtain ⟨ev, h1, h2⟩ := List.mem_filterMap.mp hm
    exact List.mem_filterMap.mpr ⟨ev, List.mem_cons_of_mem _ h1, h2⟩
/-- the clauses, one after the other -/
theorem clz_run (hs : X.stack = X.env :: X.outer) (hf : X.env.frame = some X.env.locals) (nd : X.N.Nodup) (tk : Takes X Wo) {D : Ends} {t : Heap} (k : Caught X pins σ H cls d a B sI s' t) : ∀ {hs' : List ExceptHandler} {l' : List Clz}, HdN X hs' l' → wNam X.K Wo D l' cls d σ H →
    wpAny (model X.prog X.w) X.A (handleBy (.ref a) X.env hs') (SP X pins D) X.xe { s' with heap := t }
  | _, _, .nil, w => by
    have ok := k.inv.ok
    refine wpAny_handleBy_nil ?_
    obtain ⟨_, _, _, o, vs, T, _, _, e, _, hd, h1, _⟩ := id k.fl
    unfold PySem.passOn
    refine wpAny_bind (wpAny_field e hd h1 ?_)
    have ne : ¬ ((Value.ref T == Value.none) = true) := by simp
    rw [if_neg ne]
    have out : wpAny (model X.prog X.w) X.A (setFlight (.ref a) X.env.frame) (fun _ s4 => wpAny (model X.prog X.w) X.A (throw (.ref a) : Sem Flow) (SP X pins D) X.xe s4) X.xe { s' with heap := t } := by
      rw [hf]
      refine HandSPX.setFlight_upZ k.fl fun t2 held up2 => wpAny_throw (tk _ _ ?_)
      exact ⟨a, B, sI, pins, σ, H, cls, d, rfl, k.inv, k.nb, k.up.trans up2, .inr (.inr (hs ▸ held)), k.no, k.os, k.ag, w⟩
    first
      | exact wpAny_bind (wpAny_pure (wpAny_bind out))
      | exact wpAny_bind out
  | _, _, .cons (z := z) (x := cx) (p := cp) g gi gl gs r, w => by
    have ok := k.inv.ok
    obtain ⟨b, hb, yes, no⟩ := w
    obtain ⟨o, hz, hv, e, S⟩ := k.suite hf
    refine wpAny_handleBy_cons (codeAny_handlers_test ?_) (by intro q; cases q)
    have ty : PySem.W.Looks (model X.prog X.w) t (typeOf (.ref a)) cls := fun _ _ _ _ kp q => wpAny_typeOf_ref (kp _ _ e) (by rw [hz.1]; exact q)
    have hit := PySem.W.exm_one (M := model X.prog X.w) k.on.kIn ty hb
    obtain ⟨g1, g2, g3⟩ := g
    have at_ : ∀ {Q E : Value → Shared → Prop}, Q z.1 { s' with heap := t } → wpAny (model X.prog X.w) (X.A.mark (some (.ref a))) (eval (.Name cx cp) X.env) Q E { s' with heap := t } := fun {Q E} q => by
      rcases g3 with g3 | ⟨g3, g4, g5⟩
      · exact ld_glob (X := X.suite a ((a, o) :: (X.pn ++ pins))) S g1 g3 q g2
      · exact ld_blt (X := X.suite a ((a, o) :: (X.pn ++ pins))) S g1 g3 g4 q g5 g2
    refine at_ (hit.here ?_)
    cases b with
    | false => exact clz_run hs hf nd tk k r (no rfl)
    | true =>
      refine codeAny_handlers_suite_as ?_
      refine HandSPX.lands_againZ k.fl fun t2 fl2 up2 => ?_
      have k2 : Caught X pins σ H cls d a B sI s' t2 := ⟨k.inv, k.nb, k.up.trans up2, k.os, k.ag, k.no, fl2⟩
      obtain ⟨o2, hz2, hv2, e2, S2⟩ := k2.suite hf
      refine store_ok (X := X.suite a ((a, o2) :: (X.pn ++ pins))) (v := .ref a) S2 nd gi (.inl gl) rfl (fun s5 S5 => ?_) (.inr gl)
      refine wpAny_mono ((gs a o2 cls d (X.pn ++ pins) hz2 hv2).run [] s5 _ H _ S5 (yes rfl a k.no (by rw [k.inv.len]; exact (List.getElem?_eq_some_iff.mp gi).1))) (fun f s6 q => ?_) (fun _ _ q => False.elim q)
      cases f with
      | next => obtain ⟨_, _, _, q⟩ := q; exact q.elim
      | brk => obtain ⟨_, _, _, q⟩ := q; exact q.elim
      | cont => obtain ⟨_, _, _, q⟩ := q; exact q.elim
      | ret u =>
        obtain ⟨v6, σ6, H6, S6, r6, q6⟩ := q
        exact gone_ok (S6.unsuite ok) nd gi gl fun s7 J7 => ⟨_, _, _, J7, r6, q6⟩
end
theorem ps_tryN (hs : X.stack = X.env :: X.outer) (hf : X.env.frame = some X.env.locals) (nd : X.N.Nodup) (tk : Takes X Wo)
    (hb : ∀ (W : WX) (pn : List (Addr × Obj)) (xe : Value → Shared → Prop), Takes (X.tr pn xe) W → PassesOwn (model X.prog X.w) X.A X.env xe → PSs (X.tr pn xe) body (tb W))
    (hh : HdN X (hd0 :: hds) l) : PS X (.Try body (hd0 :: hds) [] [] pos) (fun D σ H => tb (wNam X.K Wo D l) D σ H) := by
  refine ⟨fun pins s σ H D I h => ?_⟩
  have ok := I.ok
  have fr : X.A.frames = some (X.env :: X.outer) := hs ▸ ok.frames
  refine wpAny_Try_except ?_
  let xe1 : Value → Shared → Prop := fun e s1 => wpAny (model X.prog X.w) X.A (noteFrame e X.env) (fun _ s2 => wpAny (model X.prog X.w) X.A (setFlight e none) (fun _ s3 => wpAny (model X.prog X.w) X.A (handleBy e X.env (hd0 :: hds)) (SP X pins D) X.xe s3) X.xe s2) X.xe s1
  have tk1 : Takes (X.tr (X.pn ++ pins) xe1) (wNam X.K Wo D l) := fun u s' xx => by
    obtain ⟨a, B, sI, pins', σ', H', cls, d, rfl, J', nb, up, sky, na, os, ag, w⟩ := xx
    have J : Inv X pins σ' H' sI := J'.ofTry ok
    show wpAny (model X.prog X.w) X.A (noteFrame (.ref a) X.env) _ _ _
    refine Sky.land (B := B) (L := X.env.locals) (Z := Zc cls d) Zc.steady fr hf (hs ▸ sky) fun t fl up2 => ?_
    exact clz_run hs hf nd tk ⟨J, nb, up.trans up2, os, ag, na, fl⟩ hh w
  refine wpAny_mono ((hb (wNam X.K Wo D l) (X.pn ++ pins) xe1 tk1 PassesOwn.looking).run [] s σ H D (I.toTry _) h) (fun f s1 q => ?_) (fun e s1 q => q)
  cases f with
  | ret u => obtain ⟨v, σ', H', J, r, q⟩ := q; exact ⟨v, σ', H', J.ofTry ok, r, q⟩
  | next => obtain ⟨σ', H', J, q⟩ := q; exact wpAny_execs_nil ⟨σ', H', J.ofTry ok, q⟩
  | brk => obtain ⟨σ', H', J, q⟩ := q; exact ⟨σ', H', J.ofTry ok, q⟩
  | cont => obtain ⟨σ', H', J, q⟩ := q; exact ⟨σ', H', J.ofTry ok, q⟩
end
/-! ### the clauses that we know -/
def exA (K : Frg) (n : Nat) : Addr := He.ga K (excName n)
/-- class, slot, text -/
abbrev Hnd := Nat × Nat × Str
def toClzS (K : Frg) (n i : Nat) (s : Str) : Addr → Value → Option Addr → TS := fun a cls d D σ H => cls = .ref (exA K n) ∧ d = none ∧ σ[i]? = some (some (.ref a)) ∧ D.rt (.str s) H
def toClz (K : Frg) (h : Hnd) : Clz := (.ref (exA K h.1), h.2.1, toClzS K h.1 h.2.1 h.2.2)
theorem wNam_of {K : Frg} {Wo : WX} {D : Ends} {n : Nat} {s : Str} {σ : L2.St} {H : Hp} : ∀ {hs : List Hnd}, (∀ h ∈ hs, PySem.W.exmOne K (.ref (exA K n)) (.ref (exA K h.1)) = some (decide (n = h.1))) → hit hs n = some s → D.rt (.str s) H → wNam K Wo D (hs.map (toClz K)) (.ref (exA K n)) none σ H
  | [], _, h, _ => by cases h
  | h :: hs, k, e, q => by
    refine ⟨decide (n = h.1), k h List.mem_cons_self, fun z a na lt => ?_, fun z => ?_⟩
    · have z := of_decide_eq_true z
      have e2 : some h.2.2 = some s := by rw [← e]; unfold hit; rw [if_pos z]
      cases e2
      subst z
      exact ⟨rfl, rfl, List.getElem?_set_self lt, q⟩
    · have z := of_decide_eq_false z
      have e2 : hit hs n = some s := by rw [← e]; conv => rhs; unfold hit; rw [if_neg z]
      exact wNam_of (fun h' m => k h' (List.mem_cons_of_mem _ m)) e2 q
theorem hit_mem {s : Str} {n : Nat} : ∀ {hs : List Hnd}, hit hs n = some s → ∃ z ∈ hs, n = z.1
  | [], h => by cases h
  | z :: hs, h => by
    unfold hit at h
    by_cases e : n = z.1
    · exact ⟨z, List.mem_cons_self, e⟩
    · rw [if_neg e] at h
      obtain ⟨y, hy, e2⟩ := hit_mem h
      exact ⟨y, List.mem_cons_of_mem _ hy, e2⟩
theorem boot_ve : bootBuiltins "ValueError" = some (.type "ValueError") := by decide +kernel
/-- what a class of ours is to an except clause, to isinstance -/
structure XcIs (X : Cx) (n : Nat) : Prop where
  isE : ExcC X.K (exA X.K n)
  kit : PySem.W.kitOne X.K (.ref (exA X.K n)) (.type "ValueError") = some true
  mg : X.mg (excName n) = some (.ref (exA X.K n))
theorem pss_hand {X : Cx} {n i : Nat} {a : Addr} {o : Obj} {cls : Value} {d : Option Addr} {pn : List (Addr × Obj)} {nm A B : Str} {p1 p2 p3 p4 p5 p6 p7 p8 : Pos} {j1 j2 : Nat} (F : XcIs X n) (hz : Zc cls d o) (hv : ∃ vs, o.data = .fields vs) (hi : X.N[i]? = some nm) (hl : X.env.scope.names.lookup nm = some .local)
    (hd : (nm == ("__debug__" : Str)) = false ∧ (nm == ("__classdict__" : Str)) = false) (g1 : Gl X "isinstance") (m1 : X.mg "isinstance" = none) (g2 : Gl X "ValueError") (m2 : X.mg "ValueError" = none) :
    PSs (X.suite a ((a, o) :: pn)) [.Return (some (.IfExp (.Call (.Name "isinstance" p1) [.Name nm p2, .Name "ValueError" p3] [] p4) (.Constant (.str A) j1 p5) (.Constant (.str B) j2 p6) p7)) p8] (toClzS X.K n i A a cls d) := by
  refine ⟨fun pins s σ H D I h => ?_⟩
  obtain ⟨e1, e2, e3, e4⟩ := h
  subst e1 e2
  have pv : PE (X.suite a ((a, o) :: pn)) (.Name nm p2) (tVar i) := pe_var hi (.inl hl) hd.1 hd.2
  have pt : PE (X.suite a ((a, o) :: pn)) (.Name "ValueError" p3) (tC (.ty "ValueError")) := pe_bltn g2 m2 boot_ve rfl
  have hA := pa_cons pv (pa_cons pt pa_nil (star_cons rfl _ _)) (star_cons rfl _ _)
  have pc := pe_callB (p := p1) (pos := p4) (call_isE F.isE hz hv) g1 m1 boot_isi hA (by decide) (by decide) (star_cons rfl _ _) (star_any rfl _ _)
  refine (pss_cons (ps_ret (pe_ifExp (pt_val pc) pe_str pe_str)) pss_nil).run pins s σ H D I ?_
  refine ⟨.ref a, e3, ?_⟩
  refine ⟨.ty "ValueError", .type "ValueError", true, rfl, fun u r => r, F.kit, ?_⟩
  exact ⟨true, rfl, e4⟩
end MPS
end

section
set_option Elab.async false
set_option linter.all false
set_option maxRecDepth 100000
set_option autoImplicit false
namespace MPS
open PySem PySem.Spec PyProof.Rows L2 MP
/-! ### xs.count(e) -/
def rCntD (K : Frg) : V → List V → Hp → VK → Prop := fun x xs H Q => ∃ (a : Addr) (y : V) (d : PyData) (ds : List PyData), x = V.ref a ∧ xs = [y] ∧ Dp K H (V.ref a) (.list ds) ∧ Dp K H y d ∧
  SeqAt.shaped (.list ds) = true ∧ SeqAt.shaped d = true ∧ Q (.int (ds.countP fun z => PyData.eqv z d : Nat)) H
theorem mt_cntD {X : Cx} (hu : X.A.units + 65 < cLine) : MtR X "list.count" (rCntD X.K) := by
  intro pins s σ H x xs v us Q I rx rxs h
  obtain ⟨a, y, d, ds, rfl, rfl, hl, hy, sl, sd, q⟩ := h
  cases rx
  cases rxs with
  | cons ry rt =>
    rename_i uy ut
    cases rt
    obtain ⟨bs, r1⟩ := Dp.reads I d y uy hy ry
    have hxs : PyData.canLayAll0 ds = true := SeqAt.canLay_of_shaped sl
    have hroom : X.A.units + 1 + min (PyData.depthAll ds) d.depth < cLine := room_in_shaped sd hu
    cases hl with
    | lst hs ha =>
      obtain ⟨its, rv, ⟨⟨cls, dd, data, sls⟩, n, ho, hc, hdn, hdt⟩, hlen⟩ := I.list hs
      simp only at hc hdt
      subst hc hdt
      obtain ⟨as, h4⟩ := Dp.readsAll I ds _ its ha rv
      have hmap : its.map (SeqAt.readOf s.heap) = ds := SeqAt.readsAll_map ds its as hxs h4
      refine call_meets PySem.F.slot_list_count ⟨_, ho, rfl⟩ PySem.F.entry_list_count (PySem.F.args_list_count_2 _ _)
        (SeqAt.list_countAt a its.toArray n dd sls uy (fun u => PyData.eqv (SeqAt.readOf s.heap u) d)) ⟨ho, SeqAt.items_eqAt (vs := its.toArray) (show ReadsAll s.heap its.toArray.toList ds as from h4) r1 hxs (SeqAt.canLay_of_shaped sd) hroom, ?_⟩
      refine ⟨.int (ds.countP fun z => PyData.eqv z d : Nat), H, I.tok _, ⟨s.toks, ?_⟩, q⟩
      show Value.int ((its.toArray.toList.countP fun u => PyData.eqv (SeqAt.readOf s.heap u) d : Nat) : Int) s.toks = Value.int ((ds.countP fun z => PyData.eqv z d : Nat) : Int) s.toks
      rw [← hmap, List.countP_map]
      rfl
theorem cntv_ok {p : PV} {ps : List PV} {n m : Nat} (h : pln n p = true) (h' : ps.all (pln m) = true) : (ps.countP fun y => eqv y p) = (toDs ps).countP fun z => PyData.eqv z (toD p) := by
  induction ps with
  | nil => rw [toDs]; rfl
  | cons q qs ih =>
    rw [List.all_cons, Bool.and_eq_true] at h'
    rw [toDs, List.countP_cons, List.countP_cons, ih h'.2, eqv_ok m n q p h'.1 h]
section
variable {X : Cx} {Wx : WX} {e : Expr} {me : MM PV} {py ap cp : Pos} {i : Nat} {x : Str}
theorem ej_cnt (hu : X.A.units + 65 < cLine) (hN : X.N[i]? = some x) (hv : Vis X.env.scope x) (hd : (x == ("__debug__" : Str)) = false) (hcd : (x == ("__classdict__" : Str)) = false) (he : EJ X Wx e me) (hs : notStar e = true) (hl : (ap.endLine == cp.line) = true) :
    EJ X Wx (.Call (.Attribute (.Name x py) "count" ap) [e] [] cp) fun ρ T => match getv ρ i with
      | some (.lst ys) => (me ρ T).bind fun v T => .of T (MP.cntv v ys)
      | _ => .bad :=
  PE.imp (pe_bm PySem.F.plainAttrs_list PySem.F.slot_list_count PySem.F.type_list_count (mt_cntD hu) (pe_var hN hv hd hcd) (pa_cons he pa_nil (star_cons hs _ _)) rfl (few1 hs _ _) hl (star_cons hs _ _) rfl) fun σ H Q ⟨w, ρ, T, H0, t, er, p⟩ => by
    have p : Pst X.K Wx σ (RR X.K) w H (match getv ρ i with
      | some (.lst ys) => (me ρ T).bind fun v T => .of T (MP.cntv v ys)
      | _ => .bad) Q := p
    cases eg : getv ρ i with
    | none => rw [eg] at p; exact p.elim
    | some v =>
      rw [eg] at p
      cases v <;> first | exact p.elim | skip
      rename_i ys
      have e' : ρ[i]? = some (.va (.lst ys)) := by
        unfold getv at eg
        split at eg
        · rename_i e'; cases eg; exact e'
        · cases eg
      obtain ⟨u, h1, h2⟩ := er.va i _ e'
      obtain ⟨a, vs, rfl, h3, h4⟩ := (show RepT X.K w H (.lst ys) u from .inl h2).lst t
      obtain ⟨w, ρ', T', H0', t', er', p'⟩ := next (m := me) (R := RR X.K) t er p
      refine ⟨.ref a, h1, .inl ⟨rfl, vs, .inl h3⟩, w, ρ', T', H0', t', er', p'.mono fun y H1 ⟨v, w1, T1, s1, t1, er1, r1, q1⟩ => ?_⟩
      obtain ⟨u', k1, k2⟩ := er1.va i _ e'
      rw [h1] at k1; cases k1
      obtain ⟨a', us, k3, k4, k5⟩ := (show RepT X.K w1 H1 (.lst ys) (.ref a) from .inl k2).lst t1
      cases k3
      unfold MP.cntv at q1
      cases hl : (pln 40 v && ys.all (pln 40)) with
      | true =>
        rw [hl] at q1
        rw [Bool.and_eq_true] at hl
        refine ⟨a, y, toD v, toDs ys, rfl, rfl, .lst (.inl k4) (dp_reps (dp_rep t1 40) hl.2 k5), dp_rep t1 40 _ _ hl.1 r1, lst_shaped hl.2, pln_shaped hl.1, ?_⟩
        rw [← cntv_ok hl.1 hl.2]
        exact q1.here t1 (.int _)
      | false => rw [hl] at q1; exact q1.elim
end
end MPS
end

section
set_option Elab.async false
set_option linter.all false
set_option maxRecDepth 100000
set_option autoImplicit false
/-! does a written text say what a term of MP says? -/
namespace MPS
open PySem PySem.Spec PyProof.Rows L2 MP
structure Ck where
  N : List Str
  sc : List (Str × NameKind)
  st : List (Str × NameKind)
  ar : Nat → Option Nat
  exs : Nat → Bool
  co : Nat → Bool
def dbg (x : Str) : Bool := !(x == ("__debug__" : Str)) && !(x == ("__classdict__" : Str))
def bltN : List Str := ["range", "zip", "enumerate", "len", "abs", "int", "min", "max", "sum", "all", "any", "tuple", "list", "str", "isinstance", "bool", "ValueError"]
def Ck.vis (c : Ck) (x : Str) : Bool := match c.sc.lookup x with
  | some .local => true
  | some .cell => true
  | some .free => true
  | _ => false
def Ck.loc (c : Ck) (x : Str) : Bool := match c.st.lookup x with
  | some .local => true
  | some .cell => true
  | _ => false
def Ck.gl (c : Ck) (x : Str) : Bool := match c.sc.lookup x with
  | some .globalImplicit => true
  | _ => false
def Ck.bl (c : Ck) (x : Str) : Bool := c.gl x && bltN.contains x
def Ck.nm (c : Ck) (i : Nat) (x : Str) : Bool := decide (c.N[i]? = some x) && c.vis x && dbg x
def Ck.to (c : Ck) (i : Nat) (x : Str) : Bool := decide (c.N[i]? = some x) && c.loc x
/-- within a comprehension of that scope -/
def Ck.blk (c : Ck) (scope : Scope) : Ck := { c with sc := (relS scope { scope with names := c.sc, kind := .function }).names, st := scope.names }

/-! ### a written text's parts -/
def aName : Expr → Option Str
  | .Name x _ => some x
  | _ => none
def aConst : Expr → Option Const
  | .Constant k _ _ => some k
  | _ => none
def aBin : Expr → Option (Expr × Operator × Expr)
  | .BinOp l o r _ => some (l, o, r)
  | _ => none
def aUn : Expr → Option (PySem.UnaryOp × Expr)
  | .UnaryOp o x _ => some (o, x)
  | _ => none
def aCmp : Expr → Option (Expr × List CmpOp × List Expr)
  | .Compare l o r _ => some (l, o, r)
  | _ => none
def aBool : Expr → Option (PySem.BoolOp × List Expr)
  | .BoolOp o xs _ => some (o, xs)
  | _ => none
def aIf : Expr → Option (Expr × Expr × Expr)
  | .IfExp a b c _ => some (a, b, c)
  | _ => none
def aTup : Expr → Option (List Expr)
  | .Tuple xs _ _ => some xs
  | _ => none
def aLst : Expr → Option (List Expr)
  | .List xs _ => some xs
  | _ => none
def aSub : Expr → Option (Expr × Expr)
  | .Subscript a b _ => some (a, b)
  | _ => none
def aSlice : Expr → Option (Option Expr × Option Expr)
  | .Slice a b none _ => some (a, b)
  | _ => none
/-- f(..), f a name -/
def aCall : Expr → Option (Str × List Expr)
  | .Call (.Name x _) xs [] _ => some (x, xs)
  | _ => none
def aCnt : Expr → Option (Str × Str × Expr)
  | .Call (.Attribute (.Name x _) m ap) [e] [] cp => if ap.endLine == cp.line then some (x, m, e) else none
  | _ => none
def aComp : Expr → Option (Expr × List Comprehension × Scope)
  | .ListComp e gs s _ => some (e, gs, s)
  | _ => none
section
variable {e : Expr}
theorem aName_eq {x : Str} (h : aName e = some x) : ∃ p, e = .Name x p := by cases e <;> cases h; exact ⟨_, rfl⟩
theorem aConst_eq {x : Const} (h : aConst e = some x) : ∃ k p, e = .Constant x k p := by cases e <;> cases h; exact ⟨_, _, rfl⟩
theorem aBin_eq {x : Expr × Operator × Expr} (h : aBin e = some x) : ∃ p, e = .BinOp x.1 x.2.1 x.2.2 p := by cases e <;> cases h; exact ⟨_, rfl⟩
theorem aUn_eq {x : PySem.UnaryOp × Expr} (h : aUn e = some x) : ∃ p, e = .UnaryOp x.1 x.2 p := by cases e <;> cases h; exact ⟨_, rfl⟩
theorem aCmp_eq {x : Expr × List CmpOp × List Expr} (h : aCmp e = some x) : ∃ p, e = .Compare x.1 x.2.1 x.2.2 p := by cases e <;> cases h; exact ⟨_, rfl⟩
theorem aBool_eq {x : PySem.BoolOp × List Expr} (h : aBool e = some x) : ∃ p, e = .BoolOp x.1 x.2 p := by cases e <;> cases h; exact ⟨_, rfl⟩
theorem aIf_eq {x : Expr × Expr × Expr} (h : aIf e = some x) : ∃ p, e = .IfExp x.1 x.2.1 x.2.2 p := by cases e <;> cases h; exact ⟨_, rfl⟩
theorem aTup_eq {x : List Expr} (h : aTup e = some x) : ∃ k p, e = .Tuple x k p := by cases e <;> cases h; exact ⟨_, _, rfl⟩
theorem aLst_eq {x : List Expr} (h : aLst e = some x) : ∃ p, e = .List x p := by cases e <;> cases h; exact ⟨_, rfl⟩
theorem aSub_eq {x : Expr × Expr} (h : aSub e = some x) : ∃ p, e = .Subscript x.1 x.2 p := by cases e <;> cases h; exact ⟨_, rfl⟩
theorem aSlice_eq {x : Option Expr × Option Expr} (h : aSlice e = some x) : ∃ p, e = .Slice x.1 x.2 none p := by
  cases e <;> first | (cases h; done) | skip
  rename_i a b s p
  cases s with
  | none => cases h; exact ⟨_, rfl⟩
  | some _ => cases h
theorem aCnt_eq {x : Str × Str × Expr} (h : aCnt e = some x) : ∃ p ap cp, e = .Call (.Attribute (.Name x.1 p) x.2.1 ap) [x.2.2] [] cp ∧ (ap.endLine == cp.line) = true := by
  cases e <;> first | (cases h; done) | skip
  rename_i f xs ks q
  cases f <;> first | (cases h; done) | skip
  rename_i o m ap
  cases o <;> first | (cases h; done) | skip
  rename_i y p
  match xs, ks, h with
  | [z], [], h =>
    have h : (if (ap.endLine == q.line) = true then some (y, m, z) else none) = some x := h
    by_cases c : (ap.endLine == q.line) = true
    · rw [if_pos c] at h; cases h; exact ⟨_, _, _, rfl, c⟩
    · rw [if_neg c] at h; cases h
theorem aCall_eq {x : Str × List Expr} (h : aCall e = some x) : ∃ p q, e = .Call (.Name x.1 p) x.2 [] q := by
  cases e <;> first | (cases h; done) | skip
  rename_i f xs ks q
  cases f <;> first | (cases h; done) | skip
  cases ks with
  | nil => cases h; exact ⟨_, _, rfl⟩
  | cons _ _ => cases h
theorem aComp_eq {x : Expr × List Comprehension × Scope} (h : aComp e = some x) : ∃ p, e = .ListComp x.1 x.2.1 x.2.2 p := by cases e <;> cases h; exact ⟨_, rfl⟩
end
/-- tested by its value -/
def plainT : Expr → Bool
  | .UnaryOp .Not _ _ => false
  | .BoolOp .. => false
  | .IfExp .. => false
  | .Compare .. => false
  | _ => true
def notSet : Expr → Bool
  | .Set .. => false
  | _ => true
theorem plainT_ok {e : Expr} (h : plainT e = true) (env : PySem.Env) (whole : Sem Value) : isTrue e env whole = (do let v ← whole; standAt e.pos; holding [v] (truthy v)) := by
  cases e <;> first | rfl | (cases h; done) | skip
  rename_i o x p
  cases o <;> first | rfl | cases h
theorem notSet_ok {e : Expr} (h : notSet e = true) (env : PySem.Env) (x : Value) : foldedSetIterable e env x = pure x := by
  cases e <;> first | rfl | cases h
theorem plainIx_ok {e : Expr} (h : notSlice e = true) : PlainIx e := by
  intro o i
  cases e <;> first | rfl | cases h

/-! ### targets -/
mutual
def ckG (c : Ck) : Tg → Expr → Bool
  | .nm i, e => match aName e with
    | some x => c.to i x
    | none => false
  | .tp ts, e => match aTup e with
    | some xs => ckGs c ts xs && xs.all notStar && decide (xs.length = Tgs.len ts)
    | none => false
def ckGs (c : Ck) : Tgs → List Expr → Bool
  | .nil, xs => xs.isEmpty
  | .cons t ts, xs => match xs with
    | x :: xs => ckG c t x && notStar x && ckGs c ts xs
    | [] => false
end
def isTupE : Expr → Bool
  | .Tuple .. => true
  | _ => false
/-! ### constants -/
def conOk : PV → Const → Bool
  | .non, .none => true
  | .bl a, .bool b => decide (a = b)
  | .int a, .int b => decide (a = b)
  | .str a, .str b => decide (a = b)
  | _, _ => false
def pkIs (c : Ck) (a : E) (l : Expr) : Bool := match a with
  | .pk i => (match aName l with
    | some x => c.nm i x
    | none => false)
  | _ => false
/-- looked at: a row of ours, or a value -/
def pkOr (c : Ck) (a : E) (l : Expr) (r : Bool) : Bool := r || pkIs c a l
def biNm : Bi → String
  | .len => "len"
  | .abs => "abs"
  | .int_ => "int"
  | .min => "min"
  | .max => "max"
  | .sum => "sum"
  | .all => "all"
  | .any => "any"
  | .tuple_ => "tuple"
  | .list_ => "list"
  | .str_ => "str"
def tysOk (c : Ck) : List Ty → List Expr → Bool
  | [], xs => xs.isEmpty
  | t :: ts, xs => match xs with
    | x :: xs => (match aName x with
      | some y => decide (y = Str.ofString (tyNm t)) && c.bl y
      | none => false) && tysOk c ts xs
    | [] => false
def isiOk (c : Ck) (ts : List Ty) (x : Expr) : Bool := match aTup x with
  | some xs => tysOk c ts xs && decide (ts.length ≤ 1000) && !ts.isEmpty
  | none => tysOk c ts [x] && decide (ts.length = 1)
def Cl.len : Cl → Nat
  | .nil => 0
  | .cons _ _ _ r => Cl.len r + 1
def Es.len : Es → Nat
  | .nil => 0
  | .cons _ r => Es.len r + 1
def blkIs (c : Ck) (vs : List Nat) (scope : Scope) : Option (List (Str × Nat)) :=
  let own := vs.filterMap fun i => (c.N[i]?).map fun x => (x, i)
  if decide (own.map (·.2) = vs) && blkC c.N { scope with names := c.sc } scope own then some own else none
mutual
def ckE (c : Ck) (t : Bool) : E → Expr → Bool
  | .var i, e => (match aName e with
    | some x => c.nm i x
    | none => false)
  | .pk i, e => t && pkIs c (.pk i) e
  | .con v, e => (match aConst e with
    | some k => conOk v k
    | none => false)
  | .glo n, e => (match aName e with
    | some x => decide (x = coNm n) && c.gl x && c.co n && dbg x
    | none => false)
  | .fnv n, e => (match aName e with
    | some x => decide (x = fnNm n) && c.gl x && dbg x && (c.ar n).isSome
    | none => false)
  | .bin o a b, e => (match aBin e with
    | some (l, op, r) => decide (op = bopOf o) && pkOr c a l (ckE c false a l) && pkOr c b r (ckE c false b r)
    | none => false)
  | .neg a, e => (match aUn e with
    | some (op, x) => decide (op = .USub) && pkOr c a x (ckE c false a x) && !t
    | none => false)
  | .nt a, e => (match aUn e with
    | some (op, x) => decide (op = .Not) && (if t then ckE c true a x else pkOr c a x (ckE c false a x))
    | none => false)
  | .cmp o a b, e => (match aCmp e with
    | some (l, [op], [r]) => decide (op = copOf o) && pkOr c a l (ckE c false a l) && pkOr c b r (ckE c false b r) && !(behindInMarks (copOf o) r)
    | _ => false)
  | .cmp2 o p a b d, e => (match aCmp e with
    | some (l, [op, op2], [r, s]) => decide (op = copOf o) && decide (op2 = copOf p) && pkOr c a l (ckE c false a l) && pkOr c b r (ckE c false b r) && pkOr c d s (ckE c false d s) && !(lastMarks [copOf o, copOf p] [r, s])
    | _ => false)
  | .an es, e => (match aBool e with
    | some (op, xs) => decide (op = .And) && ckB c t es xs
    | none => false)
  | .or_ es, e => (match aBool e with
    | some (op, xs) => decide (op = .Or) && ckB c t es xs
    | none => false)
  | .ife d a b, e => (match aIf e with
    | some (x, y, z) => ckE c true d x && ckE c false a y && ckE c false b z && !t
    | none => false)
  | .tup es, e => (match aTup e with
    | some xs => ckEs c es xs && decide (xs.length ≤ 1000)
    | none => false)
  | .lst es, e => (match aLst e with
    | some xs => ckEs c es xs && decide (xs.length ≤ 1000)
    | none => false)
  | .nce es, e => (match aLst e with
    | some xs => ckEs c es xs && decide (xs.length ≤ 1000)
    | none => false)
  | .idx a i, e => (match aSub e with
    | some (x, y) => pkOr c a x (ckE c false a x) && pkOr c i y (ckE c false i y) && notSlice y
    | none => false)
  | .sl a lo hi, e => (match aSub e with
    | some (x, y) => (match aSlice y with
      | some (l, h) => pkOr c a x (ckE c false a x) && (match l with
        | some l => !(isN lo) && pkOr c lo l (ckE c false lo l)
        | none => isN lo) && (match h with
        | some h => !(isN hi) && pkOr c hi h (ckE c false hi h)
        | none => isN hi)
      | none => false)
    | none => false)
  | .noe, _ => false
  | .call f es, e => (match aCall e with
    | some (x, xs) => decide (x = fnNm f) && c.gl x && dbg x && decide (c.ar f = some xs.length) && !xs.isEmpty && ckEs c es xs && decide (xs.length ≤ 1000)
    | none => false)
  | .callv i es, e => (match aCall e with
    | some (x, xs) => c.nm i x && !xs.isEmpty && ckEs c es xs
    | none => false)
  | .cnt i a, e => (match aCnt e with
    | some (x, m, y) => c.nm i x && decide (m = ("count" : Str)) && ckE c false a y && notStar y
    | none => false)
  | .bi f es, e => (match aCall e with
    | some (x, xs) => decide (x = Str.ofString (biNm f)) && c.bl x && !xs.isEmpty && ckTs c es xs
    | none => false)
  | .isi a ts, e => (match aCall e with
    | some (x, [y, z]) => decide (x = ("isinstance" : Str)) && c.bl x && pkOr c a y (ckE c false a y) && notStar y && isiOk c ts z
    | _ => false)
  | .comp vs elt cl, e => (match aComp e with
    | some (x, gs, scope) => (match blkIs c vs scope with
      | some _ => ckE (c.blk scope) false elt x && ckC c (c.blk scope) vs true cl gs && decide (1 ≤ Cl.len cl ∧ Cl.len cl ≤ 2)
      | none => false)
    | none => false)
  | .frm tu it, e => (match aCall e with
    | some (x, [y]) => decide (x = (if tu then ("tuple" : Str) else "list")) && c.bl x && ckR c it y
    | _ => false)
/-- values in a row -/
def ckEs (c : Ck) : Es → List Expr → Bool
  | .nil, xs => xs.isEmpty
  | .cons a es, xs => match xs with
    | x :: xs => ckE c false a x && notStar x && ckEs c es xs
    | [] => false
/-- the same, rows of ours looked at -/
def ckTs (c : Ck) : Es → List Expr → Bool
  | .nil, xs => xs.isEmpty
  | .cons a es, xs => match xs with
    | x :: xs => pkOr c a x (ckE c false a x) && notStar x && ckTs c es xs
    | [] => false
/-- what and, or join -/
def ckB (c : Ck) (t : Bool) : Es → List Expr → Bool
  | .nil, _ => false
  | .cons a es, xs => match xs with
    | x :: xs => ckE c t a x && (if es.isNil then xs.isEmpty else ckB c t es xs)
    | [] => false
/-- a comprehension's tests -/
def ckF (c : Ck) : Es → List Expr → Bool
  | .nil, xs => xs.isEmpty
  | .cons a es, xs => match xs with
    | [x] => ckE c true a x && es.isNil
    | _ => false
def ckC (c b : Ck) (vs : List Nat) (fst : Bool) : Cl → List Comprehension → Bool
  | .nil, gs => gs.isEmpty
  | .cons tg it ifs r, gs => match gs with
    | g :: gs => decide (g.is_async = 0) && ckG b tg g.target && (tg.ns.all fun i => vs.contains i) && (if fst then ckI c true it g.iter g.target else ckI b false it g.iter g.target) && notSet g.iter && ckF b ifs g.ifs && ckC c b vs false r gs
    | [] => false
/-- what is walked; pk: a row of ours may be -/
def ckI (c : Ck) (pk : Bool) : MP.It → Expr → Expr → Bool
  | .ex a, e, _ => if pk then pkOr c a e (ckE c false a e) else ckE c false a e
  | .rng1 a, e, _ => (match aCall e with
    | some (x, [y]) => decide (x = ("range" : Str)) && c.bl x && pkOr c a y (ckE c false a y) && notStar y
    | _ => false)
  | .rng2 a b, e, _ => (match aCall e with
    | some (x, [y, z]) => decide (x = ("range" : Str)) && c.bl x && pkOr c a y (ckE c false a y) && notStar y && pkOr c b z (ckE c false b z) && notStar z
    | _ => false)
  | .zip a b, e, tg => isTupE tg && (match aCall e with
    | some (x, [y, z]) => decide (x = ("zip" : Str)) && c.bl x && (if pk then pkOr c a y (ckE c false a y) else ckE c false a y) && notStar y && (if pk then pkOr c b z (ckE c false b z) else ckE c false b z) && notStar z
    | _ => false)
  | .zip3 _ _ _, _, _ => false
  | .enu a, e, tg => isTupE tg && (match aCall e with
    | some (x, [y]) => decide (x = ("enumerate" : Str)) && c.bl x && (if pk then pkOr c a y (ckE c false a y) else ckE c false a y) && notStar y
    | _ => false)
/-- a range as it stands -/
def ckR (c : Ck) : MP.It → Expr → Bool
  | .rng1 a, e => (match aCall e with
    | some (x, [y]) => decide (x = ("range" : Str)) && c.bl x && pkOr c a y (ckE c false a y) && notStar y
    | _ => false)
  | .rng2 a b, e => (match aCall e with
    | some (x, [y, z]) => decide (x = ("range" : Str)) && c.bl x && pkOr c a y (ckE c false a y) && notStar y && pkOr c b z (ckE c false b z) && notStar z
    | _ => false)
  | .ex _, _ => false
  | .zip _ _, _ => false
  | .zip3 _ _ _, _ => false
  | .enu _, _ => false
end
end MPS
end

section
set_option Elab.async false
set_option linter.all false
set_option maxRecDepth 100000
set_option autoImplicit false
/-! what is checked holds: expressions -/
namespace MPS
open PySem PySem.Spec PyProof.Rows L2 MP
/-- the context knows what the check knows -/
structure COk (X : Cx) (Wx : WX) (C : MP.Ctx) (k : Nat) (c : Ck) : Prop where
  calm : X.calm = true
  nd : X.N.Nodup
  N : X.N = c.N
  sc : X.env.scope.names = c.sc
  st : ∀ (x : Str) (k : NameKind), c.st.lookup x = some k → k ≠ .free → X.env.scope.names.lookup x = some k
  kind : X.env.scope.kind = .function
  fn : ∀ x : Str, c.st.lookup x = some .cell → X.fn x = true
  hu : X.A.units + 65 < cLine
  tk : Takes X Wx
  room : Room k X.A
  fns : ∀ f n : Nat, c.ar f = some n → FnIs X k f n (C.cf f)
  exs : ∀ n : Nat, c.exs n = true → ExIs X n
  xcs : ∀ n : Nat, c.exs n = true → XcIs X n
  exm : ∀ n m : Nat, c.exs n = true → c.exs m = true → PySem.W.exmOne X.K (.ref (exA X.K n)) (.ref (exA X.K m)) = some (decide (n = m))
  cfb : ∀ (f : Nat) (xs : List PV) (T : Store), C.cf f xs T ≠ .bad → ∃ n, c.ar f = some n ∧ xs.length = n
  co : ∀ n : Nat, c.co n = true → ∃ (v : V) (u : Value), X.mg (coNm n) = some u ∧ RelV v u ∧ ∀ p, C.gl n = some p → ∀ w, Rep X.K w p v
  bl : ∀ x : Str, bltN.contains x = true → X.mg x = none
  pas : PassesOwn (model X.prog X.w) X.A X.env X.xe
section
variable {X : Cx} {Wx : WX} {C : MP.Ctx} {k : Nat} {c : Ck}
theorem dbg_ok {x : Str} (h : dbg x = true) : (x == ("__debug__" : Str)) = false ∧ (x == ("__classdict__" : Str)) = false := by
  unfold dbg at h
  simpa using h
theorem COk.vis (h : COk X Wx C k c) {x : Str} (e : c.vis x = true) : Vis X.env.scope x := by
  unfold Ck.vis at e
  unfold Vis
  rw [h.sc]
  split at e
  · exact .inl (by assumption)
  · exact .inr (.inl (by assumption))
  · exact .inr (.inr (by assumption))
  · cases e
theorem COk.gl (h : COk X Wx C k c) {x : Str} (e : c.gl x = true) : Gl X x := by
  unfold Ck.gl at e
  show X.env.scope.names.lookup x = some .globalImplicit
  rw [h.sc]
  split at e
  · assumption
  · cases e
theorem COk.blt (h : COk X Wx C k c) {x : Str} (e : c.bl x = true) : Gl X x ∧ X.mg x = none := by
  unfold Ck.bl at e
  rw [Bool.and_eq_true] at e
  exact ⟨h.gl e.1, h.bl x e.2⟩
theorem COk.nm (h : COk X Wx C k c) {i : Nat} {x : Str} (e : c.nm i x = true) : X.N[i]? = some x ∧ Vis X.env.scope x ∧ (x == ("__debug__" : Str)) = false ∧ (x == ("__classdict__" : Str)) = false := by
  unfold Ck.nm at e
  rw [Bool.and_eq_true, Bool.and_eq_true, decide_eq_true_eq] at e
  exact ⟨by rw [h.N]; exact e.1.1, h.vis e.1.2, dbg_ok e.2⟩
theorem COk.to (h : COk X Wx C k c) {i : Nat} {x : Str} (e : c.to i x = true) : X.N[i]? = some x ∧ Loc X.env.scope x ∧ (X.fn x = true ∨ X.env.scope.names.lookup x = some .local) := by
  unfold Ck.to Ck.loc at e
  rw [Bool.and_eq_true, decide_eq_true_eq] at e
  obtain ⟨e1, e2⟩ := e
  refine ⟨by rw [h.N]; exact e1, ?_⟩
  split at e2
  · rename_i z
    have := h.st x _ z (by decide)
    exact ⟨.inl this, .inr this⟩
  · rename_i z
    exact ⟨.inr (h.st x _ z (by decide)), .inl (h.fn x z)⟩
  · cases e2
theorem relab_names (scope : Scope) (env : PySem.Env) {nm : List (Str × NameKind)} (h1 : env.scope.names = nm) (h2 : env.scope.kind = .function) : (PySem.relabel scope env).names = (relS scope { scope with names := nm, kind := .function }).names := by
  subst h1
  unfold PySem.relabel relS Env.kindOf
  simp only [h2]
theorem blkC_eq {N : List Str} {sc sc' scope : Scope} {own : List (Str × Nat)} (h : sc.names = sc'.names) : blkC N sc scope own = blkC N sc' scope own := by
  unfold blkC
  rw [h]
theorem COk.blk (h : COk X Wx C k c) {scope : Scope} {own : List (Str × Nat)} (hb : BlkOk X.N X.env.scope scope own) : Blk X scope fun B => COk B NoX C k (c.blk scope) := fun s H Ca cl fp => by
  have hn : ((X.blk s H scope (compEnvC scope cl Ca X.env) fp).env.scope.names) = (c.blk scope).sc := relab_names scope X.env h.sc h.kind
  exact {
    calm := h.calm
    nd := h.nd
    N := h.N
    sc := hn
    st := fun x k e ne => lookup_relS_keep (sc := X.env.scope) ne e
    kind := hb.kind
    fn := fun x e => by
      have e : scope.names.lookup x = some .cell := e
      show (scope.names.lookup x == some NameKind.cell) = true
      rw [e]; decide
    hu := h.hu
    tk := fun u s' ⟨_, _, _, _, _, _, _, _, _, _, _, _, _, _, _, _, z⟩ => z
    room := h.room
    fns := fun f n e => ⟨(h.fns f n e).mg, (h.fns f n e).kp, (h.fns f n e).ex⟩
    exs := fun n e => ⟨(h.exs n e).ex, (h.exs n e).mg, (h.exs n e).kp, (h.exs n e).ra⟩
    xcs := fun n e => ⟨(h.xcs n e).isE, (h.xcs n e).kit, (h.xcs n e).mg⟩
    exm := h.exm
    cfb := h.cfb
    co := h.co
    bl := h.bl
    pas := PassesOwn.never }
end
/-! ### targets -/
mutual
theorem ckG_ok {X : Cx} {Wx : WX} {C : MP.Ctx} {k : Nat} {c : Ck} (h : COk X Wx C k c) : ∀ (t : Tg) (e : Expr), ckG c t e = true → PG X e (gM X.K t)
  | .nm i, e, q => by
    unfold ckG at q
    split at q
    · rename_i x hx
      obtain ⟨p, rfl⟩ := aName_eq hx
      obtain ⟨h1, h2, h3⟩ := h.to q
      exact gj_name h.nd h1 h2 h3
    · cases q
  | .tp ts, e, q => by
    unfold ckG at q
    split at q
    · rename_i xs hx
      obtain ⟨kk, p, rfl⟩ := aTup_eq hx
      rw [Bool.and_eq_true, Bool.and_eq_true, decide_eq_true_eq] at q
      exact gj_tup h.calm (ckGs_ok h ts xs q.1.1) q.1.2 q.2
    · cases q
theorem ckGs_ok {X : Cx} {Wx : WX} {C : MP.Ctx} {k : Nat} {c : Ck} (h : COk X Wx C k c) : ∀ (ts : Tgs) (es : List Expr), ckGs c ts es = true → PGs X es (gMs X.K ts)
  | .nil, es, q => by
    unfold ckGs at q
    cases es with
    | nil => exact gjs_nil
    | cons _ _ => cases q
  | .cons t ts, es, q => by
    unfold ckGs at q
    cases es with
    | nil => cases q
    | cons x xs =>
      have q : (ckG c t x && notStar x && ckGs c ts xs) = true := q
      rw [Bool.and_eq_true, Bool.and_eq_true] at q
      exact gjs_cons (ckG_ok h t x q.1.1) (ckGs_ok h ts xs q.2) q.1.2
end
/-! ### expressions -/
section
variable {X : Cx} {Wx : WX} {C : MP.Ctx} {k : Nat} {c : Ck} {e l : Expr}
abbrev eM (C : MP.Ctx) (m : E) : MM PV := fun ρ T => evalE C ρ T m
abbrev aM (C : MP.Ctx) (m : Es) : MM (List PV) := fun ρ T => evalA C ρ T m
abbrev iM (C : MP.Ctx) (m : MP.It) : MM (List PV) := fun ρ T => evalI C ρ T m
theorem pkI (h : COk X Wx C k c) {a : E} (q : pkIs c a l = true) : EJT X Wx l (eM C a) := by
  unfold pkIs at q
  split at q
  · rename_i i
    split at q
    · rename_i x hx
      obtain ⟨p, rfl⟩ := aName_eq hx
      obtain ⟨h1, h2, h3, h4⟩ := h.nm q
      exact ej_pk h1 h2 h3 h4
    · cases q
  · cases q
theorem pkT (h : COk X Wx C k c) {a : E} {r : Bool} (hr : r = true → EJ X Wx l (eM C a)) (q : pkOr c a l r = true) : EJT X Wx l (eM C a) := by
  unfold pkOr at q
  rw [Bool.or_eq_true] at q
  rcases q with q | q
  · exact (hr q).t
  · exact pkI h q
/-- both ways to use it -/
def Both (X : Cx) (Wx : WX) (C : MP.Ctx) (m : E) (e : Expr) (t : Bool) : Prop := if t then TJ X Wx e (testM (eM C m)) else EJ X Wx e (eM C m)
theorem Both.plain {m : E} {t : Bool} (h : EJ X Wx e (eM C m)) (p : plainT e = true) : Both X Wx C m e t := by
  cases t with
  | false => exact h
  | true => exact tj_truth h.t fun whole => plainT_ok p X.env whole
theorem evalA_len (C : MP.Ctx) : ∀ (es : Es) (ρ : MP.Env) (T : Store) (xs : List PV) (T' : Store), evalA C ρ T es = .ok xs T' → xs.length = Es.len es
  | .nil, ρ, T, xs, T', h => by
    have h : (Res.ok [] T : Res (List PV)) = .ok xs T' := h
    cases h; rfl
  | .cons e es, ρ, T, xs, T', h => by
    have h : ((evalE C ρ T e).bind fun x T => (evalA C ρ T es).bind fun xs T => .ok (x :: xs) T) = .ok xs T' := h
    cases e1 : evalE C ρ T e with
    | bad => rw [e1] at h; cases h
    | ex _ _ => rw [e1] at h; cases h
    | ok x T1 =>
      rw [e1, Res.bind_ok] at h
      cases e2 : evalA C ρ T1 es with
      | bad => rw [e2] at h; cases h
      | ex _ _ => rw [e2] at h; cases h
      | ok ys T2 =>
        rw [e2] at h; cases h
        rw [List.length_cons, evalA_len C es ρ T1 _ _ e2]; rfl
theorem tys_ok (h : COk X Wx C k c) : ∀ {ts : List Ty} {xs : List Expr}, tysOk c ts xs = true → TyEs X ts xs
  | [], xs, q => by
    cases xs with
    | nil => exact .nil
    | cons _ _ => cases q
  | t :: ts, xs, q => by
    cases xs with
    | nil => cases q
    | cons x xs =>
      have q : ((match aName x with
        | some y => decide (y = Str.ofString (tyNm t)) && c.bl y
        | none => false) && tysOk c ts xs) = true := q
      rw [Bool.and_eq_true] at q
      obtain ⟨q1, q2⟩ := q
      split at q1
      · rename_i y hy
        obtain ⟨p, rfl⟩ := aName_eq hy
        rw [Bool.and_eq_true, decide_eq_true_eq] at q1
        obtain ⟨rfl, q1⟩ := q1
        obtain ⟨h1, h2⟩ := h.blt q1
        exact .cons h1 h2 (tys_ok h q2)
      · cases q1
theorem bi_all' (h : COk X Wx C k c) {f : Bi} {es : Es} {x : Str} {xs : List Expr} {p pos : Pos} (ha : AJT X Wx xs (aM C es)) (hx : x = Str.ofString (biNm f)) (hb : c.bl x = true) (h0 : xs.isEmpty = false) (hs : xs.all notStar = true) :
    EJ X Wx (.Call (.Name x p) xs [] pos) (fun ρ T => (evalA C ρ T es).bind fun xs T => .of T (bi f xs)) := by
  subst hx
  obtain ⟨h1, h2⟩ := h.blt hb
  cases xs with
  | nil => cases h0
  | cons e es' =>
    cases f with
    | len => exact ej_biB bi_len h1 h2 (by decide +kernel) ha hs (by decide +kernel) (by decide +kernel)
    | abs => exact ej_biB bi_abs h1 h2 (by decide +kernel) ha hs (by decide +kernel) (by decide +kernel)
    | min => exact ej_biB (bi_min h.calm h.hu) h1 h2 (by decide +kernel) ha hs (by decide +kernel) (by decide +kernel)
    | max => exact ej_biB (bi_max h.calm h.hu) h1 h2 (by decide +kernel) ha hs (by decide +kernel) (by decide +kernel)
    | sum => exact ej_biB (bi_sum h.calm) h1 h2 (by decide +kernel) ha hs (by decide +kernel) (by decide +kernel)
    | all => exact ej_biB (bi_all h.calm) h1 h2 (by decide +kernel) ha hs (by decide +kernel) (by decide +kernel)
    | any => exact ej_biB (bi_any h.calm) h1 h2 (by decide +kernel) ha hs (by decide +kernel) (by decide +kernel)
    | int_ => exact ej_biT bi_int h1 h2 (by decide +kernel) ha hs (by decide +kernel) (by decide +kernel)
    | tuple_ => exact ej_biT bi_tuple h1 h2 (by decide +kernel) ha hs (by decide +kernel) (by decide +kernel)
    | list_ => exact ej_biT bi_list h1 h2 (by decide +kernel) ha hs (by decide +kernel) (by decide +kernel)
    | str_ => exact ej_biT bi_str h1 h2 (by decide +kernel) ha hs (by decide +kernel) (by decide +kernel)
theorem frm1_eq (tu : Bool) (ma : MM PV) : frmM tu (rg1M ma) = fun ρ T => (r1M ma ρ T).bind fun xs T => if xs.length ≤ MP.line then .ok (if tu then .tup xs else .lst xs) T else .bad := by
  funext ρ T
  show (((ma ρ T).bind fun x T => match x with
    | .int i => if smallR i then Res.ok ((0 : Int), i) T else .bad
    | _ => .bad).bind _) = (((ma ρ T).bind fun x T => match x with
    | .int i => if smallR i then Res.ok (rng 0 i) T else .bad
    | _ => .bad).bind _)
  cases ma ρ T with
  | bad => rfl
  | ex _ _ => rfl
  | ok v T' =>
    rw [Res.bind_ok, Res.bind_ok]
    cases v with
    | int i =>
      show ((if smallR i = true then Res.ok ((0 : Int), i) T' else .bad).bind _) = ((if smallR i = true then Res.ok (rng 0 i) T' else .bad).bind _)
      by_cases hz : smallR i = true
      · rw [if_pos hz, if_pos hz, Res.bind_ok, Res.bind_ok]
        show (if (smallR 0 && smallR i) = true then _ else _) = _
        rw [if_pos (by rw [hz]; decide)]
      · rw [if_neg hz, if_neg hz]; rfl
    | _ => rfl
theorem frm2_eq (tu : Bool) (ma mb : MM PV) : frmM tu (rg2M ma mb) = fun ρ T => (r2M ma mb ρ T).bind fun xs T => if xs.length ≤ MP.line then .ok (if tu then .tup xs else .lst xs) T else .bad := by
  funext ρ T
  show (((ma ρ T).bind fun x T => (mb ρ T).bind fun y T => match x, y with
    | .int i, .int j => if smallR i && smallR j then Res.ok (i, j) T else .bad
    | _, _ => .bad).bind _) = (((ma ρ T).bind fun x T => (mb ρ T).bind fun y T => match x, y with
    | .int i, .int j => if smallR i && smallR j then Res.ok (rng i j) T else .bad
    | _, _ => .bad).bind _)
  cases ma ρ T with
  | bad => rfl
  | ex _ _ => rfl
  | ok v T' =>
    rw [Res.bind_ok, Res.bind_ok]
    cases mb ρ T' with
    | bad => rfl
    | ex _ _ => rfl
    | ok u T2 =>
      rw [Res.bind_ok, Res.bind_ok]
      cases v with
      | int i =>
        cases u with
        | int j =>
          show ((if (smallR i && smallR j) = true then Res.ok (i, j) T2 else .bad).bind _) = ((if (smallR i && smallR j) = true then Res.ok (rng i j) T2 else .bad).bind _)
          by_cases hz : (smallR i && smallR j) = true
          · rw [if_pos hz, if_pos hz, Res.bind_ok, Res.bind_ok]
            show (if (smallR i && smallR j) = true then _ else _) = _
            rw [if_pos hz]
          · rw [if_neg hz, if_neg hz]; rfl
        | _ => rfl
      | _ => rfl
end
end MPS
end

section
set_option Elab.async false
set_option linter.all false
set_option maxRecDepth 100000
set_option autoImplicit false
/-! what is checked holds: expressions, all forms -/
namespace MPS
open PySem PySem.Spec PyProof.Rows L2 MP
theorem and3 {a b c : Bool} : (a && b && c) = true ↔ a = true ∧ b = true ∧ c = true := by simp [Bool.and_eq_true, and_assoc]
theorem and4 {a b c d : Bool} : (a && b && c && d) = true ↔ a = true ∧ b = true ∧ c = true ∧ d = true := by simp [Bool.and_eq_true, and_assoc]
theorem and5 {a b c d e : Bool} : (a && b && c && d && e) = true ↔ a = true ∧ b = true ∧ c = true ∧ d = true ∧ e = true := by simp [Bool.and_eq_true, and_assoc]
theorem and6 {a b c d e f : Bool} : (a && b && c && d && e && f) = true ↔ a = true ∧ b = true ∧ c = true ∧ d = true ∧ e = true ∧ f = true := by simp [Bool.and_eq_true, and_assoc]
theorem and7 {a b c d e f g : Bool} : (a && b && c && d && e && f && g) = true ↔ a = true ∧ b = true ∧ c = true ∧ d = true ∧ e = true ∧ f = true ∧ g = true := by simp [Bool.and_eq_true, and_assoc]
abbrev anA (C : MP.Ctx) (m : Es) : MM PV := fun ρ T => evalAn C ρ T m
abbrev orA (C : MP.Ctx) (m : Es) : MM PV := fun ρ T => evalOr C ρ T m
/-- what and, or join: as a value, as a test -/
def BothA (X : Cx) (Wx : WX) (C : MP.Ctx) (es : Es) (xs : List Expr) (t : Bool) : Prop :=
  if t then ∀ pos, PW X (.BoolOp .And xs pos) (tM X.K Wx RB (testM (anA C es))) else ∀ pos, EJ X Wx (.BoolOp .And xs pos) (anA C es)
def BothO (X : Cx) (Wx : WX) (C : MP.Ctx) (es : Es) (xs : List Expr) (t : Bool) : Prop :=
  if t then ∀ pos, PW X (.BoolOp .Or xs pos) (tM X.K Wx RB (testM (orA C es))) else ∀ pos, EJ X Wx (.BoolOp .Or xs pos) (orA C es)
/-- a walked thing, with or without rows of ours -/
def IJ2 (X : Cx) (Wx : WX) (C : MP.Ctx) (it : MP.It) (e tg : Expr) (pk : Bool) : Prop := if pk then IJ X Wx PPs tg e (iM C it) else IJ X Wx PPl tg e (iM C it)
theorem IJ2.both {X : Cx} {Wx : WX} {C : MP.Ctx} {it : MP.It} {e tg : Expr} {pk : Bool} (h : ∀ PP, IJ X Wx PP tg e (iM C it)) : IJ2 X Wx C it e tg pk := by
  cases pk <;> exact h _
theorem blkIs_ok {c : Ck} {vs : List Nat} {scope : Scope} {own : List (Str × Nat)} (h : blkIs c vs scope = some own) : own.map (·.2) = vs ∧ blkC c.N { scope with names := c.sc } scope own = true := by
  unfold blkIs at h
  dsimp only at h
  split at h
  · rename_i q
    cases h
    rw [Bool.and_eq_true, decide_eq_true_eq] at q
    exact q
  · cases h
/-- a comprehension: a value, or stored at once -/
structure LcJ (X : Cx) (Wx : WX) (e : Expr) (m : MM PV) : Prop where
  ex : ∃ te : TE, PE X e te ∧ (∀ (i : Nat) (y : Str) (py spos : Pos), X.N[i]? = some y → X.env.scope.names.lookup y = some .local → swapsWith e (some (.Name y py)) spos.line X.env = pure true → PS X (.Assign [.Name y py] e spos) (tAsg te (gName i))) ∧ ∀ σ H Q, tO X.K Wx m σ H Q → te σ H Q
theorem LcJ.ejo {X : Cx} {Wx : WX} {e : Expr} {m : MM PV} (h : LcJ X Wx e m) : EJO X Wx e m := by
  obtain ⟨te, h1, h2, h3⟩ := h.ex
  exact PE.imp h1 h3
theorem LcJ.own {X : Cx} {Wx : WX} {e : Expr} {m : MM PV} (h : LcJ X Wx e m) {i : Nat} {y : Str} {py spos : Pos} (a : X.N[i]? = some y) (b : X.env.scope.names.lookup y = some .local) (c : swapsWith e (some (.Name y py)) spos.line X.env = pure true) : SJ X Wx (.Assign [.Name y py] e spos) (ownM i m) := by
  obtain ⟨te, h1, h2, h3⟩ := h.ex
  exact PS.imp (h2 i y py spos a b c) (own_read h3)
theorem LcJ.nm {X : Cx} {Wx : WX} {e : Expr} {m : MM PV} (h : LcJ X Wx e m) {i : Nat} {y : Str} {py spos : Pos} (a : X.N[i]? = some y) (b : X.env.scope.names.lookup y = some .local) (c : swapsWith e (some (.Name y py)) spos.line X.env = pure true) : SJ X Wx (.Assign [.Name y py] e spos) (nmM i m) := by
  obtain ⟨te, h1, h2, h3⟩ := h.ex
  exact PS.imp (h2 i y py spos a b c) (nm_read h3)
section
variable {X : Cx} {Wx : WX} {elt tgE iter tgE1 iter1 : Expr} {ifs ifs1 : List Expr} {scope : Scope} {own : List (Str × Nat)} {pos : Pos} {tg tg1 : Tg} {mI mI1 : MM (List PV)} {mt mt1 : MM Bool} {me : MM PV}
theorem lcj_1 (hc : X.calm = true) (hN : X.N.Nodup) (hi : IJ X Wx PPs tgE iter mI) (ok : BlkOk X.N X.env.scope scope own) (hsub : ∀ i ∈ tg.ns, i ∈ own.map (·.2)) (hg : Blk X scope fun B => PG B tgE (gM X.K tg)) (ht : Blk X scope fun B => PTs B ifs (tM X.K NoX RB mt)) (he : Blk X scope fun B => PE B elt (tM X.K NoX (RR X.K) me)) (hs : ∀ x, foldedSetIterable iter X.env x = pure x) :
    LcJ X Wx (.ListComp elt [⟨tgE, iter, ifs, 0⟩] scope pos) (compM (own.map (·.2)) (clM tg mI mt (eltM me))) :=
  ⟨_, pe_lc hc hN hi ok hg ht he hs, fun i y py spos a b c => ps_setLc hc hN a b c hi ok hg ht he hs, fun σ H Q h => lc1_read hsub h⟩
theorem lcj_2 (hc : X.calm = true) (hN : X.N.Nodup) (hi : IJ X Wx PPs tgE iter mI) (ok : BlkOk X.N X.env.scope scope own) (hsub : ∀ i ∈ tg.ns, i ∈ own.map (·.2)) (hv : ∀ i ∈ tg1.ns, i ∈ own.map (·.2)) (hg : Blk X scope fun B => PG B tgE (gM X.K tg)) (ht : Blk X scope fun B => PTs B ifs (tM X.K NoX RB mt))
    (hi1 : Blk X scope fun B => PI B tgE1 iter1 (tM X.K NoX (RW X.K PPl) mI1)) (hg1 : Blk X scope fun B => PG B tgE1 (gM X.K tg1)) (ht1 : Blk X scope fun B => PTs B ifs1 (tM X.K NoX RB mt1))
    (he : Blk X scope fun B => PE B elt (tM X.K NoX (RR X.K) me)) (hs : ∀ x, foldedSetIterable iter X.env x = pure x) (hs1 : ∀ env x, foldedSetIterable iter1 env x = pure x) :
    LcJ X Wx (.ListComp elt [⟨tgE, iter, ifs, 0⟩, ⟨tgE1, iter1, ifs1, 0⟩] scope pos) (compM (own.map (·.2)) (clM tg mI mt (clM tg1 mI1 mt1 (eltM me)))) :=
  ⟨_, pe_lc2 hc hN hi ok hv hg ht hi1 hg1 ht1 he hs hs1, fun i y py spos a b c => ps_setLc2 hc hN a b c hi ok hv hg ht hi1 hg1 ht1 he hs hs1, fun σ H Q h => lc2_read hsub h⟩
end
mutual
theorem ckE_ok {C : MP.Ctx} : ∀ (m : E) {X : Cx} {Wx : WX} {k : Nat} {c : Ck} (h : COk X Wx C k c) (t : Bool) (e : Expr), ckE c t m e = true → Both X Wx C m e t
  | .var i, X, Wx, k, c, h, t, e, q => by
    unfold ckE at q
    split at q
    · rename_i x hx
      obtain ⟨p, rfl⟩ := aName_eq hx
      obtain ⟨h1, h2, h3, h4⟩ := h.nm q
      exact Both.plain (ej_var h1 h2 h3 h4) rfl
    · cases q
  | .pk i, X, Wx, k, c, h, t, e, q => by
    unfold ckE at q
    rw [Bool.and_eq_true] at q
    obtain ⟨rfl, q⟩ := q
    have j := pkI h q
    unfold pkIs at q
    dsimp only at q
    split at q
    · rename_i x hx
      obtain ⟨p, rfl⟩ := aName_eq hx
      exact tj_truth j fun whole => rfl
    · cases q
  | .con v, X, Wx, k, c, h, t, e, q => by
    unfold ckE at q
    split at q
    · rename_i x hx
      obtain ⟨kk, p, rfl⟩ := aConst_eq hx
      unfold conOk at q
      split at q
      · exact Both.plain ej_non rfl
      · rw [decide_eq_true_eq] at q; subst q; exact Both.plain ej_bl rfl
      · rw [decide_eq_true_eq] at q; subst q; exact Both.plain ej_int rfl
      · rw [decide_eq_true_eq] at q; subst q; exact Both.plain ej_str rfl
      · cases q
    · cases q
  | .glo n, X, Wx, k, c, h, t, e, q => by
    unfold ckE at q
    split at q
    · rename_i x hx
      obtain ⟨p, rfl⟩ := aName_eq hx
      rw [and4, decide_eq_true_eq] at q
      obtain ⟨rfl, q1, q2, q3⟩ := q
      obtain ⟨v, u, h1, h2, h3⟩ := h.co n q2
      exact Both.plain (ej_glo (h.gl q1) h1 h2 h3 (dbg_ok q3).1) rfl
    · cases q
  | .fnv n, X, Wx, k, c, h, t, e, q => by
    unfold ckE at q
    split at q
    · rename_i x hx
      obtain ⟨p, rfl⟩ := aName_eq hx
      rw [and4, decide_eq_true_eq] at q
      obtain ⟨rfl, q1, q2, q3⟩ := q
      obtain ⟨m, hm⟩ := Option.isSome_iff_exists.mp q3
      exact Both.plain (ej_fnv (h.fns n m hm) (h.gl q1) (dbg_ok q2).1) rfl
    · cases q
  | .bin o a b, X, Wx, k, c, h, t, e, q => by
    unfold ckE at q
    split at q
    · rename_i l op r hx
      obtain ⟨p, rfl⟩ := aBin_eq hx
      rw [and3, decide_eq_true_eq] at q
      obtain ⟨q1, q2, q3⟩ := q
      dsimp only at q1 ⊢
      subst q1
      exact Both.plain (ej_bin o (pkT h (fun z => ckE_ok a h false _ z) q2) (pkT h (fun z => ckE_ok b h false _ z) q3)) rfl
    · cases q
  | .neg a, X, Wx, k, c, h, t, e, q => by
    unfold ckE at q
    split at q
    · rename_i op x hx
      obtain ⟨p, rfl⟩ := aUn_eq hx
      rw [and3, decide_eq_true_eq] at q
      obtain ⟨q1, q2, q3⟩ := q
      dsimp only at q1 ⊢
      subst q1
      exact Both.plain (ej_neg (pkT h (fun z => ckE_ok a h false _ z) q2)) rfl
    · cases q
  | .nt a, X, Wx, k, c, h, t, e, q => by
    unfold ckE at q
    split at q
    · rename_i op x hx
      obtain ⟨p, rfl⟩ := aUn_eq hx
      rw [Bool.and_eq_true, decide_eq_true_eq] at q
      obtain ⟨q1, q2⟩ := q
      dsimp only at q1 ⊢
      subst q1
      cases t with
      | true =>
        rw [if_pos rfl] at q2
        exact tj_nt (ckE_ok a h true _ q2)
      | false =>
        rw [if_neg Bool.false_ne_true] at q2
        exact ej_nt (pkT h (fun z => ckE_ok a h false _ z) q2)
    · cases q
  | .cmp o a b, X, Wx, k, c, h, t, e, q => by
    unfold ckE at q
    split at q
    · rename_i l op r hx
      obtain ⟨p, rfl⟩ := aCmp_eq hx
      rw [and4, decide_eq_true_eq, Bool.not_eq_true'] at q
      obtain ⟨q1, q2, q3, q4⟩ := q
      dsimp only
      subst q1
      have ja := pkT h (fun z => ckE_ok a h false _ z) q2
      have jb := pkT h (fun z => ckE_ok b h false _ z) q3
      cases t with
      | true => exact tj_cmp o h.hu ja jb q4
      | false => exact ej_cmp o h.hu ja jb q4
    · cases q
  | .cmp2 o o2 a b d, X, Wx, k, c, h, t, e, q => by
    unfold ckE at q
    split at q
    · rename_i l op op2 r s hx
      obtain ⟨p, rfl⟩ := aCmp_eq hx
      rw [and6, decide_eq_true_eq, decide_eq_true_eq, Bool.not_eq_true'] at q
      obtain ⟨q1, q5, q2, q3, q4, q6⟩ := q
      dsimp only
      subst q1 q5
      have ja := pkT h (fun z => ckE_ok a h false _ z) q2
      have jb := pkT h (fun z => ckE_ok b h false _ z) q3
      have jd := pkT h (fun z => ckE_ok d h false _ z) q4
      cases t with
      | true => exact tj_cmp2 o o2 h.hu ja jb jd q6
      | false => exact ej_cmp2 o o2 h.hu ja jb jd q6
    · cases q
  | .an es, X, Wx, k, c, h, t, e, q => by
    unfold ckE at q
    split at q
    · rename_i op xs hx
      obtain ⟨p, rfl⟩ := aBool_eq hx
      rw [Bool.and_eq_true, decide_eq_true_eq] at q
      obtain ⟨q1, q2⟩ := q
      dsimp only at q1 ⊢
      subst q1
      have j := ckA_ok es h t _ q2
      cases t with
      | true => exact (j p).pt
      | false => exact j p
    · cases q
  | .or_ es, X, Wx, k, c, h, t, e, q => by
    unfold ckE at q
    split at q
    · rename_i op xs hx
      obtain ⟨p, rfl⟩ := aBool_eq hx
      rw [Bool.and_eq_true, decide_eq_true_eq] at q
      obtain ⟨q1, q2⟩ := q
      dsimp only at q1 ⊢
      subst q1
      have j := ckO_ok es h t _ q2
      cases t with
      | true => exact (j p).pt
      | false => exact j p
    · cases q
  | .ife d a b, X, Wx, k, c, h, t, e, q => by
    unfold ckE at q
    split at q
    · rename_i x y z hx
      obtain ⟨p, rfl⟩ := aIf_eq hx
      rw [and4, Bool.not_eq_true'] at q
      obtain ⟨q1, q2, q3, rfl⟩ := q
      exact ej_ife (ckE_ok d h true _ q1) (ckE_ok a h false _ q2) (ckE_ok b h false _ q3)
    · cases q
  | .tup es, X, Wx, k, c, h, t, e, q => by
    unfold ckE at q
    split at q
    · rename_i xs hx
      obtain ⟨kk, p, rfl⟩ := aTup_eq hx
      rw [Bool.and_eq_true, decide_eq_true_eq] at q
      obtain ⟨j, hl⟩ := ckEs_ok es h _ q.1
      exact Both.plain (ej_tup (n := xs.length) j ⟨q.2, fun ρ T ys T' e => by rw [evalA_len C es ρ T ys T' e, hl.1]⟩) rfl
    · cases q
  | .lst es, X, Wx, k, c, h, t, e, q => by
    unfold ckE at q
    split at q
    · rename_i xs hx
      obtain ⟨p, rfl⟩ := aLst_eq hx
      rw [Bool.and_eq_true, decide_eq_true_eq] at q
      obtain ⟨j, hl⟩ := ckEs_ok es h _ q.1
      exact Both.plain (ej_lst (n := xs.length) j ⟨q.2, fun ρ T ys T' e => by rw [evalA_len C es ρ T ys T' e, hl.1]⟩) rfl
    · cases q
  | .nce es, X, Wx, k, c, h, t, e, q => by
    unfold ckE at q
    split at q
    · rename_i xs hx
      obtain ⟨p, rfl⟩ := aLst_eq hx
      rw [Bool.and_eq_true, decide_eq_true_eq] at q
      obtain ⟨j, hl⟩ := ckEs_ok es h _ q.1
      exact Both.plain (ej_nce (n := xs.length) j ⟨q.2, fun ρ T ys T' e => by rw [evalA_len C es ρ T ys T' e, hl.1]⟩) rfl
    · cases q
  | .idx a i, X, Wx, k, c, h, t, e, q => by
    unfold ckE at q
    split at q
    · rename_i x y hx
      obtain ⟨p, rfl⟩ := aSub_eq hx
      rw [and3] at q
      exact Both.plain (ej_idx (pkT h (fun z => ckE_ok a h false _ z) q.1) (pkT h (fun z => ckE_ok i h false _ z) q.2.1) (plainIx_ok q.2.2)) rfl
    · cases q
  | .sl a lo hi, X, Wx, k, c, h, t, e, q => by
    unfold ckE at q
    split at q
    · rename_i x y hx
      obtain ⟨p, rfl⟩ := aSub_eq hx
      split at q
      · rename_i l u hy
        obtain ⟨p2, e2⟩ := aSlice_eq hy
        dsimp only at e2 ⊢
        subst e2
        rw [and3] at q
        obtain ⟨q1, q2, q3⟩ := q
        have jl : PJ X Wx l (fun ρ T => (evalE C ρ T lo).bind (partV (isN lo))) := by
          cases l with
          | none =>
            have q2 : isN lo = true := q2
            cases lo <;> first | (cases q2; done) | skip
            exact pj_none
          | some l =>
            have q2 : (!(isN lo) && pkOr c lo l (ckE c false lo l)) = true := q2
            rw [Bool.and_eq_true, Bool.not_eq_true'] at q2
            rw [q2.1]
            exact pj_some (pkT h (fun z => ckE_ok lo h false _ z) q2.2)
        have jh : PJ X Wx u (fun ρ T => (evalE C ρ T hi).bind (partV (isN hi))) := by
          cases u with
          | none =>
            have q3 : isN hi = true := q3
            cases hi <;> first | (cases q3; done) | skip
            exact pj_none
          | some l =>
            have q3 : (!(isN hi) && pkOr c hi l (ckE c false hi l)) = true := q3
            rw [Bool.and_eq_true, Bool.not_eq_true'] at q3
            rw [q3.1]
            exact pj_some (pkT h (fun z => ckE_ok hi h false _ z) q3.2)
        exact Both.plain (ej_sl (pkT h (fun z => ckE_ok a h false _ z) q1) jl jh) rfl
      · cases q
    · cases q
  | .noe, X, Wx, k, c, h, t, e, q => by
    unfold ckE at q
    cases q
  | .call f es, X, Wx, k, c, h, t, e, q => by
    unfold ckE at q
    split at q
    · rename_i x xs hx
      obtain ⟨p, p2, rfl⟩ := aCall_eq hx
      rw [and7, decide_eq_true_eq, decide_eq_true_eq, decide_eq_true_eq, Bool.not_eq_true'] at q
      obtain ⟨q1, q2, q3, q4, q5, q6, q7⟩ := q
      dsimp only at q1 ⊢
      subst q1
      obtain ⟨j, hl⟩ := ckEs_ok es h _ q6
      cases xs with
      | nil => cases q5
      | cons y ys =>
        exact Both.plain (ej_call (h.fns f _ q4) h.tk h.room (h.gl q2) (dbg_ok q3).1 j hl.2 ⟨q7, fun ρ T ys T' e => by rw [evalA_len C es ρ T ys T' e, hl.1]⟩) rfl
    · cases q
  | .callv i es, X, Wx, k, c, h, t, e, q => by
    unfold ckE at q
    split at q
    · rename_i x xs hx
      obtain ⟨p, p2, rfl⟩ := aCall_eq hx
      rw [and3, Bool.not_eq_true'] at q
      obtain ⟨q1, q2, q3⟩ := q
      obtain ⟨h1, h2, h3, h4⟩ := h.nm q1
      obtain ⟨j, hl⟩ := ckEs_ok es h _ q3
      cases xs with
      | nil => cases q2
      | cons y ys => exact Both.plain (ej_callv (ar := c.ar) (cf := C.cf) h.fns h.cfb h.tk h.room h1 h2 h3 h4 j hl.2) rfl
    · cases q
  | .cnt i a, X, Wx, k, c, h, t, e, q => by
    unfold ckE at q
    split at q
    · rename_i x m y hx
      obtain ⟨p, ap, cp, rfl, hl⟩ := aCnt_eq hx
      rw [and4, decide_eq_true_eq] at q
      obtain ⟨q1, q2, q3, q4⟩ := q
      dsimp only at q1 q2 q3 q4 ⊢
      subst q2
      obtain ⟨h1, h2, h3, h4⟩ := h.nm q1
      exact Both.plain (ej_cnt h.hu h1 h2 h3 h4 (ckE_ok a h false _ q3) q4 hl) rfl
    · cases q
  | .bi f es, X, Wx, k, c, h, t, e, q => by
    unfold ckE at q
    split at q
    · rename_i x xs hx
      obtain ⟨p, p2, rfl⟩ := aCall_eq hx
      rw [and4, decide_eq_true_eq, Bool.not_eq_true'] at q
      obtain ⟨q1, q2, q3, q4⟩ := q
      obtain ⟨j, hl⟩ := ckTs_ok es h _ q4
      exact Both.plain (bi_all' h j q1 q2 q3 hl) rfl
    · cases q
  | .isi a ts, X, Wx, k, c, h, t, e, q => by
    unfold ckE at q
    split at q
    · rename_i x y z hx
      obtain ⟨p, p2, rfl⟩ := aCall_eq hx
      rw [and5, decide_eq_true_eq] at q
      obtain ⟨q1, q2, q3, q4, q5⟩ := q
      dsimp only at q1 ⊢
      subst q1
      obtain ⟨h1, h2⟩ := h.blt q2
      have ja := pkT h (fun z => ckE_ok a h false _ z) q3
      unfold isiOk at q5
      split at q5
      · rename_i us hz
        obtain ⟨kk, p3, rfl⟩ := aTup_eq hz
        rw [and3, decide_eq_true_eq, Bool.not_eq_true'] at q5
        obtain ⟨q6, q7, q8⟩ := q5
        exact Both.plain (ej_isiT h1 h2 ja q4 (tys_ok h q6) q7 (by intro z; subst z; cases q8)) rfl
      · rw [Bool.and_eq_true, decide_eq_true_eq] at q5
        obtain ⟨q6, q7⟩ := q5
        match ts, q6, q7 with
        | [t1], q6, _ =>
          cases tys_ok h q6 with
          | cons g1 g2 g3 => exact Both.plain (ej_isi h1 h2 ja q4 g1 g2) rfl
    · cases q
  | .comp vs elt cl, X, Wx, k, c, h, t, e, q => by
    unfold ckE at q
    split at q
    · rename_i x gs scope hx
      obtain ⟨p, rfl⟩ := aComp_eq hx
      split at q
      · rename_i own hb
        rw [and3, decide_eq_true_eq] at q
        obtain ⟨q1, q2, q3⟩ := q
        exact Both.plain (ckC_ok cl h (fun {X Wx k c} h' z => ckE_ok elt h' false x z) p hb q1 q2 q3).ejo.ej rfl
      · cases q
    · cases q
  | .frm tu it, X, Wx, k, c, h, t, e, q => by
    unfold ckE at q
    split at q
    · rename_i x y hx
      obtain ⟨p, p2, rfl⟩ := aCall_eq hx
      rw [and3, decide_eq_true_eq] at q
      obtain ⟨q1, q2, q3⟩ := q
      dsimp only at q1 ⊢
      subst q1
      obtain ⟨h1, h2⟩ := h.blt q2
      obtain ⟨m, jr, hs, he⟩ := ckR_ok it h _ q3
      have e2 : eM C (.frm tu it) = frmM tu m := he tu
      cases tu with
      | true => exact Both.plain (by rw [e2]; exact ej_frmT h.calm h1 h2 jr hs) rfl
      | false => exact Both.plain (by rw [e2]; exact ej_frmL h.calm h1 h2 jr hs) rfl
    · cases q
theorem ckEs_ok {C : MP.Ctx} : ∀ (m : Es) {X : Cx} {Wx : WX} {k : Nat} {c : Ck} (h : COk X Wx C k c) (es : List Expr), ckEs c m es = true → AJ X Wx es (aM C m) ∧ Es.len m = es.length ∧ es.all notStar = true
  | .nil, X, Wx, k, c, h, es, q => by
    unfold ckEs at q
    cases es with
    | nil => exact ⟨aj_nil, rfl, rfl⟩
    | cons _ _ => cases q
  | .cons a ms, X, Wx, k, c, h, es, q => by
    unfold ckEs at q
    cases es with
    | nil => cases q
    | cons x xs =>
      have q : (ckE c false a x && notStar x && ckEs c ms xs) = true := q
      rw [and3] at q
      obtain ⟨q1, q2, q3⟩ := q
      obtain ⟨j, l1, l2⟩ := ckEs_ok ms h xs q3
      exact ⟨aj_cons (ckE_ok a h false _ q1) j q2, congrArg (· + 1) l1, by rw [List.all_cons, q2, l2]; rfl⟩
theorem ckTs_ok {C : MP.Ctx} : ∀ (m : Es) {X : Cx} {Wx : WX} {k : Nat} {c : Ck} (h : COk X Wx C k c) (es : List Expr), ckTs c m es = true → AJT X Wx es (aM C m) ∧ es.all notStar = true
  | .nil, X, Wx, k, c, h, es, q => by
    unfold ckTs at q
    cases es with
    | nil => exact ⟨ajt_nil, rfl⟩
    | cons _ _ => cases q
  | .cons a ms, X, Wx, k, c, h, es, q => by
    unfold ckTs at q
    cases es with
    | nil => cases q
    | cons x xs =>
      have q : (pkOr c a x (ckE c false a x) && notStar x && ckTs c ms xs) = true := q
      rw [and3] at q
      obtain ⟨q1, q2, q3⟩ := q
      obtain ⟨j, l2⟩ := ckTs_ok ms h xs q3
      exact ⟨ajt_cons (pkT h (fun z => ckE_ok a h false _ z) q1) j q2, by rw [List.all_cons, q2, l2]; rfl⟩
theorem ckA_ok {C : MP.Ctx} : ∀ (m : Es) {X : Cx} {Wx : WX} {k : Nat} {c : Ck} (h : COk X Wx C k c) (t : Bool) (es : List Expr), ckB c t m es = true → BothA X Wx C m es t
  | .nil, X, Wx, k, c, h, t, es, q => by
    unfold ckB at q
    cases q
  | .cons a ms, X, Wx, k, c, h, t, es, q => by
    unfold ckB at q
    cases es with
    | nil => cases q
    | cons x xs =>
      have q : (ckE c t a x && (if ms.isNil then xs.isEmpty else ckB c t ms xs)) = true := q
      rw [Bool.and_eq_true] at q
      obtain ⟨q1, q2⟩ := q
      have ja := ckE_ok a h t x q1
      cases ms with
      | nil =>
        have q2 : xs.isEmpty = true := q2
        cases xs with
        | cons _ _ => cases q2
        | nil =>
          cases t with
          | true => exact fun pos => pw_and1 ja
          | false => exact fun pos => ej_one ja
      | cons b ms =>
        have q2 : ckB c t (.cons b ms) xs = true := q2
        have jb := ckA_ok (.cons b ms) h t xs q2
        cases xs with
        | nil => unfold ckB at q2; cases q2
        | cons y ys =>
          cases t with
          | true => exact fun pos => tj_an ja (jb pos)
          | false => exact fun pos => ej_an ja (jb pos)
theorem ckO_ok {C : MP.Ctx} : ∀ (m : Es) {X : Cx} {Wx : WX} {k : Nat} {c : Ck} (h : COk X Wx C k c) (t : Bool) (es : List Expr), ckB c t m es = true → BothO X Wx C m es t
  | .nil, X, Wx, k, c, h, t, es, q => by
    unfold ckB at q
    cases q
  | .cons a ms, X, Wx, k, c, h, t, es, q => by
    unfold ckB at q
    cases es with
    | nil => cases q
    | cons x xs =>
      have q : (ckE c t a x && (if ms.isNil then xs.isEmpty else ckB c t ms xs)) = true := q
      rw [Bool.and_eq_true] at q
      obtain ⟨q1, q2⟩ := q
      have ja := ckE_ok a h t x q1
      cases ms with
      | nil =>
        have q2 : xs.isEmpty = true := q2
        cases xs with
        | cons _ _ => cases q2
        | nil =>
          cases t with
          | true => exact fun pos => pw_or1 ja
          | false => exact fun pos => ej_one ja
      | cons b ms =>
        have q2 : ckB c t (.cons b ms) xs = true := q2
        have jb := ckO_ok (.cons b ms) h t xs q2
        cases xs with
        | nil => unfold ckB at q2; cases q2
        | cons y ys =>
          cases t with
          | true => exact fun pos => tj_or ja (jb pos)
          | false => exact fun pos => ej_or ja (jb pos)
theorem ckR_ok {C : MP.Ctx} : ∀ (m : MP.It) {X : Cx} {Wx : WX} {k : Nat} {c : Ck} (h : COk X Wx C k c) (e : Expr), ckR c m e = true → ∃ r : MM (Int × Int), RgJ X Wx e r ∧ notStar e = true ∧ ∀ tu, eM C (.frm tu m) = frmM tu r
  | .rng1 a, X, Wx, k, c, h, e, q => by
    unfold ckR at q
    split at q
    · rename_i x y hx
      obtain ⟨p, p2, rfl⟩ := aCall_eq hx
      rw [and4, decide_eq_true_eq] at q
      obtain ⟨q1, q2, q3, q4⟩ := q
      dsimp only at q1 ⊢
      subst q1
      obtain ⟨h1, h2⟩ := h.blt q2
      exact ⟨_, rgj_1 h1 h2 (pkT h (fun z => ckE_ok a h false _ z) q3) q4, rfl, fun tu => (frm1_eq tu (eM C a)).symm⟩
    · cases q
  | .rng2 a b, X, Wx, k, c, h, e, q => by
    unfold ckR at q
    split at q
    · rename_i x y z hx
      obtain ⟨p, p2, rfl⟩ := aCall_eq hx
      rw [and6, decide_eq_true_eq] at q
      obtain ⟨q1, q2, q3, q4, q5, q6⟩ := q
      dsimp only at q1 ⊢
      subst q1
      obtain ⟨h1, h2⟩ := h.blt q2
      exact ⟨_, rgj_2 h1 h2 (pkT h (fun z => ckE_ok a h false _ z) q3) (pkT h (fun z => ckE_ok b h false _ z) q5) q4 q6, rfl, fun tu => (frm2_eq tu (eM C a) (eM C b)).symm⟩
    · cases q
  | .ex a, X, Wx, k, c, h, e, q => by unfold ckR at q; cases q
  | .zip a b, X, Wx, k, c, h, e, q => by unfold ckR at q; cases q
  | .zip3 a b d, X, Wx, k, c, h, e, q => by unfold ckR at q; cases q
  | .enu a, X, Wx, k, c, h, e, q => by unfold ckR at q; cases q
theorem ckF_ok {C : MP.Ctx} : ∀ (m : Es) {X : Cx} {Wx : WX} {k : Nat} {c : Ck} (h : COk X Wx C k c) (es : List Expr), ckF c m es = true → PTs X es (tM X.K Wx RB fun ρ T => evalF C ρ T m)
  | .nil, X, Wx, k, c, h, es, q => by
    unfold ckF at q
    cases es with
    | nil => exact pts_j0
    | cons _ _ => cases q
  | .cons a ms, X, Wx, k, c, h, es, q => by
    unfold ckF at q
    split at q
    · rename_i x
      rw [Bool.and_eq_true] at q
      have q2 := q.2
      cases ms with
      | nil => exact pts_j1 (ckE_ok a h true x q.1)
      | cons _ _ => cases q2
    · cases q
theorem ckI_ok {C : MP.Ctx} : ∀ (m : MP.It) {X : Cx} {Wx : WX} {k : Nat} {c : Ck} (h : COk X Wx C k c) (pk : Bool) (e tg : Expr), ckI c pk m e tg = true → IJ2 X Wx C m e tg pk
  | .ex a, X, Wx, k, c, h, pk, e, tg, q => by
    unfold ckI at q
    cases pk with
    | true => exact ij_row (walksS X.K) (pkT h (fun z => ckE_ok a h false _ z) q)
    | false => exact ij_row (walksL X.K) (ckE_ok a h false _ q)
  | .rng1 a, X, Wx, k, c, h, pk, e, tg, q => by
    unfold ckI at q
    split at q
    · rename_i x y hx
      obtain ⟨p, p2, rfl⟩ := aCall_eq hx
      rw [and4, decide_eq_true_eq] at q
      obtain ⟨q1, q2, q3, q4⟩ := q
      dsimp only at q1 ⊢
      subst q1
      obtain ⟨h1, h2⟩ := h.blt q2
      exact IJ2.both fun PP => ij_rng1 h1 h2 (pkT h (fun z => ckE_ok a h false _ z) q3) q4
    · cases q
  | .rng2 a b, X, Wx, k, c, h, pk, e, tg, q => by
    unfold ckI at q
    split at q
    · rename_i x y z hx
      obtain ⟨p, p2, rfl⟩ := aCall_eq hx
      rw [and6, decide_eq_true_eq] at q
      obtain ⟨q1, q2, q3, q4, q5, q6⟩ := q
      dsimp only at q1 ⊢
      subst q1
      obtain ⟨h1, h2⟩ := h.blt q2
      exact IJ2.both fun PP => ij_rng2 h1 h2 (pkT h (fun z => ckE_ok a h false _ z) q3) (pkT h (fun z => ckE_ok b h false _ z) q5) q4 q6
    · cases q
  | .zip a b, X, Wx, k, c, h, pk, e, tg, q => by
    unfold ckI at q
    rw [Bool.and_eq_true] at q
    obtain ⟨qt, q⟩ := q
    cases tg <;> first | (cases qt; done) | skip
    split at q
    · rename_i x y z hx
      obtain ⟨p, p2, rfl⟩ := aCall_eq hx
      rw [and6, decide_eq_true_eq] at q
      obtain ⟨q1, q2, q3, q4, q5, q6⟩ := q
      dsimp only at q1 ⊢
      subst q1
      obtain ⟨h1, h2⟩ := h.blt q2
      cases pk with
      | true => exact ij_zip (walksS X.K) h1 h2 (cons2 ▸ (ajt_cons (pkT h (fun z => ckE_ok a h false _ z) q3) (ajt_cons (pkT h (fun z => ckE_ok b h false _ z) q5) ajt_nil q6) q4 : AJT X Wx [y, z] (consM (eM C a) (consM (eM C b) nilM)))) q4 q6
      | false => exact ij_zip (walksL X.K) h1 h2 (cons2 ▸ (aj_cons (ckE_ok a h false _ q3) (aj_cons (ckE_ok b h false _ q5) aj_nil q6) q4 : AJ X Wx [y, z] (consM (eM C a) (consM (eM C b) nilM)))) q4 q6
    · cases q
  | .zip3 a b d, X, Wx, k, c, h, pk, e, tg, q => by unfold ckI at q; cases q
  | .enu a, X, Wx, k, c, h, pk, e, tg, q => by
    unfold ckI at q
    rw [Bool.and_eq_true] at q
    obtain ⟨qt, q⟩ := q
    cases tg <;> first | (cases qt; done) | skip
    split at q
    · rename_i x y hx
      obtain ⟨p, p2, rfl⟩ := aCall_eq hx
      rw [and4, decide_eq_true_eq] at q
      obtain ⟨q1, q2, q3, q4⟩ := q
      dsimp only at q1 ⊢
      subst q1
      obtain ⟨h1, h2⟩ := h.blt q2
      cases pk with
      | true => exact ij_enu (walksS X.K) h1 h2 (ajt_cons (pkT h (fun z => ckE_ok a h false _ z) q3) ajt_nil q4) q4
      | false => exact ij_enu (walksL X.K) h1 h2 (aj_cons (ckE_ok a h false _ q3) aj_nil q4) q4
    · cases q
theorem ckC_ok {C : MP.Ctx} : ∀ (cl : Cl) {X : Cx} {Wx : WX} {k : Nat} {c : Ck} (h : COk X Wx C k c) {vs : List Nat} {elt : E} {x : Expr} {gs : List Comprehension} {scope : Scope} {own : List (Str × Nat)}
    (he : ∀ {X : Cx} {Wx : WX} {k : Nat} {c : Ck}, COk X Wx C k c → ckE c false elt x = true → EJ X Wx x (eM C elt)) (p : Pos), blkIs c vs scope = some own → ckE (c.blk scope) false elt x = true → ckC c (c.blk scope) vs true cl gs = true → (1 ≤ Cl.len cl ∧ Cl.len cl ≤ 2) →
    LcJ X Wx (.ListComp x gs scope p) (eM C (.comp vs elt cl))
  | .nil, X, Wx, k, c, h, vs, elt, x, gs, scope, own, he, p, hb, q1, q2, q3 => absurd q3.1 (by unfold Cl.len; omega)
  | .cons tg it ifs .nil, X, Wx, k, c, h, vs, elt, x, gs, scope, own, he, p, hb, q1, q2, q3 => by
    obtain ⟨hv, hbl⟩ := blkIs_ok hb
    have ok : BlkOk X.N X.env.scope scope own := blkOk_by (by rw [h.N, blkC_eq (sc' := { scope with names := c.sc }) h.sc]; exact hbl)
    unfold ckC at q2
    cases gs with
    | nil => cases q2
    | cons g gs =>
      have q2 : (decide (g.is_async = 0) && ckG (c.blk scope) tg g.target && (tg.ns.all fun i => vs.contains i) && (if true then ckI c true it g.iter g.target else ckI (c.blk scope) false it g.iter g.target) && notSet g.iter && ckF (c.blk scope) ifs g.ifs && ckC c (c.blk scope) vs false .nil gs) = true := q2
      rw [and7, decide_eq_true_eq, if_pos rfl] at q2
      obtain ⟨z1, z2, z3, z4, z5, z6, z7⟩ := q2
      obtain ⟨tgE, iter, fs, as⟩ := g
      dsimp only at z1 z2 z4 z5 z6
      subst z1
      unfold ckC at z7
      cases gs with
      | cons _ _ => cases z7
      | nil =>
        subst hv
        refine lcj_1 h.calm h.nd (ckI_ok it h true _ _ z4) ok (fun i hi => ?_) (fun s H Ca cl fp => ckG_ok (h.blk ok s H Ca cl fp) tg tgE z2) (fun s H Ca cl fp => ckF_ok ifs (h.blk ok s H Ca cl fp) fs z6) (fun s H Ca cl fp => he (h.blk ok s H Ca cl fp) q1) (notSet_ok z5 _)
        have := List.all_eq_true.mp z3 i hi
        simpa using this
  | .cons tg it ifs (.cons tg1 it1 ifs1 .nil), X, Wx, k, c, h, vs, elt, x, gs, scope, own, he, p, hb, q1, q2, q3 => by
    obtain ⟨hv, hbl⟩ := blkIs_ok hb
    have ok : BlkOk X.N X.env.scope scope own := blkOk_by (by rw [h.N, blkC_eq (sc' := { scope with names := c.sc }) h.sc]; exact hbl)
    unfold ckC at q2
    cases gs with
    | nil => cases q2
    | cons g gs =>
      have q2 : (decide (g.is_async = 0) && ckG (c.blk scope) tg g.target && (tg.ns.all fun i => vs.contains i) && (if true then ckI c true it g.iter g.target else ckI (c.blk scope) false it g.iter g.target) && notSet g.iter && ckF (c.blk scope) ifs g.ifs && ckC c (c.blk scope) vs false (.cons tg1 it1 ifs1 .nil) gs) = true := q2
      rw [and7, decide_eq_true_eq, if_pos rfl] at q2
      obtain ⟨z1, z2, z3, z4, z5, z6, z7⟩ := q2
      obtain ⟨tgE, iter, fs, as⟩ := g
      dsimp only at z1 z2 z4 z5 z6
      subst z1
      unfold ckC at z7
      cases gs with
      | nil => cases z7
      | cons g1 gs =>
        have z7 : (decide (g1.is_async = 0) && ckG (c.blk scope) tg1 g1.target && (tg1.ns.all fun i => vs.contains i) && (if false = true then ckI c true it1 g1.iter g1.target else ckI (c.blk scope) false it1 g1.iter g1.target) && notSet g1.iter && ckF (c.blk scope) ifs1 g1.ifs && ckC c (c.blk scope) vs false .nil gs) = true := z7
        rw [and7, decide_eq_true_eq, if_neg Bool.false_ne_true] at z7
        obtain ⟨y1, y2, y3, y4, y5, y6, y7⟩ := z7
        obtain ⟨tgE1, iter1, fs1, as1⟩ := g1
        dsimp only at y1 y2 y4 y5 y6
        subst y1
        unfold ckC at y7
        cases gs with
        | cons _ _ => cases y7
        | nil =>
          subst hv
          refine lcj_2 h.calm h.nd (ckI_ok it h true _ _ z4) ok (fun i hi => ?_) (fun i hi => ?_) (fun s H Ca cl fp => ckG_ok (h.blk ok s H Ca cl fp) tg tgE z2) (fun s H Ca cl fp => ckF_ok ifs (h.blk ok s H Ca cl fp) fs z6)
            (fun s H Ca cl fp => ckI_ok it1 (h.blk ok s H Ca cl fp) false _ _ y4) (fun s H Ca cl fp => ckG_ok (h.blk ok s H Ca cl fp) tg1 tgE1 y2) (fun s H Ca cl fp => ckF_ok ifs1 (h.blk ok s H Ca cl fp) fs1 y6) (fun s H Ca cl fp => he (h.blk ok s H Ca cl fp) q1) (notSet_ok z5 _) (fun env => notSet_ok y5 env)
          · have := List.all_eq_true.mp z3 i hi
            simpa using this
          · have := List.all_eq_true.mp y3 i hi
            simpa using this
  | .cons _ _ _ (.cons _ _ _ (.cons _ _ _ _)), X, Wx, k, c, h, vs, elt, x, gs, scope, own, he, p, hb, q1, q2, q3 => absurd q3.2 (by simp only [Cl.len]; omega)
end
end MPS
end

section
set_option Elab.async false
set_option linter.all false
set_option maxRecDepth 100000
set_option autoImplicit false
/-! what is checked holds: statements -/
namespace MPS
open PySem PySem.Spec PyProof.Rows L2 MP
/-! ### how stores go -/
def isComp : Expr → Bool
  | .ListComp .. => true
  | .SetComp .. => true
  | .DictComp .. => true
  | _ => false
theorem swaps_no {e : Expr} (h : isComp e = false) (t : Option Expr) (l : Nat) (env : PySem.Env) : swapsWith e t l env = pure false := by
  cases e <;> first | rfl | cases h
/-- plain local names on one line -/
def plainNs (sc : List (Str × NameKind)) (line : Nat) (ts : List Expr) : List Str := ts.filterMap fun
    | .Name id pos => if sc.lookup id == some .local && pos.line == line then some id else none
    | _ => none
/-- the names stored from the right, if any; none: not known -/
def swN (sc : List (Str × NameKind)) (ts vs : List Expr) : Option (Option (List Str)) :=
  if !(ts.length == 2 || ts.length == 3) || vs.length != ts.length then some none
  else if vs.any fun | .Starred .. => true | _ => false then some none
  else
    let names := plainNs sc ((ts.head?.map (·.pos.line)).getD 0) ts
    if names.length != ts.length || names.eraseDups.length != names.length then some none
    else if vs.all (foldedForSure 8) then some none
    else if vs.all (constantsAlone 8) then none
    else some (some names)
theorem block_fn {env : PySem.Env} (h : env.scope.kind = .function) : env.blockKind = .function := by
  unfold Env.blockKind
  rw [h]; rfl
theorem swapped_eq (ts vs : List Expr) (env : PySem.Env) (k k2 : Nat) (p p2 : Pos) : swappedStores [.Tuple ts k p] (.Tuple vs k2 p2) env =
    (if !(ts.length == 2 || ts.length == 3) || vs.length != ts.length || env.blockKind != .function then pure none
     else if vs.any fun | .Starred .. => true | _ => false then pure none
     else if (plainNs env.scope.names ((ts.head?.map (·.pos.line)).getD 0) ts).length != ts.length || (plainNs env.scope.names ((ts.head?.map (·.pos.line)).getD 0) ts).eraseDups.length != (plainNs env.scope.names ((ts.head?.map (·.pos.line)).getD 0) ts).length then pure none
     else if vs.all (foldedForSure 8) then pure none
     else if vs.all (constantsAlone 8) then unsupported "assign.tuple-of-constant-expressions:order-of-the-stores"
     else pure (some (plainNs env.scope.names ((ts.head?.map (·.pos.line)).getD 0) ts))) := by
  unfold swappedStores
  simp only [pure_bind]
  rfl
theorem swN_ok {ts vs : List Expr} {env : PySem.Env} {r : Option (List Str)} {k k2 : Nat} {p p2 : Pos} (hk : env.scope.kind = .function) (h : swN env.scope.names ts vs = some r) : swappedStores [.Tuple ts k p] (.Tuple vs k2 p2) env = pure r := by
  rw [swapped_eq, block_fn hk]
  unfold swN at h
  dsimp only at h
  have e0 : (ScopeKind.function != ScopeKind.function) = false := by decide
  rw [e0, Bool.or_false]
  by_cases h1 : (!(ts.length == 2 || ts.length == 3) || vs.length != ts.length) = true
  · rw [if_pos h1] at h ⊢
    cases h; rfl
  · rw [if_neg h1] at h ⊢
    split at h
    · rename_i h2
      cases h
      exact if_pos h2
    · rename_i h2
      refine (if_neg h2).trans ?_
      split at h
      · rename_i h3
        cases h
        exact if_pos h3
      · rename_i h3
        refine (if_neg h3).trans ?_
        split at h
        · rename_i h4
          cases h
          exact if_pos h4
        · rename_i h4
          refine (if_neg h4).trans ?_
          split at h
          · cases h
          · rename_i h5
            refine (if_neg h5).trans ?_
            cases h; rfl
/-! ### a written statement's parts -/
def aAsg : Stmt → Option (Expr × Expr)
  | .Assign [t] v _ => some (t, v)
  | _ => none
def aAug : Stmt → Option (Str × Operator × Expr)
  | .AugAssign (.Name x _) o v _ => some (x, o, v)
  | _ => none
def aExp : Stmt → Option Expr
  | .Expr v _ => some v
  | _ => none
def aIte : Stmt → Option (Expr × List Stmt × List Stmt)
  | .If c a b _ => some (c, a, b)
  | _ => none
def aFor : Stmt → Option (Expr × Expr × List Stmt)
  | .For t i b [] _ => some (t, i, b)
  | _ => none
def aWhl : Stmt → Option (Expr × List Stmt)
  | .While c b [] _ => some (c, b)
  | _ => none
def aRet : Stmt → Option (Option Expr)
  | .Return v _ => some v
  | _ => none
def aRse : Stmt → Option Expr
  | .Raise (some e) none _ => some e
  | _ => none
def aTry : Stmt → Option (Expr × Pos × List ExceptHandler)
  | .Try [.Expr e p] hs [] [] _ => some (e, p, hs)
  | _ => none
theorem aTry_eq {st : Stmt} {x : Expr × Pos × List ExceptHandler} (h : aTry st = some x) : ∃ p, st = .Try [.Expr x.1 x.2.1] x.2.2 [] [] p := by
  unfold aTry at h
  split at h
  · cases h; exact ⟨_, rfl⟩
  · cases h
/-- a clause as we know it -/
structure WH where
  x : Str
  nm : Str
  f : Str
  y : Str
  v : Str
  A : Str
  B : Str
def aHnd : ExceptHandler → Option WH
  | .ExceptHandler (some (.Name x _)) (some nm) [.Return (some (.IfExp (.Call (.Name f _) [.Name y _, .Name v _] [] _) (.Constant (.str A) _ _) (.Constant (.str B) _ _) _)) _] _ => some ⟨x, nm, f, y, v, A, B⟩
  | _ => none
theorem aHnd_eq {h : ExceptHandler} {z : WH} (e : aHnd h = some z) : ∃ p0 p1 p2 p3 p4 p5 p6 p7 p8 p9 j1 j2, h = .ExceptHandler (some (.Name z.x p0)) (some z.nm) [.Return (some (.IfExp (.Call (.Name z.f p1) [.Name z.y p2, .Name z.v p3] [] p4) (.Constant (.str z.A) j1 p5) (.Constant (.str z.B) j2 p6) p7)) p8] p9 := by
  unfold aHnd at e
  split at e
  · cases e; exact ⟨_, _, _, _, _, _, _, _, _, _, _, _, rfl⟩
  · cases e
def ckH (c : Ck) (h : Nat × Nat × Str) (e : ExceptHandler) : Bool := match aHnd e with
  | some z => (decide (z.x = excName h.1) && c.exs h.1 && c.gl z.x && dbg z.x) && (decide (c.N[h.2.1]? = some z.nm) && decide (c.sc.lookup z.nm = some .local) && dbg z.nm && decide (z.y = z.nm)) && (decide (z.f = ("isinstance" : Str)) && c.bl z.f && decide (z.v = ("ValueError" : Str)) && c.bl z.v) && decide (h.2.2 = z.A)
  | none => false
def ckHs (c : Ck) : List (Nat × Nat × Str) → List ExceptHandler → Bool
  | [], es => es.isEmpty
  | h :: hs, es => match es with
    | e :: es => ckH c h e && ckHs c hs es
    | [] => false
def isPass : Stmt → Bool
  | .Pass _ => true
  | _ => false
def isBrk : Stmt → Bool
  | .Break _ => true
  | _ => false
def isCont : Stmt → Bool
  | .Continue _ => true
  | _ => false
/-- x.m(..), x a name, the mark and the call on one line -/
def aMeth : Expr → Option (Str × Str × List Expr)
  | .Call (.Attribute (.Name x _) m ap) es [] cp => if ap.endLine == cp.line then some (x, m, es) else none
  | _ => none
section
variable {st : Stmt}
theorem aAsg_eq {x : Expr × Expr} (h : aAsg st = some x) : ∃ p, st = .Assign [x.1] x.2 p := by
  cases st <;> first | (cases h; done) | skip
  rename_i ts v p
  match ts, h with
  | [t], h => cases h; exact ⟨_, rfl⟩
theorem aAug_eq {x : Str × Operator × Expr} (h : aAug st = some x) : ∃ p q, st = .AugAssign (.Name x.1 p) x.2.1 x.2.2 q := by
  cases st <;> first | (cases h; done) | skip
  rename_i t o v p
  cases t <;> first | (cases h; done) | skip
  cases h; exact ⟨_, _, rfl⟩
theorem aExp_eq {x : Expr} (h : aExp st = some x) : ∃ p, st = .Expr x p := by cases st <;> cases h; exact ⟨_, rfl⟩
theorem aIte_eq {x : Expr × List Stmt × List Stmt} (h : aIte st = some x) : ∃ p, st = .If x.1 x.2.1 x.2.2 p := by cases st <;> cases h; exact ⟨_, rfl⟩
theorem aFor_eq {x : Expr × Expr × List Stmt} (h : aFor st = some x) : ∃ p, st = .For x.1 x.2.1 x.2.2 [] p := by
  cases st <;> first | (cases h; done) | skip
  rename_i t i b o p
  cases o with
  | nil => cases h; exact ⟨_, rfl⟩
  | cons _ _ => cases h
theorem aWhl_eq {x : Expr × List Stmt} (h : aWhl st = some x) : ∃ p, st = .While x.1 x.2 [] p := by
  cases st <;> first | (cases h; done) | skip
  rename_i c b o p
  cases o with
  | nil => cases h; exact ⟨_, rfl⟩
  | cons _ _ => cases h
theorem aRet_eq {x : Option Expr} (h : aRet st = some x) : ∃ p, st = .Return x p := by cases st <;> cases h; exact ⟨_, rfl⟩
theorem aRse_eq {x : Expr} (h : aRse st = some x) : ∃ p, st = .Raise (some x) none p := by
  cases st <;> first | (cases h; done) | skip
  rename_i e c p
  match e, c, h with
  | some e, none, h => cases h; exact ⟨_, rfl⟩
theorem isPass_eq (h : isPass st = true) : ∃ p, st = .Pass p := by cases st <;> cases h; exact ⟨_, rfl⟩
theorem isBrk_eq (h : isBrk st = true) : ∃ p, st = .Break p := by cases st <;> cases h; exact ⟨_, rfl⟩
theorem isCont_eq (h : isCont st = true) : ∃ p, st = .Continue p := by cases st <;> cases h; exact ⟨_, rfl⟩
theorem aMeth_eq {e : Expr} {x : Str × Str × List Expr} (h : aMeth e = some x) : ∃ p ap cp, e = .Call (.Attribute (.Name x.1 p) x.2.1 ap) x.2.2 [] cp ∧ (ap.endLine == cp.line) = true := by
  cases e <;> first | (cases h; done) | skip
  rename_i f xs ks q
  cases f <;> first | (cases h; done) | skip
  rename_i o m ap
  cases o <;> first | (cases h; done) | skip
  rename_i y p
  cases ks with
  | nil =>
    have h : (if (ap.endLine == q.line) = true then some (y, m, xs) else none) = some x := h
    by_cases hz : (ap.endLine == q.line) = true
    · rw [if_pos hz] at h; cases h; exact ⟨_, _, _, rfl, hz⟩
    · rw [if_neg hz] at h; cases h
  | cons _ _ => cases h
end
/-! ### a store of one target -/
def isLstE : Expr → Bool
  | .List .. => true
  | _ => false
/-- stored plainly -/
def asgOk (c : Ck) (t v : Expr) : Bool := (match aTup t, aTup v with
    | some ts, some vs => decide (swN c.sc ts vs = some none)
    | _, _ => !isLstE t) && (!isComp v || match aName t with
    | some y => decide (c.sc.lookup y ≠ some .local)
    | none => true) && notStar t
theorem swaps_name {e : Expr} {y : Str} {py : Pos} {l : Nat} {env : PySem.Env} (h : env.scope.names.lookup y ≠ some .local) : swapsWith e (some (.Name y py)) l env = pure false := by
  cases hc : isComp e with
  | false => exact swaps_no hc _ _ _
  | true =>
    have hk : (env.kindOf y == some NameKind.local) = false := by
      cases q : (env.kindOf y == some NameKind.local) with
      | false => rfl
      | true => exact absurd (eq_of_beq q) h
    cases e <;> first | (cases hc; done) | skip
    all_goals
      unfold swapsWith
      simp only [hk, Bool.and_false, Bool.false_and]
theorem asg_ok {c : Ck} {t v : Expr} {env : PySem.Env} (hk : env.scope.kind = .function) (hs : env.scope.names = c.sc) (h : asgOk c t v = true) (l : Nat) : swapsWithSole [t] v l env = pure false ∧ swappedStores [t] v env = pure none ∧ (assignEach [t] env).map (·.2) = [assign t env] := by
  unfold asgOk at h
  rw [and3] at h
  obtain ⟨h1, h2, h3⟩ := h
  refine ⟨?_, ?_, by rw [each_cons h3]; rfl⟩
  · show swapsWith v (some t) l env = pure false
    rw [Bool.or_eq_true, Bool.not_eq_true'] at h2
    rcases h2 with h2 | h2
    · exact swaps_no h2 _ _ _
    · split at h2
      · rename_i y hy
        obtain ⟨p, rfl⟩ := aName_eq hy
        rw [decide_eq_true_eq] at h2
        exact swaps_name (by rw [hs]; exact h2)
      · rename_i hy
        cases v <;> first | exact swaps_no rfl _ _ _ | skip
        all_goals (cases t <;> first | rfl | cases hy)
  · cases t with
    | Tuple ts k p =>
      cases v with
      | Tuple vs k2 p2 =>
        have h1 : decide (swN c.sc ts vs = some none) = true := h1
        rw [decide_eq_true_eq, ← hs] at h1
        exact swN_ok hk h1
      | _ => rfl
    | List ts p => cases h1
    | _ => rfl
/-! ### rows of ours -/
def ckO1 (c : Ck) : E → Expr → Bool
  | .lst es, e => ckE c false (.lst es) e
  | .bi .list_ (.cons a .nil), e => (match aCall e with
    | some (x, [y]) => decide (x = ("list" : Str)) && c.bl x && pkOr c a y (ckE c false a y) && notStar y
    | _ => false)
  | .comp vs elt cl, e => ckE c false (.comp vs elt cl) e
  | _, _ => false
def ckO (c : Ck) (m : E) (e : Expr) : Bool := ckO1 c m e || (match m with
  | .or_ (.cons a (.cons b .nil)) => (match aBool e with
    | some (op, [x, y]) => decide (op = .Or) && ckO1 c a x && ckO1 c b y
    | _ => false)
  | _ => false)
theorem list_eq (C : MP.Ctx) (a : E) : eM C (.bi .list_ (.cons a .nil)) = listM (eM C a) := by
  funext ρ T
  show (((evalE C ρ T a).bind fun x T => (Res.ok [] T : Res (List PV)).bind fun xs T => .ok (x :: xs) T).bind fun xs T => Res.of T (bi .list_ xs)) = (evalE C ρ T a).bind fun x T => Res.of T (bi .list_ [x])
  cases evalE C ρ T a <;> rfl
section
variable {X : Cx} {Wx : WX} {C : MP.Ctx} {k : Nat} {c : Ck}
theorem lcj_of (h : COk X Wx C k c) {vs : List Nat} {elt : E} {cl : Cl} {e : Expr} (q : ckE c false (.comp vs elt cl) e = true) : LcJ X Wx e (eM C (.comp vs elt cl)) := by
  unfold ckE at q
  split at q
  · rename_i x gs scope hx
    obtain ⟨p, rfl⟩ := aComp_eq hx
    split at q
    · rename_i own hb
      rw [and3, decide_eq_true_eq] at q
      obtain ⟨q1, q2, q3⟩ := q
      exact ckC_ok cl h (fun {X Wx k c} h' z => ckE_ok elt h' false x z) p hb q1 q2 q3
    · cases q
  · cases q
theorem ckO1_ok (h : COk X Wx C k c) {m : E} {e : Expr} (q : ckO1 c m e = true) : EJO X Wx e (eM C m) := by
  unfold ckO1 at q
  split at q
  · rename_i es
    unfold ckE at q
    split at q
    · rename_i xs hx
      obtain ⟨p, rfl⟩ := aLst_eq hx
      rw [Bool.and_eq_true, decide_eq_true_eq] at q
      obtain ⟨j, hl⟩ := ckEs_ok es h _ q.1
      exact ejo_lst (n := xs.length) j ⟨q.2, fun ρ T ys T' e => by rw [evalA_len C es ρ T ys T' e, hl.1]⟩
    · cases q
  · rename_i a
    split at q
    · rename_i x y hx
      obtain ⟨p, p2, rfl⟩ := aCall_eq hx
      rw [and4, decide_eq_true_eq] at q
      obtain ⟨q1, q2, q3, q4⟩ := q
      dsimp only at q1 ⊢
      subst q1
      obtain ⟨h1, h2⟩ := h.blt q2
      rw [list_eq]
      exact ejo_list h1 h2 (by decide +kernel) (pkT h (fun z => ckE_ok a h false _ z) q3) q4 (by decide +kernel) (by decide +kernel)
    · cases q
  · exact (lcj_of h q).ejo
  · cases q
theorem ckO_ok' (h : COk X Wx C k c) {m : E} {e : Expr} (q : ckO c m e = true) : EJO X Wx e (eM C m) := by
  unfold ckO at q
  rw [Bool.or_eq_true] at q
  rcases q with q | q
  · exact ckO1_ok h q
  · split at q
    · rename_i a b
      split at q
      · rename_i op x y hx
        obtain ⟨p, rfl⟩ := aBool_eq hx
        rw [and3, decide_eq_true_eq] at q
        obtain ⟨q1, q2, q3⟩ := q
        dsimp only at q1 ⊢
        subst q1
        exact ejo_or (ckO1_ok h q2) (ckO1_ok h q3)
      · cases q
    · cases q
/-- a new row of ours (f), or a value -/
def ckV (c : Ck) (f : Bool) (m : E) (e : Expr) : Bool := if f then ckO c m e else ckE c false m e
theorem ckV_ok (h : COk X Wx C k c) {f : Bool} {m : E} {e : Expr} (q : ckV c f m e = true) : EJF X Wx f e (eM C m) := by
  cases f with
  | true => exact (ckO_ok' h q).f
  | false => exact EJ.f (ckE_ok m h false e q)
end
/-- a comprehension stored at once into a local name -/
def lcSw (c : Ck) (t v : Expr) : Bool := match t, v with
  | .Name y py, .ListComp _ _ scope p => decide (c.sc.lookup y = some .local) && (py.line == p.line) && !(scope.names.any fun (n, k) => n == y && (k == .local || k == .cell))
  | _, _ => false
theorem lcSw_ok {c : Ck} {t v : Expr} {env : PySem.Env} (hk : env.scope.kind = .function) (hs : env.scope.names = c.sc) (h : lcSw c t v = true) (l : Nat) : ∃ y py, t = .Name y py ∧ env.scope.names.lookup y = some .local ∧ swapsWith v (some (.Name y py)) l env = pure true := by
  cases t <;> first | (cases h; done) | skip
  rename_i y py
  cases v <;> first | (cases h; done) | skip
  rename_i elt gs scope p
  have h : (decide (c.sc.lookup y = some .local) && (py.line == p.line) && !(scope.names.any fun (n, k) => n == y && (k == .local || k == .cell))) = true := h
  rw [and3, decide_eq_true_eq, Bool.not_eq_true'] at h
  obtain ⟨h1, h2, h3⟩ := h
  have hy : env.scope.names.lookup y = some .local := by rw [hs]; exact h1
  exact ⟨y, py, rfl, hy, sw_true hk hy h2 h3⟩
/-! ### try -/
section
variable {X : Cx} {Wx : WX} {C : MP.Ctx} {k : Nat} {c : Ck}
theorem COk.tr (h : COk X Wx C k c) {W : WX} {pn : List (Addr × Obj)} {xe : Value → Shared → Prop} (tk : Takes (X.tr pn xe) W) (ps : PassesOwn (model X.prog X.w) X.A X.env xe) : COk (X.tr pn xe) W C k c :=
  { calm := h.calm
    nd := h.nd
    N := h.N
    sc := h.sc
    st := h.st
    kind := h.kind
    fn := h.fn
    hu := h.hu
    tk := tk
    room := h.room
    fns := fun f n e => ⟨(h.fns f n e).mg, (h.fns f n e).kp, (h.fns f n e).ex⟩
    exs := fun n e => ⟨(h.exs n e).ex, (h.exs n e).mg, (h.exs n e).kp, (h.exs n e).ra⟩
    xcs := fun n e => ⟨(h.xcs n e).isE, (h.xcs n e).kit, (h.xcs n e).mg⟩
    exm := h.exm
    cfb := h.cfb
    co := h.co
    bl := h.bl
    pas := ps }
theorem ckHs_ok (h : COk X Wx C k c) : ∀ (hs : List Hnd) (es : List ExceptHandler), ckHs c hs es = true → HdN X es (hs.map (toClz X.K)) ∧ ∀ z ∈ hs, c.exs z.1 = true
  | [], es, q => by
    unfold ckHs at q
    cases es with
    | nil => exact ⟨.nil, fun _ z => by cases z⟩
    | cons _ _ => cases q
  | y :: hs, es, q => by
    unfold ckHs at q
    cases es with
    | nil => cases q
    | cons e es =>
      have q : (ckH c y e && ckHs c hs es) = true := q
      rw [Bool.and_eq_true] at q
      obtain ⟨q1, q2⟩ := q
      obtain ⟨r1, r2⟩ := ckHs_ok h hs es q2
      unfold ckH at q1
      split at q1
      · rename_i z hz
        obtain ⟨p0, p1, p2, p3, p4, p5, p6, p7, p8, p9, j1, j2, rfl⟩ := aHnd_eq hz
        rw [and4, and4, and4, and4] at q1
        obtain ⟨⟨a1, a2, a3, a4⟩, ⟨b1, b2, b3, b4⟩, ⟨c1, c2, c3, c4⟩, d1⟩ := q1
        rw [decide_eq_true_eq] at a1 b1 b2 b4 c1 c3 d1
        obtain ⟨zx, znm, zf, zy, zv, zA, zB⟩ := z
        obtain ⟨y1, y2, y3⟩ := y
        dsimp only at a1 a3 a4 b1 b2 b3 b4 c1 c2 c3 c4 d1 ⊢
        subst a1 b4 c1 c3 d1
        have F := h.xcs y1 a2
        have l1 : X.env.scope.names.lookup zy = some .local := by rw [h.sc]; exact b2
        have n1 : X.N[y2]? = some zy := by rw [h.N]; exact b1
        obtain ⟨i1, i2⟩ := h.blt c2
        obtain ⟨v1, v2⟩ := h.blt c4
        refine ⟨.cons ⟨h.gl a3, (dbg_ok a4).1, .inl F.mg⟩ n1 l1 (fun a o cls d pn hz hv => ?_) r1, fun w hw => ?_⟩
        · exact pss_hand F hz hv n1 l1 (dbg_ok b3) i1 i2 v1 v2
        · rcases List.mem_cons.mp hw with rfl | hw
          · exact a2
          · exact r2 w hw
      · cases q1
theorem sj_tri (h : COk X Wx C k c) (hs : X.stack = X.env :: X.outer) (hf : X.env.frame = some X.env.locals) {me : MM PV} {v : Expr} {p pos : Pos} {es : List ExceptHandler} {l : List Hnd} (h0 : l.isEmpty = false) (q : ckHs c l es = true) (sw : swapsWith v none p.line X.env = pure false)
    (he : ∀ {W : WX} {pn : List (Addr × Obj)} {xe : Value → Shared → Prop}, COk (X.tr pn xe) W C k c → EJ (X.tr pn xe) W v me) :
    SJ X Wx (.Try [.Expr v p] es [] [] pos) (fun ρ T => triM l ρ (me ρ T)) := by
  obtain ⟨H1, H2⟩ := ckHs_ok h l es q
  cases es with
  | nil =>
    cases l with
    | nil => cases h0
    | cons _ _ => unfold ckHs at q; cases q
  | cons e0 es =>
    have B : ∀ (W : WX) (pn : List (Addr × Obj)) (xe : Value → Shared → Prop), Takes (X.tr pn xe) W → PassesOwn (model X.prog X.w) X.A X.env xe → PSs (X.tr pn xe) [.Expr v p] (tS X.K W fun ρ T => (me ρ T).s fun _ T => .nx ρ T) := fun W pn xe tk ps =>
      PSs.imp (sj_cons (sj_exp (he (h.tr tk ps)) sw) sj_nil) fun D σ H ⟨w, ρ, T, w0, H0, wb, t, er, s0, p⟩ => by
        refine ⟨w, ρ, T, w0, H0, wb, t, er, s0, ?_⟩
        have p : Sst X.K W w0 H0 wb ((me ρ T).s fun _ T => .nx ρ T) D := p
        show Sst X.K W w0 H0 wb (match ((me ρ T).s fun _ T => .nx ρ T) with
          | .nx ρ' T' => .nx ρ' T'
          | x => x) D
        cases em : me ρ T with
        | ok _ _ => rw [em] at p; exact p
        | ex _ _ => rw [em] at p; exact p
        | bad => rw [em] at p; exact p
    refine PS.imp (ps_tryN hs hf h.nd h.tk B H1) fun D σ H ⟨w, ρ, T, w0, H0, wb, t, er, s0, p⟩ => ?_
    refine ⟨w, ρ, T, w0, H0, wb, t, er, s0, ?_⟩
    have p : Sst X.K Wx w0 H0 wb (triM l ρ (me ρ T)) D := p
    show Sst X.K (wNam X.K Wx D (l.map (toClz X.K))) w0 H0 wb ((me ρ T).s fun _ T => .nx ρ T) D
    cases em : me ρ T with
    | bad => rw [em] at p; exact p.elim
    | ok v T1 => rw [em] at p; exact p
    | ex x T1 =>
      rw [em] at p
      unfold triM at p
      dsimp only at p
      by_cases ha : x.args.isEmpty = true
      · rw [if_pos ha] at p
        cases eh : hit l x.name with
        | none => rw [eh] at p; exact p.elim
        | some s =>
          rw [eh] at p
          intro σ' w' H' cc d t' b r
          obtain ⟨r1, r2⟩ := r
          obtain ⟨xn, xa⟩ := x
          cases xa with
          | cons _ _ => cases ha
          | nil =>
            have r2 : d = none := r2
            have r1 : cc = .ref (exA X.K xn) := r1
            subst r1 r2
            have hx : c.exs xn = true := by
              obtain ⟨z, hz, e⟩ : ∃ z ∈ l, xn = z.1 := hit_mem eh
              rw [e]; exact H2 z hz
            exact wNam_of (fun z hz => h.exm xn z.1 hx (H2 z hz)) eh (p _ w' H' t' b (.str s))
      · rw [if_neg ha] at p; exact p.elim
end
end MPS
end

section
set_option Elab.async false
set_option linter.all false
set_option maxRecDepth 100000
set_option autoImplicit false
/-! what is checked holds: statements, all forms -/
namespace MPS
open PySem PySem.Spec PyProof.Rows L2 MP
def isCmp : E → Bool
  | .comp .. => true
  | _ => false
def nmIs (c : Ck) (i : Nat) (t : Expr) : Bool := match aName t with
  | some y => decide (c.N[i]? = some y)
  | none => false
def nmTo (c : Ck) (i : Nat) (t : Expr) : Bool := match aName t with
  | some y => c.to i y
  | none => false
def nmNm (c : Ck) (i : Nat) (t : Expr) : Bool := match aName t with
  | some y => c.nm i y
  | none => false
def tgNm : Tg → Option Nat
  | .nm i => some i
  | _ => none
def locIs (c : Ck) (i : Nat) (t : Expr) : Bool := match aName t with
  | some y => decide (c.N[i]? = some y) && decide (c.sc.lookup y = some .local)
  | none => false
def nmOf (t : Expr) : Str := (aName t).getD Str.empty
def ghost : S → Bool
  | .kill _ => true
  | .frz _ => true
  | _ => false
/-- three names stored from a tuple, not swapped -/
def upOk (c : Ck) (t v : Expr) (i j l : Nat) (x y z e1 e2 e3 : Expr) (f1 f2 f3 : Bool) (a b d : E) : Bool :=
  decide (swN c.sc [x, y, z] [e1, e2, e3] = some none) && (nmTo c i x && nmTo c j y && nmTo c l z) && (ckV c f1 a e1 && notStar e1) && (ckV c f2 b e2 && notStar e2) && (ckV c f3 d e3 && notStar e3)
mutual
def ckS (c : Ck) : S → Stmt → Bool
  | .asg tg e, st => (match aAsg st with
    | some (t, v) => ckE c false e v && ((asgOk c t v && ckG c tg t) || (lcSw c t v && isCmp e && (match tgNm tg with
      | some i => nmIs c i t
      | none => false)))
    | none => false)
  | .own i e, st => (match aAsg st with
    | some (t, v) => nmTo c i t && ((asgOk c t v && ckO c e v) || (lcSw c t v && isCmp e && ckE c false e v))
    | none => false)
  | .par ts es, st => (match aAsg st with
    | some (t, v) => (match aTup t, aTup v with
      | some ns, some vs => (match ts, es, ns, vs with
        | [(i, f1), (j, f2)], .cons a (.cons b .nil), [x, y], [e1, e2] => decide (swN c.sc [x, y] [e1, e2] = some (some [nmOf x, nmOf y])) && locIs c i x && locIs c j y && decide (i ≠ j) && (ckV c f1 a e1 && notStar e1) && (ckV c f2 b e2 && notStar e2)
        | [(i, f1), (j, f2), (l, f3)], .cons a (.cons b (.cons d .nil)), [x, y, z], [e1, e2, e3] => upOk c t v i j l x y z e1 e2 e3 f1 f2 f3 a b d || decide (swN c.sc [x, y, z] [e1, e2, e3] = some (some [nmOf x, nmOf y, nmOf z])) && (locIs c i x && locIs c j y && locIs c l z) && (decide (i ≠ j) && decide (i ≠ l) && decide (j ≠ l)) && (ckV c f1 a e1 && notStar e1) && (ckV c f2 b e2 && notStar e2) && (ckV c f3 d e3 && notStar e3)
        | _, _, _, _ => false)
      | _, _ => false)
    | none => false)
  | .aug i o e, st => (match aAug st with
    | some (x, op, v) => decide (op = .Add) && (match o with
      | .add => true
      | _ => false) && c.to i x && ckE c false e v
    | none => false)
  | .exp e, st => (match aExp st with
    | some v => !isComp v && ckE c false e v
    | none => false)
  | .app i e, st => (match aExp st with
    | some v => (match aMeth v with
      | some (x, m, [y]) => decide (m = ("append" : Str)) && c.nm i x && ckE c false e y && notStar y
      | _ => false)
    | none => false)
  | .apop i j n, st => (match aExp st with
    | some v => (match aMeth v with
      | some (x, m, [y]) => (match aMeth y with
        | some (z, m2, [u]) => decide (m = ("append" : Str)) && decide (m2 = ("pop" : Str)) && c.nm i x && c.nm j z && ckE c false n u && notStar u
        | _ => false)
      | _ => false)
    | none => false)
  | .pop tg j, st => (match aAsg st with
    | some (t, v) => (match aMeth v with
      | some (x, m, []) => decide (m = ("pop" : Str)) && c.nm j x && ckG c tg t && asgOk c t v
      | _ => false)
    | none => false)
  | .ext i e, st => (match aExp st with
    | some v => (match aMeth v with
      | some (x, m, [y]) => decide (m = ("extend" : Str)) && c.nm i x && ckE c false e y && notStar y
      | _ => false)
    | none => false)
  | .sto i n e, st => (match aAsg st with
    | some (t, v) => (match aSub t with
      | some (o, s) => nmNm c i o && ckE c false e v && ckE c false n s && notSlice s && asgOk c t v
      | none => false)
    | none => false)
  | .ste a n e, st => (match aAsg st with
    | some (t, v) => (match aSub t with
      | some (o, s) => ckE c false a o && ckE c false e v && ckE c false n s && notSlice s && asgOk c t v
      | none => false)
    | none => false)
  | .ite d a b, st => (match aIte st with
    | some (x, y, z) => ckE c true d x && ckSs c a y && ckSs c b z
    | none => false)
  | .for_ tg it b, st => (match aFor st with
    | some (t, i, y) => ckI c false it i t && notSet i && ckG c tg t && ckSs c b y
    | none => false)
  | .whl d b, st => (match aWhl st with
    | some (x, y) => ckE c true d x && ckSs c b y
    | none => false)
  | .ret e, st => (match aRet st with
    | some (some v) => ckE c false e v
    | _ => false)
  | .retn, st => (match aRet st with
    | some none => true
    | _ => false)
  | .brk, st => isBrk st
  | .cont, st => isCont st
  | .pass, st => isPass st
  | .rse n es, st => (match aRse st with
    | some v => (match aCall v with
      | some (x, []) => decide (x = excName n) && es.isNil && c.exs n && c.gl x && dbg x
      | _ => false)
    | none => false)
  | .kill _, _ => false
  | .frz _, _ => false
  | .tri e hs, st => (match aTry st with
    | some (v, _, es) => !isComp v && ckE c false e v && ckHs c hs es && !hs.isEmpty
    | none => false)
def ckSs (c : Ck) : Ss → List Stmt → Bool
  | .nil, sts => sts.isEmpty
  | .cons s r, sts => if ghost s then ckSs c r sts else match sts with
    | st :: sts => ckS c s st && ckSs c r sts
    | [] => false
end
abbrev sM (C : MP.Ctx) (s : S) : SM := fun ρ T => exec C ρ T s
abbrev ssM (C : MP.Ctx) (s : Ss) : SM := fun ρ T => execs C ρ T s
theorem nm_eq {t : Expr} {y : Str} (h : aName t = some y) : nmOf t = y := by unfold nmOf; rw [h]; rfl
section
variable {X : Cx} {Wx : WX} {C : MP.Ctx} {k : Nat} {c : Ck}
theorem loc_is (h : COk X Wx C k c) {i : Nat} {t : Expr} (q : locIs c i t = true) : ∃ p, t = .Name (nmOf t) p ∧ X.N[i]? = some (nmOf t) ∧ X.env.scope.names.lookup (nmOf t) = some .local := by
  unfold locIs at q
  split at q
  · rename_i y hy
    rw [Bool.and_eq_true, decide_eq_true_eq, decide_eq_true_eq] at q
    rw [nm_eq hy]
    obtain ⟨p, e⟩ := aName_eq hy
    exact ⟨p, e, by rw [h.N]; exact q.1, by rw [h.sc]; exact q.2⟩
  · cases q
theorem par2_ok (h : COk X Wx C k c) {i j : Nat} {f1 f2 : Bool} {a b : E} {x y e1 e2 : Expr} {kt k2 : Nat} {pt p2 pos : Pos} (q : (decide (swN c.sc [x, y] [e1, e2] = some (some [nmOf x, nmOf y])) && locIs c i x && locIs c j y && decide (i ≠ j) && (ckV c f1 a e1 && notStar e1) && (ckV c f2 b e2 && notStar e2)) = true) :
    SJ X Wx (.Assign [.Tuple [x, y] kt pt] (.Tuple [e1, e2] k2 p2) pos) (sM C (.par [(i, f1), (j, f2)] (.cons a (.cons b .nil)))) := by
  rw [and6, decide_eq_true_eq, decide_eq_true_eq] at q
  obtain ⟨q1, q2, q3, q4, q5, q6⟩ := q
  rw [Bool.and_eq_true] at q5 q6
  obtain ⟨px, ex, nx, lx⟩ := loc_is h q2
  obtain ⟨py, ey, ny, ly⟩ := loc_is h q3
  rw [← h.sc] at q1
  have hw := swN_ok (k := kt) (k2 := k2) (p := pt) (p2 := p2) h.kind q1
  rw [ex, ey] at hw ⊢
  exact sj_par2 h.calm h.nd nx ny q4 lx ly (ckV_ok h q5.1) (ckV_ok h q6.1) q5.2 q6.2 hw
theorem par3_ok (h : COk X Wx C k c) {i j l : Nat} {f1 f2 f3 : Bool} {a b d : E} {x y z e1 e2 e3 : Expr} {kt k2 : Nat} {pt p2 pos : Pos} (q : (decide (swN c.sc [x, y, z] [e1, e2, e3] = some (some [nmOf x, nmOf y, nmOf z])) && (locIs c i x && locIs c j y && locIs c l z) && (decide (i ≠ j) && decide (i ≠ l) && decide (j ≠ l)) && (ckV c f1 a e1 && notStar e1) && (ckV c f2 b e2 && notStar e2) && (ckV c f3 d e3 && notStar e3)) = true) :
    SJ X Wx (.Assign [.Tuple [x, y, z] kt pt] (.Tuple [e1, e2, e3] k2 p2) pos) (sM C (.par [(i, f1), (j, f2), (l, f3)] (.cons a (.cons b (.cons d .nil))))) := by
  rw [and6, decide_eq_true_eq] at q
  obtain ⟨q1, q2, q3, q4, q5, q6⟩ := q
  rw [Bool.and_eq_true] at q4 q5 q6
  rw [and3] at q2 q3
  rw [decide_eq_true_eq, decide_eq_true_eq, decide_eq_true_eq] at q3
  obtain ⟨px, ex, nx, lx⟩ := loc_is h q2.1
  obtain ⟨py, ey, ny, ly⟩ := loc_is h q2.2.1
  obtain ⟨pz, ez, nz, lz⟩ := loc_is h q2.2.2
  rw [← h.sc] at q1
  have hw := swN_ok (k := kt) (k2 := k2) (p := pt) (p2 := p2) h.kind q1
  rw [ex, ey, ez] at hw ⊢
  exact sj_par3 h.calm h.nd nx ny nz q3.1 q3.2.1 q3.2.2 lx ly lz (ckV_ok h q4.1) (ckV_ok h q5.1) (ckV_ok h q6.1) q4.2 q5.2 q6.2 hw
theorem upar3_ok (h : COk X Wx C k c) {t v : Expr} {i j l : Nat} {f1 f2 f3 : Bool} {a b d : E} {x y z e1 e2 e3 : Expr} {kt k2 : Nat} {pt p2 pos : Pos} (q : upOk c t v i j l x y z e1 e2 e3 f1 f2 f3 a b d = true) :
    SJ X Wx (.Assign [.Tuple [x, y, z] kt pt] (.Tuple [e1, e2, e3] k2 p2) pos) (sM C (.par [(i, f1), (j, f2), (l, f3)] (.cons a (.cons b (.cons d .nil))))) := by
  unfold upOk at q
  rw [and5, decide_eq_true_eq] at q
  obtain ⟨q1, q2, q4, q5, q6⟩ := q
  rw [Bool.and_eq_true] at q4 q5 q6
  rw [and3] at q2
  obtain ⟨n1, n2, n3⟩ := q2
  unfold nmTo at n1 n2 n3
  split at n1
  · rename_i x' hx
    split at n2
    · rename_i y' hy
      split at n3
      · rename_i z' hz
        obtain ⟨px, rfl⟩ := aName_eq hx
        obtain ⟨py, rfl⟩ := aName_eq hy
        obtain ⟨pz, rfl⟩ := aName_eq hz
        rw [← h.sc] at q1
        have hw := swN_ok (k := kt) (k2 := k2) (p := pt) (p2 := p2) h.kind q1
        obtain ⟨a1, a2, a3⟩ := h.to n1
        obtain ⟨b1, b2, b3⟩ := h.to n2
        obtain ⟨c1, c2, c3⟩ := h.to n3
        exact sj_upar3 h.calm h.nd a1 b1 c1 a2 b2 c2 a3 b3 c3 (ckV_ok h q4.1) (ckV_ok h q5.1) (ckV_ok h q6.1) q4.2 q5.2 q6.2 (show swapsWith (.Tuple [e1, e2, e3] k2 p2) (some (.Tuple [.Name x' px, .Name y' py, .Name z' pz] kt pt)) pos.line X.env = pure false from swaps_no rfl _ _ _) hw
      · cases n3
    · cases n2
  · cases n1
end
mutual
theorem ckS_ok {C : MP.Ctx} {X : Cx} {Wx : WX} {k : Nat} {c : Ck} (h : COk X Wx C k c) (hst : X.stack = X.env :: X.outer) (hfr : X.env.frame = some X.env.locals) : ∀ (m : S) (st : Stmt), ckS c m st = true → SJ X Wx st (sM C m)
  | .asg tg e, st, q => by
    unfold ckS at q
    split at q
    · rename_i t v hx
      obtain ⟨p, rfl⟩ := aAsg_eq hx
      dsimp only
      rw [Bool.and_eq_true, Bool.or_eq_true] at q
      obtain ⟨q0, q | q⟩ := q
      · rw [Bool.and_eq_true] at q
        obtain ⟨z1, z2, z3⟩ := asg_ok h.kind h.sc q.1 p.line
        exact sj_asg (ckE_ok e h false v q0) (ckG_ok h tg t q.2) z1 z2 z3
      · rw [and3] at q
        obtain ⟨q1, q2, q3⟩ := q
        obtain ⟨y, py, rfl, hy, hsw⟩ := lcSw_ok h.kind h.sc q1 p.line
        cases tg <;> first | (cases q3; done) | skip
        rename_i i
        have q3 : decide (c.N[i]? = some y) = true := q3
        rw [decide_eq_true_eq] at q3
        cases e <;> first | (cases q2; done) | skip
        exact (lcj_of h q0).nm (by rw [h.N]; exact q3) hy hsw
    · cases q
  | .own i e, st, q => by
    unfold ckS at q
    split at q
    · rename_i t v hx
      obtain ⟨p, rfl⟩ := aAsg_eq hx
      dsimp only
      rw [Bool.and_eq_true, Bool.or_eq_true] at q
      obtain ⟨q0, q⟩ := q
      unfold nmTo at q0
      split at q0
      · rename_i y hy
        obtain ⟨py, rfl⟩ := aName_eq hy
        obtain ⟨g1, g2, g3⟩ := h.to q0
        rcases q with q | q
        · rw [Bool.and_eq_true] at q
          obtain ⟨z1, z2, z3⟩ := asg_ok h.kind h.sc q.1 p.line
          exact sj_own h.nd g1 g2 (ckO_ok' h q.2) z1 g3
        · rw [and3] at q
          obtain ⟨q1, q2, q3⟩ := q
          obtain ⟨y', py', e', hy', hsw⟩ := lcSw_ok h.kind h.sc q1 p.line
          cases e'
          cases e <;> first | (cases q2; done) | skip
          exact (lcj_of h q3).own g1 hy' hsw
      · cases q0
    · cases q
  | .par ts es, st, q => by
    unfold ckS at q
    split at q
    · rename_i t v hx
      obtain ⟨p, rfl⟩ := aAsg_eq hx
      dsimp only
      split at q
      · rename_i ns vs ht hv
        obtain ⟨kt, pt, e1⟩ := aTup_eq ht
        obtain ⟨k2, p2, e2⟩ := aTup_eq hv
        subst e1 e2
        split at q
        · exact par2_ok h q
        · rw [Bool.or_eq_true] at q
          rcases q with q | q
          · exact upar3_ok h q
          · exact par3_ok h q
        · cases q
      · cases q
    · cases q
  | .aug i o e, st, q => by
    unfold ckS at q
    split at q
    · rename_i x op v hx
      obtain ⟨p, p2, rfl⟩ := aAug_eq hx
      rw [and4, decide_eq_true_eq] at q
      obtain ⟨q1, q2, q3, q4⟩ := q
      dsimp only at q1 ⊢
      subst q1
      cases o <;> first | (cases q2; done) | skip
      obtain ⟨g1, g2, g3⟩ := h.to q3
      exact sj_aug h.nd g1 g2 (ckE_ok e h false v q4) g3
    · cases q
  | .exp e, st, q => by
    unfold ckS at q
    split at q
    · rename_i v hx
      obtain ⟨p, rfl⟩ := aExp_eq hx
      rw [Bool.and_eq_true, Bool.not_eq_true'] at q
      exact sj_exp (ckE_ok e h false v q.2) (swaps_no q.1 _ _ _)
    · cases q
  | .app i e, st, q => by
    unfold ckS at q
    split at q
    · rename_i v hx
      obtain ⟨p, rfl⟩ := aExp_eq hx
      split at q
      · rename_i x m y hv
        obtain ⟨py, ap, cp, rfl, hl⟩ := aMeth_eq hv
        rw [and4, decide_eq_true_eq] at q
        obtain ⟨q1, q2, q3, q4⟩ := q
        dsimp only at q1 ⊢
        subst q1
        obtain ⟨g1, g2, g3, g4⟩ := h.nm q2
        exact sj_app g1 g2 g3 g4 (ckE_ok e h false y q3) q4 hl
      · cases q
    · cases q
  | .apop i j n, st, q => by
    unfold ckS at q
    split at q
    · rename_i v hx
      obtain ⟨p, rfl⟩ := aExp_eq hx
      split at q
      · rename_i x m y hv
        obtain ⟨py, ap, cp, rfl, hl⟩ := aMeth_eq hv
        split at q
        · rename_i z m2 u hy
          obtain ⟨py2, ap2, cp2, e2, hl2⟩ := aMeth_eq hy
          subst e2
          rw [and6, decide_eq_true_eq, decide_eq_true_eq] at q
          obtain ⟨q1, q2, q3, q4, q5, q6⟩ := q
          dsimp only at q1 q2 ⊢
          subst q1 q2
          obtain ⟨g1, g2, g3, g4⟩ := h.nm q3
          obtain ⟨k1, k2, k3, k4⟩ := h.nm q4
          exact sj_apop g1 g2 g3 g4 k1 k2 k3 k4 (ckE_ok n h false u q5) q6 hl hl2
        · cases q
      · cases q
    · cases q
  | .pop tg j, st, q => by
    unfold ckS at q
    split at q
    · rename_i t v hx
      obtain ⟨p, rfl⟩ := aAsg_eq hx
      dsimp only
      split at q
      · rename_i x m hv
        obtain ⟨py, ap, cp, rfl, hl⟩ := aMeth_eq hv
        rw [and4, decide_eq_true_eq] at q
        obtain ⟨q1, q2, q3, q4⟩ := q
        dsimp only at q1 q4 ⊢
        subst q1
        obtain ⟨g1, g2, g3, g4⟩ := h.nm q2
        obtain ⟨z1, z2, z3⟩ := asg_ok h.kind h.sc q4 p.line
        exact sj_pop g1 g2 g3 g4 hl (ckG_ok h tg t q3) z1 z2 z3
      · cases q
    · cases q
  | .ext i e, st, q => by
    unfold ckS at q
    split at q
    · rename_i v hx
      obtain ⟨p, rfl⟩ := aExp_eq hx
      split at q
      · rename_i x m y hv
        obtain ⟨py, ap, cp, rfl, hl⟩ := aMeth_eq hv
        rw [and4, decide_eq_true_eq] at q
        obtain ⟨q1, q2, q3, q4⟩ := q
        dsimp only at q1 ⊢
        subst q1
        obtain ⟨g1, g2, g3, g4⟩ := h.nm q2
        exact sj_ext g1 g2 g3 g4 (ckE_ok e h false y q3) q4 hl
      · cases q
    · cases q
  | .sto i n e, st, q => by
    unfold ckS at q
    split at q
    · rename_i t v hx
      obtain ⟨p, rfl⟩ := aAsg_eq hx
      dsimp only
      split at q
      · rename_i o s ht
        obtain ⟨ps, rfl⟩ := aSub_eq ht
        rw [and5] at q
        obtain ⟨q1, q2, q3, q4, q5⟩ := q
        unfold nmNm at q1
        split at q1
        · rename_i y hy
          obtain ⟨py, e2⟩ := aName_eq hy
          subst e2
          obtain ⟨g1, g2, g3, g4⟩ := h.nm q1
          obtain ⟨z1, z2, z3⟩ := asg_ok h.kind h.sc q5 p.line
          exact sj_sto g1 g2 g3 g4 (ckE_ok e h false v q2) (ckE_ok n h false s q3) q4 z1 z2
        · cases q1
      · cases q
    · cases q
  | .ste a n e, st, q => by
    unfold ckS at q
    split at q
    · rename_i t v hx
      obtain ⟨p, rfl⟩ := aAsg_eq hx
      dsimp only
      split at q
      · rename_i o s ht
        obtain ⟨ps, rfl⟩ := aSub_eq ht
        rw [and5] at q
        obtain ⟨q1, q2, q3, q4, q5⟩ := q
        obtain ⟨z1, z2, z3⟩ := asg_ok h.kind h.sc q5 p.line
        exact sj_ste (ckE_ok e h false v q2) (ckE_ok a h false o q1) (ckE_ok n h false s q3) q4 z1 z2
      · cases q
    · cases q
  | .ite d a b, st, q => by
    unfold ckS at q
    split at q
    · rename_i x y z hx
      obtain ⟨p, rfl⟩ := aIte_eq hx
      rw [and3] at q
      exact sj_if (ckE_ok d h true x q.1) (ckSs_ok h hst hfr a y q.2.1) (ckSs_ok h hst hfr b z q.2.2)
    · cases q
  | .for_ tg it b, st, q => by
    unfold ckS at q
    split at q
    · rename_i t i y hx
      obtain ⟨p, rfl⟩ := aFor_eq hx
      rw [and4] at q
      obtain ⟨q1, q2, q3, q4⟩ := q
      exact sj_for h.pas h.calm (ckI_ok it h false i t q1) (ckG_ok h tg t q3) (ckSs_ok h hst hfr b y q4) (notSet_ok q2 _)
    · cases q
  | .whl d b, st, q => by
    unfold ckS at q
    split at q
    · rename_i x y hx
      obtain ⟨p, rfl⟩ := aWhl_eq hx
      rw [Bool.and_eq_true] at q
      exact sj_while h.pas (ckE_ok d h true x q.1) (ckSs_ok h hst hfr b y q.2)
    · cases q
  | .ret e, st, q => by
    unfold ckS at q
    split at q
    · rename_i v hx
      obtain ⟨p, rfl⟩ := aRet_eq hx
      exact sj_ret (ckE_ok e h false v q)
    · cases q
  | .retn, st, q => by
    unfold ckS at q
    split at q
    · rename_i hx
      obtain ⟨p, rfl⟩ := aRet_eq hx
      exact sj_retn
    · cases q
  | .brk, st, q => by
    unfold ckS at q
    obtain ⟨p, rfl⟩ := isBrk_eq q
    exact sj_brk
  | .cont, st, q => by
    unfold ckS at q
    obtain ⟨p, rfl⟩ := isCont_eq q
    exact sj_cont
  | .pass, st, q => by
    unfold ckS at q
    obtain ⟨p, rfl⟩ := isPass_eq q
    exact sj_pass
  | .rse n es, st, q => by
    unfold ckS at q
    split at q
    · rename_i v hx
      obtain ⟨p, rfl⟩ := aRse_eq hx
      split at q
      · rename_i x hv
        obtain ⟨p1, p2, rfl⟩ := aCall_eq hv
        rw [and5, decide_eq_true_eq] at q
        obtain ⟨q1, q2, q3, q4, q5⟩ := q
        dsimp only at q1 ⊢
        subst q1
        cases es <;> first | (cases q2; done) | skip
        exact sj_rse h.calm h.tk (h.exs n q3) (h.gl q4) (dbg_ok q5).1
      · cases q
    · cases q
  | .kill i, st, q => by unfold ckS at q; cases q
  | .frz i, st, q => by unfold ckS at q; cases q
  | .tri e hs, st, q => by
    unfold ckS at q
    split at q
    · rename_i v p es hx
      obtain ⟨p2, rfl⟩ := aTry_eq hx
      rw [and4, Bool.not_eq_true', Bool.not_eq_true'] at q
      obtain ⟨q1, q2, q3, q4⟩ := q
      exact sj_tri h hst hfr q4 q3 (swaps_no q1 _ _ _) fun {W pn xe} h' => ckE_ok e h' false v q2
    · cases q
theorem ckSs_ok {C : MP.Ctx} {X : Cx} {Wx : WX} {k : Nat} {c : Ck} (h : COk X Wx C k c) (hst : X.stack = X.env :: X.outer) (hfr : X.env.frame = some X.env.locals) : ∀ (m : Ss) (sts : List Stmt), ckSs c m sts = true → SsJ X Wx sts (ssM C m)
  | .nil, sts, q => by
    unfold ckSs at q
    cases sts with
    | nil => exact sj_nil
    | cons _ _ => cases q
  | .cons s r, sts, q => by
    unfold ckSs at q
    cases hg : ghost s with
    | true =>
      rw [hg, if_pos rfl] at q
      have j := ckSs_ok h hst hfr r sts q
      cases s <;> first | (cases hg; done) | skip
      · exact sj_kill j
      · rename_i i
        exact PSs.imp (sj_frz (i := i) j) fun D σ H z => by
          obtain ⟨w, ρ, T, w0, H0, wb, t, er, s0, p⟩ := z
          refine ⟨w, ρ, T, w0, H0, wb, t, er, s0, ?_⟩
          have p : Sst X.K Wx w0 H0 wb (match (match owned ρ i with
            | some xs => SR.nx (ρ.set i (.va (.lst xs))) T
            | none => .nx ρ T) with
            | .nx ρ' T' => execs C ρ' T' r
            | x => x) D := p
          cases e : owned ρ i with
          | none => rw [e] at p; simp only [e]; exact p
          | some xs => rw [e] at p; simp only [e]; exact p
    | false =>
      rw [hg, if_neg Bool.false_ne_true] at q
      cases sts with
      | nil => cases q
      | cons st sts =>
        have q : (ckS c s st && ckSs c r sts) = true := q
        rw [Bool.and_eq_true] at q
        exact sj_cons (ckS_ok h hst hfr s st q.1) (ckSs_ok h hst hfr r sts q.2)
end
end MPS
end

section
set_option Elab.async false
set_option linter.all false
set_option maxRecDepth 100000
set_option autoImplicit false
/-! the defs keep their promises -/
namespace MPS
open PySem PySem.Spec PyProof.Rows L2 MP
/-- a def as it stands, its term, the check's word -/
structure DefOk (P : MP.Prog) (K : Frg) (mg : Str → Option Value) (ar : Nat → Option Nat) (exs co : Nat → Bool) (f n : Nat) : Prop where
  ex : ∃ (F : MP.Fn) (N : List Str) (qual : Str) (params : Arguments) (body : List Stmt) (scope : Scope) (fd : FuncData), P.fn f = some F ∧ F.ps = n ∧ FunD K (fnNm f) qual params body scope [] [] (He.ga K (fnNm f)) fd ∧ Binds K fd (N.take n) [] ∧ FnScope N (N.take n) scope ∧
    N.length = F.ns ∧ n ≤ N.length ∧ ckSs ⟨N, scope.names, scope.names, ar, exs, co⟩ F.body body = true
  mg : mg (fnNm f) = some (.ref (He.ga K (fnNm f)))
/-- a whole program -/
structure PrgOk (P : MP.Prog) (K : Frg) (mg : Str → Option Value) (ar : Nat → Option Nat) (exs co : Nat → Bool) : Prop where
  defs : ∀ f n : Nat, ar f = some n → DefOk P K mg ar exs co f n
  exc : ∀ n : Nat, exs n = true → (∃ (bmB : List Value) (B newId initId : String), ExcBaseFacts B newId initId bmB ∧ PySem.W.excIn K (He.ga K (excName n)) bmB newId = true) ∧ mg (excName n) = some (.ref (He.ga K (excName n))) ∧ PySem.W.keepIn K (.ref (He.ga K (excName n))) = true ∧
    PySem.W.subIn K (.ref (He.ga K (excName n))) (.type "BaseException") = some true ∧ PySem.W.typeIn K (.ref (He.ga K (excName n))) = some (.type "type")
  xcs : ∀ n : Nat, exs n = true → ExcC K (exA K n) ∧ PySem.W.kitOne K (.ref (exA K n)) (.type "ValueError") = some true
  exm : ∀ n m : Nat, exs n = true → exs m = true → PySem.W.exmOne K (.ref (exA K n)) (.ref (exA K m)) = some (decide (n = m))
  ars : ∀ (f : Nat) (F : MP.Fn), P.fn f = some F → ar f = some F.ps
  con : ∀ n : Nat, co n = true → ∃ (v : V) (u : Value), mg (coNm n) = some u ∧ RelV v u ∧ ∀ p, P.gl n = some p → ∀ w, Rep K w p v
  blt : ∀ x : Str, bltN.contains x = true → mg x = none
section
variable {P : MP.Prog} {Pg : Program} {w : World} {K : Frg} {mg : Str → Option Value} {base : Heap} {ar : Nat → Option Nat} {exs co : Nat → Bool}
theorem er_start {K : Frg} {w : W} {H : Hp} {N : List Str} {vs : List V} {ps : List PV} {ns : Nat} (hl : N.length = ns) (r : Reps K w ps vs) : Er K H w H (L2.start N vs) (startE ns ps) where
  len := by unfold L2.start startE; rw [List.length_append, List.length_append, List.length_map, List.length_map, List.length_replicate, List.length_replicate, hl, r.length]
  va := fun i v e => by
    unfold startE at e
    by_cases hi : i < ps.length
    · rw [List.getElem?_append_left (by simpa using hi), List.getElem?_map] at e
      cases e2 : ps[i]? with
      | none => rw [e2] at e; cases e
      | some p =>
        rw [e2] at e; cases e
        obtain ⟨x, h1, h2⟩ := r.get e2
        refine ⟨x, ?_, h2⟩
        unfold L2.start
        rw [List.getElem?_append_left (by rw [List.length_map, ← r.length]; exact hi), List.getElem?_map, h1]; rfl
    · rw [List.getElem?_append_right (by simpa using hi), List.getElem?_replicate] at e
      split at e <;> cases e
  ow := fun i v e => by
    unfold startE at e
    by_cases hi : i < ps.length
    · rw [List.getElem?_append_left (by simpa using hi), List.getElem?_map] at e
      cases e2 : ps[i]? with
      | none => rw [e2] at e; cases e
      | some p => rw [e2] at e; cases e
    · rw [List.getElem?_append_right (by simpa using hi), List.getElem?_replicate] at e
      split at e <;> cases e
  dj := fun i j v _ _ e => by
    unfold startE at e
    by_cases hi : i < ps.length
    · rw [List.getElem?_append_left (by simpa using hi), List.getElem?_map] at e
      cases e2 : ps[i]? with
      | none => rw [e2] at e; cases e
      | some p => rw [e2] at e; cases e
    · rw [List.getElem?_append_right (by simpa using hi), List.getElem?_replicate] at e
      split at e <;> cases e
/-- one def, one step deeper -/
theorem fn_succ (G : PrgOk P K mg ar exs co) {d f n : Nat} (ih : ∀ f n : Nat, ar f = some n → ∃ (fd : FuncData) (ps : List Str), FnOk Pg w K mg base (L2.CX Pg w) d (He.ga K (fnNm f)) fd ps (spF K n (callF P d f)) ∧ Binds K fd ps [])
    {F : MP.Fn} {N : List Str} {qual : Str} {params : Arguments} {body : List Stmt} {scope : Scope} {fd : FuncData} (h1 : P.fn f = some F) (h2 : F.ps = n) (h3 : FunD K (fnNm f) qual params body scope [] [] (He.ga K (fnNm f)) fd) (h5 : FnScope N (N.take n) scope)
    (h6 : N.length = F.ns) (h7 : n ≤ N.length) (h8 : ckSs ⟨N, scope.names, scope.names, ar, exs, co⟩ F.body body = true) : FnOk Pg w K mg base (L2.CX Pg w) (d + 1) (He.ga K (fnNm f)) fd (N.take n) (spF K n (callF P (d + 1) f)) := by
  refine h3.ok (k := d) h5 (fun vs H Q E q => ?_) (fun cdv A outer s H vs Q E hr q => ?_)
  · obtain ⟨w, T, ps, q1, _⟩ := q
    rw [q1, List.length_take]; omega
  · have ck : COk (cxOf (L2.CX Pg w) Pg w K mg base N qual scope (He.ga K (fnNm f)) cdv A outer s H E) (fun cls d _ H => E cls d H) ⟨callF P d, P.gl, P.fu⟩ d ⟨N, scope.names, scope.names, ar, exs, co⟩ := {
      calm := rfl
      nd := h5.nd
      N := rfl
      sc := rfl
      st := fun x k e _ => e
      kind := h5.kind
      fn := fun _ _ => rfl
      hu := by have := hr.un; show (A.deeper (envOfC qual scope s.heap.objs.size (He.ga K (fnNm f)) cdv)).units + 65 < _; omega
      tk := takes_of rfl rfl rfl rfl
      room := hr
      fns := fun f' n' e' => by
        have D := G.defs f' n' e'
        obtain ⟨_, _, _, _, _, _, _, _, _, z, _⟩ := D.ex
        exact ⟨D.mg, z.kp, ih f' n' e'⟩
      exs := fun n' e' => by
        obtain ⟨a, b, c, d1, d2⟩ := G.exc n' e'
        exact ⟨a, b, c, raises_own d1 d2⟩
      xcs := fun n' e' => ⟨(G.xcs n' e').1, (G.xcs n' e').2, (G.exc n' e').2.1⟩
      exm := G.exm
      cfb := fun f' xs T' z => by
        have z : callF P d f' xs T' ≠ .bad := z
        cases d with
        | zero => exact absurd rfl z
        | succ d =>
          unfold callF at z
          cases e1 : P.fn f' with
          | none => rw [e1] at z; exact absurd rfl z
          | some F' =>
            rw [e1] at z
            by_cases e2 : xs.length = F'.ps
            · exact ⟨_, G.ars f' F' e1, e2⟩
            · simp only [if_neg e2] at z; exact absurd rfl z
      co := G.con
      bl := G.blt
      pas := passes_of rfl }
    refine ⟨_, ckSs_ok ck rfl rfl F.body body h8, ?_⟩
    obtain ⟨w0, T, ps, q1, q2, q3, q4⟩ := q
    have hps : ps.length = F.ps := by rw [q3.length, q1, h2]
    have q4 : (match (match P.fn f with
      | some F => if ps.length = F.ps then ofSR (execs ⟨callF P d, P.gl, P.fu⟩ (startE F.ns ps) T F.body) else .bad
      | none => Res.bad) with
      | .ok r T' => ∀ x w' H', Stp w0 H w' H' → HT K w' H' T' → Rep K w' r x → Q x H'
      | .ex xn T' => ∀ w' H' c d, Stp w0 H w' H' → HT K w' H' T' → XRep K w' H' xn c d → E c d H'
      | .bad => False) := q4
    rw [h1] at q4
    simp only [if_pos hps] at q4
    refine ⟨w0, startE F.ns ps, T, w0, H, w0, q2, er_start h6 q3, ⟨Stp.refl _ _, Wle.refl _⟩, ?_⟩
    show Sst K (fun cls d _ H => E cls d H) w0 H w0 (execs ⟨callF P d, P.gl, P.fu⟩ (startE F.ns ps) T F.body) _
    cases er : execs ⟨callF P d, P.gl, P.fu⟩ (startE F.ns ps) T F.body with
    | nx ρ T' => rw [er] at q4; exact fun σ w' H' t _ b => q4 _ w' H' b.s t .non
    | rt v T' => rw [er] at q4; exact fun x w' H' t b r => q4 x w' H' b.s t r
    | ex x T' => rw [er] at q4; exact fun σ w' H' c d t b r => q4 w' H' c d b.s t r
    | bk ρ T' => rw [er] at q4; exact q4.elim
    | ct ρ T' => rw [er] at q4; exact q4.elim
    | bad => rw [er] at q4; exact q4.elim
/-- at any depth every def keeps its promise -/
theorem fns_ok (G : PrgOk P K mg ar exs co) : ∀ (d f n : Nat), ar f = some n → ∃ (fd : FuncData) (ps : List Str), FnOk Pg w K mg base (L2.CX Pg w) d (He.ga K (fnNm f)) fd ps (spF K n (callF P d f)) ∧ Binds K fd ps []
  | 0, f, n, e => by
    obtain ⟨F, N, qual, params, body, scope, fd, h1, h2, h3, h4, h5, h6, h7, h8⟩ := (G.defs f n e).ex
    refine ⟨fd, _, ⟨fun vs H Q E q => ?_, fun A outer s H args us vs Q E hr he hb hv hs => ?_⟩, h4⟩
    · obtain ⟨w, T, ps, q1, _⟩ := q
      rw [q1, List.length_take]; omega
    · obtain ⟨w, T, ps, q1, _, _, q2⟩ := hs
      exact q2.elim
  | d + 1, f, n, e => by
    obtain ⟨F, N, qual, params, body, scope, fd, h1, h2, h3, h4, h5, h6, h7, h8⟩ := (G.defs f n e).ex
    exact ⟨fd, _, fn_succ G (fun f n e => fns_ok G d f n e) h1 h2 h3 h5 h6 h7 h8, h4⟩
/-! ### the law's def -/
/-- an empty set of cells, what the heap holds -/
def w00 (H : Hp) : W := ⟨H, []⟩
theorem ht00 (K : Frg) (H : Hp) : HT K (w00 H) H [] := by
  refine ⟨fun _ _ e => e, rfl, fun n a xs e => ?_, fun a h => ?_, List.nodup_nil⟩
  · have e : ([] : List Addr)[n]? = some a := e
    simp at e
  · have h : a ∈ ([] : List Addr) := h
    simp at h
theorem reps_ints {K : Frg} {w : W} : ∀ ns : List Int, Reps K w (ns.map PV.int) (ns.map V.int)
  | [] => .nil
  | n :: ns => .cons (.int n) (reps_ints ns)
/-- the script, given as a row, is answered by True -/
theorem law_sp {K : Frg} {n : Nat} {g : List PV → Store → Res PV} (h : ∀ ns : List Int, ns.length ≤ n → ∃ T, g [.st (ns.map PV.int)] [] = .ok (.bl true) T) (H : Hp) (a : Addr) (ns : List Int) (hl : ns.length ≤ n) (hS : SqL K H a (ns.map V.int)) :
    spF K 1 g [.ref a] H (fun v _ => v = .bl true) fun _ _ _ => False := by
  obtain ⟨T, e⟩ := h ns hl
  refine ⟨w00 H, [], [.st (ns.map PV.int)], rfl, ht00 K H, .cons (.st hS (reps_ints ns)) .nil, ?_⟩
  rw [e]
  intro x w' H' _ _ r
  cases r; rfl
end
/-- nothing is let out -/
theorem fn0 {P : Program} {w : World} {K : Frg} {mg : Str → Option Value} {base : Heap} {k : Nat} {f : Addr} {fd : FuncData} {ps : List Str} {sp : Sp} (F : FnOk P w K mg base (L2.CX P w) k f fd ps sp) : FnOk P w K mg base CX0 k f fd ps (fun vs H Q _ => sp vs H Q fun _ _ _ => False) where
  len := fun vs H Q E h => F.len vs H Q _ h
  run := fun A outer s H args us vs Q E hr he hb hv h => codeAny_mono (F.run A outer s H args us vs Q (fun _ _ _ => False) hr he hb hv h) fun r s' q => by
    cases r with
    | error e =>
      obtain ⟨_, _, _, _, _, _, _, _, _, _, _, _, z⟩ := q
      exact z.elim
    | ok fl => cases fl <;> exact q
theorem lookup_mem {α : Type} {f : Nat} {F : α} : ∀ {l : List (Nat × α)}, l.lookup f = some F → (f, F) ∈ l
  | (g, G) :: l, h => by
    rw [List.lookup_cons] at h
    cases e : f == g with
    | true => rw [e] at h; cases h; rw [beq_iff_eq.mp e]; exact List.mem_cons_self
    | false => rw [e] at h; exact List.mem_cons_of_mem _ (lookup_mem h)
theorem exc_one {K : Frg} {mg : Str → Option Value} {n : Nat} (h1 : mg (excName n) = some (.ref (He.ga K (excName n)))) (h2 : PySem.W.excIn K (He.ga K (excName n)) He.veBase "ValueError.__new__" = true ∧ PySem.W.keepIn K (.ref (He.ga K (excName n))) = true ∧ PySem.W.subIn K (.ref (He.ga K (excName n))) (.type "BaseException") = some true ∧
    PySem.W.typeIn K (.ref (He.ga K (excName n))) = some (.type "type")) : (∃ (bmB : List Value) (B newId initId : String), ExcBaseFacts B newId initId bmB ∧ PySem.W.excIn K (He.ga K (excName n)) bmB newId = true) ∧ mg (excName n) = some (.ref (He.ga K (excName n))) ∧ PySem.W.keepIn K (.ref (He.ga K (excName n))) = true ∧
    PySem.W.subIn K (.ref (He.ga K (excName n))) (.type "BaseException") = some true ∧ PySem.W.typeIn K (.ref (He.ga K (excName n))) = some (.type "type") :=
  ⟨⟨_, _, _, _, PySem.F.excBase_ValueError, h2.1⟩, h1, h2.2.1, h2.2.2.1, h2.2.2.2⟩
theorem con_int {K : Frg} {mg : Str → Option Value} {x : Str} {i : Int} {q : Option PV} (h : ∃ t, mg x = some (.int i t)) (e : q = some (.int i)) : ∃ (v : V) (u : Value), mg x = some u ∧ RelV v u ∧ ∀ z, q = some z → ∀ w, Rep K w z v := by
  obtain ⟨t, h⟩ := h
  exact ⟨.int i, _, h, ⟨t, rfl⟩, fun z e2 w => by rw [e] at e2; cases e2; exact .int i⟩
theorem con_str {K : Frg} {mg : Str → Option Value} {x : Str} {i : Str} {q : Option PV} (h : ∃ t, mg x = some (.str i t)) (e : q = some (.str i)) : ∃ (v : V) (u : Value), mg x = some u ∧ RelV v u ∧ ∀ z, q = some z → ∀ w, Rep K w z v := by
  obtain ⟨t, h⟩ := h
  exact ⟨.str i, _, h, ⟨t, rfl⟩, fun z e2 w => by rw [e] at e2; cases e2; exact .str i⟩
/-! ### facts of exception classes, decided -/
def excB (K : Frg) (n : Nat) : Bool := decide (PySem.W.findIn K (.ref (exA K n)) "__getattribute__" = some (some (.builtin "BaseException.__getattribute__"))) && (decide (PySem.W.findIn K (.ref (exA K n)) "__getattr__" = some none) && (decide (PySem.W.subIn K (.ref (exA K n)) (.type "BaseException") = some true) && (PySem.W.hasDictIn K (exA K n) && (decide (PySem.W.findIn K (.ref (exA K n)) "__class__" = some (some (.builtin "object.__class__"))) && (decide (PySem.W.specialIn K (.builtin "object.__class__") "__get__" = some (some (.builtin "getset_descriptor.__get__"))) && (decide (PySem.W.takesIn K (.builtin "object.__class__") = some true) && (decide (PySem.W.mroIn K (exA K n) (.type "object") = some true) && decide (PySem.W.kitOne K (.ref (exA K n)) (.type "ValueError") = some true))))))))
theorem excB_ok {K : Frg} {n : Nat} (h : excB K n = true) : ExcC K (exA K n) ∧ PySem.W.kitOne K (.ref (exA K n)) (.type "ValueError") = some true := by
  unfold excB at h
  simp only [Bool.and_eq_true, decide_eq_true_eq] at h
  obtain ⟨h1, h2, h3, h4, h5, h6, h7, h8, h9⟩ := h
  exact ⟨⟨h1, h2, h3, h4, h5, h6, h7, h8⟩, h9⟩
/-- of the classes of these numbers -/
def excsB (ns : List Nat) (K : Frg) : Bool := (ns.all fun n => excB K n) && ns.all fun n => ns.all fun m => decide (PySem.W.exmOne K (.ref (exA K n)) (.ref (exA K m)) = some (decide (n = m)))
theorem excsB_ok {ns : List Nat} {K : Frg} (h : excsB ns K = true) : (∀ n : Nat, ns.contains n = true → ExcC K (exA K n) ∧ PySem.W.kitOne K (.ref (exA K n)) (.type "ValueError") = some true) ∧ ∀ n m : Nat, ns.contains n = true → ns.contains m = true → PySem.W.exmOne K (.ref (exA K n)) (.ref (exA K m)) = some (decide (n = m)) := by
  unfold excsB at h
  rw [Bool.and_eq_true] at h
  obtain ⟨h1, h2⟩ := h
  refine ⟨fun n e => excB_ok (List.all_eq_true.mp h1 n (by simpa using e)), fun n m e e2 => ?_⟩
  have := List.all_eq_true.mp (List.all_eq_true.mp h2 n (by simpa using e)) m (by simpa using e2)
  exact of_decide_eq_true this
/-! ### a hook that also asks ex -/
abbrev AlY : Type := He.AlD × Bool
def obsY (n : Nat) (fa : List He.Fa) (fn : List He.DefD) (ex : Frg → Bool) (g : Addr → Option Obj) : AlY := (He.obsD fa fn (He.frG g (He.asD g n)), ex (He.frG g (He.asD g n)))
def hookY (n : Nat) (fa : List He.Fa) (fn : List He.DefD) (ex : Frg → Bool) : PySem.W.Hook where
  α := AlY
  obs := fun s => obsY n fa fn ex s.heap.get?
  val := fun _ => (He.valD fn, true)
  says := fun _ h => ∃ K : Frg, K.In h ∧ He.SaysD fa fn K ∧ ex K = true
  of := fun _ _ e => ⟨_, He.frG_in, congrArg Prod.fst e, congrArg Prod.snd e⟩
  keeps := fun _ _ _ ⟨K, hK, c⟩ k => ⟨K, PySem.W.Frag.In.keeps hK k, c⟩
theorem obsY_eq {n : Nat} {fa : List He.Fa} {fn : List He.DefD} {ex : Frg → Bool} {g : Addr → Option Obj} {s : Shared} (h : ∀ a, g a = s.heap.get? a) : obsY n fa fn ex g = (hookY n fa fn ex).obs s := by
  have e : g = s.heap.get? := funext h
  rw [e] <;> rfl
/-! ### constants that are tuples of ints -/
def tupsB (ts : List (Str × List Int)) (K : Frg) : Bool := ts.all fun t => He.tupB K t.1 (t.2.map He.Dv.int)
def moreB (ns : List Nat) (ts : List (Str × List Int)) (K : Frg) : Bool := excsB ns K && tupsB ts K
theorem moreB_ok {ns : List Nat} {ts : List (Str × List Int)} {K : Frg} (h : moreB ns ts K = true) : excsB ns K = true ∧ ∀ (x : Str) (is : List Int), ts.contains (x, is) = true → ∀ H : Hp, SqT K H (He.ga K x) (is.map V.int) := by
  unfold moreB at h
  rw [Bool.and_eq_true] at h
  refine ⟨h.1, fun x is e H => ?_⟩
  have e2 : (x, is) ∈ ts := by simpa using e
  have z := He.tupB_ok (List.all_eq_true.mp h.2 _ e2) H
  rw [List.map_map] at z
  exact z
theorem con_tup {K : Frg} {mg : Str → Option Value} {x : Str} {is : List Int} {q : Option PV} (h : mg x = some (.ref (He.ga K x))) (t : ∀ H : Hp, SqT K H (He.ga K x) (is.map V.int)) (e : q = some (.tup (is.map PV.int))) : ∃ (v : V) (u : Value), mg x = some u ∧ RelV v u ∧ ∀ z, q = some z → ∀ w, Rep K w z v :=
  ⟨.ref (He.ga K x), _, h, rfl, fun z e2 w => by rw [e] at e2; cases e2; exact .tup (t _) (reps_ints is)⟩
end MPS
end

section
set_option Elab.async false
set_option linter.all false
set_option autoImplicit false
set_option maxRecDepth 100000
namespace IR
open MP
def f_law_box : MP.Fn := ⟨2, 3, (.cons (.asg (.nm 2) (.ife (.cmp .lt (.var 1) (.bi .len (.cons (.var 0) .nil))) (.idx (.var 0) (.var 1)) (.con (.int 0)))) (.cons (.ret (.nce (.cons (.bin .mul (.bi .abs (.cons (.var 2) .nil)) (.bi .int_ (.cons (.cmp .ge (.bi .abs (.cons (.var 2) .nil)) (.bin .pow (.con (.int 10)) (.con (.int 18)))) .nil))) (.cons (.bin .add (.bin .add (.bin .mod (.bi .int_ (.cons (.var 2) .nil)) (.con (.int 2305843009213693951))) (.bin .mul (.con (.int 39373)) (.var 1))) (.con (.int 26297))) (.cons (.con (.int 0)) .nil))))) .nil))⟩
def N_law_box : List String := ["script", "k", "bit_so"]
def b_law_cells_0 : MP.Ss := (.cons (.asg (.nm 5) (.bin .mod (.bi .int_ (.cons (.var 3) .nil)) (.var 1))) (.cons (.sto 2 (.var 5) (.bin .add (.idx (.pk 2) (.var 5)) (.bin .mul (.var 4) (.bin .add (.var 3) (.con (.int 2)))))) (.cons (.kill 3) (.cons (.kill 4) (.cons (.kill 5) .nil)))))
def f_law_cells : MP.Fn := ⟨2, 6, (.cons (.own 2 (.or_ (.cons (.bi .list_ (.cons (.sl (.var 0) .noe (.var 1)) .nil)) (.cons (.lst (.cons (.con (.int 0)) .nil)) .nil)))) (.cons (.for_ (.tp (.cons (.nm 3) (.cons (.nm 4) .nil))) (.enu (.sl (.var 0) (.var 1) (.con (.int 63)))) b_law_cells_0) (.cons (.frz 2) (.cons (.ret (.var 2)) .nil))))⟩
def N_law_cells : List String := ["script", "most_so", "cells_so", "k", "bit_so", "at_so"]
def f_law_take : MP.Fn := ⟨2, 6, (.cons (.ite (.cmp .gt (.idx (.var 0) (.con (.int 0))) (.con (.int 0))) (.cons (.asg (.nm 2) (.bin .mod (.bi .int_ (.cons (.idx (.var 0) (.con (.int 0))) .nil)) (.var 1))) (.cons (.ste (.var 0) (.con (.int 0)) (.bin .fdiv (.idx (.var 0) (.con (.int 0))) (.var 1))) (.cons (.ret (.var 2)) .nil))) .nil) (.cons (.ste (.var 0) (.con (.int 2)) (.bin .add (.idx (.var 0) (.con (.int 2))) (.con (.int 1)))) (.cons (.asg (.nm 3) (.bin .mod (.bi .int_ (.cons (.bin .mul (.bin .add (.idx (.var 0) (.con (.int 1))) (.bin .mul (.con (.int 48271)) (.idx (.var 0) (.con (.int 2))))) (.bin .add (.con (.int 39373)) (.idx (.var 0) (.con (.int 2))))) .nil)) (.con (.int 2147483647)))) (.cons (.asg (.nm 4) (.bin .add (.bin .mod (.bi .int_ (.cons (.var 3) .nil)) (.con (.int 40009))) (.con (.int 7)))) (.cons (.asg (.nm 5) (.bin .mod (.bi .int_ (.cons (.bin .mul (.bin .add (.bin .add (.var 3) (.idx (.var 0) (.con (.int 2)))) (.bin .fdiv (.idx (.var 0) (.con (.int 1))) (.con (.int 1000003)))) (.var 4)) .nil)) (.con (.int 2147483629)))) (.cons (.ret (.bin .mod (.bi .int_ (.cons (.bin .fdiv (.bin .mod (.bi .int_ (.cons (.bin .add (.bin .mul (.var 5) (.con (.int 48271))) (.var 3)) .nil)) (.con (.int 2147483587))) (.con (.int 64))) .nil)) (.var 1))) .nil))))))⟩
def N_law_take : List String := ["tin", "below_so", "drawn_so", "once_so", "wide_so", "twice_so"]
def f_are_numbers : MP.Fn := ⟨1, 2, (.cons (.ret (.an (.cons (.isi (.var 0) [.tup]) (.cons (.bi .all (.cons (.comp [1] (.call 4 (.cons (.var 1) .nil)) (.cons (.nm 1) (.ex (.var 0)) .nil .nil)) .nil)) .nil)))) .nil)⟩
def N_are_numbers : List String := ["thing", "own"]
def f_is_number : MP.Fn := ⟨1, 1, (.cons (.ret (.an (.cons (.isi (.var 0) [.int]) (.cons (.nt (.isi (.var 0) [.bool])) .nil)))) .nil)⟩
def N_is_number : List String := ["thing"]
def f_tupled : MP.Fn := ⟨1, 2, (.cons (.ret (.ife (.isi (.var 0) [.lst, .tup]) (.bi .tuple_ (.cons (.comp [1] (.call 6 (.cons (.var 1) .nil)) (.cons (.nm 1) (.ex (.var 0)) .nil .nil)) .nil)) (.var 0))) .nil)⟩
def N_tupled : List String := ["value", "own"]
def f_law_same : MP.Fn := ⟨2, 4, (.cons (.ite (.isi (.var 1) [.lst, .tup]) (.cons (.ite (.or_ (.cons (.cmp .ne (.isi (.var 0) [.lst]) (.isi (.var 1) [.lst])) (.cons (.cmp .ne (.isi (.var 0) [.tup]) (.isi (.var 1) [.tup])) .nil))) (.cons (.ret (.con (.bl false))) .nil) .nil) (.cons (.ret (.an (.cons (.cmp .eq (.bi .len (.cons (.var 0) .nil)) (.bi .len (.cons (.var 1) .nil))) (.cons (.bi .all (.cons (.comp [2, 3] (.call 7 (.cons (.var 2) (.cons (.var 3) .nil))) (.cons (.tp (.cons (.nm 2) (.cons (.nm 3) .nil))) (.zip (.var 0) (.var 1)) .nil .nil)) .nil)) .nil)))) .nil)) .nil) (.cons (.ite (.cmp .is_ (.var 1) (.con .non)) (.cons (.ret (.cmp .is_ (.var 0) (.con .non))) .nil) .nil) (.cons (.ite (.isi (.var 1) [.bool, .str]) (.cons (.ret (.an (.cons (.cmp .eq (.isi (.var 0) [.bool]) (.isi (.var 1) [.bool])) (.cons (.cmp .eq (.isi (.var 0) [.str]) (.isi (.var 1) [.str])) (.cons (.cmp .eq (.var 0) (.var 1)) .nil))))) .nil) .nil) (.cons (.ret (.an (.cons (.isi (.var 0) [.int]) (.cons (.nt (.isi (.var 0) [.bool])) (.cons (.cmp .eq (.var 0) (.var 1)) .nil))))) .nil))))⟩
def N_law_same : List String := ["got", "due", "mine", "its"]
def f_is_long : MP.Fn := ⟨2, 2, (.cons (.ret (.an (.cons (.isi (.var 0) [.tup]) (.cons (.cmp .eq (.bi .len (.cons (.var 0) .nil)) (.var 1)) .nil)))) .nil)⟩
def N_is_long : List String := ["thing", "length"]
def f_is_within : MP.Fn := ⟨3, 3, (.cons (.ret (.an (.cons (.call 4 (.cons (.var 0) .nil)) (.cons (.cmp2 .le .le (.var 1) (.var 0) (.var 2)) .nil)))) .nil)⟩
def N_is_within : List String := ["thing", "least", "most"]
def f_law_of : MP.Fn := ⟨2, 2, (.cons (.ret (.idx (.var 1) (.call 2 (.cons (.var 0) (.cons (.bi .len (.cons (.var 1) .nil)) .nil))))) .nil)⟩
def N_law_of : List String := ["tin", "goods_so"]
def f_law_call : MP.Fn := ⟨2, 2, (.cons (.ite (.cmp .eq (.bi .len (.cons (.var 1) .nil)) (.con (.int 1))) (.cons (.ret (.callv 0 (.cons (.idx (.var 1) (.con (.int 0))) .nil))) .nil) .nil) (.cons (.ite (.cmp .eq (.bi .len (.cons (.var 1) .nil)) (.con (.int 2))) (.cons (.ret (.callv 0 (.cons (.idx (.var 1) (.con (.int 0))) (.cons (.idx (.var 1) (.con (.int 1))) .nil)))) .nil) .nil) (.cons (.ite (.cmp .eq (.bi .len (.cons (.var 1) .nil)) (.con (.int 3))) (.cons (.ret (.callv 0 (.cons (.idx (.var 1) (.con (.int 0))) (.cons (.idx (.var 1) (.con (.int 1))) (.cons (.idx (.var 1) (.con (.int 2))) .nil))))) .nil) .nil) (.cons (.ite (.cmp .eq (.bi .len (.cons (.var 1) .nil)) (.con (.int 4))) (.cons (.ret (.callv 0 (.cons (.idx (.var 1) (.con (.int 0))) (.cons (.idx (.var 1) (.con (.int 1))) (.cons (.idx (.var 1) (.con (.int 2))) (.cons (.idx (.var 1) (.con (.int 3))) .nil)))))) .nil) .nil) (.cons (.ret (.callv 0 (.cons (.idx (.var 1) (.con (.int 0))) (.cons (.idx (.var 1) (.con (.int 1))) (.cons (.idx (.var 1) (.con (.int 2))) (.cons (.idx (.var 1) (.con (.int 3))) (.cons (.idx (.var 1) (.con (.int 4))) .nil))))))) .nil)))))⟩
def N_law_call : List String := ["door_so", "goods_so"]
def f_law_slip : MP.Fn := ⟨2, 5, (.cons (.tri (.call 11 (.cons (.var 0) (.cons (.var 1) .nil))) [(0, 2, PySem.Str.ofString "unfit"), (1, 3, PySem.Str.ofString "can not"), (2, 4, PySem.Str.ofString "many")]) (.cons (.ret (.con (.str (PySem.Str.ofString "told")))) .nil))⟩
def N_law_slip : List String := ["door_so", "goods_so", "slip_so", "slip_c", "slip_m"]
def f_are_near_parts : MP.Fn := ⟨1, 2, (.cons (.ite (.or_ (.cons (.nt (.isi (.var 0) [.tup])) (.cons (.nt (.cmp2 .le .le (.con (.int 1)) (.bi .len (.cons (.var 0) .nil)) (.glo 1))) .nil))) (.cons (.ret (.con (.bl false))) .nil) .nil) (.cons (.ret (.bi .all (.cons (.comp [1] (.call 17 (.cons (.var 1) .nil)) (.cons (.nm 1) (.ex (.var 0)) .nil .nil)) .nil))) .nil))⟩
def N_are_near_parts : List String := ["thing", "own"]
def b_common_0 : MP.Ss := (.cons (.par [(0, false), (1, false)] (.cons (.var 1) (.cons (.bin .mod (.var 0) (.var 1)) .nil))) .nil)
def f_common : MP.Fn := ⟨2, 2, (.cons (.par [(0, false), (1, false)] (.cons (.bi .abs (.cons (.var 0) .nil)) (.cons (.bi .abs (.cons (.var 1) .nil)) .nil))) (.cons (.whl (.cmp .ne (.var 1) (.con (.int 0))) b_common_0) (.cons (.ret (.var 0)) .nil)))⟩
def N_common : List String := ["one", "other"]
def f_is_fraction_in : MP.Fn := ⟨1, 1, (.cons (.ret (.an (.cons (.call 8 (.cons (.var 0) (.cons (.con (.int 2)) .nil))) (.cons (.call 3 (.cons (.var 0) .nil)) (.cons (.cmp .gt (.idx (.var 0) (.con (.int 1))) (.con (.int 0))) (.cons (.cmp .eq (.call 14 (.cons (.idx (.var 0) (.con (.int 0))) (.cons (.idx (.var 0) (.con (.int 1))) .nil))) (.con (.int 1))) .nil)))))) .nil)⟩
def N_is_fraction_in : List String := ["thing"]
def f_is_near_fraction : MP.Fn := ⟨1, 1, (.cons (.ret (.an (.cons (.call 15 (.cons (.var 0) .nil)) (.cons (.cmp .le (.bi .max (.cons (.bi .abs (.cons (.idx (.var 0) (.con (.int 0))) .nil)) (.cons (.idx (.var 0) (.con (.int 1))) .nil))) (.glo 0)) .nil)))) .nil)⟩
def N_is_near_fraction : List String := ["thing"]
def f_is_near_rectangle : MP.Fn := ⟨1, 2, (.cons (.ret (.an (.cons (.call 18 (.cons (.var 0) .nil)) (.cons (.bi .all (.cons (.comp [1] (.call 16 (.cons (.var 1) .nil)) (.cons (.nm 1) (.ex (.var 0)) .nil .nil)) .nil)) .nil)))) .nil)⟩
def N_is_near_rectangle : List String := ["thing", "own"]
def f_is_rectangle_in : MP.Fn := ⟨1, 6, (.cons (.ite (.or_ (.cons (.nt (.call 8 (.cons (.var 0) (.cons (.con (.int 4)) .nil)))) (.cons (.nt (.bi .all (.cons (.comp [1] (.call 15 (.cons (.var 1) .nil)) (.cons (.nm 1) (.ex (.var 0)) .nil .nil)) .nil))) .nil))) (.cons (.ret (.con (.bl false))) .nil) .nil) (.cons (.asg (.tp (.cons (.nm 2) (.cons (.nm 3) (.cons (.nm 4) (.cons (.nm 5) .nil))))) (.var 0)) (.cons (.ret (.an (.cons (.call 19 (.cons (.var 2) (.cons (.var 4) .nil))) (.cons (.call 19 (.cons (.var 3) (.cons (.var 5) .nil))) .nil)))) .nil)))⟩
def N_is_rectangle_in : List String := ["thing", "own", "left", "low", "right", "high"]
def f_is_under : MP.Fn := ⟨2, 2, (.cons (.ret (.cmp .lt (.bin .mul (.idx (.var 0) (.con (.int 0))) (.idx (.var 1) (.con (.int 1)))) (.bin .mul (.idx (.var 1) (.con (.int 0))) (.idx (.var 0) (.con (.int 1)))))) .nil)⟩
def N_is_under : List String := ["one", "other"]
def f_is_box_in : MP.Fn := ⟨1, 1, (.cons (.ret (.an (.cons (.call 3 (.cons (.var 0) .nil)) (.cons (.cmp2 .le .le (.con (.int 1)) (.bi .len (.cons (.var 0) .nil)) (.glo 3)) (.cons (.cmp .gt (.bi .min (.cons (.var 0) .nil)) (.con (.int 0))) .nil))))) .nil)⟩
def N_is_box_in : List String := ["thing"]
def f_less : MP.Fn := ⟨2, 2, (.cons (.ret (.call 23 (.cons (.bin .sub (.bin .mul (.idx (.var 0) (.con (.int 0))) (.idx (.var 1) (.con (.int 1)))) (.bin .mul (.idx (.var 1) (.con (.int 0))) (.idx (.var 0) (.con (.int 1))))) (.cons (.bin .mul (.idx (.var 0) (.con (.int 1))) (.idx (.var 1) (.con (.int 1)))) .nil)))) .nil)⟩
def N_less : List String := ["one", "other"]
def f_lowest : MP.Fn := ⟨2, 3, (.cons (.asg (.nm 2) (.bin .mul (.call 14 (.cons (.var 0) (.cons (.var 1) .nil))) (.ife (.cmp .lt (.var 1) (.con (.int 0))) (.neg (.con (.int 1))) (.con (.int 1))))) (.cons (.ret (.tup (.cons (.bin .fdiv (.var 0) (.var 2)) (.cons (.bin .fdiv (.var 1) (.var 2)) .nil)))) .nil))⟩
def N_lowest : List String := ["above", "below", "by"]
def f_sides_of : MP.Fn := ⟨1, 5, (.cons (.asg (.tp (.cons (.nm 1) (.cons (.nm 2) (.cons (.nm 3) (.cons (.nm 4) .nil))))) (.var 0)) (.cons (.ret (.tup (.cons (.call 22 (.cons (.var 3) (.cons (.var 1) .nil))) (.cons (.call 22 (.cons (.var 4) (.cons (.var 2) .nil))) .nil)))) .nil))⟩
def N_sides_of : List String := ["rectangle", "left", "low", "right", "high"]
def f_sure_within : MP.Fn := ⟨3, 3, (.cons (.ite (.nt (.call 9 (.cons (.var 0) (.cons (.var 1) (.cons (.var 2) .nil))))) (.cons (.rse 0 .nil) .nil) .nil) (.cons (.ret (.var 0)) .nil))⟩
def N_sure_within : List String := ["thing", "least", "most"]
def f_law_mixed : MP.Fn := ⟨2, 4, (.cons (.ite (.nt (.isi (.var 1) [.lst, .tup])) (.cons (.ret (.var 1)) .nil) .nil) (.cons (.asg (.nm 2) (.comp [3] (.call 26 (.cons (.var 0) (.cons (.var 3) .nil))) (.cons (.nm 3) (.ex (.var 1)) .nil .nil))) (.cons (.ret (.ife (.cmp .eq (.call 2 (.cons (.var 0) (.cons (.con (.int 2)) .nil))) (.con (.int 0))) (.var 2) (.bi .tuple_ (.cons (.var 2) .nil)))) .nil)))⟩
def N_law_mixed : List String := ["tin", "matter", "row_so", "bit"]
def b_law_pick_0 : MP.Ss := (.cons (.apop 4 3 (.call 2 (.cons (.var 0) (.cons (.bi .len (.cons (.pk 3) .nil)) .nil)))) (.cons (.kill 5) .nil))
def f_law_pick : MP.Fn := ⟨3, 6, (.cons (.par [(3, true), (4, true)] (.cons (.bi .list_ (.cons (.var 1) .nil)) (.cons (.lst .nil) .nil))) (.cons (.for_ (.nm 5) (.rng1 (.bi .min (.cons (.bi .int_ (.cons (.var 2) .nil)) (.cons (.bi .len (.cons (.pk 3) .nil)) .nil)))) b_law_pick_0) (.cons (.frz 4) (.cons (.ret (.var 4)) .nil))))⟩
def N_law_pick : List String := ["tin", "goods_so", "count_so", "pool_so", "found", "lap"]
def f_area_in : MP.Fn := ⟨1, 3, (.cons (.asg (.tp (.cons (.nm 1) (.cons (.nm 2) .nil))) (.call 24 (.cons (.var 0) .nil))) (.cons (.ret (.call 34 (.cons (.var 1) (.cons (.var 2) .nil)))) .nil))⟩
def N_area_in : List String := ["rectangle", "width", "height"]
def b_around_in_0 : MP.Ss := (.cons (.par [(1, false), (2, false)] (.cons (.call 31 (.cons (.var 1) (.cons (.idx (.var 5) (.con (.int 0))) .nil))) (.cons (.call 31 (.cons (.var 2) (.cons (.idx (.var 5) (.con (.int 1))) .nil))) .nil))) (.cons (.par [(3, false), (4, false)] (.cons (.call 30 (.cons (.var 3) (.cons (.idx (.var 5) (.con (.int 2))) .nil))) (.cons (.call 30 (.cons (.var 4) (.cons (.idx (.var 5) (.con (.int 3))) .nil))) .nil))) (.cons (.kill 5) .nil)))
def f_around_in : MP.Fn := ⟨1, 6, (.cons (.asg (.tp (.cons (.nm 1) (.cons (.nm 2) (.cons (.nm 3) (.cons (.nm 4) .nil))))) (.idx (.var 0) (.con (.int 0)))) (.cons (.for_ (.nm 5) (.ex (.sl (.var 0) (.con (.int 1)) .noe)) b_around_in_0) (.cons (.ret (.tup (.cons (.var 1) (.cons (.var 2) (.cons (.var 3) (.cons (.var 4) .nil)))))) .nil)))⟩
def N_around_in : List String := ["parts", "left", "low", "right", "high", "own"]
def f_greater_of : MP.Fn := ⟨2, 2, (.cons (.ret (.ife (.call 19 (.cons (.var 0) (.cons (.var 1) .nil))) (.var 1) (.var 0))) .nil)⟩
def N_greater_of : List String := ["one", "other"]
def f_lesser_of : MP.Fn := ⟨2, 2, (.cons (.ret (.ife (.call 19 (.cons (.var 0) (.cons (.var 1) .nil))) (.var 0) (.var 1))) .nil)⟩
def N_lesser_of : List String := ["one", "other"]
def f_plus : MP.Fn := ⟨2, 2, (.cons (.ret (.call 23 (.cons (.bin .add (.bin .mul (.idx (.var 0) (.con (.int 0))) (.idx (.var 1) (.con (.int 1)))) (.bin .mul (.idx (.var 1) (.con (.int 0))) (.idx (.var 0) (.con (.int 1))))) (.cons (.bin .mul (.idx (.var 0) (.con (.int 1))) (.idx (.var 1) (.con (.int 1)))) .nil)))) .nil)⟩
def N_plus : List String := ["one", "other"]
def f_shared_in : MP.Fn := ⟨2, 6, (.cons (.par [(2, false), (3, false)] (.cons (.call 30 (.cons (.idx (.var 0) (.con (.int 0))) (.cons (.idx (.var 1) (.con (.int 0))) .nil))) (.cons (.call 30 (.cons (.idx (.var 0) (.con (.int 1))) (.cons (.idx (.var 1) (.con (.int 1))) .nil))) .nil))) (.cons (.par [(4, false), (5, false)] (.cons (.call 31 (.cons (.idx (.var 0) (.con (.int 2))) (.cons (.idx (.var 1) (.con (.int 2))) .nil))) (.cons (.call 31 (.cons (.idx (.var 0) (.con (.int 3))) (.cons (.idx (.var 1) (.con (.int 3))) .nil))) .nil))) (.cons (.ret (.ife (.an (.cons (.call 19 (.cons (.var 2) (.cons (.var 4) .nil))) (.cons (.call 19 (.cons (.var 3) (.cons (.var 5) .nil))) .nil))) (.tup (.cons (.var 2) (.cons (.var 3) (.cons (.var 4) (.cons (.var 5) .nil))))) (.con .non))) .nil)))⟩
def N_shared_in : List String := ["one", "other", "left", "low", "right", "high"]
def f_times : MP.Fn := ⟨2, 2, (.cons (.ret (.call 23 (.cons (.bin .mul (.idx (.var 0) (.con (.int 0))) (.idx (.var 1) (.con (.int 0)))) (.cons (.bin .mul (.idx (.var 0) (.con (.int 1))) (.idx (.var 1) (.con (.int 1)))) .nil)))) .nil)⟩
def N_times : List String := ["one", "other"]
def b_law_gcd_0 : MP.Ss := (.cons (.ite (.cmp .eq (.var 1) (.con (.int 0))) (.cons (.kill 1) (.cons (.kill 2) (.cons .brk .nil))) .nil) (.cons (.par [(0, false), (1, false)] (.cons (.var 1) (.cons (.bin .mod (.var 0) (.var 1)) .nil))) (.cons (.kill 2) .nil)))
def f_law_gcd : MP.Fn := ⟨2, 3, (.cons (.par [(0, false), (1, false)] (.cons (.bi .abs (.cons (.var 0) .nil)) (.cons (.bi .abs (.cons (.var 1) .nil)) .nil))) (.cons (.for_ (.nm 2) (.rng1 (.con (.int 9000))) b_law_gcd_0) (.cons (.ret (.var 0)) .nil)))⟩
def N_law_gcd : List String := ["one", "two", "lap"]
def b_flaw_in_0 : MP.Ss := (.cons (.ite (.nt (.call 40 (.cons (.var 0) (.cons (.var 3) .nil)))) (.cons (.ret (.tup (.cons (.con (.str (PySem.Str.ofString "out"))) (.cons (.var 2) .nil)))) .nil) .nil) (.cons (.kill 2) (.cons (.kill 3) .nil)))
def b_flaw_in_1 : MP.Ss := (.cons (.ite (.cmp .isn (.call 33 (.cons (.var 3) (.cons (.idx (.var 1) (.var 4)) .nil))) (.con .non)) (.cons (.ret (.tup (.cons (.con (.str (PySem.Str.ofString "over"))) (.cons (.var 2) (.cons (.var 4) .nil))))) .nil) .nil) (.cons (.kill 4) .nil))
def b_flaw_in_2 : MP.Ss := (.cons (.for_ (.nm 4) (.rng2 (.bin .add (.var 2) (.con (.int 1))) (.bi .len (.cons (.var 1) .nil))) b_flaw_in_1) (.cons (.kill 2) (.cons (.kill 3) (.cons (.kill 4) .nil))))
def f_flaw_in : MP.Fn := ⟨2, 5, (.cons (.for_ (.tp (.cons (.nm 2) (.cons (.nm 3) .nil))) (.enu (.var 1)) b_flaw_in_0) (.cons (.for_ (.tp (.cons (.nm 2) (.cons (.nm 3) .nil))) (.enu (.var 1)) b_flaw_in_2) (.cons (.ite (.cmp .eq (.call 42 (.cons (.var 1) .nil)) (.call 28 (.cons (.var 0) .nil))) (.cons (.ret (.con .non)) .nil) .nil) (.cons (.ret (.tup (.cons (.con (.str (PySem.Str.ofString "gap"))) (.cons (.call 37 (.cons (.var 0) (.cons (.var 1) .nil))) .nil)))) .nil))))⟩
def N_flaw_in : List String := ["whole", "parts", "place", "own", "later"]
def f_lies_in : MP.Fn := ⟨2, 2, (.cons (.ret (.cmp .eq (.call 29 (.cons (.tup (.cons (.var 0) (.cons (.var 1) .nil))) .nil)) (.var 0))) .nil)⟩
def N_lies_in : List String := ["whole", "part"]
def b_total_in_0 : MP.Ss := (.cons (.asg (.nm 1) (.call 32 (.cons (.var 1) (.cons (.call 28 (.cons (.var 2) .nil)) .nil)))) (.cons (.kill 2) .nil))
def f_total_in : MP.Fn := ⟨1, 3, (.cons (.asg (.nm 1) (.glo 5)) (.cons (.for_ (.nm 2) (.ex (.var 0)) b_total_in_0) (.cons (.ret (.var 1)) .nil)))⟩
def N_total_in : List String := ["parts", "found", "own"]
def b_law_flat_0 : MP.Ss := (.cons (.ext 1 (.var 2)) (.cons (.kill 2) .nil))
def f_law_flat : MP.Fn := ⟨1, 3, (.cons (.own 1 (.lst .nil)) (.cons (.for_ (.nm 2) (.ex (.var 0)) b_law_flat_0) (.cons (.frz 1) (.cons (.ret (.var 1)) .nil))))⟩
def N_law_flat : List String := ["rows_so", "found", "own"]
def f_law_heard : MP.Fn := ⟨2, 3, (.cons (.asg (.nm 2) (.call 12 (.cons (.var 0) (.cons (.var 1) .nil)))) (.cons (.ret (.ife (.cmp .in_ (.var 2) (.tup (.cons (.con (.str (PySem.Str.ofString "unfit"))) (.cons (.con (.str (PySem.Str.ofString "can not"))) (.cons (.con (.str (PySem.Str.ofString "many"))) (.cons (.con (.str (PySem.Str.ofString "odd"))) .nil)))))) (.lst (.cons (.var 2) (.cons (.con (.bl true)) .nil))) (.call 52 (.cons (.call 11 (.cons (.var 0) (.cons (.var 1) .nil))) .nil)))) .nil))⟩
def N_law_heard : List String := ["door_so", "goods_so", "slip_so"]
def f_is_whole_in : MP.Fn := ⟨1, 1, (.cons (.ret (.cmp .eq (.idx (.var 0) (.con (.int 1))) (.con (.int 1)))) .nil)⟩
def N_is_whole_in : List String := ["own"]
def f_sides_in : MP.Fn := ⟨1, 3, (.cons (.asg (.tp (.cons (.nm 1) (.cons (.nm 2) .nil))) (.call 24 (.cons (.var 0) .nil))) (.cons (.ret (.tup (.cons (.call 48 (.cons (.var 1) .nil)) (.cons (.call 48 (.cons (.var 2) .nil)) .nil)))) .nil))⟩
def N_sides_in : List String := ["rectangle", "width", "height"]
def f_sure_box : MP.Fn := ⟨1, 2, (.cons (.asg (.nm 1) (.call 6 (.cons (.var 0) .nil))) (.cons (.ite (.or_ (.cons (.nt (.call 21 (.cons (.var 1) .nil))) (.cons (.cmp .gt (.bi .max (.cons (.var 1) .nil)) (.glo 2)) .nil))) (.cons (.rse 0 .nil) .nil) .nil) (.cons (.ret (.var 1)) .nil)))⟩
def N_sure_box : List String := ["value", "own"]
def f_law_cut : MP.Fn := ⟨2, 3, (.cons (.asg (.nm 2) (.call 35 (.cons (.var 0) (.cons (.var 1) .nil)))) (.cons (.asg (.nm 2) (.ife (.cmp .gt (.var 1) (.con (.int 0))) (.var 2) (.bin .sub (.con (.int 0)) (.var 2)))) (.cons (.ret (.tup (.cons (.bin .fdiv (.var 0) (.var 2)) (.cons (.bin .fdiv (.var 1) (.var 2)) .nil)))) .nil)))⟩
def N_law_cut : List String := ["over_so", "under_so", "both_so"]
def f_law_unmarked : MP.Fn := ⟨1, 1, (.cons (.ret (.ife (.an (.cons (.isi (.var 0) [.lst]) (.cons (.cmp .gt (.bi .len (.cons (.var 0) .nil)) (.con (.int 0))) (.cons (.isi (.idx (.var 0) (.con (.int 0))) [.str]) .nil)))) (.lst (.cons (.con (.str (PySem.Str.ofString "told"))) (.cons (.con (.str (PySem.Str.ofString "a mark"))) .nil))) (.var 0))) .nil)⟩
def N_law_unmarked : List String := ["told_so"]
def f_sure_parts : MP.Fn := ⟨1, 2, (.cons (.asg (.nm 1) (.call 6 (.cons (.var 0) .nil))) (.cons (.ite (.nt (.call 13 (.cons (.var 1) .nil))) (.cons (.rse 0 .nil) .nil) .nil) (.cons (.ret (.var 1)) .nil)))⟩
def N_sure_parts : List String := ["value", "own"]
def f_law_plus : MP.Fn := ⟨2, 2, (.cons (.ret (.call 51 (.cons (.bin .add (.bin .mul (.idx (.var 0) (.con (.int 0))) (.idx (.var 1) (.con (.int 1)))) (.bin .mul (.idx (.var 1) (.con (.int 0))) (.idx (.var 0) (.con (.int 1))))) (.cons (.bin .mul (.idx (.var 0) (.con (.int 1))) (.idx (.var 1) (.con (.int 1)))) .nil)))) .nil)⟩
def N_law_plus : List String := ["one", "two"]
def f_sure_rectangle : MP.Fn := ⟨1, 2, (.cons (.asg (.nm 1) (.call 6 (.cons (.var 0) .nil))) (.cons (.ite (.nt (.call 17 (.cons (.var 1) .nil))) (.cons (.rse 0 .nil) .nil) .nil) (.cons (.ret (.var 1)) .nil)))⟩
def N_sure_rectangle : List String := ["value", "own"]
def f_law_by : MP.Fn := ⟨2, 2, (.cons (.ret (.call 51 (.cons (.bin .mul (.idx (.var 0) (.con (.int 0))) (.idx (.var 1) (.con (.int 0)))) (.cons (.bin .mul (.idx (.var 0) (.con (.int 1))) (.idx (.var 1) (.con (.int 1)))) .nil)))) .nil)⟩
def N_law_by : List String := ["one", "two"]
def f_law_less : MP.Fn := ⟨2, 2, (.cons (.ret (.call 51 (.cons (.bin .sub (.bin .mul (.idx (.var 0) (.con (.int 0))) (.idx (.var 1) (.con (.int 1)))) (.bin .mul (.idx (.var 1) (.con (.int 0))) (.idx (.var 0) (.con (.int 1))))) (.cons (.bin .mul (.idx (.var 0) (.con (.int 1))) (.idx (.var 1) (.con (.int 1)))) .nil)))) .nil)⟩
def N_law_less : List String := ["one", "two"]
def f_checkered_in : MP.Fn := ⟨2, 7, (.cons (.asg (.tp (.cons (.nm 2) (.cons (.nm 3) (.cons (.nm 4) (.cons (.nm 5) .nil))))) (.var 1)) (.cons (.asg (.nm 6) (.call 71 (.cons (.call 22 (.cons (.var 2) (.cons (.idx (.var 0) (.con (.int 0))) .nil))) (.cons (.call 22 (.cons (.var 4) (.cons (.idx (.var 0) (.con (.int 0))) .nil))) .nil)))) (.cons (.ret (.call 34 (.cons (.var 6) (.cons (.call 71 (.cons (.call 22 (.cons (.var 3) (.cons (.idx (.var 0) (.con (.int 1))) .nil))) (.cons (.call 22 (.cons (.var 5) (.cons (.idx (.var 0) (.con (.int 1))) .nil))) .nil))) .nil)))) .nil)))⟩
def N_checkered_in : List String := ["corner", "rectangle", "left", "low", "right", "high", "across"]
def f_floor_in : MP.Fn := ⟨1, 1, (.cons (.ret (.bin .fdiv (.idx (.var 0) (.con (.int 0))) (.idx (.var 0) (.con (.int 1))))) .nil)⟩
def N_floor_in : List String := ["own"]
def f_heap : MP.Fn := ⟨1, 2, (.cons (.asg (.nm 1) (.call 22 (.cons (.var 0) (.cons (.tup (.cons (.call 65 (.cons (.var 0) .nil)) (.cons (.con (.int 1)) .nil))) .nil)))) (.cons (.ret (.ife (.call 19 (.cons (.tup (.cons (.con (.int 1)) (.cons (.con (.int 2)) .nil))) (.cons (.var 1) .nil))) (.call 22 (.cons (.tup (.cons (.con (.int 1)) (.cons (.con (.int 1)) .nil))) (.cons (.var 1) .nil))) (.var 1))) .nil))⟩
def N_heap : List String := ["own", "rest"]
def f_is_laying_in : MP.Fn := ⟨2, 2, (.cons (.ret (.cmp .is_ (.call 36 (.cons (.var 0) (.cons (.var 1) .nil))) (.con .non))) .nil)⟩
def N_is_laying_in : List String := ["whole", "parts"]
def f_sure_fraction : MP.Fn := ⟨1, 2, (.cons (.asg (.nm 1) (.call 6 (.cons (.var 0) .nil))) (.cons (.ite (.nt (.call 16 (.cons (.var 1) .nil))) (.cons (.rse 0 .nil) .nil) .nil) (.cons (.ret (.var 1)) .nil)))⟩
def N_sure_fraction : List String := ["value", "own"]
def f_wave_in : MP.Fn := ⟨2, 2, (.cons (.ret (.call 22 (.cons (.call 66 (.cons (.var 1) .nil)) (.cons (.call 66 (.cons (.var 0) .nil)) .nil)))) .nil)⟩
def N_wave_in : List String := ["one", "other"]
def f_law_under : MP.Fn := ⟨2, 2, (.cons (.ret (.cmp .lt (.bin .mul (.idx (.var 0) (.con (.int 0))) (.idx (.var 1) (.con (.int 1)))) (.bin .mul (.idx (.var 1) (.con (.int 0))) (.idx (.var 0) (.con (.int 1)))))) .nil)⟩
def N_law_under : List String := ["one", "two"]
def f_has_whole_in : MP.Fn := ⟨1, 1, (.cons (.ret (.cmp .in_ (.con (.bl true)) (.call 49 (.cons (.var 0) .nil)))) .nil)⟩
def N_has_whole_in : List String := ["rectangle"]
def f_sure_laying : MP.Fn := ⟨2, 4, (.cons (.asg (.nm 2) (.call 59 (.cons (.var 0) .nil))) (.cons (.asg (.nm 3) (.call 55 (.cons (.var 1) .nil))) (.cons (.ite (.nt (.call 68 (.cons (.var 2) (.cons (.var 3) .nil)))) (.cons (.rse 0 .nil) .nil) .nil) (.cons (.ret (.tup (.cons (.var 2) (.cons (.var 3) .nil)))) .nil))))⟩
def N_sure_laying : List String := ["whole", "parts", "near", "far"]
def f_law_between : MP.Fn := ⟨3, 5, (.cons (.asg (.nm 3) (.call 10 (.cons (.var 0) (.cons (.lst (.cons (.con (.int 2)) (.cons (.con (.int 2)) (.cons (.con (.int 3)) (.cons (.con (.int 4)) (.cons (.con (.int 5)) .nil)))))) .nil)))) (.cons (.asg (.nm 4) (.bin .add (.con (.int 1)) (.call 2 (.cons (.var 0) (.cons (.bin .sub (.var 3) (.con (.int 1))) .nil))))) (.cons (.ret (.call 57 (.cons (.var 1) (.cons (.call 61 (.cons (.call 62 (.cons (.var 2) (.cons (.var 1) .nil))) (.cons (.tup (.cons (.var 4) (.cons (.var 3) .nil))) .nil))) .nil)))) .nil)))⟩
def N_law_between : List String := ["tin", "one", "two", "b", "a"]
def f_law_sides : MP.Fn := ⟨1, 1, (.cons (.ret (.tup (.cons (.call 62 (.cons (.idx (.var 0) (.con (.int 2))) (.cons (.idx (.var 0) (.con (.int 0))) .nil))) (.cons (.call 62 (.cons (.idx (.var 0) (.con (.int 3))) (.cons (.idx (.var 0) (.con (.int 1))) .nil))) .nil)))) .nil)⟩
def N_law_sides : List String := ["part_so"]
def f_law_split : MP.Fn := ⟨3, 3, (.cons (.ite (.cmp .eq (.var 1) (.con (.int 0))) (.cons (.ret (.lst (.cons (.tup (.cons (.idx (.var 0) (.con (.int 0))) (.cons (.idx (.var 0) (.con (.int 1))) (.cons (.var 2) (.cons (.idx (.var 0) (.con (.int 3))) .nil))))) (.cons (.tup (.cons (.var 2) (.cons (.idx (.var 0) (.con (.int 1))) (.cons (.idx (.var 0) (.con (.int 2))) (.cons (.idx (.var 0) (.con (.int 3))) .nil))))) .nil)))) .nil) .nil) (.cons (.ret (.lst (.cons (.tup (.cons (.idx (.var 0) (.con (.int 0))) (.cons (.idx (.var 0) (.con (.int 1))) (.cons (.idx (.var 0) (.con (.int 2))) (.cons (.var 2) .nil))))) (.cons (.tup (.cons (.idx (.var 0) (.con (.int 0))) (.cons (.var 2) (.cons (.idx (.var 0) (.con (.int 2))) (.cons (.idx (.var 0) (.con (.int 3))) .nil))))) .nil)))) .nil))⟩
def N_law_split : List String := ["part_so", "at_so", "number_so"]
def f_law_start : MP.Fn := ⟨2, 6, (.cons (.par [(2, false), (3, false)] (.cons (.call 51 (.cons (.bin .sub (.call 2 (.cons (.var 0) (.cons (.con (.int 9)) .nil))) (.con (.int 4))) (.cons (.bin .add (.con (.int 1)) (.call 2 (.cons (.var 0) (.cons (.con (.int 3)) .nil)))) .nil))) (.cons (.call 51 (.cons (.bin .sub (.call 2 (.cons (.var 0) (.cons (.con (.int 9)) .nil))) (.con (.int 4))) (.cons (.bin .add (.con (.int 1)) (.call 2 (.cons (.var 0) (.cons (.con (.int 3)) .nil)))) .nil))) .nil))) (.cons (.par [(4, false), (5, false)] (.cons (.call 51 (.cons (.bin .add (.con (.int 3)) (.call 2 (.cons (.var 0) (.cons (.con (.int 20)) .nil)))) (.cons (.bin .add (.con (.int 2)) (.call 2 (.cons (.var 0) (.cons (.con (.int 5)) .nil)))) .nil))) (.cons (.call 51 (.cons (.bin .add (.con (.int 3)) (.call 2 (.cons (.var 0) (.cons (.con (.int 20)) .nil)))) (.cons (.bin .add (.con (.int 2)) (.call 2 (.cons (.var 0) (.cons (.con (.int 5)) .nil)))) .nil))) .nil))) (.cons (.ite (.cmp .eq (.var 1) (.con (.int 0))) (.cons (.asg (.nm 4) (.tup (.cons (.bin .add (.con (.int 1)) (.call 2 (.cons (.var 0) (.cons (.con (.int 6)) .nil)))) (.cons (.con (.int 1)) .nil)))) .nil) .nil) (.cons (.ite (.cmp .eq (.var 1) (.con (.int 1))) (.cons (.asg (.nm 5) (.tup (.cons (.bin .add (.con (.int 1)) (.call 2 (.cons (.var 0) (.cons (.con (.int 6)) .nil)))) (.cons (.con (.int 1)) .nil)))) .nil) .nil) (.cons (.ite (.cmp .eq (.var 1) (.con (.int 2))) (.cons (.asg (.nm 4) (.ife (.cmp .gt (.idx (.var 4) (.con (.int 1))) (.con (.int 1))) (.var 4) (.call 57 (.cons (.var 4) (.cons (.tup (.cons (.con (.int 1)) (.cons (.con (.int 2)) .nil))) .nil))))) (.cons (.asg (.nm 5) (.ife (.cmp .gt (.idx (.var 5) (.con (.int 1))) (.con (.int 1))) (.var 5) (.call 57 (.cons (.var 5) (.cons (.tup (.cons (.con (.int 1)) (.cons (.con (.int 3)) .nil))) .nil))))) .nil)) .nil) (.cons (.ret (.tup (.cons (.var 2) (.cons (.var 3) (.cons (.call 57 (.cons (.var 2) (.cons (.var 4) .nil))) (.cons (.call 57 (.cons (.var 3) (.cons (.var 5) .nil))) .nil)))))) .nil))))))⟩
def N_law_start : List String := ["tin", "kind_so", "left_so", "low_so", "wide_so", "tall_so"]
def f_all_ties : MP.Fn := ⟨1, 5, (.cons (.ret (.comp [1, 2, 3, 4] (.tup (.cons (.var 1) (.cons (.var 3) (.cons (.var 4) .nil)))) (.cons (.tp (.cons (.nm 1) (.cons (.nm 2) .nil))) (.enu (.var 0)) .nil (.cons (.tp (.cons (.nm 3) (.cons (.nm 4) .nil))) (.ex (.call 101 (.cons (.var 2) .nil))) .nil .nil)))) .nil)⟩
def N_all_ties : List String := ["parts", "place", "own", "one", "other"]
def b_first_without_in_0 : MP.Ss := (.cons (.ite (.nt (.call 78 (.cons (.var 2) .nil))) (.cons (.ret (.var 1)) .nil) .nil) (.cons (.kill 1) (.cons (.kill 2) .nil)))
def f_first_without_in : MP.Fn := ⟨1, 3, (.cons (.for_ (.tp (.cons (.nm 1) (.cons (.nm 2) .nil))) (.enu (.var 0)) b_first_without_in_0) (.cons (.ret (.con .non)) .nil))⟩
def N_first_without_in : List String := ["parts", "place", "own"]
def f_other_end : MP.Fn := ⟨2, 2, (.cons (.ite (.cmp .eq (.idx (.var 0) (.con (.int 1))) (.var 1)) (.cons (.ret (.idx (.var 0) (.con (.int 2)))) .nil) .nil) (.cons (.ret (.ife (.cmp .eq (.idx (.var 0) (.con (.int 2))) (.var 1)) (.idx (.var 0) (.con (.int 1))) (.con .non))) .nil))⟩
def N_other_end : List String := ["tie", "point"]
def f_ties_in : MP.Fn := ⟨1, 5, (.cons (.asg (.tp (.cons (.nm 1) (.cons (.nm 2) (.cons (.nm 3) (.cons (.nm 4) .nil))))) (.var 0)) (.cons (.ite (.idx (.call 49 (.cons (.var 0) .nil)) (.con (.int 0))) (.cons (.ret (.lst (.cons (.tup (.cons (.tup (.cons (.var 1) (.cons (.var 2) .nil))) (.cons (.tup (.cons (.var 3) (.cons (.var 2) .nil))) .nil))) (.cons (.tup (.cons (.tup (.cons (.var 1) (.cons (.var 4) .nil))) (.cons (.tup (.cons (.var 3) (.cons (.var 4) .nil))) .nil))) .nil)))) .nil) .nil) (.cons (.ret (.lst (.cons (.tup (.cons (.tup (.cons (.var 1) (.cons (.var 2) .nil))) (.cons (.tup (.cons (.var 1) (.cons (.var 4) .nil))) .nil))) (.cons (.tup (.cons (.tup (.cons (.var 3) (.cons (.var 2) .nil))) (.cons (.tup (.cons (.var 3) (.cons (.var 4) .nil))) .nil))) .nil)))) .nil)))⟩
def N_ties_in : List String := ["rectangle", "left", "low", "right", "high"]
def f_law_wheel : MP.Fn := ⟨5, 9, (.cons (.asg (.tp (.cons (.nm 5) (.cons (.nm 6) (.cons (.nm 7) (.cons (.nm 8) .nil))))) (.var 0)) (.cons (.ret (.lst (.cons (.tup (.cons (.var 5) (.cons (.var 6) (.cons (.var 2) (.cons (.var 3) .nil))))) (.cons (.tup (.cons (.var 2) (.cons (.var 6) (.cons (.var 7) (.cons (.var 4) .nil))))) (.cons (.tup (.cons (.var 1) (.cons (.var 4) (.cons (.var 7) (.cons (.var 8) .nil))))) (.cons (.tup (.cons (.var 5) (.cons (.var 3) (.cons (.var 1) (.cons (.var 8) .nil))))) (.cons (.tup (.cons (.var 1) (.cons (.var 3) (.cons (.var 2) (.cons (.var 4) .nil))))) .nil))))))) .nil))⟩
def N_law_wheel : List String := ["part_so", "x1", "x2", "y1", "y2", "left_so", "low_so", "right_so", "high_so"]
def f_has_whole_side : MP.Fn := ⟨1, 1, (.cons (.ret (.call 78 (.cons (.call 59 (.cons (.var 0) .nil)) .nil))) .nil)⟩
def N_has_whole_side : List String := ["rectangle"]
def b_walk_in_0 : MP.Ss := (.cons (.asg (.nm 2) (.comp [6] (.var 6) (.cons (.nm 6) (.ex (.var 2)) (.cons (.cmp .ne (.var 6) (.idx (.var 5) (.con (.int 0)))) .nil) .nil))) (.cons (.asg (.nm 4) (.call 97 (.cons (.idx (.var 5) (.con (.int 0))) (.cons (.var 4) .nil)))) (.cons (.app 3 (.tup (.cons (.idx (.idx (.var 5) (.con (.int 0))) (.con (.int 0))) (.cons (.var 4) .nil)))) (.cons (.asg (.nm 5) (.comp [6] (.var 6) (.cons (.nm 6) (.ex (.var 2)) (.cons (.cmp .isn (.call 97 (.cons (.var 6) (.cons (.var 4) .nil))) (.con .non)) .nil) .nil))) .nil))))
def f_walk_in : MP.Fn := ⟨2, 7, (.cons (.par [(2, false), (3, true)] (.cons (.call 93 (.cons (.var 1) .nil)) (.cons (.lst .nil) .nil))) (.cons (.asg (.nm 4) (.tup (.cons (.idx (.var 0) (.con (.int 0))) (.cons (.idx (.var 0) (.con (.int 1))) .nil)))) (.cons (.asg (.nm 5) (.comp [6] (.var 6) (.cons (.nm 6) (.ex (.var 2)) (.cons (.cmp .isn (.call 97 (.cons (.var 6) (.cons (.var 4) .nil))) (.con .non)) .nil) .nil))) (.cons (.whl (.cmp .ne (.var 5) (.lst .nil)) b_walk_in_0) (.cons (.ret (.bi .tuple_ (.cons (.pk 3) .nil))) .nil)))))⟩
def N_walk_in : List String := ["whole", "parts", "left", "found", "here", "goods", "own"]
def b_law_lines_0 : MP.Ss := (.cons (.ite (.cmp .nin (.var 2) (.var 1)) (.cons (.asg (.nm 3) (.bi .len (.cons (.comp [4] (.var 4) (.cons (.nm 4) (.ex (.var 1)) (.cons (.call 72 (.cons (.var 4) (.cons (.var 2) .nil))) .nil) .nil)) .nil))) (.cons (.asg (.nm 1) (.bin .add (.bin .add (.sl (.var 1) .noe (.var 3)) (.lst (.cons (.var 2) .nil))) (.sl (.var 1) (.var 3) .noe))) .nil)) .nil) (.cons (.kill 3) (.cons (.kill 2) (.cons (.kill 3) .nil))))
def f_law_lines : MP.Fn := ⟨1, 5, (.cons (.asg (.nm 1) (.lst .nil)) (.cons (.for_ (.nm 2) (.ex (.var 0)) b_law_lines_0) (.cons (.ret (.var 1)) .nil)))⟩
def N_law_lines : List String := ["rows_so", "found", "own", "k", "its"]
def f_law_wholes : MP.Fn := ⟨1, 3, (.cons (.asg (.tp (.cons (.nm 1) (.cons (.nm 2) .nil))) (.call 89 (.cons (.var 0) .nil))) (.cons (.ret (.tup (.cons (.cmp .eq (.idx (.var 1) (.con (.int 1))) (.con (.int 1))) (.cons (.cmp .eq (.idx (.var 2) (.con (.int 1))) (.con (.int 1))) .nil)))) .nil))⟩
def N_law_wholes : List String := ["part_so", "wide_so", "tall_so"]
def f_checkered_parts : MP.Fn := ⟨2, 5, (.cons (.asg (.tp (.cons (.nm 2) (.cons (.nm 3) .nil))) (.call 86 (.cons (.var 0) (.cons (.var 1) .nil)))) (.cons (.ret (.bi .tuple_ (.cons (.comp [4] (.call 64 (.cons (.tup (.cons (.idx (.var 2) (.con (.int 0))) (.cons (.idx (.var 2) (.con (.int 1))) .nil))) (.cons (.var 4) .nil))) (.cons (.nm 4) (.ex (.var 3)) .nil .nil)) .nil))) .nil))⟩
def N_checkered_parts : List String := ["whole", "parts", "near", "far", "own"]
def f_is_point : MP.Fn := ⟨1, 2, (.cons (.ret (.an (.cons (.call 8 (.cons (.var 0) (.cons (.con (.int 2)) .nil))) (.cons (.bi .all (.cons (.comp [1] (.call 15 (.cons (.var 1) .nil)) (.cons (.nm 1) (.ex (.var 0)) .nil .nil)) .nil)) .nil)))) .nil)⟩
def N_is_point : List String := ["thing", "own"]
def f_is_walk : MP.Fn := ⟨3, 5, (.cons (.asg (.tp (.cons (.nm 3) (.cons (.nm 4) .nil))) (.call 128 (.cons (.var 0) (.cons (.var 1) .nil)))) (.cons (.ret (.call 122 (.cons (.var 3) (.cons (.var 4) (.cons (.var 2) .nil))))) .nil))⟩
def N_is_walk : List String := ["whole", "parts", "thing", "near", "far"]
def b_is_walk_in_0 : MP.Ss := (.cons (.ite (.or_ (.cons (.nt (.call 8 (.cons (.var 5) (.cons (.con (.int 2)) .nil)))) (.cons (.nt (.call 9 (.cons (.idx (.var 5) (.con (.int 0))) (.cons (.con (.int 0)) (.cons (.bin .sub (.bi .len (.cons (.var 1) .nil)) (.con (.int 1))) .nil))))) (.cons (.nt (.call 120 (.cons (.idx (.var 5) (.con (.int 1))) .nil))) .nil)))) (.cons (.ret (.con (.bl false))) .nil) .nil) (.cons (.asg (.nm 6) (.comp [7] (.var 7) (.cons (.nm 7) (.ex (.var 3)) (.cons (.an (.cons (.cmp .eq (.idx (.var 7) (.con (.int 0))) (.idx (.var 5) (.con (.int 0)))) (.cons (.cmp .eq (.call 97 (.cons (.var 7) (.cons (.var 4) .nil))) (.idx (.var 5) (.con (.int 1)))) .nil))) .nil) .nil))) (.cons (.ite (.cmp .eq (.var 6) (.lst .nil)) (.cons (.ret (.con (.bl false))) .nil) .nil) (.cons (.asg (.nm 3) (.comp [7] (.var 7) (.cons (.nm 7) (.ex (.var 3)) (.cons (.cmp .ne (.var 7) (.idx (.var 6) (.con (.int 0)))) .nil) .nil))) (.cons (.asg (.nm 4) (.idx (.var 5) (.con (.int 1)))) (.cons (.kill 5) (.cons (.kill 6) .nil)))))))
def f_is_walk_in : MP.Fn := ⟨3, 8, (.cons (.ite (.or_ (.cons (.nt (.isi (.var 2) [.tup])) (.cons (.cmp .eq (.var 2) (.tup .nil)) .nil))) (.cons (.ret (.con (.bl false))) .nil) .nil) (.cons (.asg (.tp (.cons (.nm 3) (.cons (.nm 4) .nil))) (.tup (.cons (.call 93 (.cons (.var 1) .nil)) (.cons (.tup (.cons (.idx (.var 0) (.con (.int 0))) (.cons (.idx (.var 0) (.con (.int 1))) .nil))) .nil)))) (.cons (.for_ (.nm 5) (.ex (.var 2)) b_is_walk_in_0) (.cons (.ret (.cmp .in_ (.var 4) (.call 127 (.cons (.var 0) .nil)))) .nil))))⟩
def N_is_walk_in : List String := ["whole", "parts", "thing", "left", "here", "step", "goods", "own"]
def f_other_corners : MP.Fn := ⟨1, 5, (.cons (.asg (.tp (.cons (.nm 1) (.cons (.nm 2) (.cons (.nm 3) (.cons (.nm 4) .nil))))) (.var 0)) (.cons (.ret (.lst (.cons (.tup (.cons (.var 3) (.cons (.var 2) .nil))) (.cons (.tup (.cons (.var 1) (.cons (.var 4) .nil))) (.cons (.tup (.cons (.var 3) (.cons (.var 4) .nil))) .nil))))) .nil))⟩
def N_other_corners : List String := ["whole", "left", "low", "right", "high"]
def f_sure_whole_sided : MP.Fn := ⟨2, 4, (.cons (.asg (.tp (.cons (.nm 2) (.cons (.nm 3) .nil))) (.call 86 (.cons (.var 0) (.cons (.var 1) .nil)))) (.cons (.ite (.cmp .isn (.call 96 (.cons (.var 3) .nil)) (.con .non)) (.cons (.rse 1 .nil) .nil) .nil) (.cons (.ret (.tup (.cons (.var 2) (.cons (.var 3) .nil)))) .nil)))⟩
def N_sure_whole_sided : List String := ["whole", "parts", "near", "far"]
def f_walk_of : MP.Fn := ⟨2, 4, (.cons (.asg (.tp (.cons (.nm 2) (.cons (.nm 3) .nil))) (.call 128 (.cons (.var 0) (.cons (.var 1) .nil)))) (.cons (.ret (.call 108 (.cons (.var 2) (.cons (.var 3) .nil)))) .nil))⟩
def N_walk_of : List String := ["whole", "parts", "near", "far"]
def f_law_step_on : MP.Fn := ⟨3, 5, (.cons (.asg (.nm 3) (.comp [4] (.var 4) (.cons (.nm 4) (.rng2 (.con (.int 1)) (.con (.int 9))) (.cons (.call 72 (.cons (.call 57 (.cons (.var 1) (.cons (.tup (.cons (.var 4) (.cons (.con (.int 1)) .nil))) .nil))) (.cons (.var 2) .nil))) .nil) .nil))) (.cons (.ret (.ife (.cmp .ne (.var 3) (.lst .nil)) (.call 57 (.cons (.var 1) (.cons (.tup (.cons (.call 10 (.cons (.var 0) (.cons (.var 3) .nil))) (.cons (.con (.int 1)) .nil))) .nil))) (.con .non))) .nil))⟩
def N_law_step_on : List String := ["tin", "one", "two", "goods_so", "k"]
def f_moved : MP.Fn := ⟨3, 9, (.cons (.asg (.tp (.cons (.nm 3) (.cons (.nm 4) (.cons (.nm 5) (.cons (.nm 6) .nil))))) (.call 59 (.cons (.var 0) .nil))) (.cons (.asg (.nm 7) (.call 70 (.cons (.var 1) .nil))) (.cons (.asg (.nm 8) (.call 70 (.cons (.var 2) .nil))) (.cons (.ret (.tup (.cons (.call 32 (.cons (.var 3) (.cons (.var 7) .nil))) (.cons (.call 32 (.cons (.var 4) (.cons (.var 8) .nil))) (.cons (.call 32 (.cons (.var 5) (.cons (.var 7) .nil))) (.cons (.call 32 (.cons (.var 6) (.cons (.var 8) .nil))) .nil)))))) .nil))))⟩
def N_moved : List String := ["rectangle", "across", "up", "left", "low", "right", "high", "by", "lift"]
def f_stretched : MP.Fn := ⟨3, 5, (.cons (.asg (.nm 3) (.call 59 (.cons (.var 0) .nil))) (.cons (.asg (.nm 4) (.call 163 (.cons (.var 1) .nil))) (.cons (.ret (.call 162 (.cons (.var 3) (.cons (.var 4) (.cons (.call 163 (.cons (.var 2) .nil)) .nil))))) .nil)))⟩
def N_stretched : List String := ["rectangle", "across", "up", "own", "by"]
def f_stretched_in : MP.Fn := ⟨3, 7, (.cons (.asg (.tp (.cons (.nm 3) (.cons (.nm 4) (.cons (.nm 5) (.cons (.nm 6) .nil))))) (.var 0)) (.cons (.ret (.tup (.cons (.call 34 (.cons (.var 3) (.cons (.var 1) .nil))) (.cons (.call 34 (.cons (.var 4) (.cons (.var 2) .nil))) (.cons (.call 34 (.cons (.var 5) (.cons (.var 1) .nil))) (.cons (.call 34 (.cons (.var 6) (.cons (.var 2) .nil))) .nil)))))) .nil))⟩
def N_stretched_in : List String := ["rectangle", "across", "up", "left", "low", "right", "high"]
def f_sure_above : MP.Fn := ⟨1, 2, (.cons (.asg (.nm 1) (.call 70 (.cons (.var 0) .nil))) (.cons (.ite (.cmp .le (.idx (.var 1) (.con (.int 0))) (.con (.int 0))) (.cons (.rse 0 .nil) .nil) .nil) (.cons (.ret (.var 1)) .nil)))⟩
def N_sure_above : List String := ["value", "own"]
def f_sure_point : MP.Fn := ⟨1, 3, (.cons (.asg (.nm 1) (.call 6 (.cons (.var 0) .nil))) (.cons (.ite (.nt (.call 8 (.cons (.var 1) (.cons (.con (.int 2)) .nil)))) (.cons (.rse 0 .nil) .nil) .nil) (.cons (.asg (.nm 2) (.call 70 (.cons (.idx (.var 1) (.con (.int 0))) .nil))) (.cons (.ret (.tup (.cons (.var 2) (.cons (.call 70 (.cons (.idx (.var 1) (.con (.int 1))) .nil)) .nil)))) .nil))))⟩
def N_sure_point : List String := ["value", "own", "x"]
def f_walk_ways : MP.Fn := ⟨2, 5, (.cons (.asg (.tp (.cons (.nm 2) (.cons (.nm 3) .nil))) (.call 128 (.cons (.var 0) (.cons (.var 1) .nil)))) (.cons (.asg (.nm 4) (.idx (.idx (.call 108 (.cons (.var 2) (.cons (.var 3) .nil))) (.neg (.con (.int 1)))) (.con (.int 1)))) (.cons (.ret (.tup (.cons (.call 22 (.cons (.idx (.var 4) (.con (.int 0))) (.cons (.idx (.var 2) (.con (.int 0))) .nil))) (.cons (.call 22 (.cons (.idx (.var 4) (.con (.int 1))) (.cons (.idx (.var 2) (.con (.int 1))) .nil))) .nil)))) .nil)))⟩
def N_walk_ways : List String := ["whole", "parts", "near", "far", "end"]
def b_law_cutting_0 : MP.Ss := (.cons (.asg (.nm 5) (.call 2 (.cons (.var 0) (.cons (.bi .len (.cons (.var 3) .nil)) .nil)))) (.cons (.asg (.nm 6) (.idx (.var 3) (.var 5))) (.cons (.asg (.tp (.cons (.nm 7) (.cons (.nm 8) (.cons (.nm 9) (.cons (.nm 10) .nil))))) (.var 6)) (.cons (.ite (.cmp .eq (.call 2 (.cons (.var 0) (.cons (.con (.int 4)) .nil))) (.con (.int 0))) (.cons (.par [(11, false), (12, false)] (.cons (.call 88 (.cons (.var 0) (.cons (.var 7) (.cons (.var 9) .nil)))) (.cons (.call 88 (.cons (.var 0) (.cons (.var 8) (.cons (.var 10) .nil)))) .nil))) (.cons (.asg (.nm 13) (.call 104 (.cons (.var 6) (.cons (.var 11) (.cons (.call 88 (.cons (.var 0) (.cons (.var 11) (.cons (.var 9) .nil)))) (.cons (.var 12) (.cons (.call 88 (.cons (.var 0) (.cons (.var 12) (.cons (.var 10) .nil)))) .nil))))))) .nil)) (.cons (.asg (.nm 14) (.call 2 (.cons (.var 0) (.cons (.con (.int 2)) .nil)))) (.cons (.asg (.nm 13) (.call 90 (.cons (.var 6) (.cons (.var 14) (.cons (.call 88 (.cons (.var 0) (.cons (.idx (.var 6) (.var 14)) (.cons (.idx (.var 6) (.bin .add (.var 14) (.con (.int 2)))) .nil)))) .nil))))) .nil))) (.cons (.kill 11) (.cons (.kill 12) (.cons (.kill 14) (.cons (.asg (.nm 3) (.bin .add (.bin .add (.sl (.var 3) .noe (.var 5)) (.var 13)) (.sl (.var 3) (.bin .add (.var 5) (.con (.int 1))) .noe))) (.cons (.kill 4) (.cons (.kill 5) (.cons (.kill 6) (.cons (.kill 7) (.cons (.kill 8) (.cons (.kill 9) (.cons (.kill 10) (.cons (.kill 11) (.cons (.kill 12) (.cons (.kill 13) (.cons (.kill 14) .nil)))))))))))))))))))
def f_law_cutting : MP.Fn := ⟨3, 15, (.cons (.asg (.nm 3) (.lst (.cons (.var 1) .nil))) (.cons (.for_ (.nm 4) (.rng1 (.var 2)) b_law_cutting_0) (.cons (.ret (.bi .tuple_ (.cons (.call 27 (.cons (.var 0) (.cons (.var 3) (.cons (.bi .len (.cons (.var 3) .nil)) .nil)))) .nil))) .nil)))⟩
def N_law_cutting : List String := ["tin", "whole_so", "many_so", "parts_so", "lap", "k", "part_so", "left_so", "low_so", "right_so", "high_so", "x1", "y1", "found", "at_so"]
def b_law_keeping_0 : MP.Ss := (.cons (.asg (.nm 5) (.call 2 (.cons (.var 0) (.cons (.bi .len (.cons (.var 3) .nil)) .nil)))) (.cons (.asg (.nm 6) (.idx (.var 3) (.var 5))) (.cons (.asg (.tp (.cons (.nm 7) (.cons (.nm 8) .nil))) (.call 111 (.cons (.var 6) .nil))) (.cons (.asg (.nm 9) (.call 2 (.cons (.var 0) (.cons (.con (.int 2)) .nil)))) (.cons (.asg (.nm 10) (.ife (.cmp .eq (.var 9) (.con (.int 0))) (.var 8) (.var 7))) (.cons (.ite (.var 10) (.cons (.asg (.nm 11) (.call 88 (.cons (.var 0) (.cons (.idx (.var 6) (.var 9)) (.cons (.idx (.var 6) (.bin .add (.var 9) (.con (.int 2)))) .nil))))) .nil) (.cons (.asg (.nm 11) (.call 133 (.cons (.var 0) (.cons (.idx (.var 6) (.var 9)) (.cons (.idx (.var 6) (.bin .add (.var 9) (.con (.int 2)))) .nil))))) .nil)) (.cons (.ite (.cmp .isn (.var 11) (.con .non)) (.cons (.asg (.nm 3) (.bin .add (.bin .add (.sl (.var 3) .noe (.var 5)) (.call 90 (.cons (.var 6) (.cons (.var 9) (.cons (.var 11) .nil))))) (.sl (.var 3) (.bin .add (.var 5) (.con (.int 1))) .noe))) .nil) .nil) (.cons (.kill 4) (.cons (.kill 5) (.cons (.kill 6) (.cons (.kill 7) (.cons (.kill 8) (.cons (.kill 9) (.cons (.kill 10) (.cons (.kill 11) .nil)))))))))))))))
def f_law_keeping : MP.Fn := ⟨3, 12, (.cons (.asg (.nm 3) (.lst (.cons (.var 1) .nil))) (.cons (.for_ (.nm 4) (.rng1 (.var 2)) b_law_keeping_0) (.cons (.ret (.bi .tuple_ (.cons (.call 27 (.cons (.var 0) (.cons (.var 3) (.cons (.bi .len (.cons (.var 3) .nil)) .nil)))) .nil))) .nil)))⟩
def N_law_keeping : List String := ["tin", "whole_so", "many_so", "parts_so", "lap", "k", "part_so", "wide_so", "tall_so", "at_so", "free_so", "number_so"]
def b_law_spots_0 : MP.Ss := (.cons (.asg (.nm 2) (.call 43 (.cons (.comp [6] (.comp [5] (.bin .add (.var 6) (.tup (.cons (.bin .add (.var 3) (.var 5)) .nil))) (.cons (.nm 5) (.rng1 (.var 4)) .nil .nil)) (.cons (.nm 6) (.ex (.var 2)) .nil .nil)) .nil))) (.cons (.kill 3) (.cons (.kill 4) .nil)))
def f_law_spots : MP.Fn := ⟨2, 7, (.cons (.asg (.nm 2) (.lst (.cons (.tup .nil) .nil))) (.cons (.for_ (.tp (.cons (.nm 3) (.cons (.nm 4) .nil))) (.zip (.var 0) (.var 1)) b_law_spots_0) (.cons (.ret (.var 2)) .nil)))⟩
def N_law_spots : List String := ["corner_so", "sides_so", "rows_so", "a", "b", "k", "own"]
def f_checkered : MP.Fn := ⟨2, 3, (.cons (.asg (.nm 2) (.call 166 (.cons (.var 0) .nil))) (.cons (.ret (.call 64 (.cons (.var 2) (.cons (.call 59 (.cons (.var 1) .nil)) .nil)))) .nil))⟩
def N_checkered : List String := ["corner", "rectangle", "at"]
def f_first_without : MP.Fn := ⟨1, 2, (.cons (.asg (.nm 1) (.call 96 (.cons (.call 55 (.cons (.var 0) .nil)) .nil))) (.cons (.ite (.cmp .is_ (.var 1) (.con .non)) (.cons (.rse 1 .nil) .nil) .nil) (.cons (.ret (.var 1)) .nil)))⟩
def N_first_without : List String := ["parts", "found"]
def f_laid_over : MP.Fn := ⟨1, 5, (.cons (.asg (.tp (.cons (.nm 1) (.cons (.nm 2) (.cons (.nm 3) (.cons (.nm 4) .nil))))) (.call 59 (.cons (.var 0) .nil))) (.cons (.ret (.tup (.cons (.var 2) (.cons (.var 1) (.cons (.var 4) (.cons (.var 3) .nil)))))) .nil))⟩
def N_laid_over : List String := ["rectangle", "left", "low", "right", "high"]
def f_law_checkered : MP.Fn := ⟨2, 5, (.cons (.asg (.tp (.cons (.nm 2) (.cons (.nm 3) .nil))) (.var 0)) (.cons (.asg (.nm 4) (.call 62 (.cons (.call 296 (.cons (.call 62 (.cons (.idx (.var 1) (.con (.int 2))) (.cons (.var 2) .nil))) .nil)) (.cons (.call 296 (.cons (.call 62 (.cons (.idx (.var 1) (.con (.int 0))) (.cons (.var 2) .nil))) .nil)) .nil)))) (.cons (.ret (.call 61 (.cons (.var 4) (.cons (.call 62 (.cons (.call 296 (.cons (.call 62 (.cons (.idx (.var 1) (.con (.int 3))) (.cons (.var 3) .nil))) .nil)) (.cons (.call 296 (.cons (.call 62 (.cons (.idx (.var 1) (.con (.int 1))) (.cons (.var 3) .nil))) .nil)) .nil))) .nil)))) .nil)))⟩
def N_law_checkered : List String := ["point_so", "part_so", "x", "y", "wide_so"]
def b_law_covers_0 : MP.Ss := (.cons (.asg (.tp (.cons (.nm 10) (.cons (.nm 11) .nil))) (.tup (.cons (.call 61 (.cons (.call 57 (.cons (.var 6) (.cons (.var 7) .nil))) (.cons (.tup (.cons (.con (.int 1)) (.cons (.con (.int 2)) .nil))) .nil))) (.cons (.call 61 (.cons (.call 57 (.cons (.var 8) (.cons (.var 9) .nil))) (.cons (.tup (.cons (.con (.int 1)) (.cons (.con (.int 2)) .nil))) .nil))) .nil)))) (.cons (.app 5 (.tup (.cons (.call 231 (.cons (.var 0) (.cons (.var 10) (.cons (.var 11) .nil)))) (.cons (.bi .len (.cons (.comp [3] (.con (.int 1)) (.cons (.nm 3) (.ex (.var 1)) (.cons (.call 231 (.cons (.var 3) (.cons (.var 10) (.cons (.var 11) .nil)))) .nil) .nil)) .nil)) .nil)))) (.cons (.kill 8) (.cons (.kill 9) (.cons (.kill 10) (.cons (.kill 11) .nil))))))
def b_law_covers_1 : MP.Ss := (.cons (.for_ (.tp (.cons (.nm 8) (.cons (.nm 9) .nil))) (.zip (.var 4) (.sl (.var 4) (.con (.int 1)) .noe)) b_law_covers_0) (.cons (.kill 6) (.cons (.kill 7) (.cons (.kill 8) (.cons (.kill 9) (.cons (.kill 10) (.cons (.kill 11) .nil)))))))
def f_law_covers : MP.Fn := ⟨2, 12, (.cons (.asg (.nm 2) (.call 109 (.cons (.bin .add (.bin .add (.comp [3] (.idx (.var 3) (.con (.int 0))) (.cons (.nm 3) (.ex (.var 1)) .nil .nil)) (.comp [3] (.idx (.var 3) (.con (.int 2))) (.cons (.nm 3) (.ex (.var 1)) .nil .nil))) (.lst (.cons (.idx (.var 0) (.con (.int 0))) (.cons (.idx (.var 0) (.con (.int 2))) .nil)))) .nil))) (.cons (.asg (.nm 4) (.call 109 (.cons (.bin .add (.bin .add (.comp [3] (.idx (.var 3) (.con (.int 1))) (.cons (.nm 3) (.ex (.var 1)) .nil .nil)) (.comp [3] (.idx (.var 3) (.con (.int 3))) (.cons (.nm 3) (.ex (.var 1)) .nil .nil))) (.lst (.cons (.idx (.var 0) (.con (.int 1))) (.cons (.idx (.var 0) (.con (.int 3))) .nil)))) .nil))) (.cons (.own 5 (.lst .nil)) (.cons (.for_ (.tp (.cons (.nm 6) (.cons (.nm 7) .nil))) (.zip (.var 2) (.sl (.var 2) (.con (.int 1)) .noe)) b_law_covers_1) (.cons (.frz 5) (.cons (.ret (.var 5)) .nil))))))⟩
def N_law_covers : List String := ["whole_so", "parts_so", "xs_so", "own", "ys_so", "found", "a", "b", "c", "d", "x", "y"]
def f_law_is_laying : MP.Fn := ⟨2, 4, (.cons (.ret (.cmp .eq (.comp [2, 3] (.con (.int 1)) (.cons (.tp (.cons (.nm 2) (.cons (.nm 3) .nil))) (.ex (.call 228 (.cons (.var 0) (.cons (.var 1) .nil)))) (.cons (.cmp .ne (.var 3) (.bi .int_ (.cons (.var 2) .nil))) .nil) .nil)) (.lst .nil))) .nil)⟩
def N_law_is_laying : List String := ["whole_so", "parts_so", "fine", "many_so"]
def f_law_lies : MP.Fn := ⟨3, 3, (.cons (.ret (.nt (.or_ (.cons (.call 72 (.cons (.var 1) (.cons (.idx (.var 0) (.con (.int 0))) .nil))) (.cons (.call 72 (.cons (.idx (.var 0) (.con (.int 2))) (.cons (.var 1) .nil))) (.cons (.call 72 (.cons (.var 2) (.cons (.idx (.var 0) (.con (.int 1))) .nil))) (.cons (.call 72 (.cons (.idx (.var 0) (.con (.int 3))) (.cons (.var 2) .nil))) .nil))))))) .nil)⟩
def N_law_lies : List String := ["part_so", "x", "y"]
def b_law_ties_0 : MP.Ss := (.cons (.asg (.nm 7) (.ife (.idx (.call 111 (.cons (.idx (.var 0) (.var 2)) .nil)) (.con (.int 0))) (.lst (.cons (.tup (.cons (.tup (.cons (.var 3) (.cons (.var 4) .nil))) (.cons (.tup (.cons (.var 5) (.cons (.var 4) .nil))) .nil))) (.cons (.tup (.cons (.tup (.cons (.var 3) (.cons (.var 6) .nil))) (.cons (.tup (.cons (.var 5) (.cons (.var 6) .nil))) .nil))) .nil))) (.lst (.cons (.tup (.cons (.tup (.cons (.var 3) (.cons (.var 4) .nil))) (.cons (.tup (.cons (.var 3) (.cons (.var 6) .nil))) .nil))) (.cons (.tup (.cons (.tup (.cons (.var 5) (.cons (.var 4) .nil))) (.cons (.tup (.cons (.var 5) (.cons (.var 6) .nil))) .nil))) .nil))))) (.cons (.ext 1 (.comp [8, 9] (.tup (.cons (.var 2) (.cons (.var 8) (.cons (.var 9) .nil)))) (.cons (.tp (.cons (.nm 8) (.cons (.nm 9) .nil))) (.ex (.var 7)) .nil .nil))) (.cons (.kill 2) (.cons (.kill 3) (.cons (.kill 4) (.cons (.kill 5) (.cons (.kill 6) (.cons (.kill 7) .nil))))))))
def f_law_ties : MP.Fn := ⟨1, 10, (.cons (.own 1 (.lst .nil)) (.cons (.for_ (.tp (.cons (.nm 2) (.cons (.tp (.cons (.nm 3) (.cons (.nm 4) (.cons (.nm 5) (.cons (.nm 6) .nil))))) .nil))) (.enu (.var 0)) b_law_ties_0) (.cons (.frz 1) (.cons (.ret (.var 1)) .nil))))⟩
def N_law_ties : List String := ["parts_so", "found", "k", "a", "b", "c", "d", "rows_so", "one", "two"]
def f_law_wheeled : MP.Fn := ⟨1, 10, (.cons (.par [(1, false), (2, false)] (.cons (.call 51 (.cons (.bin .sub (.call 2 (.cons (.var 0) (.cons (.con (.int 9)) .nil))) (.con (.int 4))) (.cons (.bin .add (.con (.int 1)) (.call 2 (.cons (.var 0) (.cons (.con (.int 3)) .nil)))) .nil))) (.cons (.call 51 (.cons (.bin .sub (.call 2 (.cons (.var 0) (.cons (.con (.int 9)) .nil))) (.con (.int 4))) (.cons (.bin .add (.con (.int 1)) (.call 2 (.cons (.var 0) (.cons (.con (.int 3)) .nil)))) .nil))) .nil))) (.cons (.asg (.nm 3) (.call 51 (.cons (.bin .add (.con (.int 1)) (.call 2 (.cons (.var 0) (.cons (.con (.int 4)) .nil)))) (.cons (.con (.int 5)) .nil)))) (.cons (.asg (.nm 4) (.call 57 (.cons (.var 1) (.cons (.var 3) .nil)))) (.cons (.asg (.nm 5) (.call 57 (.cons (.var 1) (.cons (.tup (.cons (.bin .add (.con (.int 1)) (.call 2 (.cons (.var 0) (.cons (.con (.int 3)) .nil)))) (.cons (.con (.int 1)) .nil))) .nil)))) (.cons (.asg (.nm 6) (.call 57 (.cons (.var 4) (.cons (.tup (.cons (.bin .add (.bin .add (.bin .add (.con (.int 1)) (.idx (.var 5) (.con (.int 0)))) (.call 2 (.cons (.var 0) (.cons (.con (.int 3)) .nil)))) (.con (.int 9))) (.cons (.con (.int 1)) .nil))) .nil)))) (.cons (.asg (.nm 7) (.call 57 (.cons (.var 2) (.cons (.tup (.cons (.bin .add (.con (.int 1)) (.call 2 (.cons (.var 0) (.cons (.con (.int 3)) .nil)))) (.cons (.con (.int 1)) .nil))) .nil)))) (.cons (.asg (.nm 8) (.call 57 (.cons (.var 7) (.cons (.tup (.cons (.bin .add (.con (.int 1)) (.call 2 (.cons (.var 0) (.cons (.con (.int 3)) .nil)))) (.cons (.con (.int 1)) .nil))) .nil)))) (.cons (.asg (.nm 9) (.tup (.cons (.var 1) (.cons (.var 2) (.cons (.var 6) (.cons (.call 57 (.cons (.var 8) (.cons (.tup (.cons (.bin .add (.con (.int 1)) (.call 2 (.cons (.var 0) (.cons (.con (.int 3)) .nil)))) (.cons (.con (.int 1)) .nil))) .nil))) .nil)))))) (.cons (.ret (.tup (.cons (.var 9) (.cons (.bi .tuple_ (.cons (.call 27 (.cons (.var 0) (.cons (.call 104 (.cons (.var 9) (.cons (.var 4) (.cons (.var 5) (.cons (.var 7) (.cons (.var 8) .nil)))))) (.cons (.con (.int 5)) .nil)))) .nil)) .nil)))) .nil)))))))))⟩
def N_law_wheeled : List String := ["tin", "left_so", "low_so", "part_so", "x1", "x2", "right_so", "y1", "y2", "whole_so"]
def f_around : MP.Fn := ⟨1, 1, (.cons (.ret (.call 29 (.cons (.call 55 (.cons (.var 0) .nil)) .nil))) .nil)⟩
def N_around : List String := ["parts"]
def b_first_uneven_0 : MP.Ss := (.cons (.ite (.cmp .ne (.call 64 (.cons (.tup (.cons (.idx (.var 2) (.con (.int 0))) (.cons (.idx (.var 2) (.con (.int 1))) .nil))) (.cons (.var 5) .nil))) (.glo 5)) (.cons (.ret (.var 4)) .nil) .nil) (.cons (.kill 4) (.cons (.kill 5) .nil)))
def f_first_uneven : MP.Fn := ⟨2, 6, (.cons (.asg (.tp (.cons (.nm 2) (.cons (.nm 3) .nil))) (.call 86 (.cons (.var 0) (.cons (.var 1) .nil)))) (.cons (.for_ (.tp (.cons (.nm 4) (.cons (.nm 5) .nil))) (.enu (.var 3)) b_first_uneven_0) (.cons (.rse 1 .nil) .nil)))⟩
def N_first_uneven : List String := ["whole", "parts", "near", "far", "place", "own"]
def f_rectangle_area : MP.Fn := ⟨1, 1, (.cons (.ret (.call 28 (.cons (.call 59 (.cons (.var 0) .nil)) .nil))) .nil)⟩
def N_rectangle_area : List String := ["rectangle"]
def f_rectangle_sides : MP.Fn := ⟨1, 1, (.cons (.ret (.call 24 (.cons (.call 59 (.cons (.var 0) .nil)) .nil))) .nil)⟩
def N_rectangle_sides : List String := ["rectangle"]
def f_shared : MP.Fn := ⟨2, 4, (.cons (.asg (.nm 2) (.call 59 (.cons (.var 0) .nil))) (.cons (.asg (.nm 3) (.call 33 (.cons (.var 2) (.cons (.call 59 (.cons (.var 1) .nil)) .nil)))) (.cons (.ite (.cmp .is_ (.var 3) (.con .non)) (.cons (.rse 1 .nil) .nil) .nil) (.cons (.ret (.var 3)) .nil))))⟩
def N_shared : List String := ["one", "other", "near", "found"]
def f_ties : MP.Fn := ⟨1, 2, (.cons (.asg (.nm 1) (.call 55 (.cons (.var 0) .nil))) (.cons (.ite (.cmp .isn (.call 96 (.cons (.var 1) .nil)) (.con .non)) (.cons (.rse 1 .nil) .nil) .nil) (.cons (.ret (.bi .tuple_ (.cons (.call 93 (.cons (.var 1) .nil)) .nil))) .nil)))⟩
def N_ties : List String := ["parts", "own"]
def f_ties_at : MP.Fn := ⟨2, 5, (.cons (.asg (.nm 2) (.call 55 (.cons (.var 0) .nil))) (.cons (.asg (.nm 3) (.call 166 (.cons (.var 1) .nil))) (.cons (.ite (.cmp .isn (.call 96 (.cons (.var 2) .nil)) (.con .non)) (.cons (.rse 1 .nil) .nil) .nil) (.cons (.ret (.bi .len (.cons (.comp [4] (.var 4) (.cons (.nm 4) (.ex (.call 93 (.cons (.var 2) .nil))) (.cons (.cmp .isn (.call 97 (.cons (.var 4) (.cons (.var 3) .nil))) (.con .non)) .nil) .nil)) .nil))) .nil))))⟩
def N_ties_at : List String := ["parts", "point", "own", "at", "tie"]
def f_law_fraction : MP.Fn := ⟨2, 2, (.cons (.ret (.call 51 (.cons (.bin .add (.con (.int 1)) (.call 2 (.cons (.var 0) (.cons (.var 1) .nil)))) (.cons (.call 10 (.cons (.var 0) (.cons (.lst (.cons (.con (.int 1)) (.cons (.con (.int 1)) (.cons (.con (.int 2)) (.cons (.con (.int 3)) (.cons (.con (.int 4)) (.cons (.con (.int 5)) (.cons (.con (.int 6)) (.cons (.con (.int 7)) .nil))))))))) .nil))) .nil)))) .nil)⟩
def N_law_fraction : List String := ["tin", "most_so"]
def f_law_goes : MP.Fn := ⟨2, 2, (.cons (.ret (.ife (.cmp .eq (.idx (.var 0) (.con (.int 1))) (.var 1)) (.idx (.var 0) (.con (.int 2))) (.idx (.var 0) (.con (.int 1))))) .nil)⟩
def N_law_goes : List String := ["tie_so", "here_so"]
def f_law_heap : MP.Fn := ⟨1, 2, (.cons (.asg (.nm 1) (.call 62 (.cons (.var 0) (.cons (.tup (.cons (.bin .fdiv (.idx (.var 0) (.con (.int 0))) (.idx (.var 0) (.con (.int 1)))) (.cons (.con (.int 1)) .nil))) .nil)))) (.cons (.ret (.ife (.cmp .gt (.bin .mul (.con (.int 2)) (.idx (.var 1) (.con (.int 0)))) (.idx (.var 1) (.con (.int 1)))) (.call 62 (.cons (.tup (.cons (.con (.int 1)) (.cons (.con (.int 1)) .nil))) (.cons (.var 1) .nil))) (.var 1))) .nil))⟩
def N_law_heap : List String := ["t", "rest_so"]
def b_law_wander_0 : MP.Ss := (.cons (.asg (.nm 7) (.comp [8] (.var 8) (.cons (.nm 8) (.ex (.var 3)) (.cons (.cmp .in_ (.var 4) (.sl (.var 8) (.con (.int 1)) .noe)) .nil) .nil))) (.cons (.ite (.cmp .eq (.var 7) (.lst .nil)) (.cons (.kill 3) (.cons (.kill 4) (.cons (.kill 6) (.cons (.kill 7) (.cons (.kill 8) (.cons .brk .nil)))))) .nil) (.cons (.asg (.nm 8) (.ife (.cmp .is_ (.var 0) (.con .non)) (.idx (.var 7) (.con (.int 0))) (.call 10 (.cons (.var 0) (.cons (.var 7) .nil))))) (.cons (.asg (.nm 3) (.comp [9] (.var 9) (.cons (.nm 9) (.ex (.var 3)) (.cons (.cmp .ne (.var 9) (.var 8)) .nil) .nil))) (.cons (.asg (.nm 4) (.call 295 (.cons (.var 8) (.cons (.var 4) .nil)))) (.cons (.app 5 (.tup (.cons (.idx (.var 8) (.con (.int 0))) (.cons (.var 4) .nil)))) (.cons (.kill 6) (.cons (.kill 7) (.cons (.kill 8) .nil)))))))))
def f_law_wander : MP.Fn := ⟨3, 10, (.cons (.par [(3, false), (4, false), (5, true)] (.cons (.call 233 (.cons (.var 2) .nil)) (.cons (.tup (.cons (.idx (.var 1) (.con (.int 0))) (.cons (.idx (.var 1) (.con (.int 1))) .nil))) (.cons (.lst .nil) .nil)))) (.cons (.for_ (.nm 6) (.rng1 (.con (.int 400))) b_law_wander_0) (.cons (.ret (.bi .tuple_ (.cons (.pk 5) .nil))) .nil)))⟩
def N_law_wander : List String := ["tin", "whole_so", "parts_so", "left_so", "here_so", "found", "lap", "goods_so", "own", "its"]
def b_law_nearly_0 : MP.Ss := (.cons (.asg (.nm 9) (.call 2 (.cons (.var 0) (.cons (.con (.int 2)) .nil)))) (.cons (.asg (.nm 10) (.call 133 (.cons (.var 0) (.cons (.idx (.var 7) (.var 9)) (.cons (.idx (.var 7) (.bin .add (.var 9) (.con (.int 2)))) .nil))))) (.cons (.ite (.cmp .isn (.var 10) (.con .non)) (.cons (.asg (.tp (.cons (.nm 11) (.cons (.nm 7) .nil))) (.call 90 (.cons (.var 7) (.cons (.var 9) (.cons (.var 10) .nil))))) (.cons (.app 6 (.var 11)) .nil)) .nil) (.cons (.kill 11) (.cons (.kill 8) (.cons (.kill 9) (.cons (.kill 10) (.cons (.kill 11) .nil))))))))
def f_law_nearly : MP.Fn := ⟨2, 12, (.cons (.asg (.tp (.cons (.nm 2) (.cons (.nm 3) (.cons (.nm 4) (.cons (.nm 5) .nil))))) (.var 1)) (.cons (.par [(6, true), (7, false)] (.cons (.lst .nil) (.cons (.var 1) .nil))) (.cons (.for_ (.nm 8) (.rng1 (.con (.int 4))) b_law_nearly_0) (.cons (.ret (.bi .tuple_ (.cons (.call 27 (.cons (.var 0) (.cons (.bin .add (.pk 6) (.lst (.cons (.var 7) .nil))) (.cons (.bin .add (.bi .len (.cons (.pk 6) .nil)) (.con (.int 1))) .nil)))) .nil))) .nil))))⟩
def N_law_nearly : List String := ["tin", "whole_so", "left_so", "low_so", "right_so", "high_so", "rows_so", "here_so", "lap", "at_so", "number_so", "first_so"]
def f_law_rectangle : MP.Fn := ⟨1, 3, (.cons (.par [(1, false), (2, false)] (.cons (.call 51 (.cons (.bin .sub (.call 2 (.cons (.var 0) (.cons (.con (.int 13)) .nil))) (.con (.int 6))) (.cons (.bin .add (.con (.int 1)) (.call 2 (.cons (.var 0) (.cons (.con (.int 4)) .nil)))) .nil))) (.cons (.call 51 (.cons (.bin .sub (.call 2 (.cons (.var 0) (.cons (.con (.int 13)) .nil))) (.con (.int 6))) (.cons (.bin .add (.con (.int 1)) (.call 2 (.cons (.var 0) (.cons (.con (.int 4)) .nil)))) .nil))) .nil))) (.cons (.ret (.tup (.cons (.var 1) (.cons (.var 2) (.cons (.call 57 (.cons (.var 1) (.cons (.call 294 (.cons (.var 0) (.cons (.con (.int 9)) .nil))) .nil))) (.cons (.call 57 (.cons (.var 2) (.cons (.call 294 (.cons (.var 0) (.cons (.con (.int 9)) .nil))) .nil))) .nil)))))) .nil))⟩
def N_law_rectangle : List String := ["tin", "a", "b"]
def b_law_shades_0 : MP.Ss := (.cons (.asg (.nm 14) (.call 61 (.cons (.call 62 (.cons (.var 11) (.cons (.var 10) .nil))) (.cons (.call 62 (.cons (.var 13) (.cons (.var 12) .nil))) .nil)))) (.cons (.asg (.nm 15) (.bin .add (.bin .fdiv (.bin .mul (.con (.int 2)) (.idx (.var 10) (.con (.int 0)))) (.idx (.var 10) (.con (.int 1)))) (.bin .fdiv (.bin .mul (.con (.int 2)) (.idx (.var 12) (.con (.int 0)))) (.idx (.var 12) (.con (.int 1)))))) (.cons (.asg (.nm 2) (.call 57 (.cons (.var 2) (.cons (.ife (.cmp .eq (.bin .mod (.var 15) (.con (.int 2))) (.con (.int 0))) (.var 14) (.tup (.cons (.bin .sub (.con (.int 0)) (.idx (.var 14) (.con (.int 0)))) (.cons (.idx (.var 14) (.con (.int 1))) .nil)))) .nil)))) (.cons (.kill 12) (.cons (.kill 13) (.cons (.kill 14) (.cons (.kill 15) .nil)))))))
def b_law_shades_1 : MP.Ss := (.cons (.for_ (.tp (.cons (.nm 12) (.cons (.nm 13) .nil))) (.zip (.var 9) (.sl (.var 9) (.con (.int 1)) .noe)) b_law_shades_0) (.cons (.kill 10) (.cons (.kill 11) (.cons (.kill 12) (.cons (.kill 13) (.cons (.kill 14) (.cons (.kill 15) .nil)))))))
def f_law_shades : MP.Fn := ⟨2, 16, (.cons (.asg (.nm 2) (.tup (.cons (.con (.int 0)) (.cons (.con (.int 1)) .nil)))) (.cons (.asg (.tp (.cons (.nm 3) (.cons (.nm 4) (.cons (.nm 5) (.cons (.nm 6) .nil))))) (.tup (.cons (.call 62 (.cons (.idx (.var 1) (.con (.int 0))) (.cons (.idx (.var 0) (.con (.int 0))) .nil))) (.cons (.call 62 (.cons (.idx (.var 1) (.con (.int 1))) (.cons (.idx (.var 0) (.con (.int 1))) .nil))) (.cons (.call 62 (.cons (.idx (.var 1) (.con (.int 2))) (.cons (.idx (.var 0) (.con (.int 0))) .nil))) (.cons (.call 62 (.cons (.idx (.var 1) (.con (.int 3))) (.cons (.idx (.var 0) (.con (.int 1))) .nil))) .nil)))))) (.cons (.asg (.nm 7) (.call 109 (.cons (.bin .add (.lst (.cons (.var 3) (.cons (.var 5) .nil))) (.comp [8] (.ife (.cmp .eq (.bin .mod (.var 8) (.con (.int 2))) (.con (.int 1))) (.tup (.cons (.var 8) (.cons (.con (.int 2)) .nil))) (.tup (.cons (.bin .fdiv (.var 8) (.con (.int 2))) (.cons (.con (.int 1)) .nil)))) (.cons (.nm 8) (.rng2 (.bin .sub (.bin .fdiv (.bin .mul (.con (.int 2)) (.idx (.var 3) (.con (.int 0)))) (.idx (.var 3) (.con (.int 1)))) (.con (.int 1))) (.bin .add (.bin .fdiv (.bin .mul (.con (.int 2)) (.idx (.var 5) (.con (.int 0)))) (.idx (.var 5) (.con (.int 1)))) (.con (.int 2)))) (.cons (.an (.cons (.call 72 (.cons (.var 3) (.cons (.tup (.cons (.var 8) (.cons (.con (.int 2)) .nil))) .nil))) (.cons (.call 72 (.cons (.tup (.cons (.var 8) (.cons (.con (.int 2)) .nil))) (.cons (.var 5) .nil))) .nil))) .nil) .nil))) .nil))) (.cons (.asg (.nm 9) (.call 109 (.cons (.bin .add (.lst (.cons (.var 4) (.cons (.var 6) .nil))) (.comp [8] (.ife (.cmp .eq (.bin .mod (.var 8) (.con (.int 2))) (.con (.int 1))) (.tup (.cons (.var 8) (.cons (.con (.int 2)) .nil))) (.tup (.cons (.bin .fdiv (.var 8) (.con (.int 2))) (.cons (.con (.int 1)) .nil)))) (.cons (.nm 8) (.rng2 (.bin .sub (.bin .fdiv (.bin .mul (.con (.int 2)) (.idx (.var 4) (.con (.int 0)))) (.idx (.var 4) (.con (.int 1)))) (.con (.int 1))) (.bin .add (.bin .fdiv (.bin .mul (.con (.int 2)) (.idx (.var 6) (.con (.int 0)))) (.idx (.var 6) (.con (.int 1)))) (.con (.int 2)))) (.cons (.an (.cons (.call 72 (.cons (.var 4) (.cons (.tup (.cons (.var 8) (.cons (.con (.int 2)) .nil))) .nil))) (.cons (.call 72 (.cons (.tup (.cons (.var 8) (.cons (.con (.int 2)) .nil))) (.cons (.var 6) .nil))) .nil))) .nil) .nil))) .nil))) (.cons (.for_ (.tp (.cons (.nm 10) (.cons (.nm 11) .nil))) (.zip (.var 7) (.sl (.var 7) (.con (.int 1)) .noe)) b_law_shades_1) (.cons (.ret (.var 2)) .nil))))))⟩
def N_law_shades : List String := ["point_so", "part_so", "found", "a", "b", "c", "d", "xs_so", "k", "ys_so", "x", "x2", "y", "y2", "own", "shade_so"]
end IR

end

section
set_option Elab.async false
set_option linter.all false
set_option autoImplicit false
set_option maxRecDepth 100000
namespace L04
open MP IR
def f_law_box : MP.Fn := ⟨2, 3, (.cons (.asg (.nm 2) (.ife (.cmp .lt (.var 1) (.bi .len (.cons (.var 0) .nil))) (.idx (.var 0) (.var 1)) (.con (.int 0)))) (.cons (.ret (.nce (.cons (.bin .mul (.bi .abs (.cons (.var 2) .nil)) (.bi .int_ (.cons (.cmp .ge (.bi .abs (.cons (.var 2) .nil)) (.bin .pow (.con (.int 10)) (.con (.int 18)))) .nil))) (.cons (.bin .add (.bin .add (.bin .mod (.bi .int_ (.cons (.var 2) .nil)) (.con (.int 2305843009213693951))) (.bin .mul (.con (.int 39373)) (.var 1))) (.con (.int 26297004))) (.cons (.con (.int 0)) .nil))))) .nil))⟩
def N_law_box : List String := ["script", "k", "bit_so"]
def b_law_right_0 : MP.Ss := (.cons (.ext 9 (.lst (.cons (.tup (.cons (.var 10) (.cons (.var 11) .nil))) (.cons (.tup (.cons (.var 12) (.cons (.var 11) .nil))) (.cons (.tup (.cons (.var 10) (.cons (.var 13) .nil))) (.cons (.tup (.cons (.var 12) (.cons (.var 13) .nil))) .nil)))))) (.cons (.kill 10) (.cons (.kill 11) (.cons (.kill 12) (.cons (.kill 13) .nil)))))
def b_law_right_1 : MP.Ss := (.cons (.ite (.cmp .nin (.var 15) (.pk 14)) (.cons (.app 14 (.var 15)) .nil) .nil) (.cons (.kill 15) .nil))
def f_law_right : MP.Fn := ⟨1, 23, (.cons (.ite (.cmp .eq (.call 2 (.cons (.var 0) (.cons (.con (.int 3)) .nil))) (.con (.int 0))) (.cons (.asg (.tp (.cons (.nm 1) (.cons (.nm 2) .nil))) (.call 235 (.cons (.var 0) .nil))) .nil) (.cons (.asg (.nm 1) (.call 91 (.cons (.var 0) (.cons (.call 2 (.cons (.var 0) (.cons (.con (.int 2)) .nil))) .nil)))) (.cons (.asg (.nm 2) (.call 180 (.cons (.var 0) (.cons (.var 1) (.cons (.call 2 (.cons (.var 0) (.cons (.con (.int 7)) .nil))) .nil))))) .nil))) (.cons (.asg (.nm 3) (.call 233 (.cons (.var 2) .nil))) (.cons (.ite (.nt (.call 7 (.cons (.lst (.cons (.call 279 (.cons (.call 26 (.cons (.var 0) (.cons (.var 2) .nil))) .nil)) (.cons (.call 44 (.cons (.fnv 193) (.cons (.tup (.cons (.var 2) .nil)) .nil))) .nil))) (.cons (.lst (.cons (.bi .tuple_ (.cons (.var 3) .nil)) (.cons (.lst (.cons (.con (.str (PySem.Str.ofString "can not"))) (.cons (.con (.bl true)) .nil))) .nil))) .nil)))) (.cons (.ret (.con (.bl false))) .nil) .nil) (.cons (.asg (.tp (.cons (.nm 4) (.cons (.nm 5) (.cons (.nm 6) (.cons (.nm 7) .nil))))) (.var 1)) (.cons (.asg (.nm 8) (.lst (.cons (.tup (.cons (.var 4) (.cons (.var 5) .nil))) (.cons (.tup (.cons (.var 6) (.cons (.var 5) .nil))) (.cons (.tup (.cons (.var 4) (.cons (.var 7) .nil))) (.cons (.tup (.cons (.var 6) (.cons (.var 7) .nil))) .nil)))))) (.cons (.own 9 (.lst .nil)) (.cons (.for_ (.tp (.cons (.nm 10) (.cons (.nm 11) (.cons (.nm 12) (.cons (.nm 13) .nil))))) (.ex (.var 2)) b_law_right_0) (.cons (.own 14 (.lst .nil)) (.cons (.frz 9) (.cons (.for_ (.nm 15) (.ex (.var 9)) b_law_right_1) (.cons (.asg (.nm 16) (.comp [15] (.call 280 (.cons (.var 2) (.cons (.var 15) .nil))) (.cons (.nm 15) (.ex (.pk 14)) .nil .nil))) (.cons (.ite (.or_ (.cons (.cmp .ne (.bi .sum (.cons (.var 16) .nil)) (.bin .mul (.con (.int 4)) (.bi .len (.cons (.var 2) .nil)))) (.cons (.cmp .ne (.var 16) (.comp [15] (.cnt 9 (.var 15)) (.cons (.nm 15) (.ex (.pk 14)) .nil .nil))) .nil))) (.cons (.ret (.con (.bl false))) .nil) .nil) (.cons (.ite (.cmp .ne (.comp [15, 17] (.con (.int 1)) (.cons (.tp (.cons (.nm 15) (.cons (.nm 17) .nil))) (.zip (.pk 14) (.var 16)) (.cons (.cmp .nin (.var 17) (.ife (.cmp .in_ (.var 15) (.var 8)) (.tup (.cons (.con (.int 1)) .nil)) (.tup (.cons (.con (.int 2)) (.cons (.con (.int 4)) .nil))))) .nil) .nil)) (.lst .nil)) (.cons (.ret (.con (.bl false))) .nil) .nil) (.cons (.par [(18, false), (19, false)] (.cons (.call 88 (.cons (.var 0) (.cons (.var 4) (.cons (.var 6) .nil)))) (.cons (.call 88 (.cons (.var 0) (.cons (.var 5) (.cons (.var 7) .nil)))) .nil))) (.cons (.ite (.nt (.call 7 (.cons (.call 280 (.cons (.var 2) (.cons (.call 26 (.cons (.var 0) (.cons (.tup (.cons (.var 18) (.cons (.var 19) .nil))) .nil))) .nil))) (.cons (.cnt 9 (.tup (.cons (.var 18) (.cons (.var 19) .nil)))) .nil)))) (.cons (.ret (.con (.bl false))) .nil) .nil) (.cons (.asg (.nm 20) (.tup (.cons (.var 4) (.cons (.var 5) (.cons (.call 57 (.cons (.var 4) (.cons (.tup (.cons (.con (.int 1)) (.cons (.con (.int 2)) .nil))) .nil))) (.cons (.call 57 (.cons (.var 5) (.cons (.tup (.cons (.con (.int 1)) (.cons (.con (.int 3)) .nil))) .nil))) .nil)))))) (.cons (.asg (.nm 21) (.call 2 (.cons (.var 0) (.cons (.bin .add (.bi .len (.cons (.var 2) .nil)) (.con (.int 1))) .nil)))) (.cons (.ite (.cmp .gt (.bi .len (.cons (.var 2) .nil)) (.con (.int 58))) (.cons (.ret (.con (.bl true))) .nil) .nil) (.cons (.asg (.nm 22) (.bin .add (.bin .add (.sl (.var 2) .noe (.var 21)) (.tup (.cons (.var 20) .nil))) (.sl (.var 2) (.var 21) .noe))) (.cons (.ret (.call 7 (.cons (.lst (.cons (.call 193 (.cons (.var 22) .nil)) (.cons (.call 44 (.cons (.fnv 279) (.cons (.tup (.cons (.var 22) .nil)) .nil))) (.cons (.call 44 (.cons (.fnv 280) (.cons (.tup (.cons (.var 22) (.cons (.tup (.cons (.var 18) (.cons (.var 19) .nil))) .nil))) .nil))) .nil)))) (.cons (.lst (.cons (.var 21) (.cons (.lst (.cons (.con (.str (PySem.Str.ofString "can not"))) (.cons (.con (.bl true)) .nil))) (.cons (.lst (.cons (.con (.str (PySem.Str.ofString "can not"))) (.cons (.con (.bl true)) .nil))) .nil)))) .nil)))) .nil))))))))))))))))))))⟩
def N_law_right : List String := ["tin", "whole_so", "parts_so", "due", "left_so", "low_so", "right_so", "high_so", "corners_so", "points_so", "a", "b", "c", "d", "unlike_so", "own", "counts_so", "many_so", "x", "y", "bad_so", "k", "rows_so"]
def f_law : MP.Fn := ⟨1, 5, (.cons (.asg (.nm 1) (.call 0 (.cons (.call 1 (.cons (.var 0) (.cons (.con (.int 1)) .nil))) (.cons (.con (.int 0)) .nil)))) (.cons (.asg (.nm 2) (.tup (.cons (.tup (.cons (.con (.int 0)) (.cons (.con (.int 1)) .nil))) (.cons (.tup (.cons (.con (.int 0)) (.cons (.con (.int 1)) .nil))) (.cons (.tup (.cons (.con (.int 1)) (.cons (.con (.int 2)) .nil))) (.cons (.tup (.cons (.con (.int 1)) (.cons (.con (.int 1)) .nil))) .nil)))))) (.cons (.asg (.nm 3) (.lst (.cons (.call 279 (.cons (.tup (.cons (.var 2) .nil)) .nil)) (.cons (.call 280 (.cons (.tup (.cons (.var 2) (.cons (.var 2) .nil))) (.cons (.tup (.cons (.tup (.cons (.con (.int 0)) (.cons (.con (.int 1)) .nil))) (.cons (.tup (.cons (.con (.int 0)) (.cons (.con (.int 1)) .nil))) .nil))) .nil))) (.cons (.call 44 (.cons (.fnv 193) (.cons (.tup (.cons (.tup (.cons (.var 2) .nil)) .nil)) .nil))) (.cons (.call 193 (.cons (.tup (.cons (.var 2) (.cons (.tup (.cons (.tup (.cons (.con (.int 0)) (.cons (.con (.int 1)) .nil))) (.cons (.tup (.cons (.con (.int 0)) (.cons (.con (.int 1)) .nil))) (.cons (.tup (.cons (.con (.int 1)) (.cons (.con (.int 2)) .nil))) (.cons (.tup (.cons (.con (.int 1)) (.cons (.con (.int 2)) .nil))) .nil))))) .nil))) .nil)) .nil)))))) (.cons (.ite (.nt (.call 7 (.cons (.var 3) (.cons (.lst (.cons (.tup (.cons (.tup (.cons (.con (.int 0)) (.cons (.tup (.cons (.tup (.cons (.con (.int 0)) (.cons (.con (.int 1)) .nil))) (.cons (.tup (.cons (.con (.int 0)) (.cons (.con (.int 1)) .nil))) .nil))) (.cons (.tup (.cons (.tup (.cons (.con (.int 0)) (.cons (.con (.int 1)) .nil))) (.cons (.tup (.cons (.con (.int 1)) (.cons (.con (.int 1)) .nil))) .nil))) .nil)))) (.cons (.tup (.cons (.con (.int 0)) (.cons (.tup (.cons (.tup (.cons (.con (.int 1)) (.cons (.con (.int 2)) .nil))) (.cons (.tup (.cons (.con (.int 0)) (.cons (.con (.int 1)) .nil))) .nil))) (.cons (.tup (.cons (.tup (.cons (.con (.int 1)) (.cons (.con (.int 2)) .nil))) (.cons (.tup (.cons (.con (.int 1)) (.cons (.con (.int 1)) .nil))) .nil))) .nil)))) .nil))) (.cons (.con (.int 2)) (.cons (.lst (.cons (.con (.str (PySem.Str.ofString "can not"))) (.cons (.con (.bl true)) .nil))) (.cons (.con (.int 1)) .nil))))) .nil)))) (.cons (.ret (.con (.bl false))) .nil) .nil) (.cons (.ret (.bi .all (.cons (.comp [4] (.call 20 (.cons (.var 1) .nil)) (.cons (.nm 4) (.rng1 (.con (.int 4))) .nil .nil)) .nil))) .nil)))))⟩
def N_law : List String := ["script", "tin", "part", "got", "lap"]
def tbl : List (Nat × MP.Fn) := [(4, f_is_number), (8, f_is_long), (3, f_are_numbers), (6, f_tupled), (14, f_common), (23, f_lowest), (22, f_less), (19, f_is_under), (48, f_is_whole_in), (15, f_is_fraction_in), (16, f_is_near_fraction), (70, f_sure_fraction), (18, f_is_rectangle_in), (17, f_is_near_rectangle), (13, f_are_near_parts), (55, f_sure_parts), (24, f_sides_of), (49, f_sides_in), (78, f_has_whole_in), (96, f_first_without_in), (101, f_ties_in), (93, f_all_ties), (97, f_other_end), (166, f_sure_point), (193, f_first_without), (279, f_ties), (280, f_ties_at), (0, f_law_box), (2, f_law_take), (1, f_law_cells), (10, f_law_of), (27, f_law_pick), (26, f_law_mixed), (7, f_law_same), (52, f_law_unmarked), (11, f_law_call), (12, f_law_slip), (35, f_law_gcd), (44, f_law_heard), (51, f_law_cut), (57, f_law_plus), (62, f_law_less), (61, f_law_by), (72, f_law_under), (88, f_law_between), (89, f_law_sides), (111, f_law_wholes), (90, f_law_split), (104, f_law_wheel), (133, f_law_step_on), (180, f_law_keeping), (235, f_law_wheeled), (91, f_law_start), (233, f_law_ties), (20, f_law_right), (5, f_law)]
def gls : List (Nat × PV) := [(0, (.int 1000000000000)), (1, (.int 60))]
def P : MP.Prog := ⟨fun n => tbl.lookup n, fun n => gls.lookup n, 1000000000⟩
theorem h_is_number : P.fn 4 = some f_is_number := rfl
theorem h_is_long : P.fn 8 = some f_is_long := rfl
theorem h_are_numbers : P.fn 3 = some f_are_numbers := rfl
theorem h_tupled : P.fn 6 = some f_tupled := rfl
theorem h_common : P.fn 14 = some f_common := rfl
theorem h_lowest : P.fn 23 = some f_lowest := rfl
theorem h_less : P.fn 22 = some f_less := rfl
theorem h_is_under : P.fn 19 = some f_is_under := rfl
theorem h_is_whole_in : P.fn 48 = some f_is_whole_in := rfl
theorem h_is_fraction_in : P.fn 15 = some f_is_fraction_in := rfl
theorem h_is_near_fraction : P.fn 16 = some f_is_near_fraction := rfl
theorem h_sure_fraction : P.fn 70 = some f_sure_fraction := rfl
theorem h_is_rectangle_in : P.fn 18 = some f_is_rectangle_in := rfl
theorem h_is_near_rectangle : P.fn 17 = some f_is_near_rectangle := rfl
theorem h_are_near_parts : P.fn 13 = some f_are_near_parts := rfl
theorem h_sure_parts : P.fn 55 = some f_sure_parts := rfl
theorem h_sides_of : P.fn 24 = some f_sides_of := rfl
theorem h_sides_in : P.fn 49 = some f_sides_in := rfl
theorem h_has_whole_in : P.fn 78 = some f_has_whole_in := rfl
theorem h_first_without_in : P.fn 96 = some f_first_without_in := rfl
theorem h_ties_in : P.fn 101 = some f_ties_in := rfl
theorem h_all_ties : P.fn 93 = some f_all_ties := rfl
theorem h_other_end : P.fn 97 = some f_other_end := rfl
theorem h_sure_point : P.fn 166 = some f_sure_point := rfl
theorem h_first_without : P.fn 193 = some f_first_without := rfl
theorem h_ties : P.fn 279 = some f_ties := rfl
theorem h_ties_at : P.fn 280 = some f_ties_at := rfl
theorem h_law_box : P.fn 0 = some f_law_box := rfl
theorem h_law_take : P.fn 2 = some f_law_take := rfl
theorem h_law_cells : P.fn 1 = some f_law_cells := rfl
theorem h_law_of : P.fn 10 = some f_law_of := rfl
theorem h_law_pick : P.fn 27 = some f_law_pick := rfl
theorem h_law_mixed : P.fn 26 = some f_law_mixed := rfl
theorem h_law_same : P.fn 7 = some f_law_same := rfl
theorem h_law_unmarked : P.fn 52 = some f_law_unmarked := rfl
theorem h_law_call : P.fn 11 = some f_law_call := rfl
theorem h_law_slip : P.fn 12 = some f_law_slip := rfl
theorem h_law_gcd : P.fn 35 = some f_law_gcd := rfl
theorem h_law_heard : P.fn 44 = some f_law_heard := rfl
theorem h_law_cut : P.fn 51 = some f_law_cut := rfl
theorem h_law_plus : P.fn 57 = some f_law_plus := rfl
theorem h_law_less : P.fn 62 = some f_law_less := rfl
theorem h_law_by : P.fn 61 = some f_law_by := rfl
theorem h_law_under : P.fn 72 = some f_law_under := rfl
theorem h_law_between : P.fn 88 = some f_law_between := rfl
theorem h_law_sides : P.fn 89 = some f_law_sides := rfl
theorem h_law_wholes : P.fn 111 = some f_law_wholes := rfl
theorem h_law_split : P.fn 90 = some f_law_split := rfl
theorem h_law_wheel : P.fn 104 = some f_law_wheel := rfl
theorem h_law_step_on : P.fn 133 = some f_law_step_on := rfl
theorem h_law_keeping : P.fn 180 = some f_law_keeping := rfl
theorem h_law_wheeled : P.fn 235 = some f_law_wheeled := rfl
theorem h_law_start : P.fn 91 = some f_law_start := rfl
theorem h_law_ties : P.fn 233 = some f_law_ties := rfl
theorem h_law_right : P.fn 20 = some f_law_right := rfl
theorem h_law : P.fn 5 = some f_law := rfl
end L04
end

section
set_option Elab.async false
set_option linter.all false
set_option autoImplicit false
set_option maxRecDepth 100000
set_option maxHeartbeats 0
namespace CK04
open PySem PySem.Spec PyProof.Rows L2 MP MPS IR L04
def top (i : Nat) : Stmt := PySem.Challenge.pw_onesidewhole_k04_main_ends_of_ties_count.main.body.getD i (.Pass ⟨0, 0, 0, 0⟩)
def ar : Nat → Option Nat := fun n => (L04.tbl.lookup n).map (·.ps)
def exs : Nat → Bool := fun n => ([1, 2, 0] : List Nat).contains n
def co : Nat → Bool := fun n => (L04.gls.lookup n).isSome
def ckOf (N : List String) (i : Nat) : Ck := ⟨N.map Str.ofString, (defScope (top i)).names, (defScope (top i)).names, ar, exs, co⟩
theorem k_is_number : ckSs (ckOf IR.N_is_number 5) IR.f_is_number.body (defBody (top 5)) = true := by decide +kernel
theorem k_is_long : ckSs (ckOf IR.N_is_long 6) IR.f_is_long.body (defBody (top 6)) = true := by decide +kernel
theorem k_are_numbers : ckSs (ckOf IR.N_are_numbers 7) IR.f_are_numbers.body (defBody (top 7)) = true := by decide +kernel
theorem k_tupled : ckSs (ckOf IR.N_tupled 8) IR.f_tupled.body (defBody (top 8)) = true := by decide +kernel
theorem k_common : ckSs (ckOf IR.N_common 9) IR.f_common.body (defBody (top 9)) = true := by decide +kernel
theorem k_lowest : ckSs (ckOf IR.N_lowest 12) IR.f_lowest.body (defBody (top 12)) = true := by decide +kernel
theorem k_less : ckSs (ckOf IR.N_less 13) IR.f_less.body (defBody (top 13)) = true := by decide +kernel
theorem k_is_under : ckSs (ckOf IR.N_is_under 14) IR.f_is_under.body (defBody (top 14)) = true := by decide +kernel
theorem k_is_whole_in : ckSs (ckOf IR.N_is_whole_in 15) IR.f_is_whole_in.body (defBody (top 15)) = true := by decide +kernel
theorem k_is_fraction_in : ckSs (ckOf IR.N_is_fraction_in 16) IR.f_is_fraction_in.body (defBody (top 16)) = true := by decide +kernel
theorem k_is_near_fraction : ckSs (ckOf IR.N_is_near_fraction 17) IR.f_is_near_fraction.body (defBody (top 17)) = true := by decide +kernel
theorem k_sure_fraction : ckSs (ckOf IR.N_sure_fraction 18) IR.f_sure_fraction.body (defBody (top 18)) = true := by decide +kernel
theorem k_is_rectangle_in : ckSs (ckOf IR.N_is_rectangle_in 21) IR.f_is_rectangle_in.body (defBody (top 21)) = true := by decide +kernel
theorem k_is_near_rectangle : ckSs (ckOf IR.N_is_near_rectangle 22) IR.f_is_near_rectangle.body (defBody (top 22)) = true := by decide +kernel
theorem k_are_near_parts : ckSs (ckOf IR.N_are_near_parts 23) IR.f_are_near_parts.body (defBody (top 23)) = true := by decide +kernel
theorem k_sure_parts : ckSs (ckOf IR.N_sure_parts 24) IR.f_sure_parts.body (defBody (top 24)) = true := by decide +kernel
theorem k_sides_of : ckSs (ckOf IR.N_sides_of 25) IR.f_sides_of.body (defBody (top 25)) = true := by decide +kernel
theorem k_sides_in : ckSs (ckOf IR.N_sides_in 27) IR.f_sides_in.body (defBody (top 27)) = true := by decide +kernel
theorem k_has_whole_in : ckSs (ckOf IR.N_has_whole_in 28) IR.f_has_whole_in.body (defBody (top 28)) = true := by decide +kernel
theorem k_first_without_in : ckSs (ckOf IR.N_first_without_in 29) IR.f_first_without_in.body (defBody (top 29)) = true := by decide +kernel
theorem k_ties_in : ckSs (ckOf IR.N_ties_in 30) IR.f_ties_in.body (defBody (top 30)) = true := by decide +kernel
theorem k_all_ties : ckSs (ckOf IR.N_all_ties 31) IR.f_all_ties.body (defBody (top 31)) = true := by decide +kernel
theorem k_other_end : ckSs (ckOf IR.N_other_end 32) IR.f_other_end.body (defBody (top 32)) = true := by decide +kernel
theorem k_sure_point : ckSs (ckOf IR.N_sure_point 33) IR.f_sure_point.body (defBody (top 33)) = true := by decide +kernel
theorem k_first_without : ckSs (ckOf IR.N_first_without 34) IR.f_first_without.body (defBody (top 34)) = true := by decide +kernel
theorem k_ties : ckSs (ckOf IR.N_ties 35) IR.f_ties.body (defBody (top 35)) = true := by decide +kernel
theorem k_ties_at : ckSs (ckOf IR.N_ties_at 36) IR.f_ties_at.body (defBody (top 36)) = true := by decide +kernel
theorem k_law_box : ckSs (ckOf L04.N_law_box 38) L04.f_law_box.body (defBody (top 38)) = true := by decide +kernel
theorem k_law_take : ckSs (ckOf IR.N_law_take 39) IR.f_law_take.body (defBody (top 39)) = true := by decide +kernel
theorem k_law_cells : ckSs (ckOf IR.N_law_cells 40) IR.f_law_cells.body (defBody (top 40)) = true := by decide +kernel
theorem k_law_of : ckSs (ckOf IR.N_law_of 41) IR.f_law_of.body (defBody (top 41)) = true := by decide +kernel
theorem k_law_pick : ckSs (ckOf IR.N_law_pick 42) IR.f_law_pick.body (defBody (top 42)) = true := by decide +kernel
theorem k_law_mixed : ckSs (ckOf IR.N_law_mixed 43) IR.f_law_mixed.body (defBody (top 43)) = true := by decide +kernel
theorem k_law_same : ckSs (ckOf IR.N_law_same 44) IR.f_law_same.body (defBody (top 44)) = true := by decide +kernel
theorem k_law_unmarked : ckSs (ckOf IR.N_law_unmarked 45) IR.f_law_unmarked.body (defBody (top 45)) = true := by decide +kernel
theorem k_law_call : ckSs (ckOf IR.N_law_call 46) IR.f_law_call.body (defBody (top 46)) = true := by decide +kernel
theorem k_law_slip : ckSs (ckOf IR.N_law_slip 47) IR.f_law_slip.body (defBody (top 47)) = true := by decide +kernel
theorem k_law_gcd : ckSs (ckOf IR.N_law_gcd 48) IR.f_law_gcd.body (defBody (top 48)) = true := by decide +kernel
theorem k_law_heard : ckSs (ckOf IR.N_law_heard 49) IR.f_law_heard.body (defBody (top 49)) = true := by decide +kernel
theorem k_law_cut : ckSs (ckOf IR.N_law_cut 50) IR.f_law_cut.body (defBody (top 50)) = true := by decide +kernel
theorem k_law_plus : ckSs (ckOf IR.N_law_plus 51) IR.f_law_plus.body (defBody (top 51)) = true := by decide +kernel
theorem k_law_less : ckSs (ckOf IR.N_law_less 52) IR.f_law_less.body (defBody (top 52)) = true := by decide +kernel
theorem k_law_by : ckSs (ckOf IR.N_law_by 53) IR.f_law_by.body (defBody (top 53)) = true := by decide +kernel
theorem k_law_under : ckSs (ckOf IR.N_law_under 54) IR.f_law_under.body (defBody (top 54)) = true := by decide +kernel
theorem k_law_between : ckSs (ckOf IR.N_law_between 55) IR.f_law_between.body (defBody (top 55)) = true := by decide +kernel
theorem k_law_sides : ckSs (ckOf IR.N_law_sides 56) IR.f_law_sides.body (defBody (top 56)) = true := by decide +kernel
theorem k_law_wholes : ckSs (ckOf IR.N_law_wholes 57) IR.f_law_wholes.body (defBody (top 57)) = true := by decide +kernel
theorem k_law_split : ckSs (ckOf IR.N_law_split 58) IR.f_law_split.body (defBody (top 58)) = true := by decide +kernel
theorem k_law_wheel : ckSs (ckOf IR.N_law_wheel 59) IR.f_law_wheel.body (defBody (top 59)) = true := by decide +kernel
theorem k_law_step_on : ckSs (ckOf IR.N_law_step_on 60) IR.f_law_step_on.body (defBody (top 60)) = true := by decide +kernel
theorem k_law_keeping : ckSs (ckOf IR.N_law_keeping 61) IR.f_law_keeping.body (defBody (top 61)) = true := by decide +kernel
theorem k_law_wheeled : ckSs (ckOf IR.N_law_wheeled 62) IR.f_law_wheeled.body (defBody (top 62)) = true := by decide +kernel
theorem k_law_start : ckSs (ckOf IR.N_law_start 63) IR.f_law_start.body (defBody (top 63)) = true := by decide +kernel
theorem k_law_ties : ckSs (ckOf IR.N_law_ties 64) IR.f_law_ties.body (defBody (top 64)) = true := by decide +kernel
theorem k_law_right : ckSs (ckOf L04.N_law_right 65) L04.f_law_right.body (defBody (top 65)) = true := by decide +kernel
theorem k_law : ckSs (ckOf L04.N_law 66) L04.f_law.body (defBody (top 66)) = true := by decide +kernel
end CK04
end

section
set_option Elab.async false
set_option linter.all false
set_option autoImplicit false
set_option maxRecDepth 100000
set_option maxHeartbeats 0
namespace CK04
open PySem PySem.Spec PyProof.Rows L2 MP MPS IR L04
def fn0 : List He.DefD := [⟨("is_number", none), "is_number", "is_number", defArgs (top 5), defBody (top 5), defScope (top 5), [], []⟩, ⟨("is_long", none), "is_long", "is_long", defArgs (top 6), defBody (top 6), defScope (top 6), [], []⟩, ⟨("are_numbers", none), "are_numbers", "are_numbers", defArgs (top 7), defBody (top 7), defScope (top 7), [], []⟩, ⟨("tupled", none), "tupled", "tupled", defArgs (top 8), defBody (top 8), defScope (top 8), [], []⟩, ⟨("common", none), "common", "common", defArgs (top 9), defBody (top 9), defScope (top 9), [], []⟩, ⟨("lowest", none), "lowest", "lowest", defArgs (top 12), defBody (top 12), defScope (top 12), [], []⟩, ⟨("less", none), "less", "less", defArgs (top 13), defBody (top 13), defScope (top 13), [], []⟩, ⟨("is_under", none), "is_under", "is_under", defArgs (top 14), defBody (top 14), defScope (top 14), [], []⟩, ⟨("is_whole_in", none), "is_whole_in", "is_whole_in", defArgs (top 15), defBody (top 15), defScope (top 15), [], []⟩, ⟨("is_fraction_in", none), "is_fraction_in", "is_fraction_in", defArgs (top 16), defBody (top 16), defScope (top 16), [], []⟩, ⟨("is_near_fraction", none), "is_near_fraction", "is_near_fraction", defArgs (top 17), defBody (top 17), defScope (top 17), [], []⟩, ⟨("sure_fraction", none), "sure_fraction", "sure_fraction", defArgs (top 18), defBody (top 18), defScope (top 18), [], []⟩, ⟨("is_rectangle_in", none), "is_rectangle_in", "is_rectangle_in", defArgs (top 21), defBody (top 21), defScope (top 21), [], []⟩, ⟨("is_near_rectangle", none), "is_near_rectangle", "is_near_rectangle", defArgs (top 22), defBody (top 22), defScope (top 22), [], []⟩, ⟨("are_near_parts", none), "are_near_parts", "are_near_parts", defArgs (top 23), defBody (top 23), defScope (top 23), [], []⟩, ⟨("sure_parts", none), "sure_parts", "sure_parts", defArgs (top 24), defBody (top 24), defScope (top 24), [], []⟩, ⟨("sides_of", none), "sides_of", "sides_of", defArgs (top 25), defBody (top 25), defScope (top 25), [], []⟩, ⟨("sides_in", none), "sides_in", "sides_in", defArgs (top 27), defBody (top 27), defScope (top 27), [], []⟩, ⟨("has_whole_in", none), "has_whole_in", "has_whole_in", defArgs (top 28), defBody (top 28), defScope (top 28), [], []⟩, ⟨("first_without_in", none), "first_without_in", "first_without_in", defArgs (top 29), defBody (top 29), defScope (top 29), [], []⟩]
def fn1 : List He.DefD := [⟨("ties_in", none), "ties_in", "ties_in", defArgs (top 30), defBody (top 30), defScope (top 30), [], []⟩, ⟨("all_ties", none), "all_ties", "all_ties", defArgs (top 31), defBody (top 31), defScope (top 31), [], []⟩, ⟨("other_end", none), "other_end", "other_end", defArgs (top 32), defBody (top 32), defScope (top 32), [], []⟩, ⟨("sure_point", none), "sure_point", "sure_point", defArgs (top 33), defBody (top 33), defScope (top 33), [], []⟩, ⟨("first_without", none), "first_without", "first_without", defArgs (top 34), defBody (top 34), defScope (top 34), [], []⟩, ⟨("ties", none), "ties", "ties", defArgs (top 35), defBody (top 35), defScope (top 35), [], []⟩, ⟨("ties_at", none), "ties_at", "ties_at", defArgs (top 36), defBody (top 36), defScope (top 36), [], []⟩, ⟨("_law_box", none), "_law_box", "_law_box", defArgs (top 38), defBody (top 38), defScope (top 38), [], []⟩, ⟨("_law_take", none), "_law_take", "_law_take", defArgs (top 39), defBody (top 39), defScope (top 39), [], []⟩, ⟨("_law_cells", none), "_law_cells", "_law_cells", defArgs (top 40), defBody (top 40), defScope (top 40), [], []⟩, ⟨("_law_of", none), "_law_of", "_law_of", defArgs (top 41), defBody (top 41), defScope (top 41), [], []⟩, ⟨("_law_pick", none), "_law_pick", "_law_pick", defArgs (top 42), defBody (top 42), defScope (top 42), [], []⟩, ⟨("_law_mixed", none), "_law_mixed", "_law_mixed", defArgs (top 43), defBody (top 43), defScope (top 43), [], []⟩, ⟨("_law_same", none), "_law_same", "_law_same", defArgs (top 44), defBody (top 44), defScope (top 44), [], []⟩, ⟨("_law_unmarked", none), "_law_unmarked", "_law_unmarked", defArgs (top 45), defBody (top 45), defScope (top 45), [], []⟩, ⟨("_law_call", none), "_law_call", "_law_call", defArgs (top 46), defBody (top 46), defScope (top 46), [], []⟩, ⟨("_law_slip", none), "_law_slip", "_law_slip", defArgs (top 47), defBody (top 47), defScope (top 47), [], []⟩, ⟨("_law_gcd", none), "_law_gcd", "_law_gcd", defArgs (top 48), defBody (top 48), defScope (top 48), [], []⟩, ⟨("_law_heard", none), "_law_heard", "_law_heard", defArgs (top 49), defBody (top 49), defScope (top 49), [], []⟩, ⟨("_law_cut", none), "_law_cut", "_law_cut", defArgs (top 50), defBody (top 50), defScope (top 50), [], []⟩]
def fn2 : List He.DefD := [⟨("_law_plus", none), "_law_plus", "_law_plus", defArgs (top 51), defBody (top 51), defScope (top 51), [], []⟩, ⟨("_law_less", none), "_law_less", "_law_less", defArgs (top 52), defBody (top 52), defScope (top 52), [], []⟩, ⟨("_law_by", none), "_law_by", "_law_by", defArgs (top 53), defBody (top 53), defScope (top 53), [], []⟩, ⟨("_law_under", none), "_law_under", "_law_under", defArgs (top 54), defBody (top 54), defScope (top 54), [], []⟩, ⟨("_law_between", none), "_law_between", "_law_between", defArgs (top 55), defBody (top 55), defScope (top 55), [], []⟩, ⟨("_law_sides", none), "_law_sides", "_law_sides", defArgs (top 56), defBody (top 56), defScope (top 56), [], []⟩, ⟨("_law_wholes", none), "_law_wholes", "_law_wholes", defArgs (top 57), defBody (top 57), defScope (top 57), [], []⟩, ⟨("_law_split", none), "_law_split", "_law_split", defArgs (top 58), defBody (top 58), defScope (top 58), [], []⟩, ⟨("_law_wheel", none), "_law_wheel", "_law_wheel", defArgs (top 59), defBody (top 59), defScope (top 59), [], []⟩, ⟨("_law_step_on", none), "_law_step_on", "_law_step_on", defArgs (top 60), defBody (top 60), defScope (top 60), [], []⟩, ⟨("_law_keeping", none), "_law_keeping", "_law_keeping", defArgs (top 61), defBody (top 61), defScope (top 61), [], []⟩, ⟨("_law_wheeled", none), "_law_wheeled", "_law_wheeled", defArgs (top 62), defBody (top 62), defScope (top 62), [], []⟩, ⟨("_law_start", none), "_law_start", "_law_start", defArgs (top 63), defBody (top 63), defScope (top 63), [], []⟩, ⟨("_law_ties", none), "_law_ties", "_law_ties", defArgs (top 64), defBody (top 64), defScope (top 64), [], []⟩, ⟨("_law_right", none), "_law_right", "_law_right", defArgs (top 65), defBody (top 65), defScope (top 65), [], []⟩, ⟨("law", none), "law", "law", defArgs (top 66), defBody (top 66), defScope (top 66), [], []⟩]
def fn : List He.DefD := fn0 ++ fn1 ++ fn2
def fa0 : List He.Fa := [.glo "is_number", .glo "is_long", .glo "are_numbers", .glo "tupled", .glo "common", .glo "lowest", .glo "less", .glo "is_under", .glo "is_whole_in", .glo "is_fraction_in", .glo "is_near_fraction", .glo "sure_fraction", .glo "is_rectangle_in", .glo "is_near_rectangle", .glo "are_near_parts", .glo "sure_parts", .glo "sides_of", .glo "sides_in", .glo "has_whole_in", .glo "first_without_in"]
def fa1 : List He.Fa := [.glo "ties_in", .glo "all_ties", .glo "other_end", .glo "sure_point", .glo "first_without", .glo "ties", .glo "ties_at", .glo "_law_box", .glo "_law_take", .glo "_law_cells", .glo "_law_of", .glo "_law_pick", .glo "_law_mixed", .glo "_law_same", .glo "_law_unmarked", .glo "_law_call", .glo "_law_slip", .glo "_law_gcd", .glo "_law_heard", .glo "_law_cut"]
def fa2 : List He.Fa := [.glo "_law_plus", .glo "_law_less", .glo "_law_by", .glo "_law_under", .glo "_law_between", .glo "_law_sides", .glo "_law_wholes", .glo "_law_split", .glo "_law_wheel", .glo "_law_step_on", .glo "_law_keeping", .glo "_law_wheeled", .glo "_law_start", .glo "_law_ties", .glo "_law_right", .glo "law", .free "range", .free "zip", .free "enumerate", .free "len"]
def fa3 : List He.Fa := [.free "abs", .free "int", .free "min", .free "max", .free "sum", .free "all", .free "any", .free "tuple", .free "list", .free "str", .free "isinstance", .free "bool", .free "ValueError", .glo "CanNot", .exc "CanNot", .glo "TooMany", .exc "TooMany", .glo "Unfit", .exc "Unfit", .int "MOST_PART" 1000000000000]
def fa4 : List He.Fa := [.int "MOST_RECTANGLES" 60]
def fa : List He.Fa := fa0 ++ fa1 ++ fa2 ++ fa3 ++ fa4
def xs : List Nat := [1, 2, 0]
def tus : List (Str × List Int) := []
def ls0 : List Str := ["CanNot", "TooMany", "Unfit", "is_number", "is_long", "are_numbers", "tupled", "common", "MOST_PART", "lowest", "less", "is_under", "is_whole_in", "is_fraction_in", "is_near_fraction", "sure_fraction", "MOST_RECTANGLES", "is_rectangle_in", "is_near_rectangle", "are_near_parts"]
def ls1 : List Str := ["sure_parts", "sides_of", "sides_in", "has_whole_in", "first_without_in", "ties_in", "all_ties", "other_end", "sure_point", "first_without", "ties", "ties_at", "_law_box", "_law_take", "_law_cells", "_law_of", "_law_pick", "_law_mixed", "_law_same", "_law_unmarked"]
def ls2 : List Str := ["_law_call", "_law_slip", "_law_gcd", "_law_heard", "_law_cut", "_law_plus", "_law_less", "_law_by", "_law_under", "_law_between", "_law_sides", "_law_wholes", "_law_split", "_law_wheel", "_law_step_on", "_law_keeping", "_law_wheeled", "_law_start", "_law_ties", "_law_right"]
def ls : List Str := ls0 ++ ls1 ++ ls2
abbrev R : PySem.W.OpenRow := PySem.W.OpenLaw.row PySem.Challenge.rw_onesidewhole_k04_main_ends_of_ties_count
abbrev hk : PySem.W.Hook := MPS.hookY 2 fa fn (MPS.moreB xs tus)
def ob (s : PySem.W.SharedT) : MPS.AlY := MPS.obsY 2 fa fn (MPS.moreB xs tus) (HandSHeadRun.getT s)
theorem ob_eq (s : PySem.W.SharedT) : ob s = hk.obs s.abs := MPS.obsY_eq (HandSHeadRun.getT_eq s)
theorem run (w : World) : HandSHeadRun.RunEq R (PySem.W.view R.prog [66]) hk ob 4000 ls w := by
  intro os
  kernel_rfl
end CK04
end

section
set_option Elab.async false
set_option linter.all false
set_option autoImplicit false
set_option maxRecDepth 100000
set_option maxHeartbeats 0
namespace CK04
open PySem PySem.Spec PyProof.Rows L2 MP MPS IR L04
section
variable {K : Frg} {h : Heap} {mg : Str → Option Value}
theorem d_is_number (X : K.In h) (G : h.Ns mainGlobals mg) (c : He.SaysD fa fn K) : DefOk L04.P K mg ar exs co 4 1 := by
  obtain ⟨fd, F⟩ := c.def_ 0 (d := ⟨("is_number", none), "is_number", "is_number", defArgs (top 5), defBody (top 5), defScope (top 5), [], []⟩) rfl
  exact ⟨⟨IR.f_is_number, IR.N_is_number.map Str.ofString, _, _, _, _, fd, rfl, rfl, F, FunD.bindsN F (fun _ _ _ _ _ _ us hl => match us, hl with | [_], _ => rfl), ⟨rfl, rfl, rfl, by decide +kernel, rfl, by decide +kernel, by decide +kernel⟩, rfl, by decide, k_is_number⟩, He.glo_ok X G (c.fact 0 (f := .glo "is_number") rfl)⟩
theorem d_is_long (X : K.In h) (G : h.Ns mainGlobals mg) (c : He.SaysD fa fn K) : DefOk L04.P K mg ar exs co 8 2 := by
  obtain ⟨fd, F⟩ := c.def_ 1 (d := ⟨("is_long", none), "is_long", "is_long", defArgs (top 6), defBody (top 6), defScope (top 6), [], []⟩) rfl
  exact ⟨⟨IR.f_is_long, IR.N_is_long.map Str.ofString, _, _, _, _, fd, rfl, rfl, F, FunD.bindsN F (fun _ _ _ _ _ _ us hl => match us, hl with | [_, _], _ => rfl), ⟨rfl, rfl, rfl, by decide +kernel, rfl, by decide +kernel, by decide +kernel⟩, rfl, by decide, k_is_long⟩, He.glo_ok X G (c.fact 1 (f := .glo "is_long") rfl)⟩
theorem d_are_numbers (X : K.In h) (G : h.Ns mainGlobals mg) (c : He.SaysD fa fn K) : DefOk L04.P K mg ar exs co 3 1 := by
  obtain ⟨fd, F⟩ := c.def_ 2 (d := ⟨("are_numbers", none), "are_numbers", "are_numbers", defArgs (top 7), defBody (top 7), defScope (top 7), [], []⟩) rfl
  exact ⟨⟨IR.f_are_numbers, IR.N_are_numbers.map Str.ofString, _, _, _, _, fd, rfl, rfl, F, FunD.bindsN F (fun _ _ _ _ _ _ us hl => match us, hl with | [_], _ => rfl), ⟨rfl, rfl, rfl, by decide +kernel, rfl, by decide +kernel, by decide +kernel⟩, rfl, by decide, k_are_numbers⟩, He.glo_ok X G (c.fact 2 (f := .glo "are_numbers") rfl)⟩
theorem d_tupled (X : K.In h) (G : h.Ns mainGlobals mg) (c : He.SaysD fa fn K) : DefOk L04.P K mg ar exs co 6 1 := by
  obtain ⟨fd, F⟩ := c.def_ 3 (d := ⟨("tupled", none), "tupled", "tupled", defArgs (top 8), defBody (top 8), defScope (top 8), [], []⟩) rfl
  exact ⟨⟨IR.f_tupled, IR.N_tupled.map Str.ofString, _, _, _, _, fd, rfl, rfl, F, FunD.bindsN F (fun _ _ _ _ _ _ us hl => match us, hl with | [_], _ => rfl), ⟨rfl, rfl, rfl, by decide +kernel, rfl, by decide +kernel, by decide +kernel⟩, rfl, by decide, k_tupled⟩, He.glo_ok X G (c.fact 3 (f := .glo "tupled") rfl)⟩
theorem d_common (X : K.In h) (G : h.Ns mainGlobals mg) (c : He.SaysD fa fn K) : DefOk L04.P K mg ar exs co 14 2 := by
  obtain ⟨fd, F⟩ := c.def_ 4 (d := ⟨("common", none), "common", "common", defArgs (top 9), defBody (top 9), defScope (top 9), [], []⟩) rfl
  exact ⟨⟨IR.f_common, IR.N_common.map Str.ofString, _, _, _, _, fd, rfl, rfl, F, FunD.bindsN F (fun _ _ _ _ _ _ us hl => match us, hl with | [_, _], _ => rfl), ⟨rfl, rfl, rfl, by decide +kernel, rfl, by decide +kernel, by decide +kernel⟩, rfl, by decide, k_common⟩, He.glo_ok X G (c.fact 4 (f := .glo "common") rfl)⟩
theorem d_lowest (X : K.In h) (G : h.Ns mainGlobals mg) (c : He.SaysD fa fn K) : DefOk L04.P K mg ar exs co 23 2 := by
  obtain ⟨fd, F⟩ := c.def_ 5 (d := ⟨("lowest", none), "lowest", "lowest", defArgs (top 12), defBody (top 12), defScope (top 12), [], []⟩) rfl
  exact ⟨⟨IR.f_lowest, IR.N_lowest.map Str.ofString, _, _, _, _, fd, rfl, rfl, F, FunD.bindsN F (fun _ _ _ _ _ _ us hl => match us, hl with | [_, _], _ => rfl), ⟨rfl, rfl, rfl, by decide +kernel, rfl, by decide +kernel, by decide +kernel⟩, rfl, by decide, k_lowest⟩, He.glo_ok X G (c.fact 5 (f := .glo "lowest") rfl)⟩
theorem d_less (X : K.In h) (G : h.Ns mainGlobals mg) (c : He.SaysD fa fn K) : DefOk L04.P K mg ar exs co 22 2 := by
  obtain ⟨fd, F⟩ := c.def_ 6 (d := ⟨("less", none), "less", "less", defArgs (top 13), defBody (top 13), defScope (top 13), [], []⟩) rfl
  exact ⟨⟨IR.f_less, IR.N_less.map Str.ofString, _, _, _, _, fd, rfl, rfl, F, FunD.bindsN F (fun _ _ _ _ _ _ us hl => match us, hl with | [_, _], _ => rfl), ⟨rfl, rfl, rfl, by decide +kernel, rfl, by decide +kernel, by decide +kernel⟩, rfl, by decide, k_less⟩, He.glo_ok X G (c.fact 6 (f := .glo "less") rfl)⟩
theorem d_is_under (X : K.In h) (G : h.Ns mainGlobals mg) (c : He.SaysD fa fn K) : DefOk L04.P K mg ar exs co 19 2 := by
  obtain ⟨fd, F⟩ := c.def_ 7 (d := ⟨("is_under", none), "is_under", "is_under", defArgs (top 14), defBody (top 14), defScope (top 14), [], []⟩) rfl
  exact ⟨⟨IR.f_is_under, IR.N_is_under.map Str.ofString, _, _, _, _, fd, rfl, rfl, F, FunD.bindsN F (fun _ _ _ _ _ _ us hl => match us, hl with | [_, _], _ => rfl), ⟨rfl, rfl, rfl, by decide +kernel, rfl, by decide +kernel, by decide +kernel⟩, rfl, by decide, k_is_under⟩, He.glo_ok X G (c.fact 7 (f := .glo "is_under") rfl)⟩
theorem d_is_whole_in (X : K.In h) (G : h.Ns mainGlobals mg) (c : He.SaysD fa fn K) : DefOk L04.P K mg ar exs co 48 1 := by
  obtain ⟨fd, F⟩ := c.def_ 8 (d := ⟨("is_whole_in", none), "is_whole_in", "is_whole_in", defArgs (top 15), defBody (top 15), defScope (top 15), [], []⟩) rfl
  exact ⟨⟨IR.f_is_whole_in, IR.N_is_whole_in.map Str.ofString, _, _, _, _, fd, rfl, rfl, F, FunD.bindsN F (fun _ _ _ _ _ _ us hl => match us, hl with | [_], _ => rfl), ⟨rfl, rfl, rfl, by decide +kernel, rfl, by decide +kernel, by decide +kernel⟩, rfl, by decide, k_is_whole_in⟩, He.glo_ok X G (c.fact 8 (f := .glo "is_whole_in") rfl)⟩
theorem d_is_fraction_in (X : K.In h) (G : h.Ns mainGlobals mg) (c : He.SaysD fa fn K) : DefOk L04.P K mg ar exs co 15 1 := by
  obtain ⟨fd, F⟩ := c.def_ 9 (d := ⟨("is_fraction_in", none), "is_fraction_in", "is_fraction_in", defArgs (top 16), defBody (top 16), defScope (top 16), [], []⟩) rfl
  exact ⟨⟨IR.f_is_fraction_in, IR.N_is_fraction_in.map Str.ofString, _, _, _, _, fd, rfl, rfl, F, FunD.bindsN F (fun _ _ _ _ _ _ us hl => match us, hl with | [_], _ => rfl), ⟨rfl, rfl, rfl, by decide +kernel, rfl, by decide +kernel, by decide +kernel⟩, rfl, by decide, k_is_fraction_in⟩, He.glo_ok X G (c.fact 9 (f := .glo "is_fraction_in") rfl)⟩
theorem d_is_near_fraction (X : K.In h) (G : h.Ns mainGlobals mg) (c : He.SaysD fa fn K) : DefOk L04.P K mg ar exs co 16 1 := by
  obtain ⟨fd, F⟩ := c.def_ 10 (d := ⟨("is_near_fraction", none), "is_near_fraction", "is_near_fraction", defArgs (top 17), defBody (top 17), defScope (top 17), [], []⟩) rfl
  exact ⟨⟨IR.f_is_near_fraction, IR.N_is_near_fraction.map Str.ofString, _, _, _, _, fd, rfl, rfl, F, FunD.bindsN F (fun _ _ _ _ _ _ us hl => match us, hl with | [_], _ => rfl), ⟨rfl, rfl, rfl, by decide +kernel, rfl, by decide +kernel, by decide +kernel⟩, rfl, by decide, k_is_near_fraction⟩, He.glo_ok X G (c.fact 10 (f := .glo "is_near_fraction") rfl)⟩
theorem d_sure_fraction (X : K.In h) (G : h.Ns mainGlobals mg) (c : He.SaysD fa fn K) : DefOk L04.P K mg ar exs co 70 1 := by
  obtain ⟨fd, F⟩ := c.def_ 11 (d := ⟨("sure_fraction", none), "sure_fraction", "sure_fraction", defArgs (top 18), defBody (top 18), defScope (top 18), [], []⟩) rfl
  exact ⟨⟨IR.f_sure_fraction, IR.N_sure_fraction.map Str.ofString, _, _, _, _, fd, rfl, rfl, F, FunD.bindsN F (fun _ _ _ _ _ _ us hl => match us, hl with | [_], _ => rfl), ⟨rfl, rfl, rfl, by decide +kernel, rfl, by decide +kernel, by decide +kernel⟩, rfl, by decide, k_sure_fraction⟩, He.glo_ok X G (c.fact 11 (f := .glo "sure_fraction") rfl)⟩
theorem d_is_rectangle_in (X : K.In h) (G : h.Ns mainGlobals mg) (c : He.SaysD fa fn K) : DefOk L04.P K mg ar exs co 18 1 := by
  obtain ⟨fd, F⟩ := c.def_ 12 (d := ⟨("is_rectangle_in", none), "is_rectangle_in", "is_rectangle_in", defArgs (top 21), defBody (top 21), defScope (top 21), [], []⟩) rfl
  exact ⟨⟨IR.f_is_rectangle_in, IR.N_is_rectangle_in.map Str.ofString, _, _, _, _, fd, rfl, rfl, F, FunD.bindsN F (fun _ _ _ _ _ _ us hl => match us, hl with | [_], _ => rfl), ⟨rfl, rfl, rfl, by decide +kernel, rfl, by decide +kernel, by decide +kernel⟩, rfl, by decide, k_is_rectangle_in⟩, He.glo_ok X G (c.fact 12 (f := .glo "is_rectangle_in") rfl)⟩
theorem d_is_near_rectangle (X : K.In h) (G : h.Ns mainGlobals mg) (c : He.SaysD fa fn K) : DefOk L04.P K mg ar exs co 17 1 := by
  obtain ⟨fd, F⟩ := c.def_ 13 (d := ⟨("is_near_rectangle", none), "is_near_rectangle", "is_near_rectangle", defArgs (top 22), defBody (top 22), defScope (top 22), [], []⟩) rfl
  exact ⟨⟨IR.f_is_near_rectangle, IR.N_is_near_rectangle.map Str.ofString, _, _, _, _, fd, rfl, rfl, F, FunD.bindsN F (fun _ _ _ _ _ _ us hl => match us, hl with | [_], _ => rfl), ⟨rfl, rfl, rfl, by decide +kernel, rfl, by decide +kernel, by decide +kernel⟩, rfl, by decide, k_is_near_rectangle⟩, He.glo_ok X G (c.fact 13 (f := .glo "is_near_rectangle") rfl)⟩
theorem d_are_near_parts (X : K.In h) (G : h.Ns mainGlobals mg) (c : He.SaysD fa fn K) : DefOk L04.P K mg ar exs co 13 1 := by
  obtain ⟨fd, F⟩ := c.def_ 14 (d := ⟨("are_near_parts", none), "are_near_parts", "are_near_parts", defArgs (top 23), defBody (top 23), defScope (top 23), [], []⟩) rfl
  exact ⟨⟨IR.f_are_near_parts, IR.N_are_near_parts.map Str.ofString, _, _, _, _, fd, rfl, rfl, F, FunD.bindsN F (fun _ _ _ _ _ _ us hl => match us, hl with | [_], _ => rfl), ⟨rfl, rfl, rfl, by decide +kernel, rfl, by decide +kernel, by decide +kernel⟩, rfl, by decide, k_are_near_parts⟩, He.glo_ok X G (c.fact 14 (f := .glo "are_near_parts") rfl)⟩
theorem d_sure_parts (X : K.In h) (G : h.Ns mainGlobals mg) (c : He.SaysD fa fn K) : DefOk L04.P K mg ar exs co 55 1 := by
  obtain ⟨fd, F⟩ := c.def_ 15 (d := ⟨("sure_parts", none), "sure_parts", "sure_parts", defArgs (top 24), defBody (top 24), defScope (top 24), [], []⟩) rfl
  exact ⟨⟨IR.f_sure_parts, IR.N_sure_parts.map Str.ofString, _, _, _, _, fd, rfl, rfl, F, FunD.bindsN F (fun _ _ _ _ _ _ us hl => match us, hl with | [_], _ => rfl), ⟨rfl, rfl, rfl, by decide +kernel, rfl, by decide +kernel, by decide +kernel⟩, rfl, by decide, k_sure_parts⟩, He.glo_ok X G (c.fact 15 (f := .glo "sure_parts") rfl)⟩
theorem d_sides_of (X : K.In h) (G : h.Ns mainGlobals mg) (c : He.SaysD fa fn K) : DefOk L04.P K mg ar exs co 24 1 := by
  obtain ⟨fd, F⟩ := c.def_ 16 (d := ⟨("sides_of", none), "sides_of", "sides_of", defArgs (top 25), defBody (top 25), defScope (top 25), [], []⟩) rfl
  exact ⟨⟨IR.f_sides_of, IR.N_sides_of.map Str.ofString, _, _, _, _, fd, rfl, rfl, F, FunD.bindsN F (fun _ _ _ _ _ _ us hl => match us, hl with | [_], _ => rfl), ⟨rfl, rfl, rfl, by decide +kernel, rfl, by decide +kernel, by decide +kernel⟩, rfl, by decide, k_sides_of⟩, He.glo_ok X G (c.fact 16 (f := .glo "sides_of") rfl)⟩
theorem d_sides_in (X : K.In h) (G : h.Ns mainGlobals mg) (c : He.SaysD fa fn K) : DefOk L04.P K mg ar exs co 49 1 := by
  obtain ⟨fd, F⟩ := c.def_ 17 (d := ⟨("sides_in", none), "sides_in", "sides_in", defArgs (top 27), defBody (top 27), defScope (top 27), [], []⟩) rfl
  exact ⟨⟨IR.f_sides_in, IR.N_sides_in.map Str.ofString, _, _, _, _, fd, rfl, rfl, F, FunD.bindsN F (fun _ _ _ _ _ _ us hl => match us, hl with | [_], _ => rfl), ⟨rfl, rfl, rfl, by decide +kernel, rfl, by decide +kernel, by decide +kernel⟩, rfl, by decide, k_sides_in⟩, He.glo_ok X G (c.fact 17 (f := .glo "sides_in") rfl)⟩
theorem d_has_whole_in (X : K.In h) (G : h.Ns mainGlobals mg) (c : He.SaysD fa fn K) : DefOk L04.P K mg ar exs co 78 1 := by
  obtain ⟨fd, F⟩ := c.def_ 18 (d := ⟨("has_whole_in", none), "has_whole_in", "has_whole_in", defArgs (top 28), defBody (top 28), defScope (top 28), [], []⟩) rfl
  exact ⟨⟨IR.f_has_whole_in, IR.N_has_whole_in.map Str.ofString, _, _, _, _, fd, rfl, rfl, F, FunD.bindsN F (fun _ _ _ _ _ _ us hl => match us, hl with | [_], _ => rfl), ⟨rfl, rfl, rfl, by decide +kernel, rfl, by decide +kernel, by decide +kernel⟩, rfl, by decide, k_has_whole_in⟩, He.glo_ok X G (c.fact 18 (f := .glo "has_whole_in") rfl)⟩
theorem d_first_without_in (X : K.In h) (G : h.Ns mainGlobals mg) (c : He.SaysD fa fn K) : DefOk L04.P K mg ar exs co 96 1 := by
  obtain ⟨fd, F⟩ := c.def_ 19 (d := ⟨("first_without_in", none), "first_without_in", "first_without_in", defArgs (top 29), defBody (top 29), defScope (top 29), [], []⟩) rfl
  exact ⟨⟨IR.f_first_without_in, IR.N_first_without_in.map Str.ofString, _, _, _, _, fd, rfl, rfl, F, FunD.bindsN F (fun _ _ _ _ _ _ us hl => match us, hl with | [_], _ => rfl), ⟨rfl, rfl, rfl, by decide +kernel, rfl, by decide +kernel, by decide +kernel⟩, rfl, by decide, k_first_without_in⟩, He.glo_ok X G (c.fact 19 (f := .glo "first_without_in") rfl)⟩
theorem d_ties_in (X : K.In h) (G : h.Ns mainGlobals mg) (c : He.SaysD fa fn K) : DefOk L04.P K mg ar exs co 101 1 := by
  obtain ⟨fd, F⟩ := c.def_ 20 (d := ⟨("ties_in", none), "ties_in", "ties_in", defArgs (top 30), defBody (top 30), defScope (top 30), [], []⟩) rfl
  exact ⟨⟨IR.f_ties_in, IR.N_ties_in.map Str.ofString, _, _, _, _, fd, rfl, rfl, F, FunD.bindsN F (fun _ _ _ _ _ _ us hl => match us, hl with | [_], _ => rfl), ⟨rfl, rfl, rfl, by decide +kernel, rfl, by decide +kernel, by decide +kernel⟩, rfl, by decide, k_ties_in⟩, He.glo_ok X G (c.fact 20 (f := .glo "ties_in") rfl)⟩
theorem d_all_ties (X : K.In h) (G : h.Ns mainGlobals mg) (c : He.SaysD fa fn K) : DefOk L04.P K mg ar exs co 93 1 := by
  obtain ⟨fd, F⟩ := c.def_ 21 (d := ⟨("all_ties", none), "all_ties", "all_ties", defArgs (top 31), defBody (top 31), defScope (top 31), [], []⟩) rfl
  exact ⟨⟨IR.f_all_ties, IR.N_all_ties.map Str.ofString, _, _, _, _, fd, rfl, rfl, F, FunD.bindsN F (fun _ _ _ _ _ _ us hl => match us, hl with | [_], _ => rfl), ⟨rfl, rfl, rfl, by decide +kernel, rfl, by decide +kernel, by decide +kernel⟩, rfl, by decide, k_all_ties⟩, He.glo_ok X G (c.fact 21 (f := .glo "all_ties") rfl)⟩
theorem d_other_end (X : K.In h) (G : h.Ns mainGlobals mg) (c : He.SaysD fa fn K) : DefOk L04.P K mg ar exs co 97 2 := by
  obtain ⟨fd, F⟩ := c.def_ 22 (d := ⟨("other_end", none), "other_end", "other_end", defArgs (top 32), defBody (top 32), defScope (top 32), [], []⟩) rfl
  exact ⟨⟨IR.f_other_end, IR.N_other_end.map Str.ofString, _, _, _, _, fd, rfl, rfl, F, FunD.bindsN F (fun _ _ _ _ _ _ us hl => match us, hl with | [_, _], _ => rfl), ⟨rfl, rfl, rfl, by decide +kernel, rfl, by decide +kernel, by decide +kernel⟩, rfl, by decide, k_other_end⟩, He.glo_ok X G (c.fact 22 (f := .glo "other_end") rfl)⟩
theorem d_sure_point (X : K.In h) (G : h.Ns mainGlobals mg) (c : He.SaysD fa fn K) : DefOk L04.P K mg ar exs co 166 1 := by
  obtain ⟨fd, F⟩ := c.def_ 23 (d := ⟨("sure_point", none), "sure_point", "sure_point", defArgs (top 33), defBody (top 33), defScope (top 33), [], []⟩) rfl
  exact ⟨⟨IR.f_sure_point, IR.N_sure_point.map Str.ofString, _, _, _, _, fd, rfl, rfl, F, FunD.bindsN F (fun _ _ _ _ _ _ us hl => match us, hl with | [_], _ => rfl), ⟨rfl, rfl, rfl, by decide +kernel, rfl, by decide +kernel, by decide +kernel⟩, rfl, by decide, k_sure_point⟩, He.glo_ok X G (c.fact 23 (f := .glo "sure_point") rfl)⟩
theorem d_first_without (X : K.In h) (G : h.Ns mainGlobals mg) (c : He.SaysD fa fn K) : DefOk L04.P K mg ar exs co 193 1 := by
  obtain ⟨fd, F⟩ := c.def_ 24 (d := ⟨("first_without", none), "first_without", "first_without", defArgs (top 34), defBody (top 34), defScope (top 34), [], []⟩) rfl
  exact ⟨⟨IR.f_first_without, IR.N_first_without.map Str.ofString, _, _, _, _, fd, rfl, rfl, F, FunD.bindsN F (fun _ _ _ _ _ _ us hl => match us, hl with | [_], _ => rfl), ⟨rfl, rfl, rfl, by decide +kernel, rfl, by decide +kernel, by decide +kernel⟩, rfl, by decide, k_first_without⟩, He.glo_ok X G (c.fact 24 (f := .glo "first_without") rfl)⟩
theorem d_ties (X : K.In h) (G : h.Ns mainGlobals mg) (c : He.SaysD fa fn K) : DefOk L04.P K mg ar exs co 279 1 := by
  obtain ⟨fd, F⟩ := c.def_ 25 (d := ⟨("ties", none), "ties", "ties", defArgs (top 35), defBody (top 35), defScope (top 35), [], []⟩) rfl
  exact ⟨⟨IR.f_ties, IR.N_ties.map Str.ofString, _, _, _, _, fd, rfl, rfl, F, FunD.bindsN F (fun _ _ _ _ _ _ us hl => match us, hl with | [_], _ => rfl), ⟨rfl, rfl, rfl, by decide +kernel, rfl, by decide +kernel, by decide +kernel⟩, rfl, by decide, k_ties⟩, He.glo_ok X G (c.fact 25 (f := .glo "ties") rfl)⟩
theorem d_ties_at (X : K.In h) (G : h.Ns mainGlobals mg) (c : He.SaysD fa fn K) : DefOk L04.P K mg ar exs co 280 2 := by
  obtain ⟨fd, F⟩ := c.def_ 26 (d := ⟨("ties_at", none), "ties_at", "ties_at", defArgs (top 36), defBody (top 36), defScope (top 36), [], []⟩) rfl
  exact ⟨⟨IR.f_ties_at, IR.N_ties_at.map Str.ofString, _, _, _, _, fd, rfl, rfl, F, FunD.bindsN F (fun _ _ _ _ _ _ us hl => match us, hl with | [_, _], _ => rfl), ⟨rfl, rfl, rfl, by decide +kernel, rfl, by decide +kernel, by decide +kernel⟩, rfl, by decide, k_ties_at⟩, He.glo_ok X G (c.fact 26 (f := .glo "ties_at") rfl)⟩
theorem d_law_box (X : K.In h) (G : h.Ns mainGlobals mg) (c : He.SaysD fa fn K) : DefOk L04.P K mg ar exs co 0 2 := by
  obtain ⟨fd, F⟩ := c.def_ 27 (d := ⟨("_law_box", none), "_law_box", "_law_box", defArgs (top 38), defBody (top 38), defScope (top 38), [], []⟩) rfl
  exact ⟨⟨L04.f_law_box, L04.N_law_box.map Str.ofString, _, _, _, _, fd, rfl, rfl, F, FunD.bindsN F (fun _ _ _ _ _ _ us hl => match us, hl with | [_, _], _ => rfl), ⟨rfl, rfl, rfl, by decide +kernel, rfl, by decide +kernel, by decide +kernel⟩, rfl, by decide, k_law_box⟩, He.glo_ok X G (c.fact 27 (f := .glo "_law_box") rfl)⟩
theorem d_law_take (X : K.In h) (G : h.Ns mainGlobals mg) (c : He.SaysD fa fn K) : DefOk L04.P K mg ar exs co 2 2 := by
  obtain ⟨fd, F⟩ := c.def_ 28 (d := ⟨("_law_take", none), "_law_take", "_law_take", defArgs (top 39), defBody (top 39), defScope (top 39), [], []⟩) rfl
  exact ⟨⟨IR.f_law_take, IR.N_law_take.map Str.ofString, _, _, _, _, fd, rfl, rfl, F, FunD.bindsN F (fun _ _ _ _ _ _ us hl => match us, hl with | [_, _], _ => rfl), ⟨rfl, rfl, rfl, by decide +kernel, rfl, by decide +kernel, by decide +kernel⟩, rfl, by decide, k_law_take⟩, He.glo_ok X G (c.fact 28 (f := .glo "_law_take") rfl)⟩
theorem d_law_cells (X : K.In h) (G : h.Ns mainGlobals mg) (c : He.SaysD fa fn K) : DefOk L04.P K mg ar exs co 1 2 := by
  obtain ⟨fd, F⟩ := c.def_ 29 (d := ⟨("_law_cells", none), "_law_cells", "_law_cells", defArgs (top 40), defBody (top 40), defScope (top 40), [], []⟩) rfl
  exact ⟨⟨IR.f_law_cells, IR.N_law_cells.map Str.ofString, _, _, _, _, fd, rfl, rfl, F, FunD.bindsN F (fun _ _ _ _ _ _ us hl => match us, hl with | [_, _], _ => rfl), ⟨rfl, rfl, rfl, by decide +kernel, rfl, by decide +kernel, by decide +kernel⟩, rfl, by decide, k_law_cells⟩, He.glo_ok X G (c.fact 29 (f := .glo "_law_cells") rfl)⟩
theorem d_law_of (X : K.In h) (G : h.Ns mainGlobals mg) (c : He.SaysD fa fn K) : DefOk L04.P K mg ar exs co 10 2 := by
  obtain ⟨fd, F⟩ := c.def_ 30 (d := ⟨("_law_of", none), "_law_of", "_law_of", defArgs (top 41), defBody (top 41), defScope (top 41), [], []⟩) rfl
  exact ⟨⟨IR.f_law_of, IR.N_law_of.map Str.ofString, _, _, _, _, fd, rfl, rfl, F, FunD.bindsN F (fun _ _ _ _ _ _ us hl => match us, hl with | [_, _], _ => rfl), ⟨rfl, rfl, rfl, by decide +kernel, rfl, by decide +kernel, by decide +kernel⟩, rfl, by decide, k_law_of⟩, He.glo_ok X G (c.fact 30 (f := .glo "_law_of") rfl)⟩
theorem d_law_pick (X : K.In h) (G : h.Ns mainGlobals mg) (c : He.SaysD fa fn K) : DefOk L04.P K mg ar exs co 27 3 := by
  obtain ⟨fd, F⟩ := c.def_ 31 (d := ⟨("_law_pick", none), "_law_pick", "_law_pick", defArgs (top 42), defBody (top 42), defScope (top 42), [], []⟩) rfl
  exact ⟨⟨IR.f_law_pick, IR.N_law_pick.map Str.ofString, _, _, _, _, fd, rfl, rfl, F, FunD.bindsN F (fun _ _ _ _ _ _ us hl => match us, hl with | [_, _, _], _ => rfl), ⟨rfl, rfl, rfl, by decide +kernel, rfl, by decide +kernel, by decide +kernel⟩, rfl, by decide, k_law_pick⟩, He.glo_ok X G (c.fact 31 (f := .glo "_law_pick") rfl)⟩
theorem d_law_mixed (X : K.In h) (G : h.Ns mainGlobals mg) (c : He.SaysD fa fn K) : DefOk L04.P K mg ar exs co 26 2 := by
  obtain ⟨fd, F⟩ := c.def_ 32 (d := ⟨("_law_mixed", none), "_law_mixed", "_law_mixed", defArgs (top 43), defBody (top 43), defScope (top 43), [], []⟩) rfl
  exact ⟨⟨IR.f_law_mixed, IR.N_law_mixed.map Str.ofString, _, _, _, _, fd, rfl, rfl, F, FunD.bindsN F (fun _ _ _ _ _ _ us hl => match us, hl with | [_, _], _ => rfl), ⟨rfl, rfl, rfl, by decide +kernel, rfl, by decide +kernel, by decide +kernel⟩, rfl, by decide, k_law_mixed⟩, He.glo_ok X G (c.fact 32 (f := .glo "_law_mixed") rfl)⟩
theorem d_law_same (X : K.In h) (G : h.Ns mainGlobals mg) (c : He.SaysD fa fn K) : DefOk L04.P K mg ar exs co 7 2 := by
  obtain ⟨fd, F⟩ := c.def_ 33 (d := ⟨("_law_same", none), "_law_same", "_law_same", defArgs (top 44), defBody (top 44), defScope (top 44), [], []⟩) rfl
  exact ⟨⟨IR.f_law_same, IR.N_law_same.map Str.ofString, _, _, _, _, fd, rfl, rfl, F, FunD.bindsN F (fun _ _ _ _ _ _ us hl => match us, hl with | [_, _], _ => rfl), ⟨rfl, rfl, rfl, by decide +kernel, rfl, by decide +kernel, by decide +kernel⟩, rfl, by decide, k_law_same⟩, He.glo_ok X G (c.fact 33 (f := .glo "_law_same") rfl)⟩
theorem d_law_unmarked (X : K.In h) (G : h.Ns mainGlobals mg) (c : He.SaysD fa fn K) : DefOk L04.P K mg ar exs co 52 1 := by
  obtain ⟨fd, F⟩ := c.def_ 34 (d := ⟨("_law_unmarked", none), "_law_unmarked", "_law_unmarked", defArgs (top 45), defBody (top 45), defScope (top 45), [], []⟩) rfl
  exact ⟨⟨IR.f_law_unmarked, IR.N_law_unmarked.map Str.ofString, _, _, _, _, fd, rfl, rfl, F, FunD.bindsN F (fun _ _ _ _ _ _ us hl => match us, hl with | [_], _ => rfl), ⟨rfl, rfl, rfl, by decide +kernel, rfl, by decide +kernel, by decide +kernel⟩, rfl, by decide, k_law_unmarked⟩, He.glo_ok X G (c.fact 34 (f := .glo "_law_unmarked") rfl)⟩
theorem d_law_call (X : K.In h) (G : h.Ns mainGlobals mg) (c : He.SaysD fa fn K) : DefOk L04.P K mg ar exs co 11 2 := by
  obtain ⟨fd, F⟩ := c.def_ 35 (d := ⟨("_law_call", none), "_law_call", "_law_call", defArgs (top 46), defBody (top 46), defScope (top 46), [], []⟩) rfl
  exact ⟨⟨IR.f_law_call, IR.N_law_call.map Str.ofString, _, _, _, _, fd, rfl, rfl, F, FunD.bindsN F (fun _ _ _ _ _ _ us hl => match us, hl with | [_, _], _ => rfl), ⟨rfl, rfl, rfl, by decide +kernel, rfl, by decide +kernel, by decide +kernel⟩, rfl, by decide, k_law_call⟩, He.glo_ok X G (c.fact 35 (f := .glo "_law_call") rfl)⟩
theorem d_law_slip (X : K.In h) (G : h.Ns mainGlobals mg) (c : He.SaysD fa fn K) : DefOk L04.P K mg ar exs co 12 2 := by
  obtain ⟨fd, F⟩ := c.def_ 36 (d := ⟨("_law_slip", none), "_law_slip", "_law_slip", defArgs (top 47), defBody (top 47), defScope (top 47), [], []⟩) rfl
  exact ⟨⟨IR.f_law_slip, IR.N_law_slip.map Str.ofString, _, _, _, _, fd, rfl, rfl, F, FunD.bindsN F (fun _ _ _ _ _ _ us hl => match us, hl with | [_, _], _ => rfl), ⟨rfl, rfl, rfl, by decide +kernel, rfl, by decide +kernel, by decide +kernel⟩, rfl, by decide, k_law_slip⟩, He.glo_ok X G (c.fact 36 (f := .glo "_law_slip") rfl)⟩
theorem d_law_gcd (X : K.In h) (G : h.Ns mainGlobals mg) (c : He.SaysD fa fn K) : DefOk L04.P K mg ar exs co 35 2 := by
  obtain ⟨fd, F⟩ := c.def_ 37 (d := ⟨("_law_gcd", none), "_law_gcd", "_law_gcd", defArgs (top 48), defBody (top 48), defScope (top 48), [], []⟩) rfl
  exact ⟨⟨IR.f_law_gcd, IR.N_law_gcd.map Str.ofString, _, _, _, _, fd, rfl, rfl, F, FunD.bindsN F (fun _ _ _ _ _ _ us hl => match us, hl with | [_, _], _ => rfl), ⟨rfl, rfl, rfl, by decide +kernel, rfl, by decide +kernel, by decide +kernel⟩, rfl, by decide, k_law_gcd⟩, He.glo_ok X G (c.fact 37 (f := .glo "_law_gcd") rfl)⟩
theorem d_law_heard (X : K.In h) (G : h.Ns mainGlobals mg) (c : He.SaysD fa fn K) : DefOk L04.P K mg ar exs co 44 2 := by
  obtain ⟨fd, F⟩ := c.def_ 38 (d := ⟨("_law_heard", none), "_law_heard", "_law_heard", defArgs (top 49), defBody (top 49), defScope (top 49), [], []⟩) rfl
  exact ⟨⟨IR.f_law_heard, IR.N_law_heard.map Str.ofString, _, _, _, _, fd, rfl, rfl, F, FunD.bindsN F (fun _ _ _ _ _ _ us hl => match us, hl with | [_, _], _ => rfl), ⟨rfl, rfl, rfl, by decide +kernel, rfl, by decide +kernel, by decide +kernel⟩, rfl, by decide, k_law_heard⟩, He.glo_ok X G (c.fact 38 (f := .glo "_law_heard") rfl)⟩
theorem d_law_cut (X : K.In h) (G : h.Ns mainGlobals mg) (c : He.SaysD fa fn K) : DefOk L04.P K mg ar exs co 51 2 := by
  obtain ⟨fd, F⟩ := c.def_ 39 (d := ⟨("_law_cut", none), "_law_cut", "_law_cut", defArgs (top 50), defBody (top 50), defScope (top 50), [], []⟩) rfl
  exact ⟨⟨IR.f_law_cut, IR.N_law_cut.map Str.ofString, _, _, _, _, fd, rfl, rfl, F, FunD.bindsN F (fun _ _ _ _ _ _ us hl => match us, hl with | [_, _], _ => rfl), ⟨rfl, rfl, rfl, by decide +kernel, rfl, by decide +kernel, by decide +kernel⟩, rfl, by decide, k_law_cut⟩, He.glo_ok X G (c.fact 39 (f := .glo "_law_cut") rfl)⟩
theorem d_law_plus (X : K.In h) (G : h.Ns mainGlobals mg) (c : He.SaysD fa fn K) : DefOk L04.P K mg ar exs co 57 2 := by
  obtain ⟨fd, F⟩ := c.def_ 40 (d := ⟨("_law_plus", none), "_law_plus", "_law_plus", defArgs (top 51), defBody (top 51), defScope (top 51), [], []⟩) rfl
  exact ⟨⟨IR.f_law_plus, IR.N_law_plus.map Str.ofString, _, _, _, _, fd, rfl, rfl, F, FunD.bindsN F (fun _ _ _ _ _ _ us hl => match us, hl with | [_, _], _ => rfl), ⟨rfl, rfl, rfl, by decide +kernel, rfl, by decide +kernel, by decide +kernel⟩, rfl, by decide, k_law_plus⟩, He.glo_ok X G (c.fact 40 (f := .glo "_law_plus") rfl)⟩
theorem d_law_less (X : K.In h) (G : h.Ns mainGlobals mg) (c : He.SaysD fa fn K) : DefOk L04.P K mg ar exs co 62 2 := by
  obtain ⟨fd, F⟩ := c.def_ 41 (d := ⟨("_law_less", none), "_law_less", "_law_less", defArgs (top 52), defBody (top 52), defScope (top 52), [], []⟩) rfl
  exact ⟨⟨IR.f_law_less, IR.N_law_less.map Str.ofString, _, _, _, _, fd, rfl, rfl, F, FunD.bindsN F (fun _ _ _ _ _ _ us hl => match us, hl with | [_, _], _ => rfl), ⟨rfl, rfl, rfl, by decide +kernel, rfl, by decide +kernel, by decide +kernel⟩, rfl, by decide, k_law_less⟩, He.glo_ok X G (c.fact 41 (f := .glo "_law_less") rfl)⟩
theorem d_law_by (X : K.In h) (G : h.Ns mainGlobals mg) (c : He.SaysD fa fn K) : DefOk L04.P K mg ar exs co 61 2 := by
  obtain ⟨fd, F⟩ := c.def_ 42 (d := ⟨("_law_by", none), "_law_by", "_law_by", defArgs (top 53), defBody (top 53), defScope (top 53), [], []⟩) rfl
  exact ⟨⟨IR.f_law_by, IR.N_law_by.map Str.ofString, _, _, _, _, fd, rfl, rfl, F, FunD.bindsN F (fun _ _ _ _ _ _ us hl => match us, hl with | [_, _], _ => rfl), ⟨rfl, rfl, rfl, by decide +kernel, rfl, by decide +kernel, by decide +kernel⟩, rfl, by decide, k_law_by⟩, He.glo_ok X G (c.fact 42 (f := .glo "_law_by") rfl)⟩
theorem d_law_under (X : K.In h) (G : h.Ns mainGlobals mg) (c : He.SaysD fa fn K) : DefOk L04.P K mg ar exs co 72 2 := by
  obtain ⟨fd, F⟩ := c.def_ 43 (d := ⟨("_law_under", none), "_law_under", "_law_under", defArgs (top 54), defBody (top 54), defScope (top 54), [], []⟩) rfl
  exact ⟨⟨IR.f_law_under, IR.N_law_under.map Str.ofString, _, _, _, _, fd, rfl, rfl, F, FunD.bindsN F (fun _ _ _ _ _ _ us hl => match us, hl with | [_, _], _ => rfl), ⟨rfl, rfl, rfl, by decide +kernel, rfl, by decide +kernel, by decide +kernel⟩, rfl, by decide, k_law_under⟩, He.glo_ok X G (c.fact 43 (f := .glo "_law_under") rfl)⟩
theorem d_law_between (X : K.In h) (G : h.Ns mainGlobals mg) (c : He.SaysD fa fn K) : DefOk L04.P K mg ar exs co 88 3 := by
  obtain ⟨fd, F⟩ := c.def_ 44 (d := ⟨("_law_between", none), "_law_between", "_law_between", defArgs (top 55), defBody (top 55), defScope (top 55), [], []⟩) rfl
  exact ⟨⟨IR.f_law_between, IR.N_law_between.map Str.ofString, _, _, _, _, fd, rfl, rfl, F, FunD.bindsN F (fun _ _ _ _ _ _ us hl => match us, hl with | [_, _, _], _ => rfl), ⟨rfl, rfl, rfl, by decide +kernel, rfl, by decide +kernel, by decide +kernel⟩, rfl, by decide, k_law_between⟩, He.glo_ok X G (c.fact 44 (f := .glo "_law_between") rfl)⟩
theorem d_law_sides (X : K.In h) (G : h.Ns mainGlobals mg) (c : He.SaysD fa fn K) : DefOk L04.P K mg ar exs co 89 1 := by
  obtain ⟨fd, F⟩ := c.def_ 45 (d := ⟨("_law_sides", none), "_law_sides", "_law_sides", defArgs (top 56), defBody (top 56), defScope (top 56), [], []⟩) rfl
  exact ⟨⟨IR.f_law_sides, IR.N_law_sides.map Str.ofString, _, _, _, _, fd, rfl, rfl, F, FunD.bindsN F (fun _ _ _ _ _ _ us hl => match us, hl with | [_], _ => rfl), ⟨rfl, rfl, rfl, by decide +kernel, rfl, by decide +kernel, by decide +kernel⟩, rfl, by decide, k_law_sides⟩, He.glo_ok X G (c.fact 45 (f := .glo "_law_sides") rfl)⟩
theorem d_law_wholes (X : K.In h) (G : h.Ns mainGlobals mg) (c : He.SaysD fa fn K) : DefOk L04.P K mg ar exs co 111 1 := by
  obtain ⟨fd, F⟩ := c.def_ 46 (d := ⟨("_law_wholes", none), "_law_wholes", "_law_wholes", defArgs (top 57), defBody (top 57), defScope (top 57), [], []⟩) rfl
  exact ⟨⟨IR.f_law_wholes, IR.N_law_wholes.map Str.ofString, _, _, _, _, fd, rfl, rfl, F, FunD.bindsN F (fun _ _ _ _ _ _ us hl => match us, hl with | [_], _ => rfl), ⟨rfl, rfl, rfl, by decide +kernel, rfl, by decide +kernel, by decide +kernel⟩, rfl, by decide, k_law_wholes⟩, He.glo_ok X G (c.fact 46 (f := .glo "_law_wholes") rfl)⟩
theorem d_law_split (X : K.In h) (G : h.Ns mainGlobals mg) (c : He.SaysD fa fn K) : DefOk L04.P K mg ar exs co 90 3 := by
  obtain ⟨fd, F⟩ := c.def_ 47 (d := ⟨("_law_split", none), "_law_split", "_law_split", defArgs (top 58), defBody (top 58), defScope (top 58), [], []⟩) rfl
  exact ⟨⟨IR.f_law_split, IR.N_law_split.map Str.ofString, _, _, _, _, fd, rfl, rfl, F, FunD.bindsN F (fun _ _ _ _ _ _ us hl => match us, hl with | [_, _, _], _ => rfl), ⟨rfl, rfl, rfl, by decide +kernel, rfl, by decide +kernel, by decide +kernel⟩, rfl, by decide, k_law_split⟩, He.glo_ok X G (c.fact 47 (f := .glo "_law_split") rfl)⟩
theorem d_law_wheel (X : K.In h) (G : h.Ns mainGlobals mg) (c : He.SaysD fa fn K) : DefOk L04.P K mg ar exs co 104 5 := by
  obtain ⟨fd, F⟩ := c.def_ 48 (d := ⟨("_law_wheel", none), "_law_wheel", "_law_wheel", defArgs (top 59), defBody (top 59), defScope (top 59), [], []⟩) rfl
  exact ⟨⟨IR.f_law_wheel, IR.N_law_wheel.map Str.ofString, _, _, _, _, fd, rfl, rfl, F, FunD.bindsN F (fun _ _ _ _ _ _ us hl => match us, hl with | [_, _, _, _, _], _ => rfl), ⟨rfl, rfl, rfl, by decide +kernel, rfl, by decide +kernel, by decide +kernel⟩, rfl, by decide, k_law_wheel⟩, He.glo_ok X G (c.fact 48 (f := .glo "_law_wheel") rfl)⟩
theorem d_law_step_on (X : K.In h) (G : h.Ns mainGlobals mg) (c : He.SaysD fa fn K) : DefOk L04.P K mg ar exs co 133 3 := by
  obtain ⟨fd, F⟩ := c.def_ 49 (d := ⟨("_law_step_on", none), "_law_step_on", "_law_step_on", defArgs (top 60), defBody (top 60), defScope (top 60), [], []⟩) rfl
  exact ⟨⟨IR.f_law_step_on, IR.N_law_step_on.map Str.ofString, _, _, _, _, fd, rfl, rfl, F, FunD.bindsN F (fun _ _ _ _ _ _ us hl => match us, hl with | [_, _, _], _ => rfl), ⟨rfl, rfl, rfl, by decide +kernel, rfl, by decide +kernel, by decide +kernel⟩, rfl, by decide, k_law_step_on⟩, He.glo_ok X G (c.fact 49 (f := .glo "_law_step_on") rfl)⟩
theorem d_law_keeping (X : K.In h) (G : h.Ns mainGlobals mg) (c : He.SaysD fa fn K) : DefOk L04.P K mg ar exs co 180 3 := by
  obtain ⟨fd, F⟩ := c.def_ 50 (d := ⟨("_law_keeping", none), "_law_keeping", "_law_keeping", defArgs (top 61), defBody (top 61), defScope (top 61), [], []⟩) rfl
  exact ⟨⟨IR.f_law_keeping, IR.N_law_keeping.map Str.ofString, _, _, _, _, fd, rfl, rfl, F, FunD.bindsN F (fun _ _ _ _ _ _ us hl => match us, hl with | [_, _, _], _ => rfl), ⟨rfl, rfl, rfl, by decide +kernel, rfl, by decide +kernel, by decide +kernel⟩, rfl, by decide, k_law_keeping⟩, He.glo_ok X G (c.fact 50 (f := .glo "_law_keeping") rfl)⟩
theorem d_law_wheeled (X : K.In h) (G : h.Ns mainGlobals mg) (c : He.SaysD fa fn K) : DefOk L04.P K mg ar exs co 235 1 := by
  obtain ⟨fd, F⟩ := c.def_ 51 (d := ⟨("_law_wheeled", none), "_law_wheeled", "_law_wheeled", defArgs (top 62), defBody (top 62), defScope (top 62), [], []⟩) rfl
  exact ⟨⟨IR.f_law_wheeled, IR.N_law_wheeled.map Str.ofString, _, _, _, _, fd, rfl, rfl, F, FunD.bindsN F (fun _ _ _ _ _ _ us hl => match us, hl with | [_], _ => rfl), ⟨rfl, rfl, rfl, by decide +kernel, rfl, by decide +kernel, by decide +kernel⟩, rfl, by decide, k_law_wheeled⟩, He.glo_ok X G (c.fact 51 (f := .glo "_law_wheeled") rfl)⟩
theorem d_law_start (X : K.In h) (G : h.Ns mainGlobals mg) (c : He.SaysD fa fn K) : DefOk L04.P K mg ar exs co 91 2 := by
  obtain ⟨fd, F⟩ := c.def_ 52 (d := ⟨("_law_start", none), "_law_start", "_law_start", defArgs (top 63), defBody (top 63), defScope (top 63), [], []⟩) rfl
  exact ⟨⟨IR.f_law_start, IR.N_law_start.map Str.ofString, _, _, _, _, fd, rfl, rfl, F, FunD.bindsN F (fun _ _ _ _ _ _ us hl => match us, hl with | [_, _], _ => rfl), ⟨rfl, rfl, rfl, by decide +kernel, rfl, by decide +kernel, by decide +kernel⟩, rfl, by decide, k_law_start⟩, He.glo_ok X G (c.fact 52 (f := .glo "_law_start") rfl)⟩
theorem d_law_ties (X : K.In h) (G : h.Ns mainGlobals mg) (c : He.SaysD fa fn K) : DefOk L04.P K mg ar exs co 233 1 := by
  obtain ⟨fd, F⟩ := c.def_ 53 (d := ⟨("_law_ties", none), "_law_ties", "_law_ties", defArgs (top 64), defBody (top 64), defScope (top 64), [], []⟩) rfl
  exact ⟨⟨IR.f_law_ties, IR.N_law_ties.map Str.ofString, _, _, _, _, fd, rfl, rfl, F, FunD.bindsN F (fun _ _ _ _ _ _ us hl => match us, hl with | [_], _ => rfl), ⟨rfl, rfl, rfl, by decide +kernel, rfl, by decide +kernel, by decide +kernel⟩, rfl, by decide, k_law_ties⟩, He.glo_ok X G (c.fact 53 (f := .glo "_law_ties") rfl)⟩
theorem d_law_right (X : K.In h) (G : h.Ns mainGlobals mg) (c : He.SaysD fa fn K) : DefOk L04.P K mg ar exs co 20 1 := by
  obtain ⟨fd, F⟩ := c.def_ 54 (d := ⟨("_law_right", none), "_law_right", "_law_right", defArgs (top 65), defBody (top 65), defScope (top 65), [], []⟩) rfl
  exact ⟨⟨L04.f_law_right, L04.N_law_right.map Str.ofString, _, _, _, _, fd, rfl, rfl, F, FunD.bindsN F (fun _ _ _ _ _ _ us hl => match us, hl with | [_], _ => rfl), ⟨rfl, rfl, rfl, by decide +kernel, rfl, by decide +kernel, by decide +kernel⟩, rfl, by decide, k_law_right⟩, He.glo_ok X G (c.fact 54 (f := .glo "_law_right") rfl)⟩
theorem d_law (X : K.In h) (G : h.Ns mainGlobals mg) (c : He.SaysD fa fn K) : DefOk L04.P K mg ar exs co 5 1 := by
  obtain ⟨fd, F⟩ := c.def_ 55 (d := ⟨("law", none), "law", "law", defArgs (top 66), defBody (top 66), defScope (top 66), [], []⟩) rfl
  exact ⟨⟨L04.f_law, L04.N_law.map Str.ofString, _, _, _, _, fd, rfl, rfl, F, FunD.bindsN F (fun _ _ _ _ _ _ us hl => match us, hl with | [_], _ => rfl), ⟨rfl, rfl, rfl, by decide +kernel, rfl, by decide +kernel, by decide +kernel⟩, rfl, by decide, k_law⟩, He.glo_ok X G (c.fact 55 (f := .glo "law") rfl)⟩
theorem prg (X : K.In h) (G : h.Ns mainGlobals mg) (c : He.SaysD fa fn K) (cz : moreB xs tus K = true) : PrgOk L04.P K mg ar exs co where
  defs := fun f n e => by
    have key : ∀ p ∈ L04.tbl, DefOk L04.P K mg ar exs co p.1 p.2.ps := by
      unfold L04.tbl
      simp only [List.forall_mem_cons]
      exact ⟨d_is_number X G c, d_is_long X G c, d_are_numbers X G c, d_tupled X G c, d_common X G c, d_lowest X G c, d_less X G c, d_is_under X G c, d_is_whole_in X G c, d_is_fraction_in X G c, d_is_near_fraction X G c, d_sure_fraction X G c, d_is_rectangle_in X G c, d_is_near_rectangle X G c, d_are_near_parts X G c, d_sure_parts X G c, d_sides_of X G c, d_sides_in X G c, d_has_whole_in X G c, d_first_without_in X G c, d_ties_in X G c, d_all_ties X G c, d_other_end X G c, d_sure_point X G c, d_first_without X G c, d_ties X G c, d_ties_at X G c, d_law_box X G c, d_law_take X G c, d_law_cells X G c, d_law_of X G c, d_law_pick X G c, d_law_mixed X G c, d_law_same X G c, d_law_unmarked X G c, d_law_call X G c, d_law_slip X G c, d_law_gcd X G c, d_law_heard X G c, d_law_cut X G c, d_law_plus X G c, d_law_less X G c, d_law_by X G c, d_law_under X G c, d_law_between X G c, d_law_sides X G c, d_law_wholes X G c, d_law_split X G c, d_law_wheel X G c, d_law_step_on X G c, d_law_keeping X G c, d_law_wheeled X G c, d_law_start X G c, d_law_ties X G c, d_law_right X G c, d_law X G c, fun _ h => by cases h⟩
    unfold ar at e
    cases e1 : L04.tbl.lookup f with
    | none => rw [e1] at e; cases e
    | some F =>
      rw [e1] at e
      cases e
      exact key (f, F) (lookup_mem e1)
  exc := fun n e => by
    have key : ∀ n ∈ ([1, 2, 0] : List Nat), (∃ (bmB : List Value) (B newId initId : String), ExcBaseFacts B newId initId bmB ∧ PySem.W.excIn K (He.ga K (excName n)) bmB newId = true) ∧ mg (excName n) = some (.ref (He.ga K (excName n))) ∧ PySem.W.keepIn K (.ref (He.ga K (excName n))) = true ∧ PySem.W.subIn K (.ref (He.ga K (excName n))) (.type "BaseException") = some true ∧ PySem.W.typeIn K (.ref (He.ga K (excName n))) = some (.type "type") := by
      simp only [List.forall_mem_cons]
      exact ⟨exc_one (He.glo_ok X G (c.fact 73 (f := .glo "CanNot") rfl)) (He.exc_ok (c.fact 74 (f := .exc "CanNot") rfl)), exc_one (He.glo_ok X G (c.fact 75 (f := .glo "TooMany") rfl)) (He.exc_ok (c.fact 76 (f := .exc "TooMany") rfl)), exc_one (He.glo_ok X G (c.fact 77 (f := .glo "Unfit") rfl)) (He.exc_ok (c.fact 78 (f := .exc "Unfit") rfl)), fun _ h => by cases h⟩
    refine key n ?_
    unfold exs at e
    simpa using e
  xcs := (excsB_ok (moreB_ok cz).1).1
  exm := (excsB_ok (moreB_ok cz).1).2
  ars := fun f F e => by
    have e2 : L04.tbl.lookup f = some F := e
    unfold ar
    rw [e2]
    rfl
  con := fun n e => by
    have key : ∀ p ∈ L04.gls, ∃ (v : V) (u : Value), mg (coNm p.1) = some u ∧ RelV v u ∧ ∀ z, L04.P.gl p.1 = some z → ∀ w, Rep K w z v := by
      unfold L04.gls
      simp only [List.forall_mem_cons]
      exact ⟨con_int (He.int_ok X G (c.fact 79 (f := .int "MOST_PART" 1000000000000) rfl)) rfl, con_int (He.int_ok X G (c.fact 80 (f := .int "MOST_RECTANGLES" 60) rfl)) rfl, fun _ h => by cases h⟩
    unfold co at e
    cases e1 : L04.gls.lookup n with
    | none => rw [e1] at e; cases e
    | some v => exact key (n, v) (lookup_mem e1)
  blt := fun x e => by
    have key : ∀ x ∈ bltN, mg x = none := by
      unfold bltN
      simp only [List.forall_mem_cons]
      exact ⟨He.free_ok X G (c.fact 56 (f := .free "range") rfl), He.free_ok X G (c.fact 57 (f := .free "zip") rfl), He.free_ok X G (c.fact 58 (f := .free "enumerate") rfl), He.free_ok X G (c.fact 59 (f := .free "len") rfl), He.free_ok X G (c.fact 60 (f := .free "abs") rfl), He.free_ok X G (c.fact 61 (f := .free "int") rfl), He.free_ok X G (c.fact 62 (f := .free "min") rfl), He.free_ok X G (c.fact 63 (f := .free "max") rfl), He.free_ok X G (c.fact 64 (f := .free "sum") rfl), He.free_ok X G (c.fact 65 (f := .free "all") rfl), He.free_ok X G (c.fact 66 (f := .free "any") rfl), He.free_ok X G (c.fact 67 (f := .free "tuple") rfl), He.free_ok X G (c.fact 68 (f := .free "list") rfl), He.free_ok X G (c.fact 69 (f := .free "str") rfl), He.free_ok X G (c.fact 70 (f := .free "isinstance") rfl), He.free_ok X G (c.fact 71 (f := .free "bool") rfl), He.free_ok X G (c.fact 72 (f := .free "ValueError") rfl), fun _ h => by cases h⟩
    exact key x (by simpa using e)
end
/-- the statement, from the terms' run -/
theorem holds_of (hrun : ∀ ns : List Int, ns.length ≤ 63 → ∃ T, MP.callF L04.P 200 5 [.st (ns.map MP.PV.int)] [] = .ok (.bl true) T) : PySem.Challenge.rw_onesidewhole_k04_main_ends_of_ties_count.Holds := by
  open PySem PySem.W PySem.Calls PyProof.Rows in
  (w_on; o_law
   refine HandSHeadRun.head_any (r := OpenLaw.row PySem.Challenge.rw_onesidewhole_k04_main_ends_of_ties_count) (q := view (OpenLaw.row PySem.Challenge.rw_onesidewhole_k04_main_ends_of_ties_count).prog [66]) (H := CK04.hk) (ob := CK04.ob) (M := 4000) (loose := CK04.ls) (d := HandSHeadRun.topDef (OpenLaw.row PySem.Challenge.rw_onesidewhole_k04_main_ends_of_ties_count).prog 66) (kwd := []) CK04.ob_eq
    (by kernel_rfl) (fun s => by kernel_rfl) CK04.run (by kernel_rfl) (by kernel_rfl) (by kernel_rfl) (by rfl) (by first | assumption | decide +kernel) (by decide +kernel) ⟨rfl, rfl, rfl, rfl, rfl, by decide +kernel⟩ ?hw ?hc
   case hw => w_witness2
   case hc =>
    refine L2.walk_ofE (l := PySem.Challenge.rw_onesidewhole_k04_main_ends_of_ties_count) (n := 63) (k := 200) (x := "script") (CX := L2.CX0) rfl (by decide) (by kernel_rfl) ⟨rfl, by decide, by decide⟩ ?F (fun _ _ _ _ z => z)
    intro w mg fa h Y G hmg0
    obtain ⟨K, KX, c, cx⟩ := Y
    have hmg : mg ("law" : PySem.Str) = some (.ref fa) := by
      have e : (HandSHeadRun.topDef (OpenLaw.row PySem.Challenge.rw_onesidewhole_k04_main_ends_of_ties_count).prog 66).name = ("law" : PySem.Str) := by kernel_rfl
      rw [← e]
      exact hmg0
    have PR := CK04.prg KX G c cx
    obtain ⟨fdL, FL⟩ := c.def_ 55 (d := ⟨("law", none), "law", "law", L2.defArgs (CK04.top 66), L2.defBody (CK04.top 66), L2.defScope (CK04.top 66), [], []⟩) rfl
    have hfa : He.ga K (MPS.fnNm 5) = fa := by
      have e1 : mg ("law" : PySem.Str) = some (.ref (He.ga K "law")) := He.glo_ok KX G (c.fact 55 (f := .glo "law") rfl)
      rw [hmg] at e1
      cases e1; rfl
    subst hfa
    refine ⟨K, fdL, fun vs H Q _ => MPS.spF K 1 (MP.callF L04.P 200 5) vs H Q fun _ _ _ => False, KX, fun s u => L2.FunD.bindsA (ps := ["script"]) FL (fun _ _ _ _ _ _ us hl => match us, hl with | [_], _ => rfl) s [u] rfl, fun H a ns hl _ hS => MPS.law_sp (n := 63) hrun H a ns hl hS, fun base _ _ => MPS.fn0 (MPS.fn_succ PR (f := 5) (n := 1) (d := 199) (fun f n e => MPS.fns_ok PR 199 f n e) (F := L04.f_law) (N := L04.N_law.map PySem.Str.ofString) rfl rfl FL ⟨rfl, rfl, rfl, by decide +kernel, rfl, by decide +kernel, by decide +kernel⟩ rfl (by decide) CK04.k_law)⟩)
end CK04
end

section
set_option linter.all false
set_option autoImplicit false
/-! the evaluator's equations, for simp -/
namespace PU
open MP
/-- one turn of a for -/
def turn (C : Ctx) (tg : Tg) (b : Ss) (x : PV) (ρ : Env) (T : Store) : SR := match bindTg tg ρ x with
      | some ρ' => execs C ρ' T b
      | none => .bad
/-- one turn of a comprehension -/
def cturn (C : Ctx) (k : Env → Store → Res (List PV)) (ρ : Env) (tg : Tg) (ifs : Es) (r : Cl) (x : PV) (T : Store) : Res (List PV) := match bindTg tg (wipe ρ tg.ns) x with
      | none => .bad
      | some ρ' => (evalF C ρ' T ifs).bind fun b T => if b then evalC C k ρ' T r else .ok [] T
/-- what follows a statement -/
def seqE (C : Ctx) (r : Ss) : SR → SR
  | .nx ρ T => execs C ρ T r
  | x => x
@[simp] theorem seqE_nx (C : Ctx) (r : Ss) (ρ : Env) (T : Store) : seqE C r (.nx ρ T) = execs C ρ T r := rfl
@[simp] theorem seqE_rt (C : Ctx) (r : Ss) (v : PV) (T : Store) : seqE C r (.rt v T) = .rt v T := rfl
@[simp] theorem seqE_ex (C : Ctx) (r : Ss) (x : Exn) (T : Store) : seqE C r (.ex x T) = .ex x T := rfl
@[simp] theorem seqE_bk (C : Ctx) (r : Ss) (ρ : Env) (T : Store) : seqE C r (.bk ρ T) = .bk ρ T := rfl
@[simp] theorem seqE_ct (C : Ctx) (r : Ss) (ρ : Env) (T : Store) : seqE C r (.ct ρ T) = .ct ρ T := rfl
@[simp] theorem seqE_bad (C : Ctx) (r : Ss) : seqE C r .bad = .bad := rfl
/-- two ways on -/
def iteE (C : Ctx) (ρ : Env) (a b : Ss) (x : Bool) (T : Store) : SR := if x then execs C ρ T a else execs C ρ T b
@[simp] theorem iteE_t (C : Ctx) (ρ : Env) (a b : Ss) (T : Store) : iteE C ρ a b true T = execs C ρ T a := rfl
@[simp] theorem iteE_f (C : Ctx) (ρ : Env) (a b : Ss) (T : Store) : iteE C ρ a b false T = execs C ρ T b := rfl
theorem iteE_d (C : Ctx) (ρ : Env) (a b : Ss) (x : Bool) (T : Store) : iteE C ρ a b x T = if x then execs C ρ T a else execs C ρ T b := rfl
/-- a while's test, its body -/
def tst (C : Ctx) (c : E) (ρ : Env) (T : Store) : Res Bool := testE C ρ T c
def bod (C : Ctx) (b : Ss) (ρ : Env) (T : Store) : SR := execs C ρ T b
theorem tst_eq (C : Ctx) (c : E) (ρ : Env) (T : Store) : tst C c ρ T = testE C ρ T c := rfl
theorem bod_eq (C : Ctx) (b : Ss) (ρ : Env) (T : Store) : bod C b ρ T = execs C ρ T b := rfl
/-- and, or, if behind a value's truth -/
def anK (C : Ctx) (ρ : Env) (es : Es) (x : PV) (T : Store) : Res PV := match truth x with
    | some true => evalAn C ρ T es
    | some false => .ok x T
    | none => .bad
def orK (C : Ctx) (ρ : Env) (es : Es) (x : PV) (T : Store) : Res PV := match truth x with
    | some false => evalOr C ρ T es
    | some true => .ok x T
    | none => .bad
def ifK (C : Ctx) (ρ : Env) (a b : E) (x : PV) (T : Store) : Res PV := match truth x with
    | some true => evalE C ρ T a
    | some false => evalE C ρ T b
    | none => .bad
def fK (C : Ctx) (ρ : Env) (es : Es) (x : PV) (T : Store) : Res Bool := match truth x with
    | some true => evalF C ρ T es
    | some false => .ok false T
    | none => .bad
@[simp] theorem anK_t (C : Ctx) (ρ : Env) (es : Es) (T : Store) : anK C ρ es (.bl true) T = evalAn C ρ T es := rfl
@[simp] theorem anK_f (C : Ctx) (ρ : Env) (es : Es) (T : Store) : anK C ρ es (.bl false) T = .ok (.bl false) T := rfl
@[simp] theorem orK_t (C : Ctx) (ρ : Env) (es : Es) (T : Store) : orK C ρ es (.bl true) T = .ok (.bl true) T := rfl
@[simp] theorem orK_f (C : Ctx) (ρ : Env) (es : Es) (T : Store) : orK C ρ es (.bl false) T = evalOr C ρ T es := rfl
@[simp] theorem ifK_t (C : Ctx) (ρ : Env) (a b : E) (T : Store) : ifK C ρ a b (.bl true) T = evalE C ρ T a := rfl
@[simp] theorem ifK_f (C : Ctx) (ρ : Env) (a b : E) (T : Store) : ifK C ρ a b (.bl false) T = evalE C ρ T b := rfl
@[simp] theorem fK_t (C : Ctx) (ρ : Env) (es : Es) (T : Store) : fK C ρ es (.bl true) T = evalF C ρ T es := rfl
@[simp] theorem fK_f (C : Ctx) (ρ : Env) (es : Es) (T : Store) : fK C ρ es (.bl false) T = .ok false T := rfl
theorem anK_d (C : Ctx) (ρ : Env) (es : Es) (x : PV) (T : Store) : anK C ρ es x T = (match truth x with
    | some true => evalAn C ρ T es
    | some false => .ok x T
    | none => .bad) := rfl
theorem orK_d (C : Ctx) (ρ : Env) (es : Es) (x : PV) (T : Store) : orK C ρ es x T = (match truth x with
    | some false => evalOr C ρ T es
    | some true => .ok x T
    | none => .bad) := rfl
theorem ifK_d (C : Ctx) (ρ : Env) (a b : E) (x : PV) (T : Store) : ifK C ρ a b x T = (match truth x with
    | some true => evalE C ρ T a
    | some false => evalE C ρ T b
    | none => .bad) := rfl
@[simp] theorem orK_l (C : Ctx) (ρ : Env) (es : Es) (xs : List PV) (T : Store) : orK C ρ es (.lst xs) T = if xs.isEmpty then evalOr C ρ T es else .ok (.lst xs) T := by
  cases xs <;> rfl
@[simp] theorem ifK_int (C : Ctx) (ρ : Env) (a b : E) (i : Int) (T : Store) : ifK C ρ a b (.int i) T = if i = 0 then evalE C ρ T b else evalE C ρ T a := by
  by_cases h : i = 0
  · subst h; rfl
  · have e : (i != 0) = true := by simp [h]
    rw [ifK_d, if_neg h]
    show (match some (i != 0) with
      | some true => evalE C ρ T a
      | some false => evalE C ρ T b
      | none => .bad) = _
    rw [e]
/-- a range to a -/
def rngM (x : PV) (T : Store) : Res (List PV) := match x with
    | .int i => if smallR i then .ok (rng 0 i) T else .bad
    | _ => .bad
def rng2M (x y : PV) (T : Store) : Res (List PV) := match x, y with
    | .int i, .int j => if smallR i && smallR j then .ok (rng i j) T else .bad
    | _, _ => .bad
@[simp] theorem rngM_ok {i : Int} {T : Store} (h : smallR i = true) : rngM (.int i) T = .ok (rng 0 i) T := if_pos h
@[simp] theorem rng2M_ok {i j : Int} {T : Store} (h : smallR i = true) (h2 : smallR j = true) : rng2M (.int i) (.int j) T = .ok (rng i j) T := if_pos (by rw [h, h2]; rfl)
section
variable (C : Ctx) (ρ : Env) (T : Store)
@[simp] theorem turn_eq (tg : Tg) (b : Ss) (x : PV) : turn C tg b x ρ T = (match bindTg tg ρ x with
      | some ρ' => execs C ρ' T b
      | none => .bad) := rfl
@[simp] theorem cturn_eq (k : Env → Store → Res (List PV)) (tg : Tg) (ifs : Es) (r : Cl) (x : PV) : cturn C k ρ tg ifs r x T = (match bindTg tg (wipe ρ tg.ns) x with
      | none => .bad
      | some ρ' => (evalF C ρ' T ifs).bind fun b T => if b then evalC C k ρ' T r else .ok [] T) := rfl
@[simp] theorem e_var (i : Nat) : evalE C ρ T (.var i) = .of T (getv ρ i) := rfl
@[simp] theorem e_pk (i : Nat) : evalE C ρ T (.pk i) = .of T (peek ρ i) := rfl
@[simp] theorem e_con (v : PV) : evalE C ρ T (.con v) = .ok v T := rfl
@[simp] theorem e_glo (x : Nat) : evalE C ρ T (.glo x) = .of T (C.gl x) := rfl
@[simp] theorem e_bin (o : BOp) (a b : E) : evalE C ρ T (.bin o a b) = (evalE C ρ T a).bind fun x T => (evalE C ρ T b).bind fun y T => .of T (binop o x y) := rfl
@[simp] theorem e_neg (a : E) : evalE C ρ T (.neg a) = (evalE C ρ T a).bind fun x T => match x with
    | .int i => .ok (.int (-i)) T
    | _ => .bad := rfl
@[simp] theorem e_nt (a : E) : evalE C ρ T (.nt a) = (evalE C ρ T a).bind fun x T => .of T ((truth x).map fun b => .bl (!b)) := rfl
@[simp] theorem e_cmp (o : COp) (a b : E) : evalE C ρ T (.cmp o a b) = (evalE C ρ T a).bind fun x T => (evalE C ρ T b).bind fun y T => .of T ((cmpop o x y).map .bl) := rfl
@[simp] theorem e_cmp2 (o p : COp) (a b c : E) : evalE C ρ T (.cmp2 o p a b c) = (evalE C ρ T a).bind fun x T => (evalE C ρ T b).bind fun y T => match cmpop o x y with
    | some true => (evalE C ρ T c).bind fun z T => .of T ((cmpop p y z).map .bl)
    | some false => .ok (.bl false) T
    | none => .bad := rfl
@[simp] theorem e_an (es : Es) : evalE C ρ T (.an es) = evalAn C ρ T es := rfl
@[simp] theorem e_or (es : Es) : evalE C ρ T (.or_ es) = evalOr C ρ T es := rfl
@[simp] theorem e_ife (c a b : E) : evalE C ρ T (.ife c a b) = (evalE C ρ T c).bind (ifK C ρ a b) := rfl
@[simp] theorem e_tup (es : Es) : evalE C ρ T (.tup es) = (evalA C ρ T es).bind fun xs T => .ok (.tup xs) T := rfl
@[simp] theorem e_lst (es : Es) : evalE C ρ T (.lst es) = (evalA C ρ T es).bind fun xs T => .ok (.lst xs) T := rfl
@[simp] theorem e_nce (es : Es) : evalE C ρ T (.nce es) = (evalA C ρ T es).bind fun xs T => .ok (.cel T.length) (T ++ [xs]) := rfl
@[simp] theorem e_idx (a i : E) : evalE C ρ T (.idx a i) = (evalE C ρ T a).bind fun x T => (evalE C ρ T i).bind fun y T => .of T (index T x y) := rfl
@[simp] theorem e_sl (a lo hi : E) : evalE C ρ T (.sl a lo hi) = (evalE C ρ T a).bind fun x T => ((evalE C ρ T lo).bind (partV (isN lo))).bind fun l T => ((evalE C ρ T hi).bind (partV (isN hi))).bind fun h T =>
      .of T (cutv l h x) := rfl
@[simp] theorem e_noe : evalE C ρ T .noe = .ok .non T := rfl
@[simp] theorem e_call (f : Nat) (es : Es) : evalE C ρ T (.call f es) = (evalA C ρ T es).bind fun xs T => C.cf f xs T := rfl
@[simp] theorem e_callv (i : Nat) (es : Es) : evalE C ρ T (.callv i es) = (match getv ρ i with
    | some (.fn f) => (match evalA C ρ T es with
      | .ok xs T => C.cf f xs T
      | _ => .bad)
    | _ => .bad) := rfl
@[simp] theorem e_cnt (i : Nat) (e : E) : evalE C ρ T (.cnt i e) = (match getv ρ i with
    | some (.lst ys) => (evalE C ρ T e).bind fun v T => .of T (cntv v ys)
    | _ => .bad) := rfl
@[simp] theorem e_fnv (f : Nat) : evalE C ρ T (.fnv f) = .ok (.fn f) T := rfl
@[simp] theorem e_bi (f : Bi) (es : Es) : evalE C ρ T (.bi f es) = (evalA C ρ T es).bind fun xs T => .of T (bi f xs) := rfl
@[simp] theorem e_isi (a : E) (ts : List Ty) : evalE C ρ T (.isi a ts) = (evalE C ρ T a).bind fun x T => .of T ((isTys ts x).map .bl) := rfl
@[simp] theorem e_comp (own : List Nat) (elt : E) (cl : Cl) : evalE C ρ T (.comp own elt cl) = compR (evalC C (fun ρ T => (evalE C ρ T elt).bind fun v T => .ok [v] T) (wipe ρ own) T cl) := rfl
@[simp] theorem e_frm (tu : Bool) (it : It) : evalE C ρ T (.frm tu it) = (evalI C ρ T it).bind fun xs T => if xs.length ≤ line then .ok (if tu then .tup xs else .lst xs) T else .bad := rfl
@[simp] theorem a_nil : evalA C ρ T .nil = .ok [] T := rfl
@[simp] theorem a_cons (e : E) (es : Es) : evalA C ρ T (.cons e es) = (evalE C ρ T e).bind fun x T => (evalA C ρ T es).bind fun xs T => .ok (x :: xs) T := rfl
@[simp] theorem an_one (e : E) : evalAn C ρ T (.cons e .nil) = evalE C ρ T e := rfl
@[simp] theorem an_cons (e e2 : E) (es : Es) : evalAn C ρ T (.cons e (.cons e2 es)) = (evalE C ρ T e).bind (anK C ρ (.cons e2 es)) := rfl
@[simp] theorem or_one (e : E) : evalOr C ρ T (.cons e .nil) = evalE C ρ T e := rfl
@[simp] theorem or_cons (e e2 : E) (es : Es) : evalOr C ρ T (.cons e (.cons e2 es)) = (evalE C ρ T e).bind (orK C ρ (.cons e2 es)) := rfl
@[simp] theorem f_nil : evalF C ρ T .nil = .ok true T := rfl
@[simp] theorem f_cons (e : E) (es : Es) : evalF C ρ T (.cons e es) = (evalE C ρ T e).bind (fK C ρ es) := rfl
@[simp] theorem c_nil (k : Env → Store → Res (List PV)) : evalC C k ρ T .nil = k ρ T := rfl
@[simp] theorem c_cons (k : Env → Store → Res (List PV)) (tg : Tg) (it : It) (ifs : Es) (r : Cl) : evalC C k ρ T (.cons tg it ifs r) = (evalI C ρ T it).bind fun xs T => loopC (cturn C k ρ tg ifs r) xs T := rfl
@[simp] theorem i_ex (e : E) : evalI C ρ T (.ex e) = (evalE C ρ T e).bind fun x T => .of T (rows x) := rfl
@[simp] theorem i_rng1 (a : E) : evalI C ρ T (.rng1 a) = (evalE C ρ T a).bind rngM := rfl
@[simp] theorem i_rng2 (a b : E) : evalI C ρ T (.rng2 a b) = (evalE C ρ T a).bind fun x T => (evalE C ρ T b).bind fun y T => rng2M x y T := rfl
@[simp] theorem i_zip (a b : E) : evalI C ρ T (.zip a b) = (evalE C ρ T a).bind fun x T => (evalE C ρ T b).bind fun y T => match x, y with
    | .lst xs, .lst ys => .ok (zip2 xs ys) T
    | .tup xs, .tup ys => .ok (zip2 xs ys) T
    | _, _ => .bad := rfl
@[simp] theorem i_enu (e : E) : evalI C ρ T (.enu e) = (evalE C ρ T e).bind fun x T => match seqOf x with
    | some xs => .ok (enum_ xs) T
    | none => .bad := rfl
@[simp] theorem b_nm (i : Nat) (v : PV) : bindTg (.nm i) ρ v = some (ρ.set i (.va v)) := rfl
@[simp] theorem b_tup (ts : Tgs) (vs : List PV) : bindTg (.tp ts) ρ (.tup vs) = bindTgs ts ρ vs := rfl
@[simp] theorem b_lst (ts : Tgs) (vs : List PV) : bindTg (.tp ts) ρ (.lst vs) = bindTgs ts ρ vs := rfl
@[simp] theorem bs_nil : bindTgs .nil ρ [] = some ρ := rfl
@[simp] theorem bs_cons (t : Tg) (ts : Tgs) (v : PV) (vs : List PV) : bindTgs (.cons t ts) ρ (v :: vs) = (bindTg t ρ v).bind fun ρ => bindTgs ts ρ vs := rfl
@[simp] theorem ns_nm (i : Nat) : (Tg.nm i).ns = [i] := rfl
@[simp] theorem ns_tp (ts : Tgs) : (Tg.tp ts).ns = ts.ns := rfl
@[simp] theorem nss_nil : Tgs.nil.ns = [] := rfl
@[simp] theorem nss_cons (t : Tg) (ts : Tgs) : (Tgs.cons t ts).ns = t.ns ++ ts.ns := rfl
@[simp] theorem w_nil : wipe ρ [] = ρ := rfl
@[simp] theorem w_cons (v : Nat) (vs : List Nat) : wipe ρ (v :: vs) = (wipe ρ vs).set v .un := rfl
/-! statements -/
@[simp] theorem s_asg (tg : Tg) (e : E) : exec C ρ T (.asg tg e) = (evalE C ρ T e).s fun v T => ofEnv T (bindTg tg ρ v) := rfl
@[simp] theorem s_own (i : Nat) (e : E) : exec C ρ T (.own i e) = (evalE C ρ T e).s fun v T => match v with
    | .lst xs => .nx (ρ.set i (.ow xs)) T
    | _ => .bad := rfl
@[simp] theorem s_par (ts : List (Nat × Bool)) (es : Es) : exec C ρ T (.par ts es) = (evalA C ρ T es).s fun vs T => ofEnv T (putAll ts vs ρ) := rfl
@[simp] theorem s_aug (i : Nat) (o : BOp) (e : E) : exec C ρ T (.aug i o e) = (match getv ρ i with
    | some x => (evalE C ρ T e).s fun y T => match x, y with
      | .int _, .int _ => ofEnv T ((binop o x y).map fun v => ρ.set i (.va v))
      | _, _ => .bad
    | none => .bad) := rfl
@[simp] theorem s_exp (e : E) : exec C ρ T (.exp e) = (evalE C ρ T e).s fun _ T => .nx ρ T := rfl
@[simp] theorem s_app (i : Nat) (e : E) : exec C ρ T (.app i e) = (match owned ρ i with
    | some xs => (evalE C ρ T e).s fun v T => if xs.length < line then .nx (ρ.set i (.ow (xs ++ [v]))) T else .bad
    | none => .bad) := rfl
@[simp] theorem s_apop (i j : Nat) (k : E) : exec C ρ T (.apop i j k) = (match owned ρ i, owned ρ j with
    | some xs, some ys => (evalE C ρ T k).s fun v T => match popAt ys v with
      | some (y, zs) => if xs.length < line ∧ i ≠ j then .nx ((ρ.set j (.ow zs)).set i (.ow (xs ++ [y]))) T else .bad
      | none => .bad
    | _, _ => .bad) := rfl
@[simp] theorem s_pop (tg : Tg) (j : Nat) : exec C ρ T (.pop tg j) = (match owned ρ j with
    | some ys => match ys.getLast? with
      | some y => ofEnv T (bindTg tg (ρ.set j (.ow ys.dropLast)) y)
      | none => .bad
    | none => .bad) := rfl
@[simp] theorem s_ext (i : Nat) (e : E) : exec C ρ T (.ext i e) = (match owned ρ i with
    | some xs => (evalE C ρ T e).s fun v T => match seqOf v with
      | some ys => if xs.length + ys.length ≤ line then .nx (ρ.set i (.ow (xs ++ ys))) T else .bad
      | none => .bad
    | none => .bad) := rfl
@[simp] theorem s_sto (i : Nat) (k e : E) : exec C ρ T (.sto i k e) = (evalE C ρ T e).s fun v T => match owned ρ i with
    | some xs => (evalE C ρ T k).s fun n T => match setAt xs n v with
      | some ys => .nx (ρ.set i (.ow ys)) T
      | none => .bad
    | none => .bad := rfl
@[simp] theorem s_ste (a k e : E) : exec C ρ T (.ste a k e) = (evalE C ρ T e).s fun v T => (evalE C ρ T a).s fun c T => match c with
    | .cel c => (evalE C ρ T k).s fun n T => match T[c]? with
      | some xs => match setAt xs n v with
        | some ys => .nx ρ (T.set c ys)
        | none => .bad
      | none => .bad
    | _ => .bad := rfl
@[simp] theorem s_ite (c : E) (a b : Ss) : exec C ρ T (.ite c a b) = (testE C ρ T c).s (iteE C ρ a b) := rfl
@[simp] theorem s_for (tg : Tg) (it : It) (b : Ss) : exec C ρ T (.for_ tg it b) = (evalI C ρ T it).s fun xs T => loopS (turn C tg b) xs ρ T := rfl
@[simp] theorem s_whl (c : E) (b : Ss) : exec C ρ T (.whl c b) = loopW (tst C c) (bod C b) C.fu ρ T := rfl
@[simp] theorem s_ret (e : E) : exec C ρ T (.ret e) = (evalE C ρ T e).s fun v T => .rt v T := rfl
@[simp] theorem s_retn : exec C ρ T .retn = .rt .non T := rfl
@[simp] theorem s_brk : exec C ρ T .brk = .bk ρ T := rfl
@[simp] theorem s_cont : exec C ρ T .cont = .ct ρ T := rfl
@[simp] theorem s_pass : exec C ρ T .pass = .nx ρ T := rfl
@[simp] theorem s_rse (c : Nat) (es : Es) : exec C ρ T (.rse c es) = (evalA C ρ T es).s fun vs T => .ex ⟨c, vs⟩ T := rfl
@[simp] theorem s_kill (i : Nat) : exec C ρ T (.kill i) = .nx (ρ.set i .un) T := rfl
@[simp] theorem s_frz (i : Nat) : exec C ρ T (.frz i) = (match owned ρ i with
    | some xs => .nx (ρ.set i (.va (.lst xs))) T
    | none => .nx ρ T) := rfl
@[simp] theorem s_tri (e : E) (hs : List (Nat × Nat × PySem.Str)) : exec C ρ T (.tri e hs) = triM hs ρ (evalE C ρ T e) := rfl
@[simp] theorem tri_ok (hs : List (Nat × Nat × PySem.Str)) (v : PV) : triM hs ρ (.ok v T) = .nx ρ T := rfl
@[simp] theorem ss_nil : execs C ρ T .nil = .nx ρ T := rfl
@[simp] theorem ss_cons (s : S) (r : Ss) : execs C ρ T (.cons s r) = seqE C r (exec C ρ T s) := rfl
@[simp] theorem t_e (e : E) : testE C ρ T e = (evalE C ρ T e).bind fun x T => .of T (truth x) := rfl
@[simp] theorem g_v (i : Nat) : getv ρ i = (match ρ[i]? with
  | some (.va v) => some v
  | _ => none) := rfl
@[simp] theorem g_p (i : Nat) : peek ρ i = (match ρ[i]? with
  | some (.ow xs) => some (.lst xs)
  | some (.va v) => some v
  | _ => none) := rfl
@[simp] theorem g_o (i : Nat) : owned ρ i = (match ρ[i]? with
  | some (.ow xs) => some xs
  | _ => none) := rfl
@[simp] theorem o_nx : ofSR (.nx ρ T) = .ok .non T := rfl
@[simp] theorem o_rt (v : PV) : ofSR (.rt v T) = .ok v T := rfl
@[simp] theorem o_ex (x : Exn) : ofSR (.ex x T) = .ex x T := rfl
end
section
variable (a b : Int) (p q : Bool) (x y : PV) (xs ys : List PV)
@[simp] theorem bo_add : binop .add (.int a) (.int b) = some (.int (a + b)) := rfl
@[simp] theorem bo_sub : binop .sub (.int a) (.int b) = some (.int (a - b)) := rfl
@[simp] theorem bo_mul : binop .mul (.int a) (.int b) = if mulOk a b then some (.int (a * b)) else none := rfl
@[simp] theorem bo_fdiv : binop .fdiv (.int a) (.int b) = if divOk b then some (.int (a.fdiv b)) else none := rfl
@[simp] theorem bo_mod : binop .mod (.int a) (.int b) = if b ≠ 0 then some (.int (a.fmod b)) else none := rfl
@[simp] theorem bo_pow : binop .pow (.int a) (.int b) = if 0 ≤ b ∧ b ≤ 1000 ∧ a.natAbs < 2 ^ 64 then some (.int (a ^ b.toNat)) else none := rfl
@[simp] theorem bo_addt : binop .add (.tup xs) (.tup ys) = if xs.length + ys.length ≤ line then some (.tup (xs ++ ys)) else none := rfl
@[simp] theorem bo_addl : binop .add (.lst xs) (.lst ys) = if xs.length + ys.length ≤ line then some (.lst (xs ++ ys)) else none := rfl
@[simp] theorem bo_mull : binop .mul (.lst xs) (.int b) = if b < 2 ^ 62 ∧ -(2 ^ 62) ≤ b ∧ xs.length * b.toNat ≤ line then some (.lst (List.replicate b.toNat xs).flatten) else none := rfl
@[simp] theorem bo_mult : binop .mul (.tup xs) (.int b) = if b = 1 then some (.tup xs) else if 2 ≤ b ∧ b ≤ 1000 ∧ 0 < xs.length ∧ xs.length ≤ 1000 then some (.tup (List.replicate b.toNat xs).flatten) else none := rfl
@[simp] theorem co_eq : cmpop .eq x y = if pln 40 x && pln 40 y then some (eqv x y) else none := rfl
@[simp] theorem co_ne : cmpop .ne x y = if pln 40 x && pln 40 y then some (!eqv x y) else none := rfl
@[simp] theorem co_lt : cmpop .lt (.int a) (.int b) = some (decide (a < b)) := rfl
@[simp] theorem co_le : cmpop .le (.int a) (.int b) = some (decide (a ≤ b)) := rfl
@[simp] theorem co_gt : cmpop .gt (.int a) (.int b) = some (decide (b < a)) := rfl
@[simp] theorem co_ge : cmpop .ge (.int a) (.int b) = some (decide (b ≤ a)) := rfl
@[simp] theorem co_is : cmpop .is_ x .non = some (isNon x) := rfl
@[simp] theorem co_isn : cmpop .isn x .non = some (!isNon x) := rfl
@[simp] theorem co_in : cmpop .in_ x y = inop x y := rfl
@[simp] theorem co_nin : cmpop .nin x y = (inop x y).map (!·) := rfl
@[simp] theorem tr_non : truth .non = some false := rfl
@[simp] theorem tr_bl : truth (.bl p) = some p := rfl
@[simp] theorem tr_int : truth (.int a) = some (a != 0) := rfl
@[simp] theorem tr_tup : truth (.tup xs) = some (!xs.isEmpty) := rfl
@[simp] theorem tr_lst : truth (.lst xs) = some (!xs.isEmpty) := rfl
@[simp] theorem pl_int (n : Nat) : pln n (.int a) = true := by cases n <;> rfl
@[simp] theorem pl_bl (n : Nat) : pln n (.bl p) = true := by cases n <;> rfl
@[simp] theorem pl_non (n : Nat) : pln n .non = true := by cases n <;> rfl
@[simp] theorem pl_tup (n : Nat) : pln (n + 1) (.tup xs) = xs.all (pln n) := rfl
@[simp] theorem pl_lst (n : Nat) : pln (n + 1) (.lst xs) = xs.all (pln n) := rfl
@[simp] theorem eq_int : eqv (.int a) (.int b) = (a == b) := by rw [eqv]
@[simp] theorem eq_bl : eqv (.bl p) (.bl q) = (p == q) := by rw [eqv]
@[simp] theorem eq_tup : eqv (.tup xs) (.tup ys) = eqvs xs ys := by rw [eqv]
@[simp] theorem eq_lst : eqv (.lst xs) (.lst ys) = eqvs xs ys := by rw [eqv]
@[simp] theorem eqs_nil : eqvs [] [] = true := by rw [eqvs]
@[simp] theorem eqs_cons : eqvs (x :: xs) (y :: ys) = (eqv x y && eqvs xs ys) := by rw [eqvs]
@[simp] theorem sq_tup : seqOf (.tup xs) = some xs := rfl
@[simp] theorem sq_lst : seqOf (.lst xs) = some xs := rfl
@[simp] theorem rw_tup : rows (.tup xs) = some xs := rfl
@[simp] theorem rw_lst : rows (.lst xs) = some xs := rfl
@[simp] theorem bi_lent : bi .len [.tup xs] = some (.int xs.length) := rfl
@[simp] theorem bi_lenl : bi .len [.lst xs] = some (.int xs.length) := rfl
@[simp] theorem bi_abs : bi .abs [.int a] = some (.int a.natAbs) := rfl
@[simp] theorem bi_inti : bi .int_ [.int a] = some (.int a) := rfl
@[simp] theorem bi_intb : bi .int_ [.bl p] = some (.int (if p then 1 else 0)) := rfl
@[simp] theorem bi_min2 : bi .min [.int a, .int b] = some (.int (if b < a then b else a)) := rfl
@[simp] theorem bi_max2 : bi .max [.int a, .int b] = some (.int (if b > a then b else a)) := rfl
@[simp] theorem bi_tl : bi .tuple_ [.lst xs] = some (.tup xs) := rfl
@[simp] theorem bi_tt : bi .tuple_ [.tup xs] = some (.tup xs) := rfl
@[simp] theorem bi_ll : bi .list_ [.lst xs] = some (.lst xs) := rfl
@[simp] theorem bi_lt : bi .list_ [.tup xs] = some (.lst xs) := rfl
@[simp] theorem bi_sum : bi .sum [.lst xs] = (intsOf xs).map fun is => .int is.sum := rfl
@[simp] theorem bi_all : bi .all [.lst xs] = (boolsOf xs).map fun bs => .bl (bs.all id) := rfl
@[simp] theorem bi_any : bi .any [.lst xs] = (boolsOf xs).map fun bs => .bl (bs.any id) := rfl
end
theorem callF_at {P : Prog} {d f : Nat} {F : Fn} {vs : List PV} {T : Store} (h : P.fn f = some F) (hl : vs.length = F.ps) : callF P (d + 1) f vs T = ofSR (execs ⟨callF P d, P.gl, P.fu⟩ (startE F.ns vs) T F.body) := by
  rw [callF, h]; simp [hl]
end PU
end

section
set_option linter.all false
set_option autoImplicit false
set_option exponentiation.threshold 100000
/-! what all laws share -/
namespace PU
open MP IR
variable {P : Prog}
theorem line_pos : 1000000 ≤ line := by decide
theorem mulOk_l {a b : Int} (h : a.natAbs < 2 ^ 64) : mulOk a b = true := by
  unfold mulOk; simp [h]
theorem mulOk_r {a b : Int} (h : b.natAbs < 2 ^ 64) : mulOk a b = true := by
  unfold mulOk; simp [h]
theorem divOk_of {b : Int} (h0 : b ≠ 0) (h : b.natAbs < 2 ^ 64) : divOk b = true := by
  unfold divOk
  have : b.natAbs < 2 ^ 8000 := Nat.lt_of_lt_of_le h (Nat.pow_le_pow_right (by decide) (by decide))
  simp [h0, this]
theorem small_of {i : Int} (h1 : -(2 ^ 62) ≤ i) (h2 : i < 2 ^ 62) : smallR i = true := by unfold smallR; simp; omega
/-! ### turns of a comprehension -/
theorem loopC_flat {f : PV → Store → Res (List PV)} {g : PV → List PV} {T : Store} : ∀ {xs : List PV}, (∀ x ∈ xs, f x T = .ok (g x) T) → loopC f xs T = .ok (xs.flatMap g) T
  | [], _ => rfl
  | x :: xs, h => by
    rw [loopC, h x (List.mem_cons_self), Res.bind_ok, loopC_flat (xs := xs) fun y hy => h y (List.mem_cons_of_mem _ hy), Res.bind_ok, List.flatMap_cons]
theorem loopC_map {f : PV → Store → Res (List PV)} {g : PV → PV} {T : Store} {xs : List PV} (h : ∀ x ∈ xs, f x T = .ok [g x] T) : loopC f xs T = .ok (xs.map g) T := by
  rw [loopC_flat (g := fun x => [g x]) h]
  congr 1
  induction xs with
  | nil => rfl
  | cons x xs ih => rw [List.flatMap_cons, ih fun y hy => h y (List.mem_cons_of_mem _ hy)]; rfl
/-! ### draws -/
/-- what the draws read -/
def Tin (n : Nat) (T : Store) : Prop := ∃ a b c : Int, T = [[.int a, .int b, .int c]] ∧ 0 ≤ a ∧ 0 ≤ b ∧ b < 2 ^ 62 ∧ 0 ≤ c ∧ c ≤ n
theorem Tin.mono {n m : Nat} {T : Store} (t : Tin n T) (h : n ≤ m) : Tin m T := by
  obtain ⟨x, y, z, h1, h2, h3, h4, h5, h6⟩ := t
  exact ⟨x, y, z, h1, h2, h3, h4, h5, by omega⟩
/-- each turn draws: c draws a turn -/
theorem loopC_draw {f : PV → Store → Res (List PV)} {c N : Nat} {Q : PV → PV → Prop} : ∀ {xs : List PV} {n : Nat} {T : Store}, Tin n T → n + c * xs.length ≤ N → (∀ x ∈ xs, ∀ n T, Tin n T → n + c ≤ N → ∃ v T', f x T = .ok [v] T' ∧ Q x v ∧ Tin (n + c) T') →
    ∃ vs T', loopC f xs T = .ok vs T' ∧ vs.length = xs.length ∧ (∀ (i : Nat) x v, xs[i]? = some x → vs[i]? = some v → Q x v) ∧ Tin (n + c * xs.length) T'
  | [], n, T, t, _, _ => ⟨[], T, rfl, rfl, fun i x v h => by simp at h, by simpa using t⟩
  | x :: xs, n, T, t, hN, h => by
    have e0 : c * (x :: xs).length = c * xs.length + c := by rw [List.length_cons, Nat.mul_succ]
    obtain ⟨v, T1, e1, q1, t1⟩ := h x List.mem_cons_self n T t (by omega)
    obtain ⟨vs, T2, e2, l2, q2, t2⟩ := loopC_draw (xs := xs) t1 (by omega) fun y hy => h y (List.mem_cons_of_mem _ hy)
    refine ⟨v :: vs, T2, by rw [loopC, e1, Res.bind_ok, e2]; rfl, by rw [List.length_cons, List.length_cons, l2], fun i y w hy hw => ?_, t2.mono (by omega)⟩
    cases i with
    | zero => simp at hy hw; subst hy hw; exact q1
    | succ i => simp at hy hw; exact q2 i y w hy hw
theorem compR_ok {xs : List PV} {T : Store} (h : xs.length ≤ line) : compR (.ok xs T) = .ok (.lst xs) T := if_pos h
set_option maxHeartbeats 1000000
theorem take (h : P.fn 2 = some f_law_take) {n d : Nat} {T : Store} {b : Int} (t : Tin n T) (hn : n < 1000000000) (hb : 0 < b) (hb2 : b < 2 ^ 62) :
    ∃ v T', callF P (d + 1) 2 [.cel 0, .int b] T = .ok (.int v) T' ∧ 0 ≤ v ∧ v < b ∧ Tin (n + 1) T' := by
  obtain ⟨x, y, z, rfl, hx, hy, hy2, hz, hz2⟩ := t
  rw [callF_at h rfl]
  have hb0 : b ≠ 0 := by omega
  have dk : divOk b = true := divOk_of hb0 (by omega)
  by_cases h0 : 0 < x
  · refine ⟨x.fmod b, [[.int (x.fdiv b), .int y, .int z]], ?_, Int.fmod_nonneg_of_pos x hb, Int.fmod_lt_of_pos x hb, x.fdiv b, y, z, rfl, Int.fdiv_nonneg hx (by omega), hy, hy2, hz, by omega⟩
    simp [f_law_take, startE, index, ixn, setAt, h0, hb0, dk]
  · have dk1 : divOk 1000003 = true := divOk_of (by decide) (by decide)
    have dk2 : divOk 64 = true := divOk_of (by decide) (by decide)
    have m1 : mulOk 48271 (z + 1) = true := mulOk_l (by decide)
    have m2 : mulOk (y + 48271 * (z + 1)) (39373 + (z + 1)) = true := mulOk_l (by omega)
    generalize ho : ((y + 48271 * (z + 1)) * (39373 + (z + 1))).fmod 2147483647 = once
    have o1 : 0 ≤ once := by rw [← ho]; exact Int.fmod_nonneg_of_pos _ (by decide)
    have o2 : once < 2147483647 := by rw [← ho]; exact Int.fmod_lt_of_pos _ (by decide)
    have w1 : 0 ≤ once.fmod 40009 := Int.fmod_nonneg_of_pos _ (by decide)
    have w2 : once.fmod 40009 < 40009 := Int.fmod_lt_of_pos _ (by decide)
    have m3 : mulOk (once + (z + 1) + y.fdiv 1000003) (once.fmod 40009 + 7) = true := mulOk_r (by omega)
    generalize ht : ((once + (z + 1) + y.fdiv 1000003) * (once.fmod 40009 + 7)).fmod 2147483629 = twice
    have m4 : mulOk twice 48271 = true := mulOk_r (by decide)
    refine ⟨(((twice * 48271 + once).fmod 2147483587).fdiv 64).fmod b, [[.int x, .int y, .int (z + 1)]], ?_, Int.fmod_nonneg_of_pos _ hb, Int.fmod_lt_of_pos _ hb, x, y, z + 1, rfl, hx, hy, hy2, by omega, by omega⟩
    simp [f_law_take, startE, index, ixn, setAt, h0, hb0, dk, dk1, dk2, m1, m2, ho, m3, ht, m4]
/-- one of a row -/
theorem of_ (h2 : P.fn 2 = some f_law_take) (h : P.fn 10 = some f_law_of) {n d : Nat} {T : Store} {g : PV} {xs : List PV} (t : Tin n T) (hn : n < 1000000000) (hg : g = .lst xs ∨ g = .tup xs) (h0 : 0 < xs.length) (hl : xs.length < 2 ^ 40) :
    ∃ v T', callF P (d + 2) 10 [.cel 0, g] T = .ok v T' ∧ v ∈ xs ∧ Tin (n + 1) T' := by
  obtain ⟨v, T1, e1, l1, l2, t1⟩ := take h2 (d := d) t hn (b := xs.length) (by omega) (by omega)
  have hv : v.toNat < xs.length := by omega
  refine ⟨xs[v.toNat], T1, ?_, List.getElem_mem hv, t1⟩
  rw [callF_at h rfl]
  rcases hg with rfl | rfl <;> simp [f_law_of, startE, e1, index, ixn, l1, l2, hv]
end PU
end

section
set_option linter.all false
set_option autoImplicit false
set_option exponentiation.threshold 100000
/-! what all laws share: the start, likeness, rows -/
namespace PU
open MP IR
variable {P : Prog}
theorem loopS_inv {f : PV → Env → Store → SR} {I : Env → Store → Prop} : ∀ {xs : List PV} {ρ : Env} {T : Store}, I ρ T → (∀ x ∈ xs, ∀ ρ T, I ρ T → ∃ ρ' T', f x ρ T = .nx ρ' T' ∧ I ρ' T') → ∃ ρ' T', loopS f xs ρ T = .nx ρ' T' ∧ I ρ' T'
  | [], ρ, T, i, _ => ⟨ρ, T, rfl, i⟩
  | x :: xs, ρ, T, i, h => by
    obtain ⟨ρ1, T1, e1, i1⟩ := h x List.mem_cons_self ρ T i
    obtain ⟨ρ2, T2, e2, i2⟩ := loopS_inv (xs := xs) i1 fun y hy => h y (List.mem_cons_of_mem _ hy)
    exact ⟨ρ2, T2, by rw [loopS, e1]; exact e2, i2⟩
theorem enum_mem {xs : List PV} {x : PV} (h : x ∈ enum_ xs) : ∃ (i : Nat) (v : PV), x = .tup [.int (i : Nat), v] ∧ xs[i]? = some v ∧ i < xs.length := by
  unfold enum_ at h
  obtain ⟨⟨v, i⟩, h1, rfl⟩ := List.mem_map.mp h
  have := List.mem_zipIdx_iff_getElem?.mp h1
  exact ⟨i, v, rfl, this, (List.getElem?_eq_some_iff.mp this).1⟩
theorem cut_map {α β : Type} (g : α → β) (xs : List α) (lo hi : Option Int) : cut (xs.map g) lo hi = (cut xs lo hi).map g := by
  unfold cut; rw [List.length_map, List.map_take, List.map_drop]
theorem cut_len {α : Type} (xs : List α) (lo hi : Option Int) : (cut xs lo hi).length ≤ xs.length := by
  unfold cut; rw [List.length_take, List.length_drop]; omega
set_option maxHeartbeats 2000000
theorem cells_loop {C : Ctx} {s : PV} {T : Store} {ms : List Int} {x : Int} (hm : ms.length ≤ 63) :
    ∃ z : Int, loopS (turn C (.tp (.cons (.nm 3) (.cons (.nm 4) .nil))) b_law_cells_0) (enum_ (ms.map .int)) [.va s, .va (.int 1), .ow [.int x], .un, .un, .un] T = .nx [.va s, .va (.int 1), .ow [.int z], .un, .un, .un] T := by
  obtain ⟨ρ', T', e, z, e1, e2⟩ := loopS_inv (f := turn C (.tp (.cons (.nm 3) (.cons (.nm 4) .nil))) b_law_cells_0) (xs := enum_ (ms.map .int)) (ρ := [.va s, .va (.int 1), .ow [.int x], .un, .un, .un]) (T := T)
    (I := fun ρ T' => ∃ z : Int, ρ = [.va s, .va (.int 1), .ow [.int z], .un, .un, .un] ∧ T' = T) ⟨x, rfl, rfl⟩ fun x hx ρ T' ⟨z, e1, e2⟩ => by
      subst e1 e2
      obtain ⟨i, v, rfl, h1, h2⟩ := enum_mem hx
      rw [List.getElem?_map] at h1
      obtain ⟨b, _, rfl⟩ := Option.map_eq_some_iff.mp h1
      simp at h2
      have m : mulOk b ((i : Int) + 2) = true := mulOk_r (by omega)
      simp [b_law_cells_0, index, ixn, setAt, m]
  subst e1 e2
  exact ⟨z, e⟩
theorem cells (h : P.fn 1 = some f_law_cells) {d : Nat} {T : Store} (ns : List Int) (hl : ns.length ≤ 63) : ∃ x : Int, callF P (d + 1) 1 [.st (ns.map .int), .int 1] T = .ok (.lst [.int x]) T := by
  rw [callF_at h rfl]
  have hc : (cut ns (some 1) (some 63)).length ≤ 63 := Nat.le_trans (cut_len ns _ _) hl
  obtain ⟨y, e1⟩ : ∃ y : Int, (cut ns none (some 1) = [] ∧ y = 0) ∨ cut ns none (some 1) = [y] := by
    cases ns with
    | nil => exact ⟨0, .inl ⟨rfl, rfl⟩⟩
    | cons y ms =>
      refine ⟨y, .inr ?_⟩
      have e2 : min 1 (ms.length + 1) = 1 := by omega
      simp [cut, six, e2]
  obtain ⟨z, e2⟩ := cells_loop (C := ⟨callF P d, P.gl, P.fu⟩) (s := .st (ns.map .int)) (T := T) (x := y) hc
  refine ⟨z, ?_⟩
  rcases e1 with ⟨e1, rfl⟩ | e1 <;> simp [f_law_cells, startE, partV, isN, cutv, cut_map, e1, e2]
end PU
end

section
set_option linter.all false
set_option autoImplicit false
set_option exponentiation.threshold 100000
/-! likeness; rows -/
namespace PU
open MP IR
variable {P : Prog}
/-- plain data of a depth -/
def dat : Nat → PV → Bool
  | 0, v => match v with
    | .non => true
    | .bl _ => true
    | .int _ => true
    | .str x => x.cps.all (· < 1114112)
    | _ => false
  | n + 1, v => match v with
    | .tup xs => decide (xs.length ≤ line) && xs.all (dat n)
    | .lst xs => decide (xs.length ≤ line) && xs.all (dat n)
    | .non => true
    | .bl _ => true
    | .int _ => true
    | .str x => x.cps.all (· < 1114112)
    | _ => false
@[simp] theorem dat_int (n : Nat) (a : Int) : dat n (.int a) = true := by cases n <;> rfl
@[simp] theorem dat_bl (n : Nat) (a : Bool) : dat n (.bl a) = true := by cases n <;> rfl
@[simp] theorem dat_non (n : Nat) : dat n .non = true := by cases n <;> rfl
@[simp] theorem dat_tup (n : Nat) (xs : List PV) : dat (n + 1) (.tup xs) = (decide (xs.length ≤ line) && xs.all (dat n)) := rfl
@[simp] theorem dat_lst (n : Nat) (xs : List PV) : dat (n + 1) (.lst xs) = (decide (xs.length ≤ line) && xs.all (dat n)) := rfl
theorem bools_true {α : Type} (xs : List α) : boolsOf (xs.map fun _ => PV.bl true) = some (xs.map fun _ => true) := by
  induction xs with
  | nil => rfl
  | cons x xs ih => rw [List.map_cons, boolsOf, ih]; rfl
theorem zip_same {xs : List PV} {x : PV} (h : x ∈ zip2 xs xs) : ∃ v ∈ xs, x = .tup [v, v] := by
  unfold zip2 at h
  obtain ⟨⟨a, b⟩, h1, rfl⟩ := List.mem_map.mp h
  obtain ⟨i, h2⟩ := List.getElem?_of_mem h1
  obtain ⟨h3, h4⟩ := List.getElem?_zip_eq_some.mp h2
  rw [h3] at h4
  cases h4
  exact ⟨a, List.mem_of_getElem? h3, rfl⟩
theorem zip_len (xs ys : List PV) : (zip2 xs ys).length = min xs.length ys.length := by unfold zip2; rw [List.length_map, List.length_zip]
theorem eqv_str (x : PySem.Str) : eqv (.str x) (.str x) = true := by rw [eqv]; exact beq_self_eq_true x
theorem pln_str {x : PySem.Str} (h : x.cps.all (· < 1114112) = true) (n : Nat) : pln n (.str x) = true := by cases n <;> exact h
set_option maxHeartbeats 2000000
theorem same (h : P.fn 7 = some f_law_same) : ∀ (n : Nat) (v : PV), dat n v = true → ∀ (d : Nat) (T : Store), callF P (d + n + 1) 7 [v, v] T = .ok (.bl true) T := by
  have scal : ∀ (v : PV), dat 0 v = true → ∀ (d : Nat) (T : Store), callF P (d + 1) 7 [v, v] T = .ok (.bl true) T := by
    intro v hv d T
    rw [callF_at h rfl]
    cases v with
    | str x =>
      have p := pln_str (x := x) hv 40
      simp [f_law_same, startE, isTys, isTy, p, eqv_str, isNon]
    | non => simp [f_law_same, startE, isTys, isTy, isNon]
    | bl b => simp [f_law_same, startE, isTys, isTy, isNon]
    | int i => simp [f_law_same, startE, isTys, isTy, isNon]
    | _ => cases hv
  intro n
  induction n with
  | zero => exact fun v hv d T => scal v hv d T
  | succ n ih =>
    intro v hv d T
    have row : ∀ xs : List PV, xs.length ≤ line → (∀ x ∈ xs, dat n x = true) → ∀ (f : PV → Store → Res (List PV)), (∀ v ∈ xs, f (.tup [v, v]) T = .ok [.bl true] T) → loopC f (zip2 xs xs) T = .ok ((zip2 xs xs).map fun _ => .bl true) T := fun xs hl hx f hf => loopC_map fun x hx2 => by
      obtain ⟨v, hv, rfl⟩ := zip_same hx2
      exact hf v hv
    cases v with
    | tup xs =>
      have hv : (decide (xs.length ≤ line) && xs.all (dat n)) = true := hv
      rw [Bool.and_eq_true, decide_eq_true_eq, List.all_eq_true] at hv
      rw [show d + (n + 1) + 1 = (d + n + 1) + 1 from by omega, callF_at h rfl]
      simp [f_law_same, startE, isTys, isTy]
      rw [row xs hv.1 hv.2 _ fun v hv2 => by simp [ih v (hv.2 v hv2)]]
      simp [compR, zip_len, hv.1, bools_true]
    | lst xs =>
      have hv : (decide (xs.length ≤ line) && xs.all (dat n)) = true := hv
      rw [Bool.and_eq_true, decide_eq_true_eq, List.all_eq_true] at hv
      rw [show d + (n + 1) + 1 = (d + n + 1) + 1 from by omega, callF_at h rfl]
      simp [f_law_same, startE, isTys, isTy]
      rw [row xs hv.1 hv.2 _ fun v hv2 => by simp [ih v (hv.2 v hv2)]]
      simp [compR, zip_len, hv.1, bools_true]
    | non => exact scal .non rfl _ T
    | bl b => exact scal (.bl b) rfl _ T
    | int i => exact scal (.int i) rfl _ T
    | str x => exact scal (.str x) hv _ T
    | _ => cases hv
end PU
end

section
set_option linter.all false
set_option autoImplicit false
set_option exponentiation.threshold 100000
/-! numbers, rows of numbers, boxes -/
namespace PU
open MP IR
variable {P : Prog}
/-- a row of intz -/
abbrev intz (xs : List Int) : List PV := xs.map .int
theorem ints_mem {xs : List Int} {v : PV} (h : v ∈ intz xs) : ∃ i ∈ xs, v = .int i := by
  obtain ⟨i, h1, rfl⟩ := List.mem_map.mp h
  exact ⟨i, h1, rfl⟩
@[simp] theorem intsOf_ints (xs : List Int) : intsOf (intz xs) = some xs := by
  induction xs with
  | nil => rfl
  | cons x xs ih => show (intsOf (intz xs)).map (x :: ·) = _; rw [ih]; rfl
@[simp] theorem intsOf_map (xs : List Int) : intsOf (xs.map PV.int) = some xs := intsOf_ints xs
theorem is_number (h : P.fn 4 = some f_is_number) (d : Nat) (x : Int) (T : Store) : callF P (d + 1) 4 [.int x] T = .ok (.bl true) T := by
  rw [callF_at h rfl]; simp [f_is_number, startE, isTys, isTy]
theorem is_within (h4 : P.fn 4 = some f_is_number) (h : P.fn 9 = some f_is_within) (d : Nat) (x a b : Int) (T : Store) : callF P (d + 2) 9 [.int x, .int a, .int b] T = .ok (.bl (decide (a ≤ x ∧ x ≤ b))) T := by
  rw [callF_at h rfl]
  simp [f_is_within, startE, is_number h4]
  by_cases h1 : a ≤ x <;> simp [h1]
theorem sure_within (h4 : P.fn 4 = some f_is_number) (h9 : P.fn 9 = some f_is_within) (h : P.fn 25 = some f_sure_within) (d : Nat) (x a b : Int) (T : Store) (h1 : a ≤ x) (h2 : x ≤ b) : callF P (d + 3) 25 [.int x, .int a, .int b] T = .ok (.int x) T := by
  rw [callF_at h rfl]
  simp [f_sure_within, startE, is_within h4 h9, h1, h2]
theorem are_numbers (h4 : P.fn 4 = some f_is_number) (h : P.fn 3 = some f_are_numbers) (d : Nat) (xs : List Int) (T : Store) (hl : xs.length ≤ line) : callF P (d + 2) 3 [.tup (intz xs)] T = .ok (.bl true) T := by
  rw [callF_at h rfl]
  simp [f_are_numbers, startE, isTys, isTy]
  rw [loopC_map (g := fun _ => .bl true) fun v hv => by
    obtain ⟨i, _, rfl⟩ := ints_mem hv
    simp [is_number h4]]
  simp [compR, hl, bools_true, Function.comp_def]
theorem is_long (h : P.fn 8 = some f_is_long) (d : Nat) (xs : List PV) (n : Int) (T : Store) : callF P (d + 1) 8 [.tup xs, .int n] T = .ok (.bl (decide ((xs.length : Int) = n))) T := by
  rw [callF_at h rfl]; simp [f_is_long, startE, isTys, isTy]
  rw [Bool.eq_iff_iff]; simp
theorem tupled_int (h : P.fn 6 = some f_tupled) (d : Nat) (x : Int) (T : Store) : callF P (d + 1) 6 [.int x] T = .ok (.int x) T := by
  rw [callF_at h rfl]; simp [f_tupled, startE, isTys, isTy]
theorem tupled_ints (h : P.fn 6 = some f_tupled) (d : Nat) (xs : List Int) (T : Store) (hl : xs.length ≤ line) (row : PV) (hr : row = .tup (intz xs) ∨ row = .lst (intz xs)) : callF P (d + 2) 6 [row] T = .ok (.tup (intz xs)) T := by
  rw [callF_at h rfl]
  rcases hr with rfl | rfl
  all_goals
    simp [f_tupled, startE, isTys, isTy]
    rw [loopC_map (g := fun v => v) fun v hv => by
      obtain ⟨i, _, rfl⟩ := ints_mem hv
      simp [tupled_int h]]
    simp [compR, hl]
theorem minl_ge {a b : Int} {r : List Int} (h : a ≤ b) (hr : ∀ x ∈ r, a ≤ x) : a ≤ minl b r := by
  induction r generalizing b with
  | nil => exact h
  | cons x r ih =>
    rw [minl]
    refine ih ?_ fun y hy => hr y (List.mem_cons_of_mem _ hy)
    have := hr x List.mem_cons_self
    split <;> assumption
theorem maxl_le {a b : Int} {r : List Int} (h : b ≤ a) (hr : ∀ x ∈ r, x ≤ a) : maxl b r ≤ a := by
  induction r generalizing b with
  | nil => exact h
  | cons x r ih =>
    rw [maxl]
    refine ih ?_ fun y hy => hr y (List.mem_cons_of_mem _ hy)
    have := hr x List.mem_cons_self
    split <;> assumption
theorem is_box_in (h4 : P.fn 4 = some f_is_number) (h3 : P.fn 3 = some f_are_numbers) (h : P.fn 21 = some f_is_box_in) (g : P.gl 3 = some (.int 3)) (d : Nat) (xs : List Int) (T : Store) (h0 : 1 ≤ xs.length) (hl : xs.length ≤ 3) (hp : ∀ x ∈ xs, 1 ≤ x) : callF P (d + 3) 21 [.tup (intz xs)] T = .ok (.bl true) T := by
  have hz : xs.length ≤ line := Nat.le_trans hl (by decide)
  rw [callF_at h rfl]
  cases xs with
  | nil => simp at h0
  | cons x xs =>
    have m : 1 ≤ minl x xs := minl_ge (hp x List.mem_cons_self) fun y hy => hp y (List.mem_cons_of_mem _ hy)
    have e := are_numbers h4 h3 d (x :: xs) T hz
    simp at hl
    simp at e
    have l2 : (xs.length : Int) + 1 ≤ 3 := by omega
    have l1 : 1 ≤ (xs.length : Int) + 1 := by omega
    have m2 : 0 < minl x xs := by omega
    simp [f_is_box_in, startE, e, g, bi, intsOf, l2, l1, m2]
theorem sure_box (h4 : P.fn 4 = some f_is_number) (h3 : P.fn 3 = some f_are_numbers) (h6 : P.fn 6 = some f_tupled) (h21 : P.fn 21 = some f_is_box_in) (h : P.fn 50 = some f_sure_box) (g : P.gl 3 = some (.int 3)) (g2 : P.gl 2 = some (.int 200)) (d : Nat) (xs : List Int) (T : Store) (h0 : 1 ≤ xs.length) (hl : xs.length ≤ 3) (hp : ∀ x ∈ xs, 1 ≤ x ∧ x ≤ 200)
    (row : PV) (hr : row = .tup (intz xs) ∨ row = .lst (intz xs)) : callF P (d + 4) 50 [row] T = .ok (.tup (intz xs)) T := by
  have hz : xs.length ≤ line := Nat.le_trans hl (by decide)
  rw [callF_at h rfl]
  have e1 := tupled_ints h6 (d + 1) xs T hz row hr
  have e2 := is_box_in h4 h3 h21 g d xs T h0 hl fun x hx => (hp x hx).1
  cases xs with
  | nil => simp at h0
  | cons x xs =>
    have m : maxl x xs ≤ 200 := maxl_le (hp x List.mem_cons_self).2 fun y hy => (hp y (List.mem_cons_of_mem _ hy)).2
    simp at e1 e2
    have m2 : ¬ 200 < maxl x xs := by omega
    simp [f_sure_box, startE, e1, e2, g2, bi, intsOf, m2]
end PU
end

section
set_option linter.all false
set_option autoImplicit false
set_option exponentiation.threshold 100000
set_option maxRecDepth 20000
/-! rows drawn, joined, mixed -/
namespace PU
open MP IR
variable {P : Prog}
theorem rng_len (lo hi : Int) : (rng lo hi).length = (hi - lo).toNat := by unfold rng; rw [List.length_map, List.length_range]
theorem rng_mem {lo hi : Int} {x : PV} (h : x ∈ rng lo hi) : ∃ k : Int, x = .int k ∧ lo ≤ k ∧ k < hi := by
  unfold rng at h
  obtain ⟨k, h1, rfl⟩ := List.mem_map.mp h
  have := List.mem_range.mp h1
  exact ⟨lo + k, rfl, by omega, by omega⟩
/-- over range(n), intz -/
theorem loop_rng {f : PV → Store → Res (List PV)} {g : Int → Int} {n : Int} {T : Store} (h : ∀ k : Int, 0 ≤ k → k < n → f (.int k) T = .ok [.int (g k)] T) : loopC f (rng 0 n) T = .ok (intz ((List.range n.toNat).map fun k => g (k : Nat))) T := by
  rw [loopC_map (g := fun v => match v with
    | .int k => .int (g k)
    | _ => .non) fun v hv => by
    obtain ⟨k, rfl, h1, h2⟩ := rng_mem hv
    exact h k h1 h2]
  congr 1
  unfold rng intz
  rw [List.map_map, List.map_map, Int.sub_zero]
  congr 1
  funext k
  simp
theorem loopS_nil {f : PV → Env → Store → SR} {ρ : Env} {T : Store} : loopS f [] ρ T = .nx ρ T := rfl
theorem loopS_cons {f : PV → Env → Store → SR} {x : PV} {xs : List PV} {ρ ρ' : Env} {T T' : Store} (h : f x ρ T = .nx ρ' T') : loopS f (x :: xs) ρ T = loopS f xs ρ' T' := by rw [loopS, h]
theorem flat_loop {C : Ctx} {s : PV} {T : Store} : ∀ (xs : List (List PV)) (acc : List PV), acc.length + xs.flatten.length ≤ line → loopS (turn C (.nm 2) b_law_flat_0) (xs.map .lst) [.va s, .ow acc, .un] T = .nx [.va s, .ow (acc ++ xs.flatten), .un] T
  | [], acc, _ => by simp [loopS]
  | x :: xs, acc, h => by
    rw [List.flatten_cons, List.length_append] at h
    have hx : acc.length + x.length ≤ line := by omega
    rw [List.map_cons, loopS_cons (ρ' := [.va s, .ow (acc ++ x), .un]) (T' := T) (by simp [b_law_flat_0, hx]), flat_loop xs (acc ++ x) (by rw [List.length_append]; omega), List.flatten_cons, List.append_assoc]
theorem flat (h : P.fn 43 = some f_law_flat) (d : Nat) (xs : List (List PV)) (T : Store) (hl : xs.flatten.length ≤ line) : callF P (d + 1) 43 [.lst (xs.map .lst)] T = .ok (.lst xs.flatten) T := by
  rw [callF_at h rfl]
  have e := flat_loop (C := ⟨callF P d, P.gl, P.fu⟩) (s := .lst (xs.map .lst)) (T := T) xs [] (by simpa using hl)
  simp [f_law_flat, startE, e]
theorem erase_perm : ∀ (l : List PV) (i : Nat) (h : i < l.length), (l[i] :: l.eraseIdx i).Perm l
  | x :: l, 0, _ => .refl _
  | x :: l, i + 1, h => by
    have h' : i < l.length := by simpa using h
    show (l[i] :: x :: l.eraseIdx i).Perm (x :: l)
    exact (List.Perm.swap x l[i] _).trans ((erase_perm l i h').cons x)
/-! ### some of a row -/
theorem pick_loop (h2 : P.fn 2 = some f_law_take) {d : Nat} {g c : PV} {N : Nat} (hN : N < 1000000000) : ∀ (xs pool found : List PV) (n : Nat) (T : Store), Tin n T → n + xs.length ≤ N → xs.length ≤ pool.length → pool.length + found.length ≤ 1000000 →
    ∃ pool' found' T', loopS (turn ⟨callF P (d + 1), P.gl, P.fu⟩ (.nm 5) b_law_pick_0) xs [.va (.cel 0), .va g, .va c, .ow pool, .ow found, .un] T = .nx [.va (.cel 0), .va g, .va c, .ow pool', .ow found', .un] T' ∧
      found'.length = found.length + xs.length ∧ (found' ++ pool').Perm (found ++ pool) ∧ Tin (n + xs.length) T'
  | [], pool, found, n, T, t, _, _, _ => ⟨pool, found, T, rfl, rfl, .refl _, t⟩
  | x :: xs, pool, found, n, T, t, hn, hl, hz => by
    rw [List.length_cons] at hn hl
    obtain ⟨v, T1, e1, l1, l2, t1⟩ := take h2 (d := d) t (by omega) (b := pool.length) (by omega) (by omega)
    have hv : v.toNat < pool.length := by omega
    have ix : ixn pool.length v = some v.toNat := by unfold ixn; rw [if_pos l1, if_pos l2]
    have hp : popAt pool (.int v) = some (pool[v.toNat], pool.eraseIdx v.toNat) := by
      unfold popAt
      dsimp only
      rw [if_pos (by omega), ix]
      simp [hv]
    have hf : found.length < line := by have := line_pos; omega
    have hle : (pool.eraseIdx v.toNat).length = pool.length - 1 := by rw [List.length_eraseIdx]; simp [hv]
    obtain ⟨pool', found', T2, e2, l3, p3, t2⟩ := pick_loop h2 hN xs (pool.eraseIdx v.toNat) (found ++ [pool[v.toNat]]) (n + 1) T1 t1 (by omega) (by omega) (by rw [hle, List.length_append]; simp; omega)
    refine ⟨pool', found', T2, ?_, by rw [l3, List.length_append, List.length_cons]; simp; omega, p3.trans ?_, t2.mono (by rw [List.length_cons]; omega)⟩
    · rw [loopS_cons (ρ' := [.va (.cel 0), .va g, .va c, .ow (pool.eraseIdx v.toNat), .ow (found ++ [pool[v.toNat]]), .un]) (T' := T1) (by simp [b_law_pick_0, e1, hp, hf]), e2]
    · rw [List.append_assoc]
      refine List.Perm.append_left _ ?_
      exact erase_perm pool v.toNat hv
theorem min_bi (a b : Nat) : bi .min [.int a, .int b] = some (.int ((min a b : Nat) : Int)) := by
  by_cases q : (b : Int) < a
  · rw [bi_min2, if_pos q, Nat.min_eq_right (by omega)]
  · rw [bi_min2, if_neg q, Nat.min_eq_left (by omega)]
theorem pick (h2 : P.fn 2 = some f_law_take) (h : P.fn 27 = some f_law_pick) {d n N : Nat} {T : Store} (t : Tin n T) (hN : N < 1000000000) {g : PV} {xs : List PV} (hg : g = .lst xs ∨ g = .tup xs) (c : Nat) (hn : n + c ≤ N) (hl : xs.length ≤ 1000000) (hc : c ≤ 1000000) :
    ∃ found rest T', callF P (d + 2) 27 [.cel 0, g, .int c] T = .ok (.lst found) T' ∧ found.length = min c xs.length ∧ (found ++ rest).Perm xs ∧ Tin (n + c) T' := by
  rw [callF_at h rfl]
  have hm := min_bi c xs.length
  obtain ⟨m, em⟩ : ∃ m, m = min c xs.length := ⟨_, rfl⟩
  rw [← em] at hm ⊢
  have sr : smallR (m : Int) = true := small_of (by omega) (by omega)
  have hr : (rng 0 (m : Int)).length = m := by rw [rng_len]; omega
  obtain ⟨pool', found', T', e, l1, p1, t1⟩ := pick_loop h2 (d := d) (g := g) (c := .int c) hN (rng 0 (m : Int)) xs [] n T t (by omega) (by omega) (by simpa using hl)
  rw [hr] at l1 t1
  refine ⟨found', pool', T', ?_, by simpa using l1, by simpa using p1, t1.mono (by omega)⟩
  rcases hg with rfl | rfl
  · simp [f_law_pick, startE, putAll, -bi_min2]
    rw [hm, Res.of_some, Res.bind_ok, rngM_ok sr, Res.s_ok, e]
    simp
  · simp [f_law_pick, startE, putAll, -bi_min2]
    rw [hm, Res.of_some, Res.bind_ok, rngM_ok sr, Res.s_ok, e]
    simp
theorem ints_of {R : Int → Prop} : ∀ {vs : List PV}, (∀ v ∈ vs, ∃ z, v = PV.int z ∧ R z) → ∃ zs : List Int, vs = intz zs ∧ (∀ z ∈ zs, R z) ∧ zs.length = vs.length
  | [], _ => ⟨[], rfl, by simp, rfl⟩
  | v :: vs, h => by
    obtain ⟨z, rfl, hz⟩ := h v List.mem_cons_self
    obtain ⟨zs, rfl, h2, h3⟩ := ints_of (vs := vs) fun w hw => h w (List.mem_cons_of_mem _ hw)
    refine ⟨z :: zs, rfl, fun y hy => ?_, by simp⟩
    rcases List.mem_cons.mp hy with e | hy
    · rw [e]; exact hz
    · exact h2 y hy
/-- intz drawn, turn by turn -/
theorem loop_draw {f : PV → Store → Res (List PV)} {c N : Nat} {R : Int → Prop} {xs : List PV} {n : Nat} {T : Store} (t : Tin n T) (hn : n + c * xs.length ≤ N) (h : ∀ x ∈ xs, ∀ n T, Tin n T → n + c ≤ N → ∃ z T', f x T = .ok [.int z] T' ∧ R z ∧ Tin (n + c) T') :
    ∃ zs T', loopC f xs T = .ok (intz zs) T' ∧ zs.length = xs.length ∧ (∀ z ∈ zs, R z) ∧ Tin (n + c * xs.length) T' := by
  obtain ⟨vs, T', e, l, q, t'⟩ := loopC_draw (Q := fun _ v => ∃ z, v = PV.int z ∧ R z) t hn fun x hx n T t hN => by
    obtain ⟨z, T', e, r, t'⟩ := h x hx n T t hN
    exact ⟨_, T', e, ⟨z, rfl, r⟩, t'⟩
  obtain ⟨zs, rfl, h2, h3⟩ := ints_of (R := R) (vs := vs) fun v hv => by
    obtain ⟨i, hi⟩ := List.getElem?_of_mem hv
    have hi2 : i < xs.length := by rw [← l]; exact (List.getElem?_eq_some_iff.mp hi).1
    exact q i _ v (List.getElem?_eq_getElem hi2) hi
  exact ⟨zs, T', e, by rw [← l, h3], h2, t'⟩
/-! ### mixed rows -/
theorem mixed_ints (h2 : P.fn 2 = some f_law_take) (h : P.fn 26 = some f_law_mixed) {d n : Nat} {T : Store} (t : Tin n T) (hn : n < 1000000000) {xs : List Int} (hl : xs.length ≤ line) {g : PV} (hg : g = .tup (intz xs) ∨ g = .lst (intz xs)) :
    ∃ row T', callF P (d + 2) 26 [.cel 0, g] T = .ok row T' ∧ (row = .tup (intz xs) ∨ row = .lst (intz xs)) ∧ Tin (n + 1) T' := by
  obtain ⟨v, T1, e1, l1, l2, t1⟩ := take h2 (d := d) t hn (b := 2) (by decide) (by decide)
  have one : ∀ i : Int, callF P (d + 1) 26 [.cel 0, .int i] T = .ok (.int i) T := fun i => by
    rw [callF_at h rfl]; simp [f_law_mixed, startE, isTys, isTy]
  have hv : v = 0 ∨ v = 1 := by omega
  rcases hv with rfl | rfl
  · refine ⟨.lst (intz xs), T1, ?_, .inr rfl, t1⟩
    rw [callF_at h rfl]
    rcases hg with rfl | rfl
    all_goals
      simp [f_law_mixed, startE, isTys, isTy]
      rw [loopC_map (g := fun v => v) fun v hv => by
        obtain ⟨i, _, rfl⟩ := ints_mem hv
        simp [one]]
      simp [compR, hl, e1]
  · refine ⟨.tup (intz xs), T1, ?_, .inl rfl, t1⟩
    rw [callF_at h rfl]
    rcases hg with rfl | rfl
    all_goals
      simp [f_law_mixed, startE, isTys, isTy]
      rw [loopC_map (g := fun v => v) fun v hv => by
        obtain ⟨i, _, rfl⟩ := ints_mem hv
        simp [one]]
      simp [compR, hl, e1]
end PU
end

section
set_option linter.all false
set_option autoImplicit false
set_option exponentiation.threshold 100000
set_option maxRecDepth 20000
/-! fractions -/
namespace PU
open MP IR
variable {P : Prog}
/-- a fraction as a value -/
def fr (q : Rat) : PV := .tup [.int q.num, .int (q.den : Int)]
theorem fmod_nat (a b : Nat) : (a : Int).fmod (b : Int) = ((a % b : Nat) : Int) := by
  rw [Int.fmod_eq_emod_of_nonneg _ (by omega), Int.natCast_emod]
theorem gcd_step (a b : Nat) : Nat.gcd b (a % b) = Nat.gcd a b := by rw [Nat.gcd_comm b, ← Nat.gcd_rec, Nat.gcd_comm]
theorem half {a b n : Nat} (h : b < 2 ^ (n + 1)) (h0 : 0 < a % b) (hb : 0 < b) : b % (a % b) < 2 ^ n := by
  have h1 := Nat.mod_lt a hb
  have h2 := Nat.mod_lt b h0
  have h3 := Nat.div_add_mod b (a % b)
  have h4 : 1 ≤ b / (a % b) := (Nat.one_le_div_iff h0).mpr (by omega)
  have h5 : (a % b) * 1 ≤ (a % b) * (b / (a % b)) := Nat.mul_le_mul_left _ h4
  rw [Nat.pow_succ] at h
  omega
set_option maxHeartbeats 1000000
theorem common_one {C : Ctx} {T : Store} {a b : Nat} {k : Nat} (hb : b ≠ 0) : loopW (tst C (.cmp .ne (.var 1) (.con (.int 0)))) (bod C b_common_0) (k + 1) [.va (.int a), .va (.int b)] T =
    loopW (tst C (.cmp .ne (.var 1) (.con (.int 0)))) (bod C b_common_0) k [.va (.int b), .va (.int (a % b : Nat))] T := by
  have hb' : (b : Int) ≠ 0 := by omega
  have hb2 : ((b : Int) == 0) = false := by simpa using hb
  rw [loopW]
  simp [tst_eq, bod_eq, hb2, b_common_0, putAll, hb', fmod_nat, hb]
theorem common_end {C : Ctx} {T : Store} {a : Nat} {k : Nat} : loopW (tst C (.cmp .ne (.var 1) (.con (.int 0)))) (bod C b_common_0) (k + 1) [.va (.int a), .va (.int (0 : Nat))] T = .nx [.va (.int a), .va (.int 0)] T := by
  rw [loopW]
  simp [tst_eq]
theorem common_loop {C : Ctx} {T : Store} : ∀ (n : Nat) (a b k : Nat), b < 2 ^ n → 2 * n + 1 ≤ k → loopW (tst C (.cmp .ne (.var 1) (.con (.int 0)))) (bod C b_common_0) k [.va (.int a), .va (.int b)] T = .nx [.va (.int (Nat.gcd a b)), .va (.int 0)] T
  | n, a, b, k, hb, hk => by
    obtain ⟨k, rfl⟩ : ∃ j, k = j + 1 := ⟨k - 1, by omega⟩
    by_cases h0 : b = 0
    · subst h0
      rw [common_end, Nat.gcd_zero_right]
    · cases n with
      | zero => simp at hb; exact absurd hb h0
      | succ n =>
        rw [common_one h0]
        obtain ⟨k, rfl⟩ : ∃ j, k = j + 1 := ⟨k - 1, by omega⟩
        by_cases h1 : a % b = 0
        · rw [h1, common_end, ← gcd_step a b, h1, Nat.gcd_zero_right]
        · rw [common_one h1, common_loop n (a % b) (b % (a % b)) k (half hb (by omega) (by omega)) (by omega), gcd_step, gcd_step]
/-- the facts of the program's fractions -/
structure FrB (P : Prog) : Prop where
  fu : P.fu = 1000000000
  number : P.fn 4 = some f_is_number
  long : P.fn 8 = some f_is_long
  numbers : P.fn 3 = some f_are_numbers
  tupled : P.fn 6 = some f_tupled
  common : P.fn 14 = some f_common
  lowest : P.fn 23 = some f_lowest
  less : P.fn 22 = some f_less
  under : P.fn 19 = some f_is_under
  isfr : P.fn 15 = some f_is_fraction_in
  near : P.fn 16 = some f_is_near_fraction
  gl0 : P.gl 0 = some (.int 1000000000000)
structure FrP (P : Prog) : Prop extends FrB P where
  plus : P.fn 32 = some f_plus
  times : P.fn 34 = some f_times
  lesser : P.fn 31 = some f_lesser_of
  greater : P.fn 30 = some f_greater_of
class FrC (α : Prop) (P : outParam Prog) : Prop where
  b : α → FrB P
instance {P : Prog} : FrC (FrB P) P := ⟨fun F => F⟩
instance {P : Prog} : FrC (FrP P) P := ⟨FrP.toFrB⟩
theorem common (h : P.fn 14 = some f_common) (fu : P.fu = 1000000000) (d : Nat) (a b : Int) (T : Store) (hb : b.natAbs < 2 ^ 100000) : callF P (d + 1) 14 [.int a, .int b] T = .ok (.int (Int.gcd a b)) T := by
  rw [callF_at h rfl]
  have e := common_loop (C := ⟨callF P d, P.gl, P.fu⟩) (T := T) 100000 a.natAbs b.natAbs P.fu hb (by rw [fu]; decide)
  simp [f_common, startE, putAll, e, Int.gcd]
theorem gcd_le {a b : Int} (h : b ≠ 0) : 1 ≤ Int.gcd a b ∧ Int.gcd a b ≤ b.natAbs := by
  have h1 := Int.gcd_pos_of_ne_zero_right a h
  exact ⟨h1, Nat.gcd_le_right _ (by omega)⟩
theorem sgn_num {a b : Int} (hb : b ≠ 0) : a.fdiv ((Int.gcd a b : Int) * (if b < 0 then -1 else 1)) = (Rat.divInt a b).num := by
  rw [Rat.num_divInt, Int.gcd_comm b a]
  obtain ⟨c, hc⟩ := Int.gcd_dvd_left a b
  have hp := (gcd_le (a := a) hb).1
  generalize Int.gcd a b = g at *
  have g0 : (g : Int) ≠ 0 := by omega
  by_cases h : b < 0
  · rw [if_pos h, Int.sign_eq_neg_one_of_neg h, hc]
    have e1 : (g : Int) * c = (g * -1) * (-c) := by grind
    have e2 : -1 * ((g : Int) * c) = g * (-c) := by grind
    rw [e2, Int.mul_ediv_cancel_left _ g0]
    conv => lhs; rw [e1]
    rw [Int.mul_fdiv_cancel_left _ (by omega)]
  · rw [if_neg h, Int.sign_eq_one_of_pos (by omega), hc, Int.mul_one, Int.one_mul, Int.mul_ediv_cancel_left _ g0, Int.mul_fdiv_cancel_left _ g0]
theorem sgn_den {a b : Int} (hb : b ≠ 0) : b.fdiv ((Int.gcd a b : Int) * (if b < 0 then -1 else 1)) = ((Rat.divInt a b).den : Int) := by
  rw [Rat.den_divInt, if_neg hb, Int.gcd_comm b a]
  obtain ⟨c, hc⟩ := Int.gcd_dvd_right a b
  have hp := (gcd_le (a := a) hb).1
  generalize Int.gcd a b = g at *
  have g0 : (g : Int) ≠ 0 := by omega
  have e : b.natAbs = g * c.natAbs := by rw [hc, Int.natAbs_mul]; rfl
  rw [e, Nat.mul_div_cancel_left _ (by omega)]
  by_cases h : b < 0
  · rw [if_pos h]
    have hcn : c < 0 := by
      rcases Int.lt_or_le c 0 with q | q
      · exact q
      · have := Int.mul_nonneg (show (0 : Int) ≤ g by omega) q; omega
    have e1 : b = (g * -1) * (-c) := by grind
    conv => lhs; arg 1; rw [e1]
    rw [Int.mul_fdiv_cancel_left _ (by omega)]; omega
  · rw [if_neg h, Int.mul_one]
    have hcn : 0 ≤ c := by
      rcases Int.lt_or_le c 0 with q | q
      · have := Int.mul_neg_of_pos_of_neg (show (0 : Int) < g by omega) q; omega
      · exact q
    conv => lhs; arg 1; rw [hc]
    rw [Int.mul_fdiv_cancel_left _ g0]; omega
theorem lowest {α : Prop} [FrC α P] (F : α) (d : Nat) (a b : Int) (T : Store) (h0 : b ≠ 0) (hb : b.natAbs < 2 ^ 8000) : callF P (d + 2) 23 [.int a, .int b] T = .ok (fr (Rat.divInt a b)) T := by
  have F : FrB P := FrC.b F
  rw [callF_at F.lowest rfl]
  have e := common F.common F.fu d a b T (Nat.lt_of_lt_of_le hb (Nat.pow_le_pow_right (by decide) (by decide)))
  have g1 := gcd_le (a := a) h0
  have n1 := sgn_num (a := a) h0
  have n2 := sgn_den (a := a) h0
  have small : ∀ s : Int, s = 1 ∨ s = -1 → divOk ((Int.gcd a b : Int) * s) = true := fun s hs => by
    unfold divOk
    have : ((Int.gcd a b : Int) * s).natAbs = Int.gcd a b := by rw [Int.natAbs_mul]; rcases hs with rfl | rfl <;> simp
    have z : (Int.gcd a b : Int) * s ≠ 0 := by rcases hs with rfl | rfl <;> omega
    simp only [this, Bool.and_eq_true, decide_eq_true_eq]
    exact ⟨z, by omega⟩
  unfold fr
  rw [← n1, ← n2]
  by_cases h : b < 0
  · have s := small (-1) (.inr rfl)
    have m : mulOk (Int.gcd a b : Int) (-1) = true := mulOk_r (by decide)
    simp only [if_pos h]
    generalize (Int.gcd a b : Int) = g at *
    simp [f_lowest, startE, e, h, m] at s ⊢
    simp [s]
  · have s := small 1 (.inl rfl)
    have m : mulOk (Int.gcd a b : Int) 1 = true := mulOk_r (by decide)
    simp only [if_neg h]
    generalize (Int.gcd a b : Int) = g at *
    simp [f_lowest, startE, e, h, m] at s ⊢
    simp [s]
end PU
end

section
set_option linter.all false
set_option autoImplicit false
set_option exponentiation.threshold 100000
set_option maxRecDepth 20000
/-! fractions: operations -/
namespace PU
open MP IR
variable {P : Prog}
/-- of a size -/
def Bd (N D : Nat) (q : Rat) : Prop := q.num.natAbs ≤ N ∧ q.den ≤ D
abbrev Sz (q : Rat) : Prop := Bd (2 ^ 1000) (2 ^ 1000) q
theorem Bd.mono {N D N' D' : Nat} {q : Rat} (h : Bd N D q) (h1 : N ≤ N') (h2 : D ≤ D') : Bd N' D' q := ⟨Nat.le_trans h.1 h1, Nat.le_trans h.2 h2⟩
theorem divInt_bd {a b : Int} {N D : Nat} (hb : b ≠ 0) (h1 : a.natAbs ≤ N) (h2 : b.natAbs ≤ D) : Bd N D (Rat.divInt a b) := by
  refine ⟨?_, ?_⟩
  · rw [Rat.num_divInt, Int.natAbs_ediv_of_dvd]
    · rw [Int.natAbs_mul]
      have : b.sign.natAbs = 1 := Int.natAbs_sign_of_ne_zero hb
      rw [this, Nat.one_mul]
      exact Nat.le_trans (Nat.div_le_self _ _) h1
    · exact Int.dvd_mul_of_dvd_right (Int.gcd_dvd_right b a)
  · rw [Rat.den_divInt, if_neg hb]
    exact Nat.le_trans (Nat.div_le_self _ _) h2
theorem mkRat_div (n : Int) (d : Nat) : mkRat n d = Rat.divInt n (d : Int) := rfl
theorem add_div (p q : Rat) : p + q = Rat.divInt (p.num * q.den + q.num * p.den) (p.den * q.den) := by rw [Rat.add_def', mkRat_div, Int.natCast_mul]
theorem sub_div (p q : Rat) : p - q = Rat.divInt (p.num * q.den - q.num * p.den) (p.den * q.den) := by rw [Rat.sub_def', mkRat_div, Int.natCast_mul]
theorem mul_div (p q : Rat) : p * q = Rat.divInt (p.num * q.num) (p.den * q.den) := by rw [Rat.mul_def', mkRat_div, Int.natCast_mul]
theorem den0 (p q : Rat) : (p.den : Int) * q.den ≠ 0 := by
  have h1 := p.den_pos
  have h2 := q.den_pos
  exact Int.mul_ne_zero (by omega) (by omega)
theorem den_abs (p q : Rat) : ((p.den : Int) * q.den).natAbs = p.den * q.den := by rw [Int.natAbs_mul]; rfl
theorem add_bd {N D N' D' : Nat} {p q : Rat} (h : Bd N D p) (h' : Bd N' D' q) : Bd (N * D' + N' * D) (D * D') (p + q) := by
  rw [add_div]
  refine divInt_bd (den0 p q) (Nat.le_trans (Int.natAbs_add_le _ _) ?_) (by rw [den_abs]; exact Nat.mul_le_mul h.2 h'.2)
  rw [Int.natAbs_mul, Int.natAbs_mul]
  exact Nat.add_le_add (Nat.mul_le_mul h.1 h'.2) (Nat.mul_le_mul h'.1 h.2)
theorem sub_bd {N D N' D' : Nat} {p q : Rat} (h : Bd N D p) (h' : Bd N' D' q) : Bd (N * D' + N' * D) (D * D') (p - q) := by
  rw [sub_div]
  refine divInt_bd (den0 p q) (Nat.le_trans (Int.natAbs_sub_le _ _) ?_) (by rw [den_abs]; exact Nat.mul_le_mul h.2 h'.2)
  rw [Int.natAbs_mul, Int.natAbs_mul]
  exact Nat.add_le_add (Nat.mul_le_mul h.1 h'.2) (Nat.mul_le_mul h'.1 h.2)
theorem mul_bd {N D N' D' : Nat} {p q : Rat} (h : Bd N D p) (h' : Bd N' D' q) : Bd (N * N') (D * D') (p * q) := by
  rw [mul_div]
  refine divInt_bd (den0 p q) ?_ (by rw [den_abs]; exact Nat.mul_le_mul h.2 h'.2)
  rw [Int.natAbs_mul]
  exact Nat.mul_le_mul h.1 h'.1
theorem mulOk_sz {a b : Int} (h : a.natAbs ≤ 2 ^ 1000) (h' : b.natAbs ≤ 2 ^ 1000) : mulOk a b = true := by
  have k : (2 : Nat) ^ 1000 < 2 ^ 100000 := Nat.pow_lt_pow_right (by decide) (by decide)
  have h1 : a.natAbs < 2 ^ 100000 := Nat.lt_of_le_of_lt h k
  have h2 : b.natAbs < 2 ^ 100000 := Nat.lt_of_le_of_lt h' k
  unfold mulOk
  simp only [h1, h2, decide_true, Bool.and_self, Bool.or_true]
theorem den_sz {p q : Rat} (h : Sz p) (h' : Sz q) : ((p.den : Int) * q.den).natAbs < 2 ^ 8000 := by
  rw [den_abs]
  have h1 := Nat.mul_le_mul h.2 h'.2
  rw [← Nat.pow_add] at h1
  exact Nat.lt_of_le_of_lt h1 (Nat.pow_lt_pow_right (by decide) (by decide))
theorem fr_i0 (T : Store) (q : Rat) : index T (fr q) (.int 0) = some (.int q.num) := rfl
theorem fr_i1 (T : Store) (q : Rat) : index T (fr q) (.int 1) = some (.int q.den) := rfl
theorem plus (F : FrP P) (d : Nat) {p q : Rat} (T : Store) (hp : Sz p) (hq : Sz q) : callF P (d + 3) 32 [fr p, fr q] T = .ok (fr (p + q)) T := by
  rw [callF_at F.plus rfl, add_div]
  have e := lowest F d (p.num * q.den + q.num * p.den) (p.den * q.den) T (den0 p q) (den_sz hp hq)
  have m1 : mulOk p.num q.den = true := mulOk_sz hp.1 hq.2
  have m2 : mulOk q.num p.den = true := mulOk_sz hq.1 hp.2
  have m3 : mulOk p.den q.den = true := mulOk_sz hp.2 hq.2
  simp [f_plus, startE, fr_i0, fr_i1, m1, m2, m3, e]
theorem less {α : Prop} [FrC α P] (F : α) (d : Nat) {p q : Rat} (T : Store) (hp : Sz p) (hq : Sz q) : callF P (d + 3) 22 [fr p, fr q] T = .ok (fr (p - q)) T := by
  have F : FrB P := FrC.b F
  rw [callF_at F.less rfl, sub_div]
  have e := lowest F d (p.num * q.den - q.num * p.den) (p.den * q.den) T (den0 p q) (den_sz hp hq)
  have m1 : mulOk p.num q.den = true := mulOk_sz hp.1 hq.2
  have m2 : mulOk q.num p.den = true := mulOk_sz hq.1 hp.2
  have m3 : mulOk p.den q.den = true := mulOk_sz hp.2 hq.2
  simp [f_less, startE, fr_i0, fr_i1, m1, m2, m3, e]
theorem times (F : FrP P) (d : Nat) {p q : Rat} (T : Store) (hp : Sz p) (hq : Sz q) : callF P (d + 3) 34 [fr p, fr q] T = .ok (fr (p * q)) T := by
  rw [callF_at F.times rfl, mul_div]
  have e := lowest F d (p.num * q.num) (p.den * q.den) T (den0 p q) (den_sz hp hq)
  have m1 : mulOk p.num q.num = true := mulOk_sz hp.1 hq.1
  have m3 : mulOk p.den q.den = true := mulOk_sz hp.2 hq.2
  simp [f_times, startE, fr_i0, fr_i1, m1, m3, e]
theorem under {α : Prop} [FrC α P] (F : α) (d : Nat) {p q : Rat} (T : Store) (hp : Sz p) (hq : Sz q) : callF P (d + 1) 19 [fr p, fr q] T = .ok (.bl (decide (p < q))) T := by
  have F : FrB P := FrC.b F
  rw [callF_at F.under rfl]
  have m1 : mulOk p.num q.den = true := mulOk_sz hp.1 hq.2
  have m2 : mulOk q.num p.den = true := mulOk_sz hq.1 hp.2
  simp [f_is_under, startE, fr_i0, fr_i1, m1, m2, Rat.lt_iff]
theorem lesser (F : FrP P) (d : Nat) {p q : Rat} (T : Store) (hp : Sz p) (hq : Sz q) : callF P (d + 2) 31 [fr p, fr q] T = .ok (fr (if p < q then p else q)) T := by
  rw [callF_at F.lesser rfl]
  have e := under F d T hp hq
  by_cases h : p < q <;> simp [f_lesser_of, startE, e, h]
theorem greater (F : FrP P) (d : Nat) {p q : Rat} (T : Store) (hp : Sz p) (hq : Sz q) : callF P (d + 2) 30 [fr p, fr q] T = .ok (fr (if p < q then q else p)) T := by
  rw [callF_at F.greater rfl]
  have e := under F d T hp hq
  by_cases h : p < q <;> simp [f_greater_of, startE, e, h]
/-! ### what fractions are -/
theorem common_fr {α : Prop} [FrC α P] (F : α) (d : Nat) (q : Rat) (T : Store) (h : q.den ≤ 2 ^ 1000) : callF P (d + 1) 14 [.int q.num, .int q.den] T = .ok (.int 1) T := by
  have F : FrB P := FrC.b F
  rw [common F.common F.fu d q.num q.den T (Nat.lt_of_le_of_lt h (Nat.pow_lt_pow_right (by decide) (by decide)))]
  have : Int.gcd q.num q.den = 1 := q.reduced
  rw [this]; rfl
theorem isfr {α : Prop} [FrC α P] (F : α) (d : Nat) (q : Rat) (T : Store) (h : q.den ≤ 2 ^ 1000) : callF P (d + 3) 15 [fr q] T = .ok (.bl true) T := by
  have F : FrB P := FrC.b F
  rw [callF_at F.isfr rfl]
  have e1 := is_long F.long (d + 1) [.int q.num, .int (q.den : Int)] 2 T
  have e2 := are_numbers F.number F.numbers d [q.num, (q.den : Int)] T (by show 2 ≤ line; decide)
  have e3 := common_fr F (d + 1) q T h
  have hp := q.den_pos
  simp [intz] at e1 e2
  unfold fr
  simp [f_is_fraction_in, startE, e1, e2, e3, index, ixn, hp]
theorem near {α : Prop} [FrC α P] (F : α) (d : Nat) (q : Rat) (T : Store) (h : Bd 1000000000000 1000000000000 q) : callF P (d + 4) 16 [fr q] T = .ok (.bl true) T := by
  have F : FrB P := FrC.b F
  rw [callF_at F.near rfl]
  have e1 := isfr F d q T (Nat.le_trans h.2 (Nat.le_trans (by decide : 1000000000000 ≤ 2 ^ 40) (Nat.pow_le_pow_right (by decide) (by decide))))
  have h1 := h.1
  have h2 := h.2
  have h3 : (if (q.den : Int) > (q.num.natAbs : Int) then (q.den : Int) else (q.num.natAbs : Int)) ≤ 1000000000000 := by split <;> omega
  have g := F.gl0
  simp only [f_is_near_fraction, startE, ss_cons, s_ret, e_an, an_cons, e_call, a_cons, a_nil, e_var, g_v, List.map_cons, List.map_nil, List.length_cons, List.length_nil, List.append_nil, Nat.sub_self, List.replicate_zero, Res.bind_ok, Res.of_some, List.getElem?_cons_zero, e1, anK_t, an_one, e_cmp, e_bi, e_idx, e_con, fr_i0, fr_i1, bi_abs, bi_max2, e_glo, g, co_le, Option.map_some, h3, decide_true, Res.s_ok, seqE_rt, o_rt]
end PU
end

section
set_option linter.all false
set_option autoImplicit false
set_option exponentiation.threshold 100000
set_option maxRecDepth 20000
/-! fractions: the law's own -/
namespace PU
open MP IR
variable {P : Prog}
structure FrL (P : Prog) : Prop where
  gcd : P.fn 35 = some f_law_gcd
  cut : P.fn 51 = some f_law_cut
theorem gcd_one {C : Ctx} {T : Store} {a b : Nat} {x : PV} {s : SV} {xs : List PV} (hb : b ≠ 0) : loopS (turn C (.nm 2) b_law_gcd_0) (x :: xs) [.va (.int a), .va (.int b), s] T =
    loopS (turn C (.nm 2) b_law_gcd_0) xs [.va (.int b), .va (.int (a % b : Nat)), .un] T := by
  have hb' : (b : Int) ≠ 0 := by omega
  have hb2 : ((b : Int) == 0) = false := by simpa using hb
  refine loopS_cons ?_
  simp [b_law_gcd_0, hb2, putAll, hb', fmod_nat, hb]
theorem gcd_end {C : Ctx} {T : Store} {a : Nat} {x : PV} {s : SV} {xs : List PV} : loopS (turn C (.nm 2) b_law_gcd_0) (x :: xs) [.va (.int a), .va (.int (0 : Nat)), s] T = .nx [.va (.int a), .un, .un] T := by
  rw [loopS]
  simp [b_law_gcd_0]
theorem gcd_loop {C : Ctx} {T : Store} : ∀ (n : Nat) (a b : Nat) (xs : List PV) (s : SV), b < 2 ^ n → 2 * n + 1 ≤ xs.length → loopS (turn C (.nm 2) b_law_gcd_0) xs [.va (.int a), .va (.int b), s] T = .nx [.va (.int (Nat.gcd a b)), .un, .un] T
  | n, a, b, [], s, hb, hk => by simp at hk
  | n, a, b, x :: xs, s, hb, hk => by
    by_cases h0 : b = 0
    · subst h0
      rw [gcd_end, Nat.gcd_zero_right]
    · cases n with
      | zero => simp at hb; exact absurd hb h0
      | succ n =>
        rw [gcd_one h0]
        cases xs with
        | nil => simp at hk
        | cons y xs =>
          rw [List.length_cons, List.length_cons] at hk
          by_cases h1 : a % b = 0
          · rw [h1, gcd_end, ← gcd_step a b, h1, Nat.gcd_zero_right]
          · rw [gcd_one h1, gcd_loop n (a % b) (b % (a % b)) xs _ (half hb (by omega) (by omega)) (by omega), gcd_step, gcd_step]
theorem law_gcd (h : P.fn 35 = some f_law_gcd) (d : Nat) (a b : Int) (T : Store) (hb : b.natAbs < 2 ^ 4000) : callF P (d + 1) 35 [.int a, .int b] T = .ok (.int (Int.gcd a b)) T := by
  rw [callF_at h rfl]
  have l : (rng 0 9000).length = 9000 := by rw [rng_len]; decide
  have s : smallR 9000 = true := by decide
  have e := gcd_loop (C := ⟨callF P d, P.gl, P.fu⟩) (T := T) 4000 a.natAbs b.natAbs (rng 0 9000) .un hb (by rw [l]; decide)
  simp [f_law_gcd, startE, putAll, s, e, Int.gcd]
theorem cut_ (F : FrL P) (d : Nat) (a b : Int) (T : Store) (h0 : b ≠ 0) (hb : b.natAbs < 2 ^ 4000) : callF P (d + 2) 51 [.int a, .int b] T = .ok (fr (Rat.divInt a b)) T := by
  rw [callF_at F.cut rfl]
  have e := law_gcd F.gcd d a b T hb
  have g1 := gcd_le (a := a) h0
  have n1 := sgn_num (a := a) h0
  have n2 := sgn_den (a := a) h0
  have k : (2 : Nat) ^ 4000 ≤ 2 ^ 8000 := Nat.pow_le_pow_right (by decide) (by decide)
  have small : ∀ s : Int, s = 1 ∨ s = -1 → divOk ((Int.gcd a b : Int) * s) = true := fun s hs => by
    unfold divOk
    have : ((Int.gcd a b : Int) * s).natAbs = Int.gcd a b := by rw [Int.natAbs_mul]; rcases hs with rfl | rfl <;> simp
    have z : (Int.gcd a b : Int) * s ≠ 0 := by rcases hs with rfl | rfl <;> omega
    simp only [this, Bool.and_eq_true, decide_eq_true_eq]
    exact ⟨z, Nat.lt_of_le_of_lt g1.2 (Nat.lt_of_lt_of_le hb k)⟩
  unfold fr
  rw [← n1, ← n2]
  by_cases h : b < 0
  · have s := small (-1) (.inr rfl)
    have h' : ¬ 0 < b := by omega
    simp only [if_pos h]
    have z : (Int.gcd a b : Int) * -1 = - (Int.gcd a b : Int) := by omega
    rw [z] at s ⊢
    generalize (Int.gcd a b : Int) = g at *
    simp [f_law_cut, startE, e, h']
    simp [s]
  · have s := small 1 (.inl rfl)
    have h' : 0 < b := by omega
    simp only [if_neg h]
    rw [Int.mul_one] at s ⊢
    generalize (Int.gcd a b : Int) = g at *
    simp [f_law_cut, startE, e, h']
    simp [s]
theorem den_sz' {p q : Rat} (h : Sz p) (h' : Sz q) : ((p.den : Int) * q.den).natAbs < 2 ^ 4000 := by
  rw [den_abs]
  have h1 := Nat.mul_le_mul h.2 h'.2
  rw [← Nat.pow_add] at h1
  exact Nat.lt_of_le_of_lt h1 (Nat.pow_lt_pow_right (by decide) (by decide))
theorem law_plus (F : FrL P) (h : P.fn 57 = some f_law_plus) (d : Nat) {p q : Rat} (T : Store) (hp : Sz p) (hq : Sz q) : callF P (d + 3) 57 [fr p, fr q] T = .ok (fr (p + q)) T := by
  rw [callF_at h rfl, add_div]
  have e := cut_ F d (p.num * q.den + q.num * p.den) (p.den * q.den) T (den0 p q) (den_sz' hp hq)
  have m1 : mulOk p.num q.den = true := mulOk_sz hp.1 hq.2
  have m2 : mulOk q.num p.den = true := mulOk_sz hq.1 hp.2
  have m3 : mulOk p.den q.den = true := mulOk_sz hp.2 hq.2
  simp [f_law_plus, startE, fr_i0, fr_i1, m1, m2, m3, e]
theorem law_less (F : FrL P) (h : P.fn 62 = some f_law_less) (d : Nat) {p q : Rat} (T : Store) (hp : Sz p) (hq : Sz q) : callF P (d + 3) 62 [fr p, fr q] T = .ok (fr (p - q)) T := by
  rw [callF_at h rfl, sub_div]
  have e := cut_ F d (p.num * q.den - q.num * p.den) (p.den * q.den) T (den0 p q) (den_sz' hp hq)
  have m1 : mulOk p.num q.den = true := mulOk_sz hp.1 hq.2
  have m2 : mulOk q.num p.den = true := mulOk_sz hq.1 hp.2
  have m3 : mulOk p.den q.den = true := mulOk_sz hp.2 hq.2
  simp [f_law_less, startE, fr_i0, fr_i1, m1, m2, m3, e]
theorem law_by (F : FrL P) (h : P.fn 61 = some f_law_by) (d : Nat) {p q : Rat} (T : Store) (hp : Sz p) (hq : Sz q) : callF P (d + 3) 61 [fr p, fr q] T = .ok (fr (p * q)) T := by
  rw [callF_at h rfl, mul_div]
  have e := cut_ F d (p.num * q.num) (p.den * q.den) T (den0 p q) (den_sz' hp hq)
  have m1 : mulOk p.num q.num = true := mulOk_sz hp.1 hq.1
  have m3 : mulOk p.den q.den = true := mulOk_sz hp.2 hq.2
  simp [f_law_by, startE, fr_i0, fr_i1, m1, m3, e]
theorem law_under (h : P.fn 72 = some f_law_under) (d : Nat) {p q : Rat} (T : Store) (hp : Sz p) (hq : Sz q) : callF P (d + 1) 72 [fr p, fr q] T = .ok (.bl (decide (p < q))) T := by
  rw [callF_at h rfl]
  have m1 : mulOk p.num q.den = true := mulOk_sz hp.1 hq.2
  have m2 : mulOk q.num p.den = true := mulOk_sz hq.1 hp.2
  simp [f_law_under, startE, fr_i0, fr_i1, m1, m2, Rat.lt_iff]
/-! ### calls of doors, refusals -/
structure DoP (P : Prog) : Prop where
  call : P.fn 11 = some f_law_call
  slip : P.fn 12 = some f_law_slip
  mark : P.fn 52 = some f_law_unmarked
  heard : P.fn 44 = some f_law_heard
theorem door (h : P.fn 11 = some f_law_call) (d f : Nat) (g : PV) (xs : List PV) (T : Store) (hg : g = .tup xs ∨ g = .lst xs) (h1 : 1 ≤ xs.length) (h2 : xs.length ≤ 5) : callF P (d + 1) 11 [.fn f, g] T = callF P d f xs T := by
  rw [callF_at h rfl]
  have fin : ∀ r : Res PV, ofSR (r.s fun v T => .rt v T) = r := fun r => by cases r <;> rfl
  match xs, h1, h2 with
  | [a], _, _ => rcases hg with rfl | rfl <;> (simp [f_law_call, startE, index, ixn]; cases callF P d f [a] T <;> rfl)
  | [a, b], _, _ => rcases hg with rfl | rfl <;> (simp [f_law_call, startE, index, ixn]; cases callF P d f [a, b] T <;> rfl)
  | [a, b, c], _, _ => rcases hg with rfl | rfl <;> (simp [f_law_call, startE, index, ixn]; cases callF P d f [a, b, c] T <;> rfl)
  | [a, b, c, e], _, _ => rcases hg with rfl | rfl <;> (simp [f_law_call, startE, index, ixn]; cases callF P d f [a, b, c, e] T <;> rfl)
  | [a, b, c, e, i], _, _ => rcases hg with rfl | rfl <;> (simp [f_law_call, startE, index, ixn]; cases callF P d f [a, b, c, e, i] T <;> rfl)
/-- the word of a refusal -/
def word : Nat → PySem.Str
  | 0 => PySem.Str.ofString "unfit"
  | 1 => PySem.Str.ofString "can not"
  | _ => PySem.Str.ofString "many"
theorem slip_ok (D : DoP P) (d f : Nat) (g : PV) (xs : List PV) (v : PV) (T T' : Store) (hg : g = .tup xs ∨ g = .lst xs) (h1 : 1 ≤ xs.length) (h2 : xs.length ≤ 5) (e : callF P d f xs T = .ok v T') : callF P (d + 2) 12 [.fn f, g] T = .ok (.str (PySem.Str.ofString "told")) T' := by
  rw [callF_at D.slip rfl]
  have e2 := door D.call d f g xs T hg h1 h2
  rw [e] at e2
  simp [f_law_slip, startE, e2]
theorem slip_ex (D : DoP P) (d f n : Nat) (g : PV) (xs : List PV) (T T' : Store) (hg : g = .tup xs ∨ g = .lst xs) (h1 : 1 ≤ xs.length) (h2 : xs.length ≤ 5) (hn : n ≤ 2) (e : callF P d f xs T = .ex ⟨n, []⟩ T') : callF P (d + 2) 12 [.fn f, g] T = .ok (.str (word n)) T' := by
  rw [callF_at D.slip rfl]
  have e2 := door D.call d f g xs T hg h1 h2
  rw [e] at e2
  have : n = 0 ∨ n = 1 ∨ n = 2 := by omega
  rcases this with rfl | rfl | rfl <;> simp [f_law_slip, startE, e2, triM, hit, word]
/-- not a mark: what the unmarked gives back as it is -/
def noMark : PV → Bool
  | .lst (.str _ :: _) => false
  | .st _ => false
  | .cel _ => false
  | .fn _ => false
  | .lst (.st _ :: _) => false
  | .lst (.cel _ :: _) => false
  | .lst (.fn _ :: _) => false
  | _ => true
theorem unmarked (h : P.fn 52 = some f_law_unmarked) (d : Nat) (v : PV) (T : Store) (hv : noMark v = true) : callF P (d + 1) 52 [v] T = .ok v T := by
  rw [callF_at h rfl]
  cases v with
  | lst xs =>
    cases xs with
    | nil => simp [f_law_unmarked, startE, isTys, isTy]
    | cons x xs =>
      have p : (0 : Int) < (xs.length : Int) + 1 := by omega
      cases x <;> first | (simp [noMark] at hv; done) | simp [f_law_unmarked, startE, isTys, isTy, index, ixn, p]
  | st _ => cases hv
  | cel _ => cases hv
  | fn _ => cases hv
  | _ => simp [f_law_unmarked, startE, isTys, isTy]
theorem heard_ok (D : DoP P) (d f : Nat) (g : PV) (xs : List PV) (v : PV) (T : Store) (hg : g = .tup xs ∨ g = .lst xs) (h1 : 1 ≤ xs.length) (h2 : xs.length ≤ 5) (e : ∀ i, callF P (d + i) f xs T = .ok v T) (hv : noMark v = true) : callF P (d + 3) 44 [.fn f, g] T = .ok v T := by
  rw [callF_at D.heard rfl]
  have e1 := slip_ok D d f g xs v T T hg h1 h2 (e 0)
  have e3 := door D.call (d + 1) f g xs T hg h1 h2
  rw [e 1] at e3
  have e4 := unmarked D.mark (d + 1) v T hv
  have q : inop (.str (PySem.Str.ofString "told")) (.tup [.str (PySem.Str.ofString "unfit"), .str (PySem.Str.ofString "can not"), .str (PySem.Str.ofString "many"), .str (PySem.Str.ofString "odd")]) = some false := by decide +kernel
  simp [f_law_heard, startE, e1, e3, e4, q]
theorem heard_ex (D : DoP P) (d f n : Nat) (g : PV) (xs : List PV) (T : Store) (hg : g = .tup xs ∨ g = .lst xs) (h1 : 1 ≤ xs.length) (h2 : xs.length ≤ 5) (hn : n ≤ 2) (e : callF P d f xs T = .ex ⟨n, []⟩ T) : callF P (d + 3) 44 [.fn f, g] T = .ok (.lst [.str (word n), .bl true]) T := by
  rw [callF_at D.heard rfl]
  have e1 := slip_ex D d f n g xs T T hg h1 h2 hn e
  have q : ∀ n : Nat, n ≤ 2 → inop (.str (word n)) (.tup [.str (PySem.Str.ofString "unfit"), .str (PySem.Str.ofString "can not"), .str (PySem.Str.ofString "many"), .str (PySem.Str.ofString "odd")]) = some true := by decide +kernel
  simp [f_law_heard, startE, e1, q n hn]
end PU
end

section
set_option linter.all false
set_option autoImplicit false
set_option exponentiation.threshold 100000
set_option maxRecDepth 20000
/-! rows mixed, made tuples again -/
namespace PU
open MP IR
variable {P : Prog}
mutual
/-- all rows as tuples -/
def tp : PV → PV
  | .tup xs => .tup (tps xs)
  | .lst xs => .tup (tps xs)
  | .non => .non
  | .bl b => .bl b
  | .int i => .int i
  | .str x => .str x
  | .st xs => .st xs
  | .cel n => .cel n
  | .fn n => .fn n
def tps : List PV → List PV
  | [] => []
  | x :: xs => tp x :: tps xs
end
theorem tps_map : ∀ xs : List PV, tps xs = xs.map tp
  | [] => rfl
  | x :: xs => by rw [tps, tps_map xs]; rfl
@[simp] theorem tp_tup (xs : List PV) : tp (.tup xs) = .tup (xs.map tp) := by rw [tp, tps_map]
@[simp] theorem tp_lst (xs : List PV) : tp (.lst xs) = .tup (xs.map tp) := by rw [tp, tps_map]
@[simp] theorem tp_int (i : Int) : tp (.int i) = .int i := by rw [tp]
@[simp] theorem tp_bl (i : Bool) : tp (.bl i) = .bl i := by rw [tp]
@[simp] theorem tp_non : tp .non = .non := by rw [tp]
@[simp] theorem tp_str (i : PySem.Str) : tp (.str i) = .str i := by rw [tp]
mutual
/-- how many rows -/
def rws : PV → Nat
  | .tup xs => rwss xs + 1
  | .lst xs => rwss xs + 1
  | .non => 0
  | .bl _ => 0
  | .int _ => 0
  | .str _ => 0
  | .st _ => 0
  | .cel _ => 0
  | .fn _ => 0
def rwss : List PV → Nat
  | [] => 0
  | x :: xs => rws x + rwss xs
end
theorem rwss_map : ∀ xs : List PV, rwss xs = (xs.map rws).sum
  | [] => rfl
  | x :: xs => by rw [rwss, rwss_map xs]; rfl
@[simp] theorem rws_tup (xs : List PV) : rws (.tup xs) = (xs.map rws).sum + 1 := by rw [rws, rwss_map]
@[simp] theorem rws_lst (xs : List PV) : rws (.lst xs) = (xs.map rws).sum + 1 := by rw [rws, rwss_map]
@[simp] theorem rws_int (i : Int) : rws (.int i) = 0 := by rw [rws]
@[simp] theorem rws_bl (i : Bool) : rws (.bl i) = 0 := by rw [rws]
@[simp] theorem rws_non : rws .non = 0 := by rw [rws]
theorem dat_up : ∀ {n m : Nat} {v : PV}, n ≤ m → dat n v = true → dat m v = true
  | 0, 0, v, _, h => h
  | 0, m + 1, v, _, h => by cases v <;> first | exact h | cases h
  | n + 1, 0, v, hn, h => by omega
  | n + 1, m + 1, v, hn, h => by
    have row : ∀ xs : List PV, (decide (xs.length ≤ line) && xs.all (dat n)) = true → (decide (xs.length ≤ line) && xs.all (dat m)) = true := fun xs h => by
      rw [Bool.and_eq_true, List.all_eq_true] at h ⊢
      exact ⟨h.1, fun x hx => dat_up (by omega) (h.2 x hx)⟩
    cases v with
    | tup xs => exact row xs h
    | lst xs => exact row xs h
    | _ => exact h
set_option maxHeartbeats 1000000
theorem tupled (h : P.fn 6 = some f_tupled) : ∀ (n : Nat) (v : PV), dat n v = true → ∀ (d : Nat) (T : Store), callF P (d + n + 1) 6 [v] T = .ok (tp v) T := by
  have scal : ∀ (v : PV), dat 0 v = true → ∀ (d : Nat) (T : Store), callF P (d + 1) 6 [v] T = .ok (tp v) T := by
    intro v hv d T
    rw [callF_at h rfl]
    cases v <;> first | (cases hv; done) | simp [f_tupled, startE, isTys, isTy]
  intro n
  induction n with
  | zero => exact fun v hv d T => scal v hv d T
  | succ n ih =>
    intro v hv d T
    have row : ∀ xs : List PV, xs.length ≤ line → (∀ x ∈ xs, dat n x = true) → ∀ (f : PV → Store → Res (List PV)), (∀ v ∈ xs, f v T = .ok [tp v] T) → compR (loopC f xs T) = .ok (.lst (xs.map tp)) T := fun xs hl hx f hf => by
      rw [loopC_map (g := tp) hf, compR_ok (by rw [List.length_map]; exact hl)]
    cases v with
    | tup xs =>
      have hv : (decide (xs.length ≤ line) && xs.all (dat n)) = true := hv
      rw [Bool.and_eq_true, decide_eq_true_eq, List.all_eq_true] at hv
      rw [show d + (n + 1) + 1 = (d + n + 1) + 1 from by omega, callF_at h rfl]
      simp [f_tupled, startE, isTys, isTy]
      rw [row xs hv.1 hv.2 _ fun v hv2 => by simp [ih v (hv.2 v hv2)]]
      simp
    | lst xs =>
      have hv : (decide (xs.length ≤ line) && xs.all (dat n)) = true := hv
      rw [Bool.and_eq_true, decide_eq_true_eq, List.all_eq_true] at hv
      rw [show d + (n + 1) + 1 = (d + n + 1) + 1 from by omega, callF_at h rfl]
      simp [f_tupled, startE, isTys, isTy]
      rw [row xs hv.1 hv.2 _ fun v hv2 => by simp [ih v (hv.2 v hv2)]]
      simp
    | non => exact scal .non rfl _ T
    | bl b => exact scal (.bl b) rfl _ T
    | int i => exact scal (.int i) rfl _ T
    | str x => exact scal (.str x) hv _ T
    | _ => cases hv
/-- each turn draws: its own count -/
theorem loopC_drawS {f : PV → Store → Res (List PV)} {c : PV → Nat} {N : Nat} {Q : PV → PV → Prop} : ∀ {xs : List PV} {n : Nat} {T : Store}, Tin n T → n + (xs.map c).sum ≤ N → (∀ x ∈ xs, ∀ n T, Tin n T → n + c x ≤ N → ∃ v T', f x T = .ok [v] T' ∧ Q x v ∧ Tin (n + c x) T') →
    ∃ vs T', loopC f xs T = .ok vs T' ∧ vs.length = xs.length ∧ (∀ (i : Nat) x v, xs[i]? = some x → vs[i]? = some v → Q x v) ∧ Tin (n + (xs.map c).sum) T'
  | [], n, T, t, _, _ => ⟨[], T, rfl, rfl, fun i x v h => by simp at h, by simpa using t⟩
  | x :: xs, n, T, t, hN, h => by
    rw [List.map_cons, List.sum_cons] at hN ⊢
    obtain ⟨v, T1, e1, q1, t1⟩ := h x List.mem_cons_self n T t (by omega)
    obtain ⟨vs, T2, e2, l2, q2, t2⟩ := loopC_drawS (xs := xs) t1 (by omega) fun y hy => h y (List.mem_cons_of_mem _ hy)
    refine ⟨v :: vs, T2, by rw [loopC, e1, Res.bind_ok, e2]; rfl, by rw [List.length_cons, List.length_cons, l2], fun i y w hy hw => ?_, t2.mono (by omega)⟩
    cases i with
    | zero => simp at hy hw; subst hy hw; exact q1
    | succ i => simp at hy hw; exact q2 i y w hy hw
theorem map_ext {vs xs : List PV} {g : PV → PV} (hl : vs.length = xs.length) (h : ∀ (i : Nat) x v, xs[i]? = some x → vs[i]? = some v → g v = g x) : vs.map g = xs.map g := by
  apply List.ext_getElem?
  intro i
  rw [List.getElem?_map, List.getElem?_map]
  by_cases hi : i < xs.length
  · rw [List.getElem?_eq_getElem hi, List.getElem?_eq_getElem (by omega)]
    exact congrArg some (h i _ _ (List.getElem?_eq_getElem hi) (List.getElem?_eq_getElem (by omega)))
  · rw [List.getElem?_eq_none (by omega), List.getElem?_eq_none (by omega)]
/-- as drawn: rows either way -/
structure Mx (n : Nat) (v w : PV) : Prop where
  tp : tp w = tp v
  dat : dat n w = true
theorem mixed (h2 : P.fn 2 = some f_law_take) (h : P.fn 26 = some f_law_mixed) : ∀ (n : Nat) (v : PV), dat n v = true → ∀ (d m : Nat) (T : Store), Tin m T → m + rws v < 1000000000 → ∃ w T', callF P (d + n + 2) 26 [.cel 0, v] T = .ok w T' ∧ Mx n v w ∧ Tin (m + rws v) T' := by
  have scal : ∀ (v : PV), PU.dat 0 v = true → rws v = 0 → ∀ (d m : Nat) (T : Store), Tin m T → ∃ w T', callF P (d + 2) 26 [.cel 0, v] T = .ok w T' ∧ Mx 0 v w ∧ Tin (m + rws v) T' := by
    intro v hv h0 d m T t
    refine ⟨v, T, ?_, ⟨rfl, hv⟩, by rw [h0]; exact t⟩
    rw [callF_at h rfl]
    cases v <;> first | (cases hv; done) | simp [f_law_mixed, startE, isTys, isTy]
  have up : ∀ {n : Nat} {v w : PV}, Mx 0 v w → Mx n v w := fun k => ⟨k.tp, dat_up (Nat.zero_le _) k.dat⟩
  intro n
  induction n with
  | zero =>
    intro v hv d m T t hm
    refine scal v hv ?_ d m T t
    cases v <;> first | (cases hv; done) | rfl
  | succ n ih =>
    intro v hv d m T t hm
    have at_ : ∀ (v : PV), PU.dat 0 v = true → rws v = 0 → ∃ w T', callF P (d + (n + 1) + 2) 26 [.cel 0, v] T = .ok w T' ∧ Mx (n + 1) v w ∧ Tin (m + rws v) T' := fun v h1 h2 => by
      obtain ⟨w, T', a, b, c⟩ := scal v h1 h2 (d + n + 1) m T t
      exact ⟨w, T', a, up b, c⟩
    have row : ∀ (xs : List PV), xs.length ≤ line → (∀ x ∈ xs, PU.dat n x = true) → m + ((xs.map rws).sum + 1) < 1000000000 → ∀ (f : PV → Store → Res (List PV)), (∀ x T, f x T = (callF P (d + n + 2) 26 [.cel 0, x] T).bind fun v T => .ok [v] T) →
        ∃ ys T', loopC f xs T = .ok ys T' ∧ ys.length = xs.length ∧ ys.map PU.tp = xs.map PU.tp ∧ (∀ y ∈ ys, PU.dat n y = true) ∧ Tin (m + (xs.map rws).sum) T' := fun xs hl hx hm f hf => by
      obtain ⟨ys, T', e, l, q, t'⟩ := loopC_drawS (f := f) (c := rws) (N := 999999999) (Q := fun x y => Mx n x y) (xs := xs) t (by omega) fun x hx2 k T t hk => by
        obtain ⟨w, T', a, b, c⟩ := ih x (hx x hx2) d k T t (by omega)
        exact ⟨w, T', by rw [hf, a]; rfl, b, c⟩
      refine ⟨ys, T', e, l, map_ext l fun i x v a b => (q i x v a b).tp, fun y hy => ?_, t'⟩
      obtain ⟨i, hi⟩ := List.getElem?_of_mem hy
      have hi2 : i < xs.length := by rw [← l]; exact (List.getElem?_eq_some_iff.mp hi).1
      exact (q i _ y (List.getElem?_eq_getElem hi2) hi).dat
    have fin : ∀ (xs : List PV) (v : PV), (v = .tup xs ∨ v = .lst xs) → xs.length ≤ line → (∀ x ∈ xs, PU.dat n x = true) → m + ((xs.map rws).sum + 1) < 1000000000 → ∃ w T', callF P (d + (n + 1) + 2) 26 [.cel 0, v] T = .ok w T' ∧ Mx (n + 1) v w ∧ Tin (m + ((xs.map rws).sum + 1)) T' := fun xs v hv hl hx hm => by
      rw [show d + (n + 1) + 2 = (d + n + 2) + 1 from by omega, callF_at h rfl]
      have two : ∀ (ys : List PV) (T' : Store), Tin (m + (xs.map rws).sum) T' → ys.map PU.tp = xs.map PU.tp → ys.length = xs.length → (∀ y ∈ ys, PU.dat n y = true) → ∃ w T2, (∀ (r : Ss) (C : Ctx), C.cf = callF P (d + n + 2) → ∀ (ρ : Env) (hρ : ρ[0]? = some (.va (.cel 0))) (hρ2 : ρ[2]? = some (.va (.lst ys))), evalE C ρ T' (.ife (.cmp .eq (.call 2 (.cons (.var 0) (.cons (.con (.int 2)) .nil))) (.con (.int 0))) (.var 2) (.bi .tuple_ (.cons (.var 2) .nil))) = .ok w T2) ∧ Mx (n + 1) v w ∧ Tin (m + ((xs.map rws).sum + 1)) T2 := fun ys T' t' e1 e2 e3 => by
        obtain ⟨z, T2, e4, l1, l2, t2⟩ := take h2 (d := d + n + 1) t' (by omega) (b := 2) (by decide) (by decide)
        have dy : ∀ w : PV, w = .tup ys ∨ w = .lst ys → PU.dat (n + 1) w = true := fun w hw => by
          rcases hw with rfl | rfl
          · rw [dat_tup, Bool.and_eq_true, decide_eq_true_eq, List.all_eq_true]; exact ⟨by omega, e3⟩
          · rw [dat_lst, Bool.and_eq_true, decide_eq_true_eq, List.all_eq_true]; exact ⟨by omega, e3⟩
        have ty : ∀ w : PV, w = .tup ys ∨ w = .lst ys → PU.tp w = PU.tp v := fun w hw => by
          rcases hw with rfl | rfl <;> rcases hv with rfl | rfl <;> simp [e1]
        have hz : z = 0 ∨ z = 1 := by omega
        rcases hz with rfl | rfl
        · exact ⟨.lst ys, T2, fun r C hC ρ h0 h2' => by simp [h0, h2', hC, e4], ⟨ty _ (.inr rfl), dy _ (.inr rfl)⟩, t2⟩
        · exact ⟨.tup ys, T2, fun r C hC ρ h0 h2' => by simp [h0, h2', hC, e4], ⟨ty _ (.inl rfl), dy _ (.inl rfl)⟩, t2⟩
      rcases hv with rfl | rfl
      all_goals
        simp [f_law_mixed, startE, isTys, isTy, -e_ife]
        generalize hf : cturn _ _ _ _ _ _ = fB
        obtain ⟨ys, T', e1, l1, e2, e3, t'⟩ := row xs hl hx hm fB fun x T => by rw [← hf]; simp
        rw [e1, compR_ok (by omega)]
        obtain ⟨w, T2, e4, k, t2⟩ := two ys T' t' e2 l1 e3
        refine ⟨w, T2, ?_, k, t2⟩
        simp only [Res.s_ok, ofEnv_some, seqE_nx, ss_cons, s_ret]
        rw [e4 .nil _ rfl _ rfl rfl]
        simp
    cases v with
    | tup xs =>
      have hv : (decide (xs.length ≤ line) && xs.all (PU.dat n)) = true := hv
      rw [Bool.and_eq_true, decide_eq_true_eq, List.all_eq_true] at hv
      rw [rws_tup] at hm ⊢
      exact fin xs _ (.inl rfl) hv.1 hv.2 hm
    | lst xs =>
      have hv : (decide (xs.length ≤ line) && xs.all (PU.dat n)) = true := hv
      rw [Bool.and_eq_true, decide_eq_true_eq, List.all_eq_true] at hv
      rw [rws_lst] at hm ⊢
      exact fin xs _ (.inr rfl) hv.1 hv.2 hm
    | non => exact at_ .non rfl rfl
    | bl b => exact at_ (.bl b) rfl rfl
    | int i => exact at_ (.int i) rfl rfl
    | str x => exact at_ (.str x) hv rfl
    | _ => cases hv
end PU
end

section
set_option linter.all false
set_option autoImplicit false
set_option exponentiation.threshold 100000
set_option maxRecDepth 20000
set_option maxHeartbeats 1000000
/-! rectangles -/
namespace PU
open MP IR
variable {P : Prog}
@[simp] theorem tp_fr (q : Rat) : tp (fr q) = fr q := by simp [fr]
@[simp] theorem dat_fr (n : Nat) (q : Rat) : dat (n + 1) (fr q) = true := by simp [fr]; decide
@[simp] theorem rws_fr (q : Rat) : rws (fr q) = 1 := by simp [fr]
theorem fr_inj {p q : Rat} (h : fr p = fr q) : p = q := by
  unfold fr at h
  simp at h
  exact Rat.ext h.1 (by omega)
theorem pln_fr (n : Nat) (q : Rat) : pln (n + 1) (fr q) = true := by simp [fr]
theorem eqv_fr (p q : Rat) : eqv (fr p) (fr q) = decide (p = q) := by
  unfold fr
  simp
  rw [Bool.eq_iff_iff]
  simp
  exact ⟨fun h => Rat.ext h.1 (by omega), fun h => by subst h; exact ⟨rfl, rfl⟩⟩
/-- a rectangle -/
structure Rc where
  l : Rat
  b : Rat
  r : Rat
  t : Rat
def rc (R : Rc) : PV := .tup [fr R.l, fr R.b, fr R.r, fr R.t]
@[simp] theorem tp_rc (q : Rc) : tp (rc q) = rc q := by simp [rc]
@[simp] theorem dat_rc (n : Nat) (q : Rc) : dat (n + 2) (rc q) = true := by simp [rc]; decide
@[simp] theorem rws_rc (q : Rc) : rws (rc q) = 5 := by simp [rc]
/-- all four of a size -/
def RB (N D : Nat) (R : Rc) : Prop := Bd N D R.l ∧ Bd N D R.b ∧ Bd N D R.r ∧ Bd N D R.t
def Rc.ok (R : Rc) : Prop := R.l < R.r ∧ R.b < R.t
abbrev nearB : Nat := 1000000000000
theorem near_sz : nearB ≤ 2 ^ 1000 := Nat.le_trans (by decide : nearB ≤ 2 ^ 40) (Nat.pow_le_pow_right (by decide) (by decide))
theorem Bd.sz {q : Rat} (h : Bd nearB nearB q) : Sz q := h.mono near_sz near_sz
theorem sure_fraction {α : Prop} [FrC α P] (F : α) (h : P.fn 70 = some f_sure_fraction) {q : Rat} (hq : Bd nearB nearB q) {w : PV} {n : Nat} (hw : Mx n (fr q) w) (hn : n ≤ 3) (d : Nat) (T : Store) : callF P (d + 5) 70 [w] T = .ok (fr q) T := by
  have F : FrB P := FrC.b F
  rw [callF_at h rfl]
  have e1 := tupled F.tupled 3 w (dat_up hn hw.dat) d T
  rw [hw.tp, tp_fr] at e1
  have e2 := near F d q T hq
  simp [f_sure_fraction, startE, e1, e2]
theorem sure_above (F : FrP P) (h : P.fn 70 = some f_sure_fraction) (h2 : P.fn 163 = some f_sure_above) {q : Rat} (hq : Bd nearB nearB q) (h0 : 0 < q.num) {w : PV} {n : Nat} (hw : Mx n (fr q) w) (hn : n ≤ 3) (d : Nat) (T : Store) : callF P (d + 6) 163 [w] T = .ok (fr q) T := by
  rw [callF_at h2 rfl]
  have e1 := sure_fraction F h hq hw hn d T
  have h0' : ¬ q.num ≤ 0 := by omega
  simp [f_sure_above, startE, e1, fr_i0, h0']
structure RpB (P : Prog) : Prop where
  fr : FrB P
  isrc : P.fn 18 = some f_is_rectangle_in
  nearr : P.fn 17 = some f_is_near_rectangle
structure ReP (P : Prog) : Prop where
  fr : FrP P
  isrc : P.fn 18 = some f_is_rectangle_in
  nearr : P.fn 17 = some f_is_near_rectangle
  sure : P.fn 59 = some f_sure_rectangle
theorem fr_all (R : Rc) (g : Rat → PV) (f : PV → Store → Res (List PV)) (T : Store) (h : ∀ q : Rat, (q = R.l ∨ q = R.b ∨ q = R.r ∨ q = R.t) → f (PU.fr q) T = .ok [g q] T) : loopC f [PU.fr R.l, PU.fr R.b, PU.fr R.r, PU.fr R.t] T = .ok [g R.l, g R.b, g R.r, g R.t] T := by
  simp [loopC, h R.l (by simp), h R.b (by simp), h R.r (by simp), h R.t (by simp)]
class RpC (α : Prop) (P : outParam Prog) : Prop where
  b : α → RpB P
instance {P : Prog} : RpC (RpB P) P := ⟨fun F => F⟩
instance {P : Prog} : RpC (ReP P) P := ⟨fun F => ⟨F.fr.toFrB, F.isrc, F.nearr⟩⟩
theorem isrc {α : Prop} [RpC α P] (F : α) (d : Nat) (R : Rc) (T : Store) (h : RB nearB nearB R) : callF P (d + 4) 18 [rc R] T = .ok (.bl (decide (R.l < R.r) && decide (R.b < R.t))) T := by
  have F : RpB P := RpC.b F
  rw [callF_at F.isrc rfl]
  obtain ⟨h1, h2, h3, h4⟩ := h
  have e1 := is_long F.fr.long (d + 2) [PU.fr R.l, PU.fr R.b, PU.fr R.r, PU.fr R.t] 4 T
  have e2 : ∀ q : Rat, Bd nearB nearB q → callF P (d + 3) 15 [PU.fr q] T = .ok (.bl true) T := fun q hq => isfr F.fr d q T hq.sz.2
  have e3 := under F.fr (d + 2) T h1.sz h3.sz
  have e4 := under F.fr (d + 2) T h2.sz h4.sz
  unfold rc
  simp at e1
  simp [f_is_rectangle_in, startE, e1]
  rw [fr_all R (fun _ => .bl true) _ T fun q hq => by
    have : Bd nearB nearB q := by rcases hq with rfl | rfl | rfl | rfl <;> assumption
    simp [e2 q this]]
  rw [compR_ok (by show 4 ≤ line; decide)]
  simp [boolsOf, e3]
  by_cases h : R.l < R.r <;> simp [h, e4]
theorem nearr {α : Prop} [RpC α P] (F : α) (d : Nat) (R : Rc) (T : Store) (h : RB nearB nearB R) (h0 : R.ok) : callF P (d + 5) 17 [rc R] T = .ok (.bl true) T := by
  have F : RpB P := RpC.b F
  rw [callF_at F.nearr rfl]
  have e1 := isrc F d R T h
  obtain ⟨h1, h2, h3, h4⟩ := h
  have e2 : ∀ q : Rat, Bd nearB nearB q → callF P (d + 4) 16 [PU.fr q] T = .ok (.bl true) T := fun q hq => near F.fr d q T hq
  rw [decide_eq_true h0.1, decide_eq_true h0.2] at e1
  simp [f_is_near_rectangle, startE, e1]
  unfold rc
  simp
  rw [fr_all R (fun _ => .bl true) _ T fun q hq => by
    have : Bd nearB nearB q := by rcases hq with rfl | rfl | rfl | rfl <;> assumption
    simp [e2 q this]]
  rw [compR_ok (by show 4 ≤ line; decide)]
  simp [boolsOf]
theorem sure_rc (F : ReP P) {R : Rc} (h : RB nearB nearB R) (h0 : R.ok) {w : PV} {n : Nat} (hw : Mx n (rc R) w) (hn : n ≤ 4) (d : Nat) (T : Store) : callF P (d + 6) 59 [w] T = .ok (rc R) T := by
  rw [callF_at F.sure rfl]
  have e1 := tupled F.fr.tupled 4 w (dat_up hn hw.dat) d T
  rw [hw.tp, tp_rc] at e1
  have e2 := nearr F d R T h h0
  simp [f_sure_rectangle, startE, e1, e2]
theorem mx_self {n : Nat} {v : PV} (h : dat n v = true) : Mx n v v := ⟨rfl, h⟩
theorem mx_rc (R : Rc) : Mx 2 (rc R) (rc R) := mx_self (dat_rc 0 R)
theorem mx_fr (q : Rat) : Mx 1 (fr q) (fr q) := mx_self (dat_fr 0 q)
end PU
end

section
set_option linter.all false
set_option autoImplicit false
set_option exponentiation.threshold 100000
set_option maxRecDepth 20000
set_option maxHeartbeats 1000000
/-! rectangles: what is done with them -/
namespace PU
open MP IR
variable {P : Prog}
theorem rc_i0 (T : Store) (R : Rc) : index T (rc R) (.int 0) = some (fr R.l) := rfl
theorem rc_i1 (T : Store) (R : Rc) : index T (rc R) (.int 1) = some (fr R.b) := rfl
theorem rc_i2 (T : Store) (R : Rc) : index T (rc R) (.int 2) = some (fr R.r) := rfl
theorem rc_i3 (T : Store) (R : Rc) : index T (rc R) (.int 3) = some (fr R.t) := rfl
@[simp] theorem b_rc (ts : Tgs) (ρ : Env) (R : Rc) : bindTg (.tp ts) ρ (rc R) = bindTgs ts ρ [fr R.l, fr R.b, fr R.r, fr R.t] := rfl
@[simp] theorem b_fr (ts : Tgs) (ρ : Env) (q : Rat) : bindTg (.tp ts) ρ (fr q) = bindTgs ts ρ [.int q.num, .int (q.den : Int)] := rfl
def SzR (R : Rc) : Prop := Sz R.l ∧ Sz R.b ∧ Sz R.r ∧ Sz R.t
theorem RB.sz {R : Rc} (h : RB nearB nearB R) : SzR R := ⟨h.1.sz, h.2.1.sz, h.2.2.1.sz, h.2.2.2.sz⟩
theorem sides_of {α : Prop} [FrC α P] (F : α) (h : P.fn 24 = some f_sides_of) (d : Nat) {R : Rc} (s : SzR R) (T : Store) : callF P (d + 4) 24 [rc R] T = .ok (.tup [fr (R.r - R.l), fr (R.t - R.b)]) T := by
  have F : FrB P := FrC.b F
  rw [callF_at h rfl]
  have e1 := less F d T s.2.2.1 s.1
  have e2 := less F d T s.2.2.2 s.2.1
  unfold rc
  simp [f_sides_of, startE, e1, e2]
theorem area_in (F : FrP P) (h : P.fn 24 = some f_sides_of) (h2 : P.fn 28 = some f_area_in) (d : Nat) {R : Rc} (s : SzR R) (s1 : Sz (R.r - R.l)) (s2 : Sz (R.t - R.b)) (T : Store) : callF P (d + 5) 28 [rc R] T = .ok (fr ((R.r - R.l) * (R.t - R.b))) T := by
  rw [callF_at h2 rfl]
  have e1 := sides_of F h d s T
  have e2 := times F (d + 1) T s1 s2
  simp [f_area_in, startE, e1, e2]
/-- the least around two -/
def hull (A B : Rc) : Rc := ⟨if A.l < B.l then A.l else B.l, if A.b < B.b then A.b else B.b, if A.r < B.r then B.r else A.r, if A.t < B.t then B.t else A.t⟩
theorem SzR.hull {A B : Rc} (a : SzR A) (b : SzR B) : SzR (hull A B) := by
  obtain ⟨a1, a2, a3, a4⟩ := a
  obtain ⟨b1, b2, b3, b4⟩ := b
  unfold SzR PU.hull
  dsimp only
  refine ⟨?_, ?_, ?_, ?_⟩ <;> split <;> assumption
theorem around_loop (F : FrP P) {d : Nat} {s0 : SV} {T : Store} : ∀ (Rs : List Rc) (A : Rc), SzR A → (∀ R ∈ Rs, SzR R) → ∃ A', A' = Rs.foldl hull A ∧ SzR A' ∧
    loopS (turn ⟨callF P (d + 2), P.gl, P.fu⟩ (.nm 5) b_around_in_0) (Rs.map rc) [s0, .va (fr A.l), .va (fr A.b), .va (fr A.r), .va (fr A.t), .un] T = .nx [s0, .va (fr A'.l), .va (fr A'.b), .va (fr A'.r), .va (fr A'.t), .un] T
  | [], A, s, _ => ⟨A, rfl, s, rfl⟩
  | R :: Rs, A, s, h => by
    have sR := h R List.mem_cons_self
    obtain ⟨A', e1, e2, e3⟩ := around_loop F (d := d) (s0 := s0) (T := T) Rs (hull A R) (s.hull sR) fun Q hQ => h Q (List.mem_cons_of_mem _ hQ)
    refine ⟨A', e1, e2, ?_⟩
    rw [List.map_cons, ← e3]
    refine loopS_cons ?_
    have l1 := lesser F d T s.1 sR.1
    have l2 := lesser F d T s.2.1 sR.2.1
    have g1 := greater F d T s.2.2.1 sR.2.2.1
    have g2 := greater F d T s.2.2.2 sR.2.2.2
    simp [b_around_in_0, rc_i0, rc_i1, rc_i2, rc_i3, l1, l2, g1, g2, putAll, hull]
theorem cut1 {α : Type} (x : α) (xs : List α) : cut (x :: xs) (some 1) none = xs := by
  have e : min 1 (xs.length + 1) = 1 := by omega
  simp [cut, six, e]
theorem around_in (F : FrP P) (h : P.fn 29 = some f_around_in) (d : Nat) (R : Rc) (Rs : List Rc) (s : SzR R) (ss : ∀ Q ∈ Rs, SzR Q) (T : Store) : callF P (d + 3) 29 [.tup ((R :: Rs).map rc)] T = .ok (rc (Rs.foldl hull R)) T := by
  rw [callF_at h rfl]
  obtain ⟨A', e1, e2, e3⟩ := around_loop F (d := d) (s0 := .va (.tup ((R :: Rs).map rc))) (T := T) Rs R s ss
  have c := cut1 (rc R) (Rs.map rc)
  rw [← e1]
  rw [List.map_cons] at e3 ⊢
  have i0 : index T (.tup (rc R :: List.map rc Rs)) (.int 0) = some (rc R) := by simp [index, ixn]
  generalize hL : Rs.map rc = L at *
  simp [f_around_in, startE, i0, partV, isN, cutv, c, e3]
  rfl
theorem shared_in (F : FrP P) (h : P.fn 33 = some f_shared_in) (d : Nat) {A B : Rc} (a : SzR A) (b : SzR B) (T : Store) (C : Rc) (hC : C = ⟨if A.l < B.l then B.l else A.l, if A.b < B.b then B.b else A.b, if A.r < B.r then A.r else B.r, if A.t < B.t then A.t else B.t⟩) :
    callF P (d + 3) 33 [rc A, rc B] T = .ok (if C.l < C.r ∧ C.b < C.t then rc C else .non) T := by
  rw [callF_at h rfl]
  have g1 := greater F d T a.1 b.1
  have g2 := greater F d T a.2.1 b.2.1
  have l1 := lesser F d T a.2.2.1 b.2.2.1
  have l2 := lesser F d T a.2.2.2 b.2.2.2
  have s : SzR C := by
    rw [hC]
    obtain ⟨a1, a2, a3, a4⟩ := a
    obtain ⟨b1, b2, b3, b4⟩ := b
    unfold SzR
    dsimp only
    refine ⟨?_, ?_, ?_, ?_⟩ <;> split <;> assumption
  have c1 : C.l = if A.l < B.l then B.l else A.l := by rw [hC]
  have c2 : C.b = if A.b < B.b then B.b else A.b := by rw [hC]
  have c3 : C.r = if A.r < B.r then A.r else B.r := by rw [hC]
  have c4 : C.t = if A.t < B.t then A.t else B.t := by rw [hC]
  rw [← c1] at g1
  rw [← c2] at g2
  rw [← c3] at l1
  rw [← c4] at l2
  have u1 := under F (d + 1) T s.1 s.2.2.1
  have u2 := under F (d + 1) T s.2.1 s.2.2.2
  simp [f_shared_in, startE, rc_i0, rc_i1, rc_i2, rc_i3, g1, g2, l1, l2, putAll, u1]
  by_cases h1 : C.l < C.r
  · simp [h1, u2]
    by_cases h2 : C.b < C.t <;> simp [h2, rc]
  · simp [h1]
/-! ### with checks -/
theorem all_true {f : PV → Store → Res (List PV)} {T : Store} {xs : List PV} (h : ∀ x ∈ xs, f x T = .ok [.bl true] T) (hl : xs.length ≤ line) : compR (loopC f xs T) = .ok (.lst (xs.map fun _ => .bl true)) T := by
  rw [loopC_map (g := fun _ => .bl true) h, compR_ok (by rw [List.length_map]; exact hl)]
theorem near_parts {α : Prop} [RpC α P] (F : α) (h : P.fn 13 = some f_are_near_parts) (g : P.gl 1 = some (.int 60)) (d : Nat) (Rs : List Rc) (h1 : 1 ≤ Rs.length) (h2 : Rs.length ≤ 60) (hR : ∀ R ∈ Rs, RB nearB nearB R ∧ R.ok) (T : Store) : callF P (d + 6) 13 [.tup (Rs.map rc)] T = .ok (.bl true) T := by
  have F : RpB P := RpC.b F
  rw [callF_at h rfl]
  have l1 : (1 : Int) ≤ Rs.length := by omega
  have l2 : (Rs.length : Int) ≤ 60 := by omega
  simp [f_are_near_parts, startE, isTys, isTy, g, l1, l2]
  rw [all_true (fun x hx => by
    obtain ⟨R, hR1, rfl⟩ := List.mem_map.mp hx
    have := nearr F d R T (hR R hR1).1 (hR R hR1).2
    simp [this]) (by rw [List.length_map]; have := line_pos; omega)]
  simp only [Res.bind_ok, a_nil, bi_all, bools_true, Option.map_some, Res.of_some]
  simp
@[simp] theorem tp_rcs (Rs : List Rc) : tp (.tup (Rs.map rc)) = .tup (Rs.map rc) := by simp
theorem dat_rcs (Rs : List Rc) (h : Rs.length ≤ line) (n : Nat) : dat (n + 3) (.tup (Rs.map rc)) = true := by
  simp [h]
theorem sure_parts {α : Prop} [RpC α P] (F : α) (h : P.fn 13 = some f_are_near_parts) (hs : P.fn 55 = some f_sure_parts) (g : P.gl 1 = some (.int 60)) {Rs : List Rc} (h1 : 1 ≤ Rs.length) (h2 : Rs.length ≤ 60) (hR : ∀ R ∈ Rs, RB nearB nearB R ∧ R.ok) {w : PV} {n : Nat} (hw : Mx n (.tup (Rs.map rc)) w) (hn : n ≤ 5) (d : Nat) (T : Store) :
    callF P (d + 7) 55 [w] T = .ok (.tup (Rs.map rc)) T := by
  have F : RpB P := RpC.b F
  rw [callF_at hs rfl]
  have e1 := tupled F.fr.tupled 5 w (dat_up hn hw.dat) d T
  rw [hw.tp, tp_rcs] at e1
  have e2 := near_parts F h g d Rs h1 h2 hR T
  generalize Rs.map rc = L at *
  simp [f_sure_parts, startE, e1, e2]
/-! ### the law's -/
theorem law_sides (F : FrL P) (h62 : P.fn 62 = some f_law_less) (h : P.fn 89 = some f_law_sides) (d : Nat) {R : Rc} (s : SzR R) (T : Store) : callF P (d + 4) 89 [rc R] T = .ok (.tup [fr (R.r - R.l), fr (R.t - R.b)]) T := by
  rw [callF_at h rfl]
  have e1 := law_less F h62 d T s.2.2.1 s.1
  have e2 := law_less F h62 d T s.2.2.2 s.2.1
  simp [f_law_sides, startE, rc_i0, rc_i1, rc_i2, rc_i3, e1, e2]
/-- a fraction put in line -/
def ins (q : Rat) (xs : List Rat) : List Rat := if q ∈ xs then xs else xs.take (xs.filter (· < q)).length ++ [q] ++ xs.drop (xs.filter (· < q)).length
theorem cut_take {α : Type} (xs : List α) (k : Nat) (h : k ≤ xs.length) : cut xs none (some (k : Int)) = xs.take k := by
  have e1 : ¬ ((k : Int) < 0) := by omega
  simp [cut, six, e1, Nat.min_eq_left h]
theorem cut_drop {α : Type} (xs : List α) (k : Nat) (h : k ≤ xs.length) : cut xs (some (k : Int)) none = xs.drop k := by
  have e1 : ¬ ((k : Int) < 0) := by omega
  simp [cut, six, e1, Nat.min_eq_left h]
  exact List.take_of_length_le (by rw [List.length_drop]; omega)
theorem memv_fr (q : Rat) (xs : List Rat) : memv (fr q) (xs.map fr) = decide (q ∈ xs) := by
  unfold memv
  induction xs with
  | nil => rfl
  | cons x xs ih =>
    rw [List.map_cons, List.any_cons, ih, eqv_fr, Bool.eq_iff_iff, Bool.or_eq_true, decide_eq_true_eq, decide_eq_true_eq, decide_eq_true_eq, List.mem_cons]
    exact ⟨fun h => h.imp Eq.symm id, fun h => h.imp Eq.symm id⟩
theorem inop_fr (q : Rat) (xs : List Rat) : inop (fr q) (.lst (xs.map fr)) = some (decide (q ∈ xs)) := by
  have h1 : (pln 40 (fr q) && (xs.map fr).all (pln 40)) = true := by
    rw [Bool.and_eq_true, List.all_eq_true]
    refine ⟨pln_fr 39 q, fun v hv => ?_⟩
    obtain ⟨x, _, rfl⟩ := List.mem_map.mp hv
    exact pln_fr 39 x
  show (if (pln 40 (fr q) && (xs.map fr).all (pln 40)) = true then some (memv (fr q) (xs.map fr)) else none) = _
  rw [if_pos h1, memv_fr]
theorem lines_turn (h72 : P.fn 72 = some f_law_under) {d : Nat} {s0 : SV} {T : Store} (q : Rat) (xs : List Rat) (hq : Sz q) (hx : ∀ x ∈ xs, Sz x) (hl : xs.length < 1000) :
    turn ⟨callF P (d + 1), P.gl, P.fu⟩ (.nm 2) b_law_lines_0 (fr q) [s0, .va (.lst (xs.map fr)), .un, .un, .un] T = .nx [s0, .va (.lst ((ins q xs).map fr)), .un, .un, .un] T := by
  have lp := line_pos
  have e1 := inop_fr q xs
  by_cases h : q ∈ xs
  · rw [decide_eq_true h] at e1
    have : ins q xs = xs := by unfold ins; rw [if_pos h]
    rw [this]
    generalize xs.map fr = L at *
    simp [b_law_lines_0, e1]
  · rw [decide_eq_false h] at e1
    have e2 : ins q xs = xs.take (xs.filter (· < q)).length ++ [q] ++ xs.drop (xs.filter (· < q)).length := by unfold ins; rw [if_neg h]
    have hk : (xs.filter (· < q)).length ≤ xs.length := List.length_filter_le _ _
    rw [e2]
    simp [b_law_lines_0, e1]
    rw [loopC_flat (g := fun v => match v with
      | .tup [.int a, .int b] => if a * q.den < q.num * b then [v] else []
      | _ => []) fun v hv => by
      obtain ⟨x, hx1, rfl⟩ := List.mem_map.mp hv
      have u := law_under h72 d T (hx x hx1) hq
      have : (x.num * q.den < q.num * x.den) ↔ x < q := (Rat.lt_iff x q).symm
      simp [u]
      unfold fr
      simp only [this]
      by_cases h2 : x < q <;> simp [h2]]
    have e3 : ((xs.map fr).flatMap fun v => match v with
      | .tup [.int a, .int b] => if a * q.den < q.num * b then [v] else []
      | _ => []) = (xs.filter (· < q)).map fr := by
      clear hl hx h e1 e2 hk
      induction xs with
      | nil => rfl
      | cons x xs ih =>
        rw [List.map_cons, List.flatMap_cons, ih]
        have : (x.num * q.den < q.num * x.den) ↔ x < q := (Rat.lt_iff x q).symm
        by_cases h2 : x < q
        · rw [List.filter_cons_of_pos (by simpa using h2), List.map_cons]
          conv => lhs; arg 1; unfold fr; simp only [this, h2, if_true]
          rfl
        · rw [List.filter_cons_of_neg (by simpa using h2)]
          conv => lhs; arg 1; unfold fr; simp only [this, h2, if_false]
          rfl
    rw [e3, compR_ok (by rw [List.length_map]; omega)]
    generalize hK : (xs.filter (· < q)).length = k at *
    have c1 := cut_take (xs.map fr) k (by rw [List.length_map]; exact hk)
    have c2 := cut_drop (xs.map fr) k (by rw [List.length_map]; exact hk)
    have l1 : ((xs.map fr).take k).length = k := by rw [List.length_take, List.length_map]; omega
    have l2 : ((xs.map fr).drop k).length = xs.length - k := by rw [List.length_drop, List.length_map]
    have l3 : ((xs.filter (· < q)).map fr).length = k := by rw [List.length_map, hK]
    try simp only [List.map_append, List.map_take, List.map_drop, List.map_cons, List.map_nil]
    generalize (xs.filter (· < q)).map fr = M at *
    generalize xs.map fr = L at *
    generalize L.take k = A at *
    generalize L.drop k = B at *
    have b1 : A.length + 1 ≤ line := by omega
    have b2 : A.length + 1 + B.length ≤ line := by omega
    simp [l3, partV, isN, cutv, c1, c2, b1, b2]
end PU
end

section
set_option linter.all false
set_option autoImplicit false
set_option exponentiation.threshold 100000
set_option maxRecDepth 20000
set_option maxHeartbeats 1000000
/-! rectangles: doors, draws -/
namespace PU
open MP IR
variable {P : Prog}
theorem ins_mem (q : Rat) (xs : List Rat) (x : Rat) : x ∈ ins q xs ↔ x = q ∨ x ∈ xs := by
  unfold ins
  split
  · rename_i h
    exact ⟨fun k => .inr k, fun k => k.elim (fun e => e ▸ h) id⟩
  · have e : ∀ k, (x ∈ xs.take k ∨ x ∈ xs.drop k) ↔ x ∈ xs := fun k => by
      conv => rhs; rw [← List.take_append_drop k xs, List.mem_append]
    simp only [List.mem_append, List.mem_singleton]
    rw [← e (xs.filter (· < q)).length]
    exact ⟨fun h => by rcases h with (h | h) | h <;> simp [h], fun h => by rcases h with h | h | h <;> simp [h]⟩
theorem ins_len (q : Rat) (xs : List Rat) : (ins q xs).length ≤ xs.length + 1 := by
  unfold ins
  split
  · omega
  · simp only [List.length_append, List.length_take, List.length_drop, List.length_singleton]
    omega
/-- fractions in line, each once -/
def lines (qs : List Rat) : List Rat := qs.foldl (fun acc q => ins q acc) []
theorem lines_loop (h72 : P.fn 72 = some f_law_under) {d : Nat} {s0 : SV} {T : Store} : ∀ (qs acc : List Rat), (∀ q ∈ qs, Sz q) → (∀ x ∈ acc, Sz x) → acc.length + qs.length < 1000 →
    loopS (turn ⟨callF P (d + 1), P.gl, P.fu⟩ (.nm 2) b_law_lines_0) (qs.map fr) [s0, .va (.lst (acc.map fr)), .un, .un, .un] T = .nx [s0, .va (.lst ((qs.foldl (fun acc q => ins q acc) acc).map fr)), .un, .un, .un] T
  | [], acc, _, _, _ => rfl
  | q :: qs, acc, h1, h2, hl => by
    rw [List.length_cons] at hl
    have il := ins_len q acc
    rw [List.map_cons, loopS_cons (lines_turn h72 (d := d) (s0 := s0) (T := T) q acc (h1 q List.mem_cons_self) h2 (by omega)), lines_loop h72 qs (ins q acc) (fun x hx => h1 x (List.mem_cons_of_mem _ hx)) (fun x hx => by
      rcases (ins_mem q acc x).mp hx with rfl | hx
      · exact h1 x List.mem_cons_self
      · exact h2 x hx) (by omega)]
    rfl
theorem law_lines (h72 : P.fn 72 = some f_law_under) (h : P.fn 109 = some f_law_lines) (d : Nat) (qs : List Rat) (T : Store) (hq : ∀ q ∈ qs, Sz q) (hl : qs.length < 1000) (g : PV) (hg : g = .lst (qs.map fr) ∨ g = .tup (qs.map fr)) : callF P (d + 2) 109 [g] T = .ok (.lst ((lines qs).map fr)) T := by
  rw [callF_at h rfl]
  have e := fun s0 => lines_loop h72 (d := d) (s0 := s0) (T := T) qs [] hq (by simp) (by simpa using hl)
  unfold lines
  rw [List.map_nil] at e
  generalize qs.map fr = L at *
  rcases hg with rfl | rfl <;> simp [f_law_lines, startE, e]
theorem lines_two (p q : Rat) : lines [p, q] = if p = q then [p] else if p < q then [p, q] else [q, p] := by
  unfold lines
  have e1 : ins p [] = [p] := by simp [ins]
  simp only [List.foldl_cons, List.foldl_nil, e1]
  unfold ins
  by_cases h : p = q
  · subst h; simp
  · have h' : ¬ q = p := fun z => h z.symm
    by_cases h2 : p < q <;> simp [h, h', h2]
/-! ### doors -/
theorem rectangle_sides (F : ReP P) (h24 : P.fn 24 = some f_sides_of) (h : P.fn 271 = some f_rectangle_sides) {R : Rc} (hb : RB nearB nearB R) (h0 : R.ok) {w : PV} {n : Nat} (hw : Mx n (rc R) w) (hn : n ≤ 4) (d : Nat) (T : Store) : callF P (d + 7) 271 [w] T = .ok (.tup [fr (R.r - R.l), fr (R.t - R.b)]) T := by
  rw [callF_at h rfl]
  have e1 := sure_rc F hb h0 hw hn d T
  have e2 := sides_of F.fr h24 (d + 2) hb.sz T
  simp [f_rectangle_sides, startE, e1, e2]
theorem rectangle_area (F : ReP P) (h24 : P.fn 24 = some f_sides_of) (h28 : P.fn 28 = some f_area_in) (h : P.fn 270 = some f_rectangle_area) {R : Rc} (hb : RB nearB nearB R) (h0 : R.ok) (s1 : Sz (R.r - R.l)) (s2 : Sz (R.t - R.b)) {w : PV} {n : Nat} (hw : Mx n (rc R) w) (hn : n ≤ 4) (d : Nat) (T : Store) :
    callF P (d + 7) 270 [w] T = .ok (fr ((R.r - R.l) * (R.t - R.b))) T := by
  rw [callF_at h rfl]
  have e1 := sure_rc F hb h0 hw hn d T
  have e2 := area_in F.fr h24 h28 (d + 1) hb.sz s1 s2 T
  simp [f_rectangle_area, startE, e1, e2]
theorem laid_over (F : ReP P) (h : P.fn 205 = some f_laid_over) {R : Rc} (hb : RB nearB nearB R) (h0 : R.ok) {w : PV} {n : Nat} (hw : Mx n (rc R) w) (hn : n ≤ 4) (d : Nat) (T : Store) : callF P (d + 7) 205 [w] T = .ok (rc ⟨R.b, R.l, R.t, R.r⟩) T := by
  rw [callF_at h rfl]
  have e1 := sure_rc F hb h0 hw hn d T
  simp [f_laid_over, startE, e1, rc]
theorem shared_ (F : ReP P) (h33 : P.fn 33 = some f_shared_in) (h : P.fn 274 = some f_shared) {A B : Rc} (ha : RB nearB nearB A) (hb : RB nearB nearB B) (a0 : A.ok) (b0 : B.ok) {w u : PV} {n m : Nat} (hw : Mx n (rc A) w) (hn : n ≤ 4) (hu : Mx m (rc B) u) (hm : m ≤ 4) (d : Nat) (T : Store) (C : Rc) (hC : C = ⟨if A.l < B.l then B.l else A.l, if A.b < B.b then B.b else A.b, if A.r < B.r then A.r else B.r, if A.t < B.t then A.t else B.t⟩) :
    callF P (d + 7) 274 [w, u] T = if C.l < C.r ∧ C.b < C.t then .ok (rc C) T else .ex ⟨1, []⟩ T := by
  rw [callF_at h rfl]
  have e1 := sure_rc F ha a0 hw hn d T
  have e2 := sure_rc F hb b0 hu hm d T
  have e3 := shared_in F.fr h33 (d + 3) ha.sz hb.sz T C hC
  by_cases q : C.l < C.r ∧ C.b < C.t
  · rw [if_pos q] at e3 ⊢
    have z : isNon (rc C) = false := rfl
    simp [f_shared, startE, e1, e2, e3, z]
  · rw [if_neg q] at e3 ⊢
    simp [f_shared, startE, e1, e2, e3, isNon]
theorem around_ (F : ReP P) (h13 : P.fn 13 = some f_are_near_parts) (h55 : P.fn 55 = some f_sure_parts) (g : P.gl 1 = some (.int 60)) (h29 : P.fn 29 = some f_around_in) (h : P.fn 241 = some f_around) {R : Rc} {Rs : List Rc} (h2 : Rs.length ≤ 59) (hR : ∀ Q ∈ R :: Rs, RB nearB nearB Q ∧ Q.ok) {w : PV} {n : Nat} (hw : Mx n (.tup ((R :: Rs).map rc)) w) (hn : n ≤ 5) (d : Nat) (T : Store) :
    callF P (d + 8) 241 [w] T = .ok (rc (Rs.foldl hull R)) T := by
  rw [callF_at h rfl]
  have e1 := sure_parts F h13 h55 g (Rs := R :: Rs) (by simp) (by simp; omega) hR hw hn d T
  have e2 := around_in F.fr h29 (d + 4) R Rs (hR R List.mem_cons_self).1.sz (fun Q hQ => (hR Q (List.mem_cons_of_mem _ hQ)).1.sz) T
  generalize (R :: Rs).map rc = L at *
  simp [f_around, startE, e1, e2]
theorem moved (F : ReP P) (h70 : P.fn 70 = some f_sure_fraction) (h : P.fn 159 = some f_moved) {R : Rc} {x y : Rat} (hb : RB nearB nearB R) (h0 : R.ok) (hx : Bd nearB nearB x) (hy : Bd nearB nearB y) {w u v : PV} {n m k : Nat} (hw : Mx n (rc R) w) (hn : n ≤ 4) (hu : Mx m (fr x) u) (hm : m ≤ 3) (hv : Mx k (fr y) v) (hk : k ≤ 3) (d : Nat) (T : Store) :
    callF P (d + 7) 159 [w, u, v] T = .ok (rc ⟨R.l + x, R.b + y, R.r + x, R.t + y⟩) T := by
  rw [callF_at h rfl]
  have e1 := sure_rc F hb h0 hw hn d T
  have e2 := sure_fraction F.fr h70 hx hu hm (d + 1) T
  have e3 := sure_fraction F.fr h70 hy hv hk (d + 1) T
  have s := hb.sz
  have p1 := plus F.fr (d + 3) T s.1 hx.sz
  have p2 := plus F.fr (d + 3) T s.2.1 hy.sz
  have p3 := plus F.fr (d + 3) T s.2.2.1 hx.sz
  have p4 := plus F.fr (d + 3) T s.2.2.2 hy.sz
  simp [f_moved, startE, e1, e2, e3, p1, p2, p3, p4, rc]
theorem stretched (F : ReP P) (h70 : P.fn 70 = some f_sure_fraction) (h163 : P.fn 163 = some f_sure_above) (h162 : P.fn 162 = some f_stretched_in) (h : P.fn 161 = some f_stretched) {R : Rc} {x y : Rat} (hb : RB nearB nearB R) (h0 : R.ok) (hx : Bd nearB nearB x) (hy : Bd nearB nearB y) (px : 0 < x.num) (py : 0 < y.num)
    {w u v : PV} {n m k : Nat} (hw : Mx n (rc R) w) (hn : n ≤ 4) (hu : Mx m (fr x) u) (hm : m ≤ 3) (hv : Mx k (fr y) v) (hk : k ≤ 3) (d : Nat) (T : Store) :
    callF P (d + 7) 161 [w, u, v] T = .ok (rc ⟨R.l * x, R.b * y, R.r * x, R.t * y⟩) T := by
  rw [callF_at h rfl]
  have e1 := sure_rc F hb h0 hw hn d T
  have e2 := sure_above F.fr h70 h163 hx px hu hm d T
  have e3 := sure_above F.fr h70 h163 hy py hv hk d T
  have s := hb.sz
  have p1 := times F.fr (d + 2) T s.1 hx.sz
  have p2 := times F.fr (d + 2) T s.2.1 hy.sz
  have p3 := times F.fr (d + 2) T s.2.2.1 hx.sz
  have p4 := times F.fr (d + 2) T s.2.2.2 hy.sz
  have e4 : callF P (d + 6) 162 [rc R, fr x, fr y] T = .ok (rc ⟨R.l * x, R.b * y, R.r * x, R.t * y⟩) T := by
    rw [callF_at h162 rfl]
    simp [f_stretched_in, startE, p1, p2, p3, p4, rc]
  simp [f_stretched, startE, e1, e2, e3, e4]
/-! ### draws -/
theorem law_fraction (F : FrL P) (h2 : P.fn 2 = some f_law_take) (h10 : P.fn 10 = some f_law_of) (h : P.fn 294 = some f_law_fraction) {d n : Nat} {T : Store} (t : Tin n T) (hn : n + 2 < 1000000000) {m : Int} (hm : 0 < m) (hm2 : m ≤ 1000000) :
    ∃ q T', callF P (d + 3) 294 [.cel 0, .int m] T = .ok (fr q) T' ∧ Bd m.toNat 7 q ∧ 0 < q ∧ Tin (n + 2) T' := by
  obtain ⟨v, T1, e1, v1, v2, t1⟩ := take h2 (d := d + 1) t (by omega) (b := m) hm (by omega)
  obtain ⟨u, T2, e2, m2, t2⟩ := of_ h2 h10 (d := d) (g := .lst [.int 1, .int 1, .int 2, .int 3, .int 4, .int 5, .int 6, .int 7]) t1 (by omega) (.inl rfl) (by decide) (by decide)
  obtain ⟨c, rfl, c1, c2⟩ : ∃ c : Int, u = .int c ∧ 1 ≤ c ∧ c ≤ 7 := by
    simp at m2
    rcases m2 with rfl | rfl | rfl | rfl | rfl | rfl | rfl <;> exact ⟨_, rfl, by decide, by decide⟩
  have small : c.natAbs < 2 ^ 4000 := Nat.lt_of_lt_of_le (by omega : c.natAbs < 2 ^ 3) (Nat.pow_le_pow_right (by decide) (by decide))
  have e3 := cut_ F d (1 + v) c T2 (by omega) small
  refine ⟨Rat.divInt (1 + v) c, T2, ?_, divInt_bd (by omega) (by omega) (by omega), ?_, t2⟩
  · rw [callF_at h rfl]
    simp [f_law_fraction, startE, e1, e2, e3]
  · rw [Rat.divInt_eq_div]
    have a1 : (0 : Rat) < ((1 + v : Int) : Rat) := by exact_mod_cast (show (0 : Int) < 1 + v by omega)
    have a2 : (0 : Rat) < (c : Rat) := by exact_mod_cast (show (0 : Int) < c by omega)
    rw [Rat.div_def]
    exact Rat.mul_pos a1 (Rat.inv_pos.mpr a2)
end PU
end

section
set_option linter.all false
set_option autoImplicit false
set_option exponentiation.threshold 100000
set_option maxRecDepth 20000
set_option maxHeartbeats 1000000
/-! a drawn rectangle; spots; the law's box; all trials -/
namespace PU
open MP IR
variable {P : Prog}
theorem Bd.small {N D : Nat} {q : Rat} (h : Bd N D q) (h1 : N ≤ 1000000000000) (h2 : D ≤ 1000000000000) : Sz q := (h.mono h1 h2 : Bd nearB nearB q).sz
theorem cut_draw (F : FrL P) (h2 : P.fn 2 = some f_law_take) {D n : Nat} (hD : 2 ≤ D) {T : Store} (t : Tin n T) (hn : n + 2 < 1000000000) (a : Int) (N : Nat) {c m : Int} (ha : 0 < c) (hc : c ≤ 1000) (hm : 0 < m) (hm2 : m ≤ 1000) (hN : ∀ v : Int, 0 ≤ v → v < c → (v - a).natAbs ≤ N) :
    ∃ (v u : Int) (T1 T' : Store), callF P D 2 [.cel 0, .int c] T = .ok (.int v) T1 ∧ callF P D 2 [.cel 0, .int m] T1 = .ok (.int u) T' ∧ callF P D 51 [.int (v - a), .int (1 + u)] T' = .ok (fr (Rat.divInt (v - a) (1 + u))) T' ∧ Bd N m.toNat (Rat.divInt (v - a) (1 + u)) ∧ Tin (n + 2) T' := by
  obtain ⟨d, rfl⟩ : ∃ d, D = d + 2 := ⟨D - 2, by omega⟩
  obtain ⟨v, T1, e1, v1, v2, t1⟩ := take h2 (d := d + 1) t (by omega) (b := c) ha (by omega)
  obtain ⟨u, T2, e2, u1, u2, t2⟩ := take h2 (d := d + 1) t1 (by omega) (b := m) hm (by omega)
  have small : (1 + u).natAbs < 2 ^ 4000 := Nat.lt_of_lt_of_le (by omega : (1 + u).natAbs < 2 ^ 10) (Nat.pow_le_pow_right (by decide) (by decide))
  exact ⟨v, u, T1, T2, e1, e2, cut_ F d (v - a) (1 + u) T2 (by omega) small, divInt_bd (by omega) (hN v v1 v2) (by omega), t2⟩
theorem law_rectangle (F : FrL P) (h2 : P.fn 2 = some f_law_take) (h10 : P.fn 10 = some f_law_of) (h57 : P.fn 57 = some f_law_plus) (h294 : P.fn 294 = some f_law_fraction) (h : P.fn 377 = some f_law_rectangle) {d n : Nat} {T : Store} (t : Tin n T) (hn : n + 8 < 1000000000) :
    ∃ R T', callF P (d + 4) 377 [.cel 0] T = .ok (rc R) T' ∧ RB 78 28 R ∧ R.ok ∧ Tin (n + 8) T' := by
  obtain ⟨v, u, T1, T2, e1, e2, e3, b1, t2⟩ := cut_draw F h2 (D := d + 3) (by omega) t (by omega) 6 6 (c := 13) (m := 4) (by decide) (by decide) (by decide) (by decide) (fun v _ _ => by omega)
  obtain ⟨v', u', T3, T4, e4, e5, e6, b2, t4⟩ := cut_draw F h2 (D := d + 3) (by omega) t2 (by omega) 6 6 (c := 13) (m := 4) (by decide) (by decide) (by decide) (by decide) (fun v _ _ => by omega)
  obtain ⟨f, T5, e7, b3, p3, t5⟩ := law_fraction F h2 h10 h294 (d := d) t4 (by omega) (m := 9) (by decide) (by decide)
  obtain ⟨g, T6, e8, b4, p4, t6⟩ := law_fraction F h2 h10 h294 (d := d) t5 (by omega) (m := 9) (by decide) (by decide)
  generalize Rat.divInt (v - 6) (1 + u) = a at *
  generalize Rat.divInt (v' - 6) (1 + u') = b at *
  have s1 : Sz a := b1.small (by decide) (by decide)
  have s2 : Sz b := b2.small (by decide) (by decide)
  have s3 : Sz f := b3.small (by decide) (by decide)
  have s4 : Sz g := b4.small (by decide) (by decide)
  have q1 := law_plus F h57 d T5 s1 s3
  have q2 := law_plus F h57 d T6 s2 s4
  refine ⟨⟨a, b, a + f, b + g⟩, T6, ?_, ⟨b1.mono (by decide) (by decide), b2.mono (by decide) (by decide), (add_bd b1 b3).mono (by decide) (by decide), (add_bd b2 b4).mono (by decide) (by decide)⟩, ⟨by show a < a + f; grind, by show b < b + g; grind⟩, t6⟩
  rw [callF_at h rfl]
  simp [f_law_rectangle, startE, e1, e2, e3, e4, e5, e6, e7, e8, q1, q2, putAll, rc]
/-! ### spots -/
abbrev tupI (r : List Int) : PV := .tup (intz r)
def spotStep (a b : Int) (rows : List (List Int)) : List (List Int) := rows.flatMap fun r => (List.range b.toNat).map fun k => r ++ [a + (k : Nat)]
theorem step_len (a b : Int) (rows : List (List Int)) : (spotStep a b rows).length = rows.length * b.toNat := by
  unfold spotStep
  induction rows with
  | nil => simp
  | cons r rows ih => rw [List.flatMap_cons, List.length_append, ih, List.length_map, List.length_range, List.length_cons, Nat.succ_mul]; omega
theorem spot_step (h43 : P.fn 43 = some f_law_flat) (d : Nat) (x y : PV) (a b : Int) (rows : List (List Int)) (T : Store) (hb : 0 ≤ b) (hb2 : b ≤ 1000) (hr : ∀ r ∈ rows, r.length ≤ 1000) (hl : (spotStep a b rows).length ≤ 100000) (hl2 : rows.length ≤ 100000) :
    turn ⟨callF P (d + 1), P.gl, P.fu⟩ (.tp (.cons (.nm 3) (.cons (.nm 4) .nil))) b_law_spots_0 (.tup [.int a, .int b]) [.va x, .va y, .va (.lst (rows.map tupI)), .un, .un, .un, .un] T = .nx [.va x, .va y, .va (.lst ((spotStep a b rows).map tupI)), .un, .un, .un, .un] T := by
  have lp := line_pos
  have sb : smallR b = true := small_of (by omega) (by omega)
  have key : callF P (d + 1) 43 [.lst ((rows.map fun r => (List.range b.toNat).map fun k : Nat => tupI (r ++ [a + (k : Nat)])).map .lst)] T = .ok (.lst ((spotStep a b rows).map tupI)) T := by
    have ef : (rows.map fun r => (List.range b.toNat).map fun k : Nat => tupI (r ++ [a + (k : Nat)])).flatten = (spotStep a b rows).map tupI := by
      unfold spotStep
      rw [List.map_flatMap, List.flatMap_def]
      congr 1
      rw [List.map_inj_left]
      intro r _
      rw [List.map_map]; rfl
    rw [flat h43 d _ T (by rw [ef, List.length_map]; omega), ef]
  simp [b_law_spots_0]
  rw [loopC_map (g := fun v => match v with
    | .tup xs => .lst ((List.range b.toNat).map fun k : Nat => .tup (xs ++ [.int (a + (k : Nat))]))
    | _ => .non) fun v hv => by
    obtain ⟨r, hr1, rfl⟩ := List.mem_map.mp hv
    have l1 := hr r hr1
    simp [sb]
    rw [loopC_map (g := fun v => match v with
      | .int k => .tup (intz r ++ [.int (a + k)])
      | _ => .non) fun v hv => by
      obtain ⟨k, rfl, k1, k2⟩ := rng_mem hv
      have l2 : r.length + 1 ≤ line := by omega
      simp [l2]]
    have l3 : (rng 0 b).length ≤ line := by rw [rng_len]; omega
    simp only [compR, List.length_map, if_pos l3]
    simp only [rng, List.map_map, Int.sub_zero, Res.bind_ok]
    congr 4
    funext k
    simp]
  have l4 : rows.length ≤ line := by omega
  simp only [compR, List.length_map, if_pos l4, List.map_map, Res.bind_ok, a_nil]
  have e2 : ((fun v => match v with
    | .tup xs => PV.lst ((List.range b.toNat).map fun k : Nat => .tup (xs ++ [.int (a + (k : Nat))]))
    | _ => .non) ∘ tupI) = PV.lst ∘ fun r => (List.range b.toNat).map fun k : Nat => tupI (r ++ [a + (k : Nat)]) := by
    funext r
    simp [tupI, intz]
  rw [e2, ← List.map_map, key]
  simp
def spotsL : List Int → List Int → List (List Int) → List (List Int)
  | a :: c, b :: bs, rows => spotsL c bs (spotStep a b rows)
  | _, _, rows => rows
theorem zip_ints (a : Int) (c : List Int) (b : Int) (bs : List Int) : zip2 (intz (a :: c)) (intz (b :: bs)) = .tup [.int a, .int b] :: zip2 (intz c) (intz bs) := rfl
/-- the product of a box's sides -/
def vol (b : List Int) : Int := b.foldl (· * ·) 1
theorem spots_loop (h43 : P.fn 43 = some f_law_flat) (d : Nat) (x y : PV) (T : Store) (B : Nat) (hB : B ≤ 40) : ∀ (c b : List Int) (rows : List (List Int)) (m : Nat), c.length = b.length → (∀ z ∈ b, 0 ≤ z ∧ z ≤ (B : Int)) → (∀ r ∈ rows, r.length = m) → m + b.length ≤ 3 → rows.length ≤ B ^ m →
    loopS (turn ⟨callF P (d + 1), P.gl, P.fu⟩ (.tp (.cons (.nm 3) (.cons (.nm 4) .nil))) b_law_spots_0) (zip2 (intz c) (intz b)) [.va x, .va y, .va (.lst (rows.map tupI)), .un, .un, .un, .un] T = .nx [.va x, .va y, .va (.lst ((spotsL c b rows).map tupI)), .un, .un, .un, .un] T ∧
      (∀ r ∈ spotsL c b rows, r.length = m + b.length) ∧ (spotsL c b rows).length ≤ B ^ (m + b.length) ∧ ((spotsL c b rows).length : Int) = b.foldl (· * ·) (rows.length : Int)
  | [], [], rows, m, _, _, hr, _, hl => ⟨rfl, hr, hl, rfl⟩
  | a :: c, b :: bs, rows, m, hl, hb, hr, hm, hn => by
    have h1 := hb b List.mem_cons_self
    rw [List.length_cons] at hm
    have pB : B ^ 3 ≤ 40 ^ 3 := Nat.pow_le_pow_left hB 3
    have bn : b.toNat ≤ B := by omega
    have l1 : (spotStep a b rows).length ≤ B ^ (m + 1) := by
      rw [step_len, Nat.pow_succ]
      exact Nat.mul_le_mul hn bn
    have big : ∀ k, k ≤ 3 → B ^ k ≤ 100000 := fun k hk => by
      have : k = 0 ∨ k = 1 ∨ k = 2 ∨ k = 3 := by omega
      rcases this with rfl | rfl | rfl | rfl
      · simp
      · rw [Nat.pow_one]; omega
      · have := Nat.pow_le_pow_left hB 2; omega
      · omega
    have p1 := big m (by omega)
    have p2 := big (m + 1) (by omega)
    have st := spot_step h43 d x y a b rows T h1.1 (by omega) (fun r hr' => by rw [hr r hr']; omega) (by omega) (by omega)
    obtain ⟨e, q1, q2, q3⟩ := spots_loop h43 d x y T B hB c bs (spotStep a b rows) (m + 1) (by simpa using hl) (fun z hz => hb z (List.mem_cons_of_mem _ hz)) (fun r hr' => by
      unfold spotStep at hr'
      obtain ⟨r0, h0, h2⟩ := List.mem_flatMap.mp hr'
      obtain ⟨k, _, rfl⟩ := List.mem_map.mp h2
      rw [List.length_append, hr r0 h0]; rfl) (by omega) l1
    refine ⟨?_, fun r hr' => by rw [q1 r hr', List.length_cons]; omega, by rw [List.length_cons]; rw [show m + (bs.length + 1) = m + 1 + bs.length from by omega]; exact q2, ?_⟩
    · rw [zip_ints, loopS_cons st, e]; rfl
    · show ((spotsL c bs (spotStep a b rows)).length : Int) = bs.foldl (· * ·) ((rows.length : Int) * b)
      rw [q3, step_len]
      congr 1
      rw [Int.natCast_mul, Int.toNat_of_nonneg h1.1]
theorem spots (h43 : P.fn 43 = some f_law_flat) (h : P.fn 182 = some f_law_spots) (d : Nat) (c b : List Int) (T : Store) (B : Nat) (hB : B ≤ 40) (hl : c.length = b.length) (hb : ∀ z ∈ b, 0 ≤ z ∧ z ≤ (B : Int)) (hm : b.length ≤ 3) :
    callF P (d + 2) 182 [.tup (intz c), .tup (intz b)] T = .ok (.lst ((spotsL c b [[]]).map tupI)) T ∧ (∀ r ∈ spotsL c b [[]], r.length = b.length) ∧ (spotsL c b [[]]).length ≤ B ^ b.length ∧ ((spotsL c b [[]]).length : Int) = vol b := by
  obtain ⟨e, q1, q2, q3⟩ := spots_loop h43 d (.tup (intz c)) (.tup (intz b)) T B hB c b [[]] 0 hl hb (by simp) (by omega) (by simp)
  rw [Nat.zero_add] at q1 q2
  refine ⟨?_, q1, q2, q3⟩
  rw [callF_at h rfl]
  have e0 : ([[]] : List (List Int)).map tupI = [.tup []] := rfl
  rw [e0] at e
  generalize intz c = C' at *
  generalize intz b = B' at *
  simp [f_law_spots, startE, e]
/-! ### all trials -/
theorem trials {f : PV → Store → Res (List PV)} {n c : Nat} {T : Store} (k : Nat) (t : Tin n T) (hn : n + c * k < 1000000000) (h : ∀ x n T, Tin n T → n + c < 1000000000 → ∃ T', f x T = .ok [.bl true] T' ∧ Tin (n + c) T') :
    ∃ T', loopC f (rng 0 (k : Nat)) T = .ok ((List.replicate k ()).map fun _ => .bl true) T' ∧ Tin (n + c * k) T' := by
  obtain ⟨vs, T', e, l, q, t'⟩ := loopC_draw (f := f) (c := c) (N := 999999999) (Q := fun _ v => v = .bl true) (xs := rng 0 (k : Nat)) t (by rw [rng_len]; simp; omega) fun x hx n T t hN => by
    obtain ⟨T', e, t'⟩ := h x n T t (by omega)
    exact ⟨.bl true, T', e, rfl, t'⟩
  rw [rng_len] at l
  have lk : vs.length = k := by omega
  refine ⟨T', ?_, t'.mono (by rw [rng_len]; simp)⟩
  rw [e]
  congr 1
  apply List.ext_getElem?
  intro i
  by_cases hi : i < k
  · have e5 : vs[i]? = some vs[i] := List.getElem?_eq_getElem (by omega)
    have e6 : (rng 0 (k : Nat))[i]? = some ((rng 0 (k : Nat))[i]'(by rw [rng_len]; omega)) := List.getElem?_eq_getElem _
    rw [e5, q i _ _ e6 e5, List.getElem?_map, List.getElem?_replicate, if_pos hi]; rfl
  · rw [List.getElem?_eq_none (by omega), List.getElem?_eq_none (by simp; omega)]
/-- the law's box, its number c -/
abbrev boxF (c : Int) : Fn := ⟨2, 3, (.cons (.asg (.nm 2) (.ife (.cmp .lt (.var 1) (.bi .len (.cons (.var 0) .nil))) (.idx (.var 0) (.var 1)) (.con (.int 0)))) (.cons (.ret (.nce (.cons (.bin .mul (.bi .abs (.cons (.var 2) .nil)) (.bi .int_ (.cons (.cmp .ge (.bi .abs (.cons (.var 2) .nil)) (.bin .pow (.con (.int 10)) (.con (.int 18)))) .nil))) (.cons (.bin .add (.bin .add (.bin .mod (.bi .int_ (.cons (.var 2) .nil)) (.con (.int 2305843009213693951))) (.bin .mul (.con (.int 39373)) (.var 1))) (.con (.int c))) (.cons (.con (.int 0)) .nil))))) .nil))⟩
theorem box {c : Int} (h : P.fn 0 = some (boxF c)) (c0 : 0 ≤ c) (c1 : c < 1000000000) (d : Nat) (x : Int) : ∃ T, callF P (d + 1) 0 [.lst [.int x], .int 0] [] = .ok (.cel 0) T ∧ Tin 0 T := by
  rw [callF_at h rfl]
  have m0 : mulOk 39373 0 = true := mulOk_r (by decide)
  have e1 := Int.fmod_nonneg_of_pos x (b := 2305843009213693951) (by decide)
  have e2 := Int.fmod_lt_of_pos x (b := 2305843009213693951) (by decide)
  by_cases h : (10 : Int) ^ 18 ≤ (x.natAbs : Int)
  · have m1 : mulOk (x.natAbs : Int) 1 = true := mulOk_r (by decide)
    refine ⟨[[.int x.natAbs, .int (x.fmod 2305843009213693951 + c), .int 0]], ?_, _, _, _, rfl, by omega, by omega, by omega, by omega, by omega⟩
    have h' : (1000000000000000000 : Int) ≤ (x.natAbs : Int) := h
    simp [boxF, startE, index, ixn, m0, m1, h']
  · have m1 : mulOk (x.natAbs : Int) 0 = true := mulOk_r (by decide)
    refine ⟨[[.int 0, .int (x.fmod 2305843009213693951 + c), .int 0]], ?_, _, _, _, rfl, by omega, by omega, by omega, by omega, by omega⟩
    have h' : ¬ (1000000000000000000 : Int) ≤ (x.natAbs : Int) := h
    simp [boxF, startE, index, ixn, m0, m1, h']
end PU
end

section
set_option linter.all false
set_option autoImplicit false
set_option maxRecDepth 20000
set_option maxHeartbeats 1000000
/-! layings: what stays true when parts are cut -/
namespace PU
/-! ### sums -/
theorem sum_app (a b : List Rat) : (a ++ b).sum = a.sum + b.sum := by
  induction a with
  | nil => rw [List.nil_append, List.sum_nil]; grind
  | cons x a ih => rw [List.cons_append, List.sum_cons, List.sum_cons, ih]; grind
theorem sum_perm {a b : List Rat} (h : a.Perm b) : a.sum = b.sum := by
  induction h with
  | nil => rfl
  | cons x _ ih => rw [List.sum_cons, List.sum_cons, ih]
  | swap x y l => simp only [List.sum_cons]; grind
  | trans _ _ h1 h2 => rw [h1, h2]
/-- a product of two growths -/
def va (F G : Rat → Rat) (R : Rc) : Rat := (F R.r - F R.l) * (G R.t - G R.b)
/-- no room shared -/
def Dis (A B : Rc) : Prop := A.r ≤ B.l ∨ B.r ≤ A.l ∨ A.t ≤ B.b ∨ B.t ≤ A.b
theorem Dis.symm {A B : Rc} (h : Dis A B) : Dis B A := by unfold Dis at *; grind
def Sub (W R : Rc) : Prop := W.l ≤ R.l ∧ W.b ≤ R.b ∧ R.r ≤ W.r ∧ R.t ≤ W.t
theorem Sub.trans {A B C : Rc} (h : Sub A B) (k : Sub B C) : Sub A C := by unfold Sub at *; grind
theorem Dis.sub {A B C : Rc} (h : Dis A B) (k : Sub B C) : Dis A C := by unfold Dis Sub at *; grind
structure Lay (W : Rc) (Rs : List Rc) : Prop where
  ok : ∀ R ∈ Rs, R.ok
  inn : ∀ R ∈ Rs, Sub W R
  dis : Rs.Pairwise Dis
  va : ∀ F G : Rat → Rat, (Rs.map (va F G)).sum = PU.va F G W
theorem lay_one {W : Rc} (h : W.ok) : Lay W [W] where
  ok := fun R hR => by simp at hR; subst hR; exact h
  inn := fun R hR => by simp at hR; subst hR; unfold Sub; grind
  dis := List.pairwise_singleton ..
  va := fun F G => by simp only [List.map_cons, List.map_nil, List.sum_cons, List.sum_nil]; grind
theorem Lay.perm {W : Rc} {A B : List Rc} (h : Lay W A) (p : A.Perm B) : Lay W B where
  ok := fun R hR => h.ok R (p.mem_iff.mpr hR)
  inn := fun R hR => h.inn R (p.mem_iff.mpr hR)
  dis := (p.pairwise_iff fun k => Dis.symm k).mp h.dis
  va := fun F G => by rw [← h.va F G]; exact sum_perm (p.symm.map _)
/-- a part laid itself -/
theorem Lay.cut {W R : Rc} {A B N : List Rc} (h : Lay W (A ++ R :: B)) (k : Lay R N) : Lay W (A ++ (N ++ B)) where
  ok := fun S hS => by
    rcases List.mem_append.mp hS with hS | hS
    · exact h.ok S (List.mem_append_left _ hS)
    · rcases List.mem_append.mp hS with hS | hS
      · exact k.ok S hS
      · exact h.ok S (List.mem_append_right _ (List.mem_cons_of_mem _ hS))
  inn := fun S hS => by
    rcases List.mem_append.mp hS with hS | hS
    · exact h.inn S (List.mem_append_left _ hS)
    · rcases List.mem_append.mp hS with hS | hS
      · exact (h.inn R (List.mem_append_right _ List.mem_cons_self)).trans (k.inn S hS)
      · exact h.inn S (List.mem_append_right _ (List.mem_cons_of_mem _ hS))
  dis := by
    obtain ⟨h1, h2, h3⟩ := List.pairwise_append.mp h.dis
    obtain ⟨h4, h5⟩ := List.pairwise_cons.mp h2
    refine List.pairwise_append.mpr ⟨h1, List.pairwise_append.mpr ⟨k.dis, h5, fun x hx y hy => ((h4 y hy).symm.sub (k.inn x hx)).symm⟩, fun x hx y hy => ?_⟩
    rcases List.mem_append.mp hy with hy | hy
    · exact (h3 x hx R List.mem_cons_self).sub (k.inn y hy)
    · exact h3 x hx y (List.mem_cons_of_mem _ hy)
  va := fun F G => by
    have e := h.va F G
    have e2 := k.va F G
    rw [List.map_append, sum_app, List.map_cons, List.sum_cons] at e
    rw [List.map_append, sum_app, List.map_append, sum_app, e2]
    exact e
theorem lay_split0 {R : Rc} {x : Rat} (h : R.ok) (h1 : R.l < x) (h2 : x < R.r) : Lay R [⟨R.l, R.b, x, R.t⟩, ⟨x, R.b, R.r, R.t⟩] where
  ok := fun S hS => by
    simp at hS
    obtain ⟨o1, o2⟩ := h
    rcases hS with rfl | rfl
    · exact ⟨h1, o2⟩
    · exact ⟨h2, o2⟩
  inn := fun S hS => by
    simp at hS
    rcases hS with rfl | rfl <;> (unfold Sub; dsimp only; grind)
  dis := by
    rw [List.pairwise_pair]
    exact .inl (by dsimp only; grind)
  va := fun F G => by
    simp only [List.map_cons, List.map_nil, List.sum_cons, List.sum_nil, PU.va]
    grind
theorem lay_split1 {R : Rc} {y : Rat} (h : R.ok) (h1 : R.b < y) (h2 : y < R.t) : Lay R [⟨R.l, R.b, R.r, y⟩, ⟨R.l, y, R.r, R.t⟩] where
  ok := fun S hS => by
    simp at hS
    obtain ⟨o1, o2⟩ := h
    rcases hS with rfl | rfl
    · exact ⟨o1, h1⟩
    · exact ⟨o1, h2⟩
  inn := fun S hS => by
    simp at hS
    rcases hS with rfl | rfl <;> (unfold Sub; dsimp only; grind)
  dis := by
    rw [List.pairwise_pair]
    exact .inr (.inr (.inl (by dsimp only; grind)))
  va := fun F G => by
    simp only [List.map_cons, List.map_nil, List.sum_cons, List.sum_nil, PU.va]
    grind
theorem lay_wheel {R : Rc} {x1 x2 y1 y2 : Rat} (h : R.ok) (a1 : R.l < x1) (a2 : x1 < x2) (a3 : x2 < R.r) (b1 : R.b < y1) (b2 : y1 < y2) (b3 : y2 < R.t) :
    Lay R [⟨R.l, R.b, x2, y1⟩, ⟨x2, R.b, R.r, y2⟩, ⟨x1, y2, R.r, R.t⟩, ⟨R.l, y1, x1, R.t⟩, ⟨x1, y1, x2, y2⟩] where
  ok := fun S hS => by
    simp at hS
    rcases hS with rfl | rfl | rfl | rfl | rfl <;> (unfold Rc.ok; dsimp only; grind)
  inn := fun S hS => by
    simp at hS
    rcases hS with rfl | rfl | rfl | rfl | rfl <;> (unfold Sub; dsimp only; grind)
  dis := by
    simp only [List.pairwise_cons, List.mem_cons, List.not_mem_nil, or_false, forall_eq_or_imp, forall_eq]
    refine ⟨⟨?_, ?_, ?_, ?_⟩, ⟨?_, ?_, ?_⟩, ⟨?_, ?_⟩, ?_, fun a h => h.elim, List.Pairwise.nil⟩ <;> (unfold Dis; dsimp only; grind)
  va := fun F G => by
    simp only [List.map_cons, List.map_nil, List.sum_cons, List.sum_nil, PU.va]
    grind
/-! ### common denominators -/
def On (M : Nat) (q : Rat) : Prop := ∃ z : Int, q * (M : Rat) = (z : Rat)
theorem On.add {M : Nat} {p q : Rat} (h : On M p) (k : On M q) : On M (p + q) := by
  obtain ⟨a, ha⟩ := h
  obtain ⟨b, hb⟩ := k
  exact ⟨a + b, by rw [Rat.intCast_add, ← ha, ← hb]; grind⟩
theorem On.sub {M : Nat} {p q : Rat} (h : On M p) (k : On M q) : On M (p - q) := by
  obtain ⟨a, ha⟩ := h
  obtain ⟨b, hb⟩ := k
  exact ⟨a - b, by rw [Rat.intCast_sub, ← ha, ← hb]; grind⟩
theorem On.mul {M N : Nat} {p q : Rat} (h : On M p) (k : On N q) : On (M * N) (p * q) := by
  obtain ⟨a, ha⟩ := h
  obtain ⟨b, hb⟩ := k
  exact ⟨a * b, by rw [Rat.intCast_mul, ← ha, ← hb, Rat.natCast_mul]; grind⟩
theorem On.up {M : Nat} {q : Rat} (h : On M q) (b : Nat) : On (M * b) q := by
  obtain ⟨a, ha⟩ := h
  exact ⟨a * b, by rw [Rat.intCast_mul, ← ha, Rat.natCast_mul]; show q * ((M : Rat) * b) = q * M * ((b : Int) : Rat); rw [Rat.intCast_natCast]; grind⟩
theorem On.int (M : Nat) (z : Int) : On M (z : Rat) := ⟨z * M, by rw [Rat.intCast_mul, Rat.intCast_natCast]⟩
theorem On.den (q : Rat) : On q.den q := ⟨q.num, by
  have e := Rat.num_divInt_den q
  rw [Rat.divInt_eq_div, Rat.intCast_natCast] at e
  have : (q.den : Rat) ≠ 0 := by
    intro z
    have : (q.den : Int) = 0 := by exact_mod_cast z
    have := q.den_pos
    omega
  grind⟩
theorem on_div (z : Int) {M : Nat} (h : 0 < M) : On M (Rat.divInt z M) := ⟨z, by
  rw [Rat.divInt_eq_div, Rat.intCast_natCast]
  have : (M : Rat) ≠ 0 := by
    intro e
    have : (M : Int) = 0 := by exact_mod_cast e
    omega
  grind⟩
theorem On.eq {M : Nat} {q : Rat} (h : On M q) (hM : 0 < M) : ∃ z : Int, q = Rat.divInt z M ∧ q * (M : Rat) = (z : Rat) := by
  obtain ⟨z, hz⟩ := h
  refine ⟨z, ?_, hz⟩
  rw [Rat.divInt_eq_div, Rat.intCast_natCast, ← hz]
  have : (M : Rat) ≠ 0 := by
    intro e
    have : (M : Int) = 0 := by exact_mod_cast e
    omega
  grind
/-- of a denominator, within bounds -/
structure Tm (M V : Nat) (q : Rat) : Prop where
  on : On M q
  lo : -(V : Rat) ≤ q
  hi : q ≤ (V : Rat)
theorem Tm.bd {M V : Nat} {q : Rat} (h : Tm M V q) (hM : 0 < M) : Bd (V * M) M q := by
  obtain ⟨z, e, ez⟩ := h.on.eq hM
  have m0 : (0 : Rat) ≤ (M : Rat) := by exact_mod_cast (show (0 : Int) ≤ M by omega)
  have h1 : (z : Rat) ≤ ((V * M : Nat) : Rat) := by
    rw [← ez, Rat.natCast_mul]
    exact Rat.mul_le_mul_of_nonneg_right h.hi m0
  have h2 : -((V * M : Nat) : Rat) ≤ (z : Rat) := by
    rw [← ez, Rat.natCast_mul]
    have := Rat.mul_le_mul_of_nonneg_right h.lo m0
    grind
  have h1' : z ≤ ((V * M : Nat) : Int) := by exact_mod_cast h1
  have h2' : -((V * M : Nat) : Int) ≤ z := by
    rw [← Rat.intCast_le_intCast, Rat.intCast_neg, Rat.intCast_natCast]; exact h2
  rw [e]
  refine divInt_bd (by omega) ?_ (by simp)
  omega
end PU
end

section
set_option linter.all false
set_option autoImplicit false
/-! a def's body in parts -/
namespace PU
open MP
def appS : Ss → Ss → Ss
  | .nil, b => b
  | .cons s r, b => .cons s (appS r b)
def takeS : Nat → Ss → Ss
  | 0, _ => .nil
  | _ + 1, .nil => .nil
  | n + 1, .cons s r => .cons s (takeS n r)
def dropS : Nat → Ss → Ss
  | 0, s => s
  | _ + 1, .nil => .nil
  | n + 1, .cons _ r => dropS n r
theorem app_td : ∀ (n : Nat) (s : Ss), appS (takeS n s) (dropS n s) = s
  | 0, s => by cases s <;> rfl
  | n + 1, .nil => rfl
  | n + 1, .cons s r => by rw [takeS, dropS, appS, app_td n r]
theorem execs_app (C : Ctx) : ∀ (a b : Ss) (ρ : Env) (T : Store), execs C ρ T (appS a b) = seqE C b (execs C ρ T a)
  | .nil, b, ρ, T => rfl
  | .cons s r, b, ρ, T => by
    rw [appS, ss_cons, ss_cons]
    cases h : exec C ρ T s with
    | nx ρ' T' => rw [seqE_nx, seqE_nx]; exact execs_app C r b ρ' T'
    | _ => rfl
theorem drop_drop (m : Nat) : ∀ (n : Nat) (s : Ss), dropS m (dropS n s) = dropS (n + m) s
  | 0, s => by rw [Nat.zero_add]; rfl
  | n + 1, .nil => by rw [Nat.add_right_comm]; cases m <;> rfl
  | n + 1, .cons s r => by rw [Nat.add_right_comm]; exact drop_drop m n r
/-- the first n statements, then the others -/
theorem execs_at (n : Nat) (C : Ctx) (s : Ss) {ρ ρ' : Env} {T T' : Store} (h : execs C ρ T (takeS n s) = .nx ρ' T') : execs C ρ T s = execs C ρ' T' (dropS n s) := by
  conv => lhs; rw [← app_td n s]
  rw [execs_app, h, seqE_nx]
end PU
end

section
set_option linter.all false
set_option autoImplicit false
set_option exponentiation.threshold 100000
set_option maxRecDepth 20000
set_option maxHeartbeats 1000000
/-! layings: drawn -/
namespace PU
open MP IR
variable {P : Prog}
theorem Bd.sz2 {N D : Nat} {q : Rat} (h : Bd N D q) (h1 : N ≤ 10 ^ 200) (h2 : D ≤ 10 ^ 200) : Sz q := by
  have k : 10 ^ 200 ≤ 2 ^ 1000 := Nat.le_trans (Nat.pow_le_pow_left (by decide : 10 ≤ 2 ^ 4) 200) (by rw [← Nat.pow_mul]; exact Nat.pow_le_pow_right (by decide) (by decide))
  exact h.mono (Nat.le_trans h1 k) (Nat.le_trans h2 k)
theorem Bd.val {N D : Nat} {q : Rat} (h : Bd N D q) : -(N : Rat) ≤ q ∧ q ≤ (N : Rat) := by
  obtain ⟨h1, h2⟩ := h
  have h0 := q.den_pos
  have k : (N : Int) * 1 ≤ N * q.den := Int.mul_le_mul_of_nonneg_left (by omega) (by omega)
  constructor
  · rw [← Rat.intCast_natCast, ← Rat.intCast_neg, Rat.le_iff, Rat.num_intCast, Rat.den_intCast]
    have : -(N : Int) * q.den = -(N * q.den) := by grind
    omega
  · rw [← Rat.intCast_natCast, Rat.le_iff, Rat.num_intCast, Rat.den_intCast]
    omega
theorem div_pos {a b : Int} (ha : 0 < a) (hb : 0 < b) : 0 < Rat.divInt a b := by
  rw [Rat.divInt_eq_div, Rat.div_def]
  exact Rat.mul_pos (by exact_mod_cast ha) (Rat.inv_pos.mpr (by exact_mod_cast hb))
theorem div_one {a b : Int} (ha : a < b) (hb : 0 < b) : Rat.divInt a b < 1 := by
  have h := div_pos (show 0 < b - a by omega) hb
  rw [Rat.divInt_eq_div] at h ⊢
  rw [Rat.intCast_sub] at h
  have : (b : Rat) ≠ 0 := by
    intro e
    have : b = 0 := by exact_mod_cast e
    omega
  grind
/-- a fraction times a pair as it stands -/
theorem by_raw (F : FrL P) (h : P.fn 61 = some f_law_by) (d : Nat) {p : Rat} (a b : Int) (T : Store) (hp : Sz p) (ha : a.natAbs ≤ 1000) (hb : b.natAbs ≤ 1000) (h0 : b ≠ 0) : callF P (d + 3) 61 [fr p, .tup [.int a, .int b]] T = .ok (fr (p * Rat.divInt a b)) T := by
  have k : 1000 ≤ 2 ^ 1000 := Nat.le_trans (by decide : 1000 ≤ 2 ^ 10) (Nat.pow_le_pow_right (by decide) (by decide))
  have d0 : (p.den : Int) * b ≠ 0 := by
    have := p.den_pos
    exact Int.mul_ne_zero (by omega) h0
  have ds : ((p.den : Int) * b).natAbs < 2 ^ 4000 := by
    rw [Int.natAbs_mul]
    have h1 := Nat.mul_le_mul hp.2 (Nat.le_trans hb k)
    rw [← Nat.pow_add] at h1
    exact Nat.lt_of_le_of_lt h1 (Nat.pow_lt_pow_right (by decide) (by decide))
  have e := cut_ F d (p.num * a) (p.den * b) T d0 ds
  have e2 : Rat.divInt (p.num * a) (p.den * b) = p * Rat.divInt a b := by
    rw [← Rat.divInt_mul_divInt, Rat.num_divInt_den]
  rw [e2] at e
  have m1 : mulOk p.num a = true := mulOk_r (by omega)
  have m2 : mulOk p.den b = true := mulOk_r (by omega)
  have i0 : index T (.tup [.int a, .int b]) (.int 0) = some (.int a) := rfl
  have i1 : index T (.tup [.int a, .int b]) (.int 1) = some (.int b) := rfl
  rw [callF_at h rfl]
  simp [f_law_by, startE, fr_i0, fr_i1, i0, i1, m1, m2, e]
/-- the facts of drawn layings -/
structure DrP (P : Prog) : Prop where
  fl : FrL P
  take : P.fn 2 = some f_law_take
  of_ : P.fn 10 = some f_law_of
  pick : P.fn 27 = some f_law_pick
  plus : P.fn 57 = some f_law_plus
  less : P.fn 62 = some f_law_less
  by_ : P.fn 61 = some f_law_by
  betw : P.fn 88 = some f_law_between
theorem between (F : DrP P) {d n M : Nat} {T : Store} (t : Tin n T) (hn : n + 2 < 1000000000) {p q : Rat} (hp : On M p) (hq : On M q) (bp : Bd nearB nearB p) (bq : Bd nearB nearB q) (h : p < q) :
    ∃ x b T', callF P (d + 4) 88 [.cel 0, fr p, fr q] T = .ok (fr x) T' ∧ p < x ∧ x < q ∧ 1 ≤ b ∧ b ≤ 5 ∧ On (M * b) x ∧ Tin (n + 2) T' := by
  obtain ⟨u, T1, e1, m1, t1⟩ := of_ F.take F.of_ (d := d + 1) (g := .lst [.int 2, .int 2, .int 3, .int 4, .int 5]) t (by omega) (.inl rfl) (by decide) (by decide)
  obtain ⟨b, rfl, b1, b2⟩ : ∃ c : Int, u = .int c ∧ 2 ≤ c ∧ c ≤ 5 := by
    simp at m1
    rcases m1 with rfl | rfl | rfl | rfl <;> exact ⟨_, rfl, by decide, by decide⟩
  obtain ⟨v, T2, e2, v1, v2, t2⟩ := take F.take (d := d + 2) t1 (by omega) (b := b - 1) (by omega) (by omega)
  have s1 := sub_bd bq bp
  have sz1 : Sz (q - p) := s1.sz2 (by decide) (by decide)
  have rb : Bd 5 5 (Rat.divInt (1 + v) b) := divInt_bd (by omega) (by omega) (by omega)
  have s2 := mul_bd s1 rb
  have sz2 : Sz ((q - p) * Rat.divInt (1 + v) b) := s2.sz2 (by decide) (by decide)
  have e3 := law_less F.fl F.less d T2 bq.sz bp.sz
  have e4 := by_raw F.fl F.by_ d (1 + v) b T2 sz1 (by omega) (by omega) (by omega)
  have e5 := law_plus F.fl F.plus d T2 bp.sz sz2
  have r0 := div_pos (show 0 < 1 + v by omega) (show 0 < b by omega)
  have r1 := div_one (show 1 + v < b by omega) (show 0 < b by omega)
  have or_ : On b.toNat (Rat.divInt (1 + v) b) := by
    have := on_div (1 + v) (M := b.toNat) (by omega)
    rwa [Int.toNat_of_nonneg (by omega)] at this
  generalize Rat.divInt (1 + v) b = r at *
  have qp : 0 < q - p := by grind
  have k1 := Rat.mul_pos qp r0
  have k2 := Rat.mul_lt_mul_of_pos_left r1 qp
  refine ⟨p + (q - p) * r, b.toNat, T2, ?_, by grind, by grind, by omega, by omega, (hp.up _).add ((hq.sub hp).mul or_), t2⟩
  rw [callF_at F.betw rfl]
  simp [f_law_between, startE, e1, e2, e3, e4, e5]
theorem split0 (h : P.fn 90 = some f_law_split) (d : Nat) (R : Rc) (x : Rat) (T : Store) : callF P (d + 1) 90 [rc R, .int 0, fr x] T = .ok (.lst [rc ⟨R.l, R.b, x, R.t⟩, rc ⟨x, R.b, R.r, R.t⟩]) T := by
  rw [callF_at h rfl]
  simp [f_law_split, startE, rc_i0, rc_i1, rc_i2, rc_i3]
  exact ⟨rfl, rfl⟩
theorem split1 (h : P.fn 90 = some f_law_split) (d : Nat) (R : Rc) (x : Rat) (T : Store) : callF P (d + 1) 90 [rc R, .int 1, fr x] T = .ok (.lst [rc ⟨R.l, R.b, R.r, x⟩, rc ⟨R.l, x, R.r, R.t⟩]) T := by
  rw [callF_at h rfl]
  simp [f_law_split, startE, rc_i0, rc_i1, rc_i2, rc_i3]
  exact ⟨rfl, rfl⟩
theorem wheel (h : P.fn 104 = some f_law_wheel) (d : Nat) (R : Rc) (x1 x2 y1 y2 : Rat) (T : Store) : callF P (d + 1) 104 [rc R, fr x1, fr x2, fr y1, fr y2] T = .ok (.lst [rc ⟨R.l, R.b, x2, y1⟩, rc ⟨x2, R.b, R.r, y2⟩, rc ⟨x1, y2, R.r, R.t⟩, rc ⟨R.l, y1, x1, R.t⟩, rc ⟨x1, y1, x2, y2⟩]) T := by
  rw [callF_at h rfl]
  simp [f_law_wheel, startE]
  exact ⟨rfl, rfl, rfl, rfl, rfl⟩
/-! ### parts that fit -/
structure Fit (Mx My V : Nat) (R : Rc) : Prop where
  l : Tm Mx V R.l
  b : Tm My V R.b
  r : Tm Mx V R.r
  t : Tm My V R.t
theorem Tm.up {M V : Nat} {q : Rat} (h : Tm M V q) (b : Nat) : Tm (M * b) V q := ⟨h.on.up b, h.lo, h.hi⟩
theorem Fit.up {Mx My V : Nat} {R : Rc} (h : Fit Mx My V R) (a b : Nat) : Fit (Mx * a) (My * b) V R := ⟨h.l.up a, h.b.up b, h.r.up a, h.t.up b⟩
theorem Tm.mid {M M' V : Nat} {p q x : Rat} (h : Tm M V p) (k : Tm M V q) (o : On M' x) (h1 : p < x) (h2 : x < q) : Tm M' V x := ⟨o, by have := h.lo; grind, by have := k.hi; grind⟩
theorem Tm.near {M V : Nat} {q : Rat} (h : Tm M V q) (h0 : 0 < M) (h1 : V * M ≤ nearB) (h2 : M ≤ nearB) : Bd nearB nearB q := (h.bd h0).mono h1 h2
theorem Fit.near {Mx My V : Nat} {R : Rc} (h : Fit Mx My V R) (x0 : 0 < Mx) (y0 : 0 < My) (h1 : V * Mx ≤ nearB) (h2 : Mx ≤ nearB) (h3 : V * My ≤ nearB) (h4 : My ≤ nearB) : RB nearB nearB R := ⟨h.l.near x0 h1 h2, h.b.near y0 h3 h4, h.r.near x0 h1 h2, h.t.near y0 h3 h4⟩
/-- a drawn laying of so many parts, of such denominators -/
structure Dr (W : Rc) (B n : Nat) (Rs : List Rc) : Prop where
  lay : Lay W Rs
  ex : ∃ Mx My, 0 < Mx ∧ 0 < My ∧ Mx ≤ B ∧ My ≤ B ∧ ∀ R ∈ W :: Rs, Fit Mx My 30 R
  len : Rs.length ≤ n
  pos : 0 < Rs.length
theorem map_split {α β : Type} (f : α → β) {xs : List α} {k : Nat} (h : k < xs.length) : xs = xs.take k ++ xs[k] :: xs.drop (k + 1) := by
  rw [List.getElem_cons_drop, List.take_append_drop]
structure CuP (P : Prog) : Prop where
  dr : DrP P
  split : P.fn 90 = some f_law_split
  wheel : P.fn 104 = some f_law_wheel
  cut : P.fn 176 = some f_law_cutting
theorem sl_parts (Rs : List Rc) (k : Nat) (h : k < Rs.length) (N : List Rc) (T : Store) (hl : Rs.length + N.length ≤ 1000) : ∃ a b, cutv none (some (k : Int)) (.lst (Rs.map rc)) = some (.lst a) ∧ cutv (some ((k : Int) + 1)) none (.lst (Rs.map rc)) = some (.lst b) ∧ a ++ N.map rc ++ b = (Rs.take k ++ (N ++ Rs.drop (k + 1))).map rc ∧ a.length ≤ 1000 ∧ a.length + N.length ≤ 1000 ∧ a.length + N.length + b.length ≤ 2000 := by
  have c1 := cut_take (Rs.map rc) k (by rw [List.length_map]; omega)
  have c2 := cut_drop (Rs.map rc) (k + 1) (by rw [List.length_map]; omega)
  refine ⟨(Rs.map rc).take k, (Rs.map rc).drop (k + 1), ?_, ?_, ?_, ?_, ?_, ?_⟩
  · rw [← c1]; rfl
  · rw [← c2]; rfl
  · rw [List.map_append, List.map_append, List.map_take, List.map_drop, List.append_assoc]
  all_goals simp only [List.length_take, List.length_drop, List.length_map]; omega
theorem cutting_turn (F : CuP P) {d n B m : Nat} {s1 s2 : SV} {x : PV} {T : Store} (t : Tin n T) (hn : n + 20 < 1000000000) {W : Rc} {Rs : List Rc} (h : Dr W B m Rs) (hB : 0 < B) (hB2 : B ≤ 1000000000) (hm : m ≤ 900) :
    ∃ Rs' T', turn ⟨callF P (d + 6), P.gl, P.fu⟩ (.nm 4) b_law_cutting_0 x [.va (.cel 0), s1, s2, .va (.lst (Rs.map rc)), .un, .un, .un, .un, .un, .un, .un, .un, .un, .un, .un] T = .nx [.va (.cel 0), s1, s2, .va (.lst (Rs'.map rc)), .un, .un, .un, .un, .un, .un, .un, .un, .un, .un, .un] T' ∧ Dr W (B * 25) (m + 4) Rs' ∧ Tin (n + 20) T' := by
  have lp := line_pos
  have hlen := h.len
  have hpos := h.pos
  obtain ⟨Mx, My, x0, y0, xB, yB, fit⟩ := h.ex
  obtain ⟨k, T1, e1, k1, k2, t1⟩ := take F.dr.take (d := d + 5) t (by omega) (b := Rs.length) (by omega) (by omega)
  obtain ⟨j, rfl⟩ : ∃ j : Nat, k = j := ⟨k.toNat, by omega⟩
  have hj : j < Rs.length := by omega
  obtain ⟨R, hR⟩ : ∃ R, R = Rs[j] := ⟨_, rfl⟩
  have mR : R ∈ Rs := hR ▸ List.getElem_mem hj
  have oR := h.lay.ok R mR
  have fR := fit R (List.mem_cons_of_mem _ mR)
  have nR : RB nearB nearB R := fR.near x0 y0 (by show 30 * Mx ≤ 1000000000000; omega) (by show Mx ≤ 1000000000000; omega) (by show 30 * My ≤ 1000000000000; omega) (by show My ≤ 1000000000000; omega)
  have ir : index T1 (.lst (Rs.map rc)) (.int j) = some (rc R) := by
    show (ixn (Rs.map rc).length (j : Int)).bind (fun i => (Rs.map rc)[i]?) = _
    have : ixn (Rs.map rc).length (j : Int) = some j := by
      unfold ixn
      rw [if_pos (by omega), if_pos (by rw [List.length_map]; omega)]; rfl
    rw [this, Option.bind_some, List.getElem?_map, List.getElem?_eq_getElem hj, hR]; rfl
  obtain ⟨c, T2, e2, c1, c2, t2⟩ := take F.dr.take (d := d + 5) t1 (by omega) (b := 4) (by decide) (by decide)
  have lay0 : Lay W (Rs.take j ++ R :: Rs.drop (j + 1)) := by rw [hR, List.getElem_cons_drop, List.take_append_drop]; exact h.lay
  have llen : (Rs.map rc).length = Rs.length := List.length_map ..
  have done : ∀ (N : List Rc) (a b : Nat), Lay R N → 0 < N.length → N.length ≤ 5 → 0 < a → 0 < b → a ≤ 25 → b ≤ 25 → (∀ S ∈ N, Fit (Mx * a) (My * b) 30 S) → Dr W (B * 25) (m + 4) (Rs.take j ++ (N ++ Rs.drop (j + 1))) := fun N a b hN p1 p2 a0 b0 a1 b1 fN => {
    lay := lay0.cut hN
    ex := ⟨Mx * a, My * b, Nat.mul_pos x0 a0, Nat.mul_pos y0 b0, Nat.mul_le_mul xB a1, Nat.mul_le_mul yB b1, fun S hS => by
      rcases List.mem_cons.mp hS with rfl | hS
      · exact (fit _ List.mem_cons_self).up a b
      · rcases List.mem_append.mp hS with hS | hS
        · exact (fit S (List.mem_cons_of_mem _ (List.mem_of_mem_take hS))).up a b
        · rcases List.mem_append.mp hS with hS | hS
          · exact fN S hS
          · exact (fit S (List.mem_cons_of_mem _ (List.mem_of_mem_drop hS))).up a b⟩
    len := by simp only [List.length_append, List.length_take, List.length_drop]; omega
    pos := by simp only [List.length_append]; omega }
  by_cases hc : c = 0
  · subst hc
    obtain ⟨x1, b1, T3, e3, p1, p2, p3, p4, p5, t3⟩ := between F.dr (d := d + 2) t2 (by omega) fR.l.on fR.r.on nR.1 nR.2.2.1 oR.1
    obtain ⟨y1, b2, T4, e4, q1, q2, q3, q4, q5, t4⟩ := between F.dr (d := d + 2) t3 (by omega) fR.b.on fR.t.on nR.2.1 nR.2.2.2 oR.2
    have tx1 : Tm (Mx * b1) 30 x1 := fR.l.mid fR.r p5 p1 p2
    have ty1 : Tm (My * b2) 30 y1 := fR.b.mid fR.t q5 q1 q2
    have mb1 : Mx * b1 ≤ B * 5 := Nat.mul_le_mul xB p4
    have mb2 : My * b2 ≤ B * 5 := Nat.mul_le_mul yB q4
    have nx1 : Bd nearB nearB x1 := tx1.near (Nat.mul_pos x0 p3) (by show 30 * (Mx * b1) ≤ 1000000000000; omega) (by show Mx * b1 ≤ 1000000000000; omega)
    have ny1 : Bd nearB nearB y1 := ty1.near (Nat.mul_pos y0 q3) (by show 30 * (My * b2) ≤ 1000000000000; omega) (by show My * b2 ≤ 1000000000000; omega)
    obtain ⟨x2, b3, T5, e5, r1, r2, r3, r4, r5, t5⟩ := between F.dr (d := d + 2) t4 (by omega) p5 (fR.r.on.up b1) nx1 nR.2.2.1 p2
    obtain ⟨y2, b4, T6, e6, s1', s2', s3, s4, s5, t6⟩ := between F.dr (d := d + 2) t5 (by omega) q5 (fR.t.on.up b2) ny1 nR.2.2.2 q2
    have tx2 : Tm (Mx * b1 * b3) 30 x2 := tx1.mid (fR.r.up b1) r5 r1 r2
    have ty2 : Tm (My * b2 * b4) 30 y2 := ty1.mid (fR.t.up b2) s5 s1' s2'
    have ew := wheel F.wheel (d + 5) R x1 x2 y1 y2 T6
    have hN := lay_wheel oR p1 r1 r2 q1 s1' s2'
    obtain ⟨a, b, z1, z2, z3, z4, z5, z6⟩ := sl_parts Rs j hj [⟨R.l, R.b, x2, y1⟩, ⟨x2, R.b, R.r, y2⟩, ⟨x1, y2, R.r, R.t⟩, ⟨R.l, y1, x1, R.t⟩, ⟨x1, y1, x2, y2⟩] T6 (by simp; omega)
    refine ⟨_, T6, ?_, done _ (b1 * b3) (b2 * b4) hN (by simp) (by simp) (Nat.mul_pos p3 r3) (Nat.mul_pos q3 s3) (Nat.mul_le_mul p4 r4) (Nat.mul_le_mul q4 s4) (fun S hS => ?_), t6.mono (by omega)⟩
    · rw [← z3]
      simp only [List.map_cons, List.map_nil] at z4 z5 z6 ⊢
      simp at z5 z6
      have w1 : a.length + 5 ≤ line := by omega
      have w2 : a.length + 5 + b.length ≤ line := by omega
      generalize Rs.map rc = L at *
      simp [b_law_cutting_0, putAll, llen, e1, ir, e2, e3, e4, e5, e6, ew, partV, isN, z1, z2, w1, w2]
    · have X1 : Tm (Mx * (b1 * b3)) 30 x1 := by rw [← Nat.mul_assoc]; exact tx1.up b3
      have X2 : Tm (Mx * (b1 * b3)) 30 x2 := by rw [← Nat.mul_assoc]; exact tx2
      have Y1 : Tm (My * (b2 * b4)) 30 y1 := by rw [← Nat.mul_assoc]; exact ty1.up b4
      have Y2 : Tm (My * (b2 * b4)) 30 y2 := by rw [← Nat.mul_assoc]; exact ty2
      have L := fR.l.up (b1 * b3)
      have Rr := fR.r.up (b1 * b3)
      have Bb := fR.b.up (b2 * b4)
      have Tt := fR.t.up (b2 * b4)
      simp at hS
      rcases hS with rfl | rfl | rfl | rfl | rfl <;> constructor <;> assumption
  · obtain ⟨w, T3, e3, w1, w2, t3⟩ := take F.dr.take (d := d + 5) t2 (by omega) (b := 2) (by decide) (by decide)
    have hw : w = 0 ∨ w = 1 := by omega
    have c0 : (c == 0) = false := by simpa using hc
    rcases hw with rfl | rfl
    · obtain ⟨x1, b1, T4, e4, p1, p2, p3, p4, p5, t4⟩ := between F.dr (d := d + 2) t3 (by omega) fR.l.on fR.r.on nR.1 nR.2.2.1 oR.1
      have tx1 : Tm (Mx * b1) 30 x1 := fR.l.mid fR.r p5 p1 p2
      have es := split0 F.split (d + 5) R x1 T4
      obtain ⟨a, b, z1, z2, z3, z4, z5, z6⟩ := sl_parts Rs j hj [⟨R.l, R.b, x1, R.t⟩, ⟨x1, R.b, R.r, R.t⟩] T4 (by simp; omega)
      refine ⟨_, T4, ?_, done _ b1 1 (lay_split0 oR p1 p2) (by simp) (by simp) p3 (by decide) (by omega) (by decide) (fun S hS => ?_), t4.mono (by omega)⟩
      · rw [← z3]
        simp only [List.map_cons, List.map_nil] at z4 z5 z6 ⊢
        simp at z5 z6
        have w1 : a.length + 2 ≤ line := by omega
        have w2 : a.length + 2 + b.length ≤ line := by omega
        generalize Rs.map rc = L at *
        simp [b_law_cutting_0, putAll, llen, e1, ir, e2, c0, e3, rc_i0, rc_i2, e4, es, partV, isN, z1, z2, w1, w2]
      · have L := fR.l.up b1
        have Rr := fR.r.up b1
        have Bb := fR.b.up 1
        have Tt := fR.t.up 1
        simp at hS
        rcases hS with rfl | rfl <;> constructor <;> assumption
    · obtain ⟨y1, b1, T4, e4, p1, p2, p3, p4, p5, t4⟩ := between F.dr (d := d + 2) t3 (by omega) fR.b.on fR.t.on nR.2.1 nR.2.2.2 oR.2
      have ty1 : Tm (My * b1) 30 y1 := fR.b.mid fR.t p5 p1 p2
      have es := split1 F.split (d + 5) R y1 T4
      obtain ⟨a, b, z1, z2, z3, z4, z5, z6⟩ := sl_parts Rs j hj [⟨R.l, R.b, R.r, y1⟩, ⟨R.l, y1, R.r, R.t⟩] T4 (by simp; omega)
      refine ⟨_, T4, ?_, done _ 1 b1 (lay_split1 oR p1 p2) (by simp) (by simp) (by decide) p3 (by decide) (by omega) (fun S hS => ?_), t4.mono (by omega)⟩
      · rw [← z3]
        simp only [List.map_cons, List.map_nil] at z4 z5 z6 ⊢
        simp at z5 z6
        have w1 : a.length + 2 ≤ line := by omega
        have w2 : a.length + 2 + b.length ≤ line := by omega
        generalize Rs.map rc = L at *
        simp [b_law_cutting_0, putAll, llen, e1, ir, e2, c0, e3, rc_i1, rc_i3, e4, es, partV, isN, z1, z2, w1, w2]
      · have L := fR.l.up 1
        have Rr := fR.r.up 1
        have Bb := fR.b.up b1
        have Tt := fR.t.up b1
        simp at hS
        rcases hS with rfl | rfl <;> constructor <;> assumption
end PU
end

section
set_option linter.all false
set_option autoImplicit false
set_option exponentiation.threshold 100000
set_option maxRecDepth 20000
set_option maxHeartbeats 2000000
/-! layings: drawn whole, cut, mixed up -/
namespace PU
open MP IR
variable {P : Prog}
theorem cutting_loop (F : CuP P) {d : Nat} {s1 s2 : SV} {W : Rc} : ∀ (xs : List PV) {n B m : Nat} {Rs : List Rc} {T : Store}, Tin n T → n + 20 * xs.length < 1000000000 → Dr W B m Rs → 0 < B → B * 25 ^ xs.length ≤ 1000000000 → m + 4 * xs.length ≤ 900 →
    ∃ Rs' T', loopS (turn ⟨callF P (d + 6), P.gl, P.fu⟩ (.nm 4) b_law_cutting_0) xs [.va (.cel 0), s1, s2, .va (.lst (Rs.map rc)), .un, .un, .un, .un, .un, .un, .un, .un, .un, .un, .un] T = .nx [.va (.cel 0), s1, s2, .va (.lst (Rs'.map rc)), .un, .un, .un, .un, .un, .un, .un, .un, .un, .un, .un] T' ∧ Dr W (B * 25 ^ xs.length) (m + 4 * xs.length) Rs' ∧ Tin (n + 20 * xs.length) T'
  | [], n, B, m, Rs, T, t, _, h, _, _, _ => ⟨Rs, T, rfl, by simpa using h, by simpa using t⟩
  | x :: xs, n, B, m, Rs, T, t, hn, h, hB, hB2, hm => by
    rw [List.length_cons] at *
    have e25 : B * 25 ^ (xs.length + 1) = B * 25 * 25 ^ xs.length := by rw [Nat.pow_succ, Nat.mul_comm (25 ^ xs.length), Nat.mul_assoc]
    have p1 : 1 ≤ 25 ^ xs.length := Nat.pow_pos (by decide)
    have p2 : B * 25 * 1 ≤ B * 25 * 25 ^ xs.length := Nat.mul_le_mul_left _ p1
    obtain ⟨Rs1, T1, e1, h1, t1⟩ := cutting_turn F (d := d) (s1 := s1) (s2 := s2) (x := x) t (by omega) h hB (by omega) (by omega)
    obtain ⟨Rs2, T2, e2, h2, t2⟩ := cutting_loop F (d := d) (s1 := s1) (s2 := s2) xs t1 (by omega) h1 (by omega) (by omega) (by omega)
    refine ⟨Rs2, T2, by rw [loopS_cons e1, e2], ?_, t2.mono (by omega)⟩
    rw [e25, show m + 4 * (xs.length + 1) = m + 4 + 4 * xs.length from by omega]
    exact h2
theorem perm_map_inv {f : Rc → PV} : ∀ {vs : List PV} {Rs : List Rc}, vs.Perm (Rs.map f) → ∃ Ss : List Rc, vs = Ss.map f ∧ Ss.Perm Rs
  | [], Rs, h => by
    have := h.symm.eq_nil
    rw [List.map_eq_nil_iff] at this
    subst this
    exact ⟨[], rfl, .refl _⟩
  | v :: vs, Rs, h => by
    obtain ⟨R, hR, rfl⟩ := List.mem_map.mp (h.mem_iff.mp List.mem_cons_self)
    obtain ⟨a, b, rfl⟩ := List.append_of_mem hR
    rw [List.map_append, List.map_cons] at h
    have h2 := (h.trans List.perm_middle).cons_inv
    rw [← List.map_append] at h2
    obtain ⟨Ss, rfl, h3⟩ := perm_map_inv h2
    exact ⟨R :: Ss, rfl, (h3.cons R).trans List.perm_middle.symm⟩
theorem Dr.perm {W : Rc} {B n : Nat} {A C : List Rc} (h : Dr W B n A) (p : A.Perm C) : Dr W B n C where
  lay := h.lay.perm p
  ex := by
    obtain ⟨Mx, My, a, b, c, d, e⟩ := h.ex
    exact ⟨Mx, My, a, b, c, d, fun R hR => e R (by
      rcases List.mem_cons.mp hR with rfl | hR
      · exact List.mem_cons_self
      · exact List.mem_cons_of_mem _ (p.mem_iff.mpr hR))⟩
  len := by rw [← p.length_eq]; exact h.len
  pos := by rw [← p.length_eq]; exact h.pos
/-- all of a row, mixed up -/
theorem pick_all (F : DrP P) {d n : Nat} {T : Store} (t : Tin n T) {Rs : List Rc} (hn : n + Rs.length < 1000000000) (hl : Rs.length ≤ 1000) : ∃ Ss T', callF P (d + 2) 27 [.cel 0, .lst (Rs.map rc), .int Rs.length] T = .ok (.lst (Ss.map rc)) T' ∧ Rs.Perm Ss ∧ Tin (n + Rs.length) T' := by
  obtain ⟨found, rest, T', e, l, p, t'⟩ := PU.pick F.take F.pick (d := d) t (N := 999999999) (by decide) (g := .lst (Rs.map rc)) (xs := Rs.map rc) (.inl rfl) Rs.length (by omega) (by rw [List.length_map]; omega) (by omega)
  rw [List.length_map, Nat.min_self] at l
  have hr : rest = [] := by
    have := p.length_eq
    rw [List.length_append, List.length_map, l] at this
    exact List.eq_nil_of_length_eq_zero (by omega)
  rw [hr, List.append_nil] at p
  obtain ⟨Ss, rfl, q⟩ := perm_map_inv p
  exact ⟨Ss, T', e, q.symm, t'⟩
theorem cutting (F : CuP P) {d n : Nat} {T : Store} (t : Tin n T) {W : Rc} {B k : Nat} {K : Int} (hK : K = k) (hB : 0 < B) (hk : B * 25 ^ k ≤ 1000000000) (hk2 : k ≤ 6) (h : Dr W B 1 [W]) (hn : n + 200 < 1000000000) :
    ∃ Rs T', callF P (d + 7) 176 [.cel 0, rc W, .int K] T = .ok (.tup (Rs.map rc)) T' ∧ Dr W (B * 25 ^ k) (1 + 4 * k) Rs ∧ Tin (n + 150) T' := by
  have lk : (rng 0 K).length = k := by rw [rng_len]; omega
  have sk : smallR K = true := small_of (by omega) (by omega)
  obtain ⟨Rs, T1, e1, h1, t1⟩ := cutting_loop F (d := d) (s1 := .va (rc W)) (s2 := .va (.int K)) (rng 0 K) t (by rw [lk]; omega) h hB (by rw [lk]; exact hk) (by rw [lk]; omega)
  rw [lk] at h1 t1
  have l1 := h1.len
  obtain ⟨Ss, T2, e2, p2, t2⟩ := pick_all F.dr (d := d + 4) t1 (Rs := Rs) (by omega) (by omega)
  refine ⟨Ss, T2, ?_, h1.perm p2, t2.mono (by omega)⟩
  rw [callF_at F.cut rfl]
  have lR : (Rs.map rc).length = Rs.length := List.length_map ..
  generalize Rs.map rc = L at *
  simp only [List.map_cons, List.map_nil] at e1
  simp [f_law_cutting, startE, sk, e1, lR, e2]
/-! ### a drawn whole -/
theorem whole_den {q : Rat} : q.den = 1 ↔ ∃ z : Int, q = (z : Rat) := by
  constructor
  · intro h
    exact ⟨q.num, Rat.ext (by simp) (by simp [h])⟩
  · rintro ⟨z, rfl⟩; simp
theorem divInt_int (z : Int) : Rat.divInt z 1 = (z : Rat) := by rw [Rat.divInt_eq_div]; simp; grind
theorem fr_int (z : Int) : fr (z : Rat) = .tup [.int z, .int 1] := by unfold fr; simp
theorem fr_half : fr (Rat.divInt 1 2) = .tup [.int 1, .int 2] := by
  unfold fr
  rw [show (Rat.divInt 1 2).num = 1 from by decide +kernel, show (Rat.divInt 1 2).den = 2 from by decide +kernel]; rfl
theorem fr_third : fr (Rat.divInt 1 3) = .tup [.int 1, .int 3] := by
  unfold fr
  rw [show (Rat.divInt 1 3).num = 1 from by decide +kernel, show (Rat.divInt 1 3).den = 3 from by decide +kernel]; rfl
theorem not_whole {q : Rat} {b : Nat} (h : q.den = 1) (hb : 2 ≤ b) : (q + Rat.divInt 1 b).den ≠ 1 := by
  intro k
  obtain ⟨z, rfl⟩ := whole_den.mp h
  obtain ⟨w, hw⟩ := whole_den.mp k
  have e : Rat.divInt 1 (b : Int) = ((w - z : Int) : Rat) := by rw [Rat.intCast_sub]; grind
  have e2 := congrArg (fun x : Rat => x * (b : Rat)) e
  have b0 : (b : Rat) ≠ 0 := by
    intro z
    have : (b : Int) = 0 := by exact_mod_cast z
    omega
  have e3 : Rat.divInt 1 (b : Int) * (b : Rat) = 1 := by rw [Rat.divInt_eq_div, Rat.intCast_natCast]; simp; grind
  have e4 : ((1 : Int) : Rat) = (((w - z) * (b : Int) : Int) : Rat) := by
    rw [Rat.intCast_mul, Rat.intCast_natCast]
    show (1 : Rat) = _
    rw [← e3]; exact e2
  have e5 : (1 : Int) = (w - z) * (b : Int) := by exact_mod_cast e4
  generalize w - z = u at *
  by_cases hu : u ≤ 0
  · have := Int.mul_le_mul_of_nonneg_right hu (show (0 : Int) ≤ b by omega)
    omega
  · have := Int.mul_le_mul_of_nonneg_right (show (1 : Int) ≤ u by omega) (show (0 : Int) ≤ b by omega)
    omega
/-- a drawn whole -/
structure Whole (k : Int) (W : Rc) : Prop where
  dr : Dr W 36 1 [W]
  k0 : k = 0 → (W.r - W.l).den = 1
  k1 : k = 1 → (W.t - W.b).den = 1
  k2 : k = 2 → (W.r - W.l).den ≠ 1 ∧ (W.t - W.b).den ≠ 1
/-- a drawn side -/
structure Sd (w : Rat) : Prop where
  pos : 0 < w
  hi : w ≤ 24
  den : w.den ≤ 12
theorem side_fit {a w : Rat} (ha : Bd 4 3 a) (hw : Sd w) : ∃ M, 0 < M ∧ M ≤ 36 ∧ Tm M 30 a ∧ Tm M 30 (a + w) := by
  have v1 := ha.val
  have w0 := hw.pos
  have v2 := hw.hi
  have d1 := a.den_pos
  have d2 := w.den_pos
  have o1 := (On.den a).up w.den
  have o2 : On (a.den * w.den) w := by rw [Nat.mul_comm]; exact (On.den w).up a.den
  refine ⟨a.den * w.den, Nat.mul_pos d1 d2, ?_, ⟨o1, ?_, ?_⟩, ⟨o1.add o2, ?_, ?_⟩⟩
  · exact Nat.mul_le_mul ha.2 hw.den
  all_goals simp at *; grind
theorem start_ok {a b w h : Rat} (ha : Bd 4 3 a) (hb : Bd 4 3 b) (hw : Sd w) (hh : Sd h) : Dr ⟨a, b, a + w, b + h⟩ 36 1 [⟨a, b, a + w, b + h⟩] where
  lay := lay_one ⟨by have := hw.pos; show a < a + w; grind, by have := hh.pos; show b < b + h; grind⟩
  ex := by
    obtain ⟨M, m0, m1, m2, m3⟩ := side_fit ha hw
    obtain ⟨N, n0, n1, n2, n3⟩ := side_fit hb hh
    exact ⟨M, N, m0, n0, m1, n1, fun R hR => by simp at hR; subst hR; exact ⟨m2, n2, m3, n3⟩⟩
  len := by simp
  pos := by simp
end PU
end

section
set_option linter.all false
set_option autoImplicit false
set_option exponentiation.threshold 100000
set_option maxRecDepth 20000
set_option maxHeartbeats 4000000
/-! layings: a drawn whole; the program looks at one -/
namespace PU
open MP IR
variable {P : Prog}
theorem cut_pos {a b : Int} (ha : 0 < a) (hb : 0 < b) : 0 < Rat.divInt a b := div_pos ha hb
theorem law_start (F : DrP P) (h : P.fn 91 = some f_law_start) {d n : Nat} {T : Store} (t : Tin n T) (hn : n + 20 < 1000000000) (k : Int) (k0 : 0 ≤ k) (k2 : k < 3) :
    ∃ W T', callF P (d + 4) 91 [.cel 0, .int k] T = .ok (rc W) T' ∧ Whole k W ∧ Tin (n + 12) T' := by
  obtain ⟨v, u, T1, T2, e1, e2, e3, b1, t2⟩ := cut_draw F.fl F.take (D := d + 3) (by omega) t (by omega) 4 4 (c := 9) (m := 3) (by decide) (by decide) (by decide) (by decide) (fun v _ _ => by omega)
  obtain ⟨v', u', T3, T4, e4, e5, e6, b2, t4⟩ := cut_draw F.fl F.take (D := d + 3) (by omega) t2 (by omega) 4 4 (c := 9) (m := 3) (by decide) (by decide) (by decide) (by decide) (fun v _ _ => by omega)
  obtain ⟨a1, T5, f1, p1, p2, t5⟩ := take F.take (d := d + 2) t4 (by omega) (b := 20) (by decide) (by decide)
  obtain ⟨a2, T6, f2, p3, p4, t6⟩ := take F.take (d := d + 2) t5 (by omega) (b := 5) (by decide) (by decide)
  obtain ⟨a3, T7, f3, p5, p6, t7⟩ := take F.take (d := d + 2) t6 (by omega) (b := 20) (by decide) (by decide)
  obtain ⟨a4, T8, f4, p7, p8, t8⟩ := take F.take (d := d + 2) t7 (by omega) (b := 5) (by decide) (by decide)
  have sm : ∀ z : Int, 0 ≤ z → z < 5 → (2 + z).natAbs < 2 ^ 4000 := fun z h1 h2 => Nat.lt_of_lt_of_le (by omega : (2 + z).natAbs < 2 ^ 3) (Nat.pow_le_pow_right (by decide) (by decide))
  have f5 := cut_ F.fl (d + 1) (3 + a1) (2 + a2) T6 (by omega) (sm _ p3 p4)
  have f6 := cut_ F.fl (d + 1) (3 + a3) (2 + a4) T8 (by omega) (sm _ p7 p8)
  have bw : Bd 22 6 (Rat.divInt (3 + a1) (2 + a2)) := divInt_bd (by omega) (by omega) (by omega)
  have bh : Bd 22 6 (Rat.divInt (3 + a3) (2 + a4)) := divInt_bd (by omega) (by omega) (by omega)
  have pw := div_pos (show 0 < 3 + a1 by omega) (show 0 < 2 + a2 by omega)
  have ph := div_pos (show 0 < 3 + a3 by omega) (show 0 < 2 + a4 by omega)
  generalize Rat.divInt (v - 4) (1 + u) = a at *
  generalize Rat.divInt (v' - 4) (1 + u') = b at *
  generalize Rat.divInt (3 + a1) (2 + a2) = w at *
  generalize Rat.divInt (3 + a3) (2 + a4) = g at *
  have b1' : Bd 4 3 a := b1
  have b2' : Bd 4 3 b := b2
  have sa : Sz a := b1.small (by decide) (by decide)
  have sb : Sz b := b2.small (by decide) (by decide)
  have sw : Sz w := bw.small (by decide) (by decide)
  have sg : Sz g := bh.small (by decide) (by decide)
  have rW : ∀ x y : Rat, PV.tup [fr a, fr b, fr x, fr y] = rc ⟨a, b, x, y⟩ := fun _ _ => rfl
  have hk : k = 0 ∨ k = 1 ∨ k = 2 := by omega
  have pint : ∀ z : Int, 0 ≤ z → z < 6 → Sd ((1 + z : Int) : Rat) ∧ Sz ((1 + z : Int) : Rat) := fun z h1 h2 => by
    have bz : Bd 24 12 ((1 + z : Int) : Rat) := ⟨by rw [Rat.num_intCast]; omega, by rw [Rat.den_intCast]; omega⟩
    exact ⟨⟨by exact_mod_cast (show (0 : Int) < 1 + z by omega), bz.val.2, bz.2⟩, bz.small (by decide) (by decide)⟩
  have dw : Sd w := ⟨pw, by have := bw.val.2; simp at this; grind, Nat.le_trans bw.2 (by decide)⟩
  have dg : Sd g := ⟨ph, by have := bh.val.2; simp at this; grind, Nat.le_trans bh.2 (by decide)⟩
  have wide : ∀ x y : Rat, a + x - a = x ∧ b + y - b = y := fun x y => by constructor <;> grind
  rcases hk with rfl | rfl | rfl
  · obtain ⟨z, T9, g1, z1, z2, t9⟩ := take F.take (d := d + 2) t8 (by omega) (b := 6) (by decide) (by decide)
    obtain ⟨q1, q2⟩ := pint z z1 z2
    have g2 := fr_int (1 + z)
    have g3 := law_plus F.fl F.plus d T9 sa q2
    have g4 := law_plus F.fl F.plus d T9 sb sg
    rw [g2] at g3
    refine ⟨⟨a, b, a + ((1 + z : Int) : Rat), b + g⟩, T9, ?_, ⟨start_ok b1' b2' q1 dg, fun _ => ?_, fun h => by omega, fun h => by omega⟩, t9.mono (by omega)⟩
    · rw [callF_at h rfl]
      simp [f_law_start, startE, e1, e2, e3, e4, e5, e6, f1, f2, f3, f4, f5, f6, putAll, g1]
      rw [g3]
      simp [g4, rW]
    · rw [show a + ((1 + z : Int) : Rat) - a = ((1 + z : Int) : Rat) from (wide _ 0).1]; rfl
  · obtain ⟨z, T9, g1, z1, z2, t9⟩ := take F.take (d := d + 2) t8 (by omega) (b := 6) (by decide) (by decide)
    obtain ⟨q1, q2⟩ := pint z z1 z2
    have g2 := fr_int (1 + z)
    have g3 := law_plus F.fl F.plus d T9 sb q2
    have g4 := law_plus F.fl F.plus d T9 sa sw
    rw [g2] at g3
    refine ⟨⟨a, b, a + w, b + ((1 + z : Int) : Rat)⟩, T9, ?_, ⟨start_ok b1' b2' dw q1, fun h => by omega, fun _ => ?_, fun h => by omega⟩, t9.mono (by omega)⟩
    · rw [callF_at h rfl]
      simp [f_law_start, startE, e1, e2, e3, e4, e5, e6, f1, f2, f3, f4, f5, f6, putAll, g1, g4]
      rw [g3]
      simp [rW]
    · rw [show b + ((1 + z : Int) : Rat) - b = ((1 + z : Int) : Rat) from (wide 0 _).2]; rfl
  · have half : Bd 1 2 (Rat.divInt 1 2) := divInt_bd (by decide) (by decide) (by decide)
    have third : Bd 1 3 (Rat.divInt 1 3) := divInt_bd (by decide) (by decide) (by decide)
    have one : ∀ (x : Rat) (b : Nat) (y : Rat) (hy : y = Rat.divInt 1 b) (hb : 2 ≤ b) (hb3 : b ≤ 3) (hx : Bd 22 6 x) (px : 0 < x), ∃ x' : Rat, Sd x' ∧ Sz x' ∧ x'.den ≠ 1 ∧ (¬ 1 < (x.den : Int) → x' = x + y) ∧ (1 < (x.den : Int) → x' = x) := fun x b y hy hb hb3 hx px => by
      have y0 := cut_pos (show (0 : Int) < 1 by decide) (show (0 : Int) < b by omega)
      have y1 := div_one (show (1 : Int) < b by omega) (show (0 : Int) < b by omega)
      have yb : Bd 1 b (Rat.divInt 1 b) := divInt_bd (by omega) (by decide) (by omega)
      have hv := hx.val.2
      rw [← hy] at y0 y1 yb
      simp at hv
      by_cases hd : 1 < (x.den : Int)
      · exact ⟨x, ⟨px, by grind, Nat.le_trans hx.2 (by decide)⟩, hx.small (by decide) (by decide), by omega, fun z => absurd hd z, fun _ => rfl⟩
      · have d1 : x.den = 1 := by have := x.den_pos; omega
        have bs := add_bd (show Bd 22 1 x from ⟨hx.1, by omega⟩) yb
        refine ⟨x + y, ⟨by grind, by grind, by have := bs.2; omega⟩, bs.small (by omega) (by omega), by rw [hy]; exact not_whole d1 hb, fun _ => rfl, fun z => absurd z hd⟩
    obtain ⟨w', dw', sw', nw', c1, c2⟩ := one w 2 (Rat.divInt 1 2) rfl (by decide) (by decide) bw pw
    obtain ⟨g', dg', sg', ng', c3, c4⟩ := one g 3 (Rat.divInt 1 3) rfl (by decide) (by decide) bh ph
    have r1 := law_plus F.fl F.plus d T8 sw (half.small (by decide) (by decide))
    have r2 := law_plus F.fl F.plus d T8 sg (third.small (by decide) (by decide))
    have r3 := law_plus F.fl F.plus d T8 sa sw'
    have r4 := law_plus F.fl F.plus d T8 sb sg'
    rw [fr_half] at r1
    rw [fr_third] at r2
    refine ⟨⟨a, b, a + w', b + g'⟩, T8, ?_, ⟨start_ok b1' b2' dw' dg', fun h => by omega, fun h => by omega, fun _ => ?_⟩, t8.mono (by omega)⟩
    · rw [callF_at h rfl]
      by_cases hw : 1 < (w.den : Int)
      · rw [c2 hw] at r3
        by_cases hg : 1 < (g.den : Int)
        · rw [c4 hg] at r4
          simp [f_law_start, startE, e1, e2, e3, e4, e5, e6, f1, f2, f3, f4, f5, f6, putAll, fr_i1, hw, hg, r3, r4, rW, c2 hw, c4 hg]
        · rw [c3 hg] at r4
          simp [f_law_start, startE, e1, e2, e3, e4, e5, e6, f1, f2, f3, f4, f5, f6, putAll, fr_i1, hw, hg, r2, r3, r4, rW, c2 hw, c3 hg]
      · rw [c1 hw] at r3
        by_cases hg : 1 < (g.den : Int)
        · rw [c4 hg] at r4
          simp [f_law_start, startE, e1, e2, e3, e4, e5, e6, f1, f2, f3, f4, f5, f6, putAll, fr_i1, hw, hg, r1, r3, r4, rW, c1 hw, c4 hg]
        · rw [c3 hg] at r4
          simp [f_law_start, startE, e1, e2, e3, e4, e5, e6, f1, f2, f3, f4, f5, f6, putAll, fr_i1, hw, hg, r1, r2, r3, r4, rW, c1 hw, c3 hg]
    · show (a + w' - a).den ≠ 1 ∧ (b + g' - b).den ≠ 1
      rw [(wide w' 0).1, (wide 0 g').2]
      exact ⟨nw', ng'⟩
end PU
end

section
set_option linter.all false
set_option autoImplicit false
set_option exponentiation.threshold 100000
set_option maxRecDepth 20000
set_option maxHeartbeats 4000000
/-! the program looks at a laying -/
namespace PU
open MP IR
variable {P : Prog}
/-- the facts of the program's layings -/
structure LaP (P : Prog) : Prop where
  re : ReP P
  sides : P.fn 24 = some f_sides_of
  area : P.fn 28 = some f_area_in
  around : P.fn 29 = some f_around_in
  shared : P.fn 33 = some f_shared_in
  lies : P.fn 40 = some f_lies_in
  total : P.fn 42 = some f_total_in
  flaw : P.fn 36 = some f_flaw_in
  islay : P.fn 68 = some f_is_laying_in
  surel : P.fn 86 = some f_sure_laying
  nearp : P.fn 13 = some f_are_near_parts
  surep : P.fn 55 = some f_sure_parts
  gl1 : P.gl 1 = some (.int 60)
  gl5 : P.gl 5 = some (.tup [.int 0, .int 1])
structure LaB (P : Prog) : Prop where
  re : RpB P
  sides : P.fn 24 = some f_sides_of
theorem LaP.b {P : Prog} (L : LaP P) : LaB P := ⟨RpC.b L.re, L.sides⟩
theorem fr_zero : fr 0 = .tup [.int 0, .int 1] := rfl
/-- a laying's sizes, told in numbers -/
structure Sm (W : Rc) (Rs : List Rc) : Prop where
  near : ∀ R ∈ W :: Rs, RB nearB nearB R
  sum : ∀ k ≤ Rs.length, Sz (((Rs.take k).map (va id id)).sum)
  len : Rs.length ≤ 60
  pos : 0 < Rs.length
theorem sum_on {M : Nat} {V : Nat} : ∀ {qs : List Rat}, (∀ q ∈ qs, On M q ∧ 0 ≤ q ∧ q ≤ (V : Rat)) → On M qs.sum ∧ 0 ≤ qs.sum ∧ qs.sum ≤ ((V * qs.length : Nat) : Rat)
  | [], _ => ⟨⟨0, by simp⟩, by simp, by simp⟩
  | q :: qs, h => by
    obtain ⟨h1, h2, h3⟩ := h q List.mem_cons_self
    obtain ⟨k1, k2, k3⟩ := sum_on (qs := qs) fun x hx => h x (List.mem_cons_of_mem _ hx)
    rw [List.sum_cons, List.length_cons, Nat.mul_succ, Rat.natCast_add]
    exact ⟨h1.add k1, by grind, by grind⟩
theorem va_id {Mx My : Nat} {R : Rc} (f : Fit Mx My 30 R) (o : R.ok) : On (Mx * My) (va id id R) ∧ 0 ≤ va id id R ∧ va id id R ≤ ((3600 : Nat) : Rat) := by
  obtain ⟨o1, o2⟩ := o
  have a1 := f.l.lo
  have a2 := f.r.hi
  have b1 := f.b.lo
  have b2 := f.t.hi
  have w1 : 0 ≤ R.r - R.l := by grind
  have w2 : R.r - R.l ≤ 60 := by simp at a1 a2; grind
  have h1 : 0 ≤ R.t - R.b := by grind
  have h2 : R.t - R.b ≤ 60 := by simp at b1 b2; grind
  refine ⟨(f.r.on.sub f.l.on).mul (f.t.on.sub f.b.on), Rat.mul_nonneg w1 h1, ?_⟩
  have k1 := Rat.mul_le_mul_of_nonneg_right w2 h1
  have k2 := Rat.mul_le_mul_of_nonneg_left h2 (show (0 : Rat) ≤ 60 by decide +kernel)
  show (R.r - R.l) * (R.t - R.b) ≤ _
  have e : (60 : Rat) * 60 = ((3600 : Nat) : Rat) := by decide +kernel
  grind
theorem Dr.sm {W : Rc} {B n : Nat} {Rs : List Rc} (h : Dr W B n Rs) (hB : B ≤ 1000000000) (hn : n ≤ 60) : Sm W Rs := by
  obtain ⟨Mx, My, x0, y0, xB, yB, fit⟩ := h.ex
  have hl := h.len
  refine ⟨fun R hR => (fit R hR).near x0 y0 (by show 30 * Mx ≤ 1000000000000; omega) (by show Mx ≤ 1000000000000; omega) (by show 30 * My ≤ 1000000000000; omega) (by show My ≤ 1000000000000; omega), fun k hk => ?_, by omega, h.pos⟩
  obtain ⟨s1, s2, s3⟩ := sum_on (M := Mx * My) (V := 3600) (qs := (Rs.take k).map (va id id)) fun q hq => by
    obtain ⟨R, hR, rfl⟩ := List.mem_map.mp hq
    exact va_id (fit R (List.mem_cons_of_mem _ (List.mem_of_mem_take hR))) (h.lay.ok R (List.mem_of_mem_take hR))
  rw [List.length_map, List.length_take] at s3
  have m1 : Mx * My ≤ 1000000000 * 1000000000 := Nat.mul_le_mul (by omega) (by omega)
  have tm : Tm (Mx * My) (3600 * min k Rs.length) (((Rs.take k).map (va id id)).sum) := ⟨s1, by
    have : (0 : Rat) ≤ ((3600 * min k Rs.length : Nat) : Rat) := by exact_mod_cast Nat.zero_le _
    grind, s3⟩
  have bd := tm.bd (Nat.mul_pos x0 y0)
  have m2 : 3600 * min k Rs.length ≤ 216000 := by omega
  have m3 : 3600 * min k Rs.length * (Mx * My) ≤ 216000 * (1000000000 * 1000000000) := Nat.mul_le_mul m2 m1
  exact bd.sz2 (Nat.le_trans m3 (by decide)) (Nat.le_trans m1 (by decide))
theorem near_sides {R : Rc} (h : RB nearB nearB R) : Sz (R.r - R.l) ∧ Sz (R.t - R.b) ∧ Sz ((R.r - R.l) * (R.t - R.b)) := by
  have s1 := sub_bd h.2.2.1 h.1
  have s2 := sub_bd h.2.2.2 h.2.1
  exact ⟨s1.sz2 (by decide) (by decide), s2.sz2 (by decide) (by decide), (mul_bd s1 s2).sz2 (by decide) (by decide)⟩
theorem total_loop (L : LaP P) {d : Nat} {s0 : SV} {T : Store} : ∀ (Rs done : List Rc), (∀ R ∈ Rs, RB nearB nearB R) → (∀ k ≤ Rs.length, Sz (((done ++ Rs.take k).map (va id id)).sum)) →
    loopS (turn ⟨callF P (d + 5), P.gl, P.fu⟩ (.nm 2) b_total_in_0) (Rs.map rc) [s0, .va (fr ((done.map (va id id)).sum)), .un] T = .nx [s0, .va (fr (((done ++ Rs).map (va id id)).sum)), .un] T
  | [], done, _, _ => by rw [List.append_nil]; rfl
  | R :: Rs, done, h, hs => by
    obtain ⟨z1, z2, z3⟩ := near_sides (h R List.mem_cons_self)
    have e1 := area_in L.re.fr L.sides L.area d (h R List.mem_cons_self).sz z1 z2 T
    have sd := hs 0 (Nat.zero_le _)
    rw [List.take_zero, List.append_nil] at sd
    have e2 := plus L.re.fr (d + 2) T sd z3
    have e3 : (done.map (va id id)).sum + (R.r - R.l) * (R.t - R.b) = ((done ++ [R]).map (va id id)).sum := by
      rw [List.map_append, sum_app, List.map_cons, List.map_nil, List.sum_cons, List.sum_nil]
      show _ = _ + ((R.r - R.l) * (R.t - R.b) + 0)
      grind
    rw [e3] at e2
    have ih := total_loop L (d := d) (s0 := s0) (T := T) Rs (done ++ [R]) (fun S hS => h S (List.mem_cons_of_mem _ hS)) (fun k hk => by
      have := hs (k + 1) (by rw [List.length_cons]; omega)
      rw [List.take_succ_cons] at this
      rwa [List.append_assoc]) 
    rw [List.append_assoc] at ih
    rw [List.map_cons, show done ++ R :: Rs = done ++ ([R] ++ Rs) from rfl, ← ih]
    refine loopS_cons ?_
    simp [b_total_in_0, e1, e2]
theorem total_in (L : LaP P) (d : Nat) {W : Rc} {Rs : List Rc} (h : Sm W Rs) (T : Store) : callF P (d + 6) 42 [.tup (Rs.map rc)] T = .ok (fr ((Rs.map (va id id)).sum)) T := by
  have e := total_loop L (d := d) (s0 := .va (.tup (Rs.map rc))) (T := T) Rs [] (fun R hR => h.near R (List.mem_cons_of_mem _ hR)) (fun k hk => by rw [List.nil_append]; exact h.sum k hk)
  rw [List.nil_append, List.map_nil, List.sum_nil, fr_zero] at e
  rw [callF_at L.total rfl]
  have g := L.gl5
  generalize Rs.map rc = X at *
  simp [f_total_in, startE, g, e]
theorem hull_sub {W R : Rc} (h : Sub W R) : hull W R = W := by
  obtain ⟨h1, h2, h3, h4⟩ := h
  unfold hull
  obtain ⟨wl, wb, wr, wt⟩ := W
  simp only at *
  congr 1
  · split <;> grind
  · split <;> grind
  · split <;> grind
  · split <;> grind
theorem eqv_rc (A B : Rc) : eqv (rc A) (rc B) = (decide (A.l = B.l) && (decide (A.b = B.b) && (decide (A.r = B.r) && (decide (A.t = B.t) && true)))) := by
  unfold rc
  rw [eq_tup, eqs_cons, eqs_cons, eqs_cons, eqs_cons, eqs_nil, eqv_fr, eqv_fr, eqv_fr, eqv_fr]
theorem pln_rc (n : Nat) (R : Rc) : pln (n + 2) (rc R) = true := by
  unfold rc
  simp [pln_fr]
theorem rc_eta (R : Rc) : (⟨R.l, R.b, R.r, R.t⟩ : Rc) = R := rfl
theorem lies_yes (L : LaP P) (d : Nat) {W R : Rc} (hW : SzR W) (hR : SzR R) (h : Sub W R) (T : Store) : callF P (d + 4) 40 [rc W, rc R] T = .ok (.bl true) T := by
  have e := around_in L.re.fr L.around d W [R] hW (fun Q hQ => by simp at hQ; subst hQ; exact hR) T
  simp only [List.foldl_cons, List.foldl_nil, List.map_cons, List.map_nil, hull_sub h] at e
  have p := pln_rc 38 W
  rw [callF_at L.lies rfl]
  simp [f_lies_in, startE, e, p, eqv_rc]
theorem share_no (L : LaP P) (d : Nat) {A B : Rc} (hA : SzR A) (hB : SzR B) (oA : A.ok) (oB : B.ok) (h : Dis A B) (T : Store) : callF P (d + 3) 33 [rc A, rc B] T = .ok .non T := by
  rw [shared_in L.re.fr L.shared d hA hB T _ rfl, if_neg]
  unfold Dis at h
  unfold Rc.ok at oA oB
  dsimp only
  intro hc
  obtain ⟨c1, c2⟩ := hc
  split at c1 <;> split at c1 <;> split at c2 <;> split at c2 <;> grind
theorem at_nat (T : Store) {vs : List PV} {i : Nat} {v : PV} (h : vs[i]? = some v) : index T (.tup vs) (.int (i : Nat)) = some v := by
  have hi := (List.getElem?_eq_some_iff.mp h).1
  show (ixn vs.length (i : Int)).bind (fun j => vs[j]?) = _
  have : ixn vs.length (i : Int) = some i := by
    unfold ixn
    rw [if_pos (by omega), if_pos (by omega)]; rfl
  rw [this, Option.bind_some, h]
theorem flaw_none (L : LaP P) (d : Nat) {W : Rc} {Rs : List Rc} (h : Lay W Rs) (s : Sm W Rs) (T : Store) : callF P (d + 7) 36 [rc W, .tup (Rs.map rc)] T = .ok .non T := by
  have lp := line_pos
  have sW := (s.near W List.mem_cons_self).sz
  have sR : ∀ R ∈ Rs, SzR R := fun R hR => (s.near R (List.mem_cons_of_mem _ hR)).sz
  have ln := s.len
  obtain ⟨ρ1, T1, e1, r1, r2⟩ := loopS_inv (f := turn ⟨callF P (d + 6), P.gl, P.fu⟩ (.tp (.cons (.nm 2) (.cons (.nm 3) .nil))) b_flaw_in_0) (xs := enum_ (Rs.map rc)) (ρ := [.va (rc W), .va (.tup (Rs.map rc)), .un, .un, .un]) (T := T)
    (I := fun ρ T' => ρ = [.va (rc W), .va (.tup (Rs.map rc)), .un, .un, .un] ∧ T' = T) ⟨rfl, rfl⟩ fun x hx ρ T' ⟨a, b⟩ => by
      subst a b
      obtain ⟨i, v, rfl, h1, h2⟩ := enum_mem hx
      rw [List.getElem?_map] at h1
      obtain ⟨R, hR, rfl⟩ := Option.map_eq_some_iff.mp h1
      have mR := List.mem_of_getElem? hR
      have e := lies_yes L (d + 2) sW (sR R mR) (h.inn R mR) T'
      generalize Rs.map rc = X at *
      generalize (i : Int) = I at *
      simp [b_flaw_in_0, e]
  subst r1 r2
  obtain ⟨ρ2, T2, e2, r1, r2⟩ := loopS_inv (f := turn ⟨callF P (d + 6), P.gl, P.fu⟩ (.tp (.cons (.nm 2) (.cons (.nm 3) .nil))) b_flaw_in_2) (xs := enum_ (Rs.map rc)) (ρ := [.va (rc W), .va (.tup (Rs.map rc)), .un, .un, .un]) (T := T1)
    (I := fun ρ T' => ρ = [.va (rc W), .va (.tup (Rs.map rc)), .un, .un, .un] ∧ T' = T1) ⟨rfl, rfl⟩ fun x hx ρ T' ⟨a, b⟩ => by
      subst a b
      obtain ⟨i, v, rfl, h1, h2⟩ := enum_mem hx
      rw [List.getElem?_map] at h1
      obtain ⟨A, hA, rfl⟩ := Option.map_eq_some_iff.mp h1
      have mA := List.mem_of_getElem? hA
      rw [List.length_map] at h2
      obtain ⟨I, hI⟩ : ∃ I : Int, I = (i : Int) := ⟨_, rfl⟩
      obtain ⟨N, hN⟩ : ∃ N : Int, N = (Rs.length : Int) := ⟨_, rfl⟩
      rw [← hI]
      obtain ⟨ρ3, T3, e3, r1, r2⟩ := loopS_inv (f := turn ⟨callF P (d + 6), P.gl, P.fu⟩ (.nm 4) b_flaw_in_1) (xs := rng (I + 1) N) (ρ := [.va (rc W), .va (.tup (Rs.map rc)), .va (.int I), .va (rc A), .un]) (T := T')
        (I := fun ρ T4 => ρ = [.va (rc W), .va (.tup (Rs.map rc)), .va (.int I), .va (rc A), .un] ∧ T4 = T') ⟨rfl, rfl⟩ fun y hy ρ T4 ⟨a, b⟩ => by
          subst a b
          obtain ⟨k, rfl, k1, k2⟩ := rng_mem hy
          obtain ⟨j, hjk⟩ : ∃ j : Nat, k = j := ⟨k.toNat, by omega⟩
          have hj : j < Rs.length := by omega
          have eB : (Rs.map rc)[j]? = some (rc Rs[j]) := by rw [List.getElem?_map, List.getElem?_eq_getElem hj]; rfl
          have iB := at_nat T4 eB
          rw [← hjk] at iB
          have mB : Rs[j] ∈ Rs := List.getElem_mem hj
          have dA : Rs[i] = A := (List.getElem?_eq_some_iff.mp hA).2
          have ds := List.pairwise_iff_getElem.mp h.dis i j (by omega) hj (by omega)
          rw [dA] at ds
          have e := share_no L (d + 3) (sR A mA) (sR _ mB) (h.ok A mA) (h.ok _ mB) ds T4
          generalize Rs[j] = B at *
          generalize Rs.map rc = X at *
          simp [b_flaw_in_1, iB, e, isNon]
      subst r1 r2
      have sr1 : smallR (I + 1) = true := small_of (by omega) (by omega)
      have sr2 : smallR N = true := small_of (by omega) (by omega)
      have lR : bi .len [.tup (Rs.map rc)] = some (.int N) := by rw [bi_lent, List.length_map, hN]
      clear hI hN h1 h2
      generalize Rs.map rc = X at *
      simp [-bi_lent, b_flaw_in_2, lR, sr1, sr2, e3]
  subst r1 r2
  obtain ⟨z1, z2, z3⟩ := near_sides (s.near W List.mem_cons_self)
  have e3 := total_in L d s T2
  have e4 := area_in L.re.fr L.sides L.area (d + 1) sW z1 z2 T2
  rw [h.va id id] at e3
  have e5 : va id id W = (W.r - W.l) * (W.t - W.b) := rfl
  rw [e5] at e3
  have p := pln_fr 39 ((W.r - W.l) * (W.t - W.b))
  have q := eqv_fr ((W.r - W.l) * (W.t - W.b)) ((W.r - W.l) * (W.t - W.b))
  rw [decide_eq_true rfl] at q
  rw [callF_at L.flaw rfl]
  generalize (W.r - W.l) * (W.t - W.b) = a at *
  generalize Rs.map rc = X at *
  simp [f_flaw_in, startE, e1, e2, e3, e4, p, q]
theorem is_lay (L : LaP P) (d : Nat) {W : Rc} {Rs : List Rc} (h : Lay W Rs) (s : Sm W Rs) (T : Store) : callF P (d + 8) 68 [rc W, .tup (Rs.map rc)] T = .ok (.bl true) T := by
  have e := flaw_none L d h s T
  rw [callF_at L.islay rfl]
  generalize Rs.map rc = X at *
  simp [f_is_laying_in, startE, e, isNon]
theorem sure_lay (L : LaP P) (d : Nat) {W : Rc} {Rs : List Rc} (h : Lay W Rs) (oW : W.ok) (s : Sm W Rs) {w u : PV} {n m : Nat} (hw : Mx n (rc W) w) (hn : n ≤ 4) (hu : Mx m (.tup (Rs.map rc)) u) (hm : m ≤ 5) (T : Store) : callF P (d + 9) 86 [w, u] T = .ok (.tup [rc W, .tup (Rs.map rc)]) T := by
  have e1 := sure_rc L.re (s.near W List.mem_cons_self) oW hw hn (d + 2) T
  have e2 := sure_parts L.re L.nearp L.surep L.gl1 (Rs := Rs) s.pos s.len (fun R hR => ⟨s.near R (List.mem_cons_of_mem _ hR), h.ok R hR⟩) hu hm (d + 1) T
  have e3 := is_lay L d h s T
  rw [callF_at L.surel rfl]
  generalize Rs.map rc = X at *
  simp [f_sure_laying, startE, e1, e2, e3]
end PU
end

section
set_option linter.all false
set_option autoImplicit false
set_option exponentiation.threshold 100000
set_option maxRecDepth 20000
set_option maxHeartbeats 4000000
/-! whole sides; heaps; checkered sums -/
namespace PU
open MP IR
variable {P : Prog}
abbrev wid (R : Rc) : Rat := R.r - R.l
abbrev hei (R : Rc) : Rat := R.t - R.b
/-- the width, the height is whole -/
abbrev isW (R : Rc) : Bool := decide ((wid R).den = 1)
abbrev isH (R : Rc) : Bool := decide ((hei R).den = 1)
theorem is_whole (h : P.fn 48 = some f_is_whole_in) (d : Nat) (q : Rat) (T : Store) : callF P (d + 1) 48 [fr q] T = .ok (.bl (decide (q.den = 1))) T := by
  rw [callF_at h rfl]
  have : ((q.den : Int) == 1) = decide (q.den = 1) := by rw [Bool.eq_iff_iff]; simp; omega
  simp [f_is_whole_in, startE, fr_i1, this]
structure WhP (P : Prog) : Prop where
  la : LaP P
  isw : P.fn 48 = some f_is_whole_in
  sin : P.fn 49 = some f_sides_in
  hwi : P.fn 78 = some f_has_whole_in
  hws : P.fn 107 = some f_has_whole_side
structure WhB (P : Prog) : Prop where
  la : LaB P
  isw : P.fn 48 = some f_is_whole_in
  sin : P.fn 49 = some f_sides_in
  hwi : P.fn 78 = some f_has_whole_in
class WhC (α : Prop) (P : outParam Prog) : Prop where
  b : α → WhB P
instance {P : Prog} : WhC (WhB P) P := ⟨fun F => F⟩
instance {P : Prog} : WhC (WhP P) P := ⟨fun L => ⟨L.la.b, L.isw, L.sin, L.hwi⟩⟩
theorem sides_in {α : Prop} [WhC α P] (L : α) (d : Nat) {R : Rc} (s : SzR R) (T : Store) : callF P (d + 5) 49 [rc R] T = .ok (.tup [.bl (isW R), .bl (isH R)]) T := by
  have L : WhB P := WhC.b L
  have e1 := sides_of L.la.re.fr L.la.sides d s T
  have e2 := is_whole L.isw (d + 3) (wid R) T
  have e3 := is_whole L.isw (d + 3) (hei R) T
  rw [callF_at L.sin rfl]
  simp [f_sides_in, startE, e1, e2, e3]
theorem in_bools (a b : Bool) : inop (.bl true) (.tup [.bl a, .bl b]) = some (a || b) := by cases a <;> cases b <;> decide +kernel
theorem has_whole {α : Prop} [WhC α P] (L : α) (d : Nat) {R : Rc} (s : SzR R) (T : Store) : callF P (d + 6) 78 [rc R] T = .ok (.bl (isW R || isH R)) T := by
  have L : WhB P := WhC.b L
  have e1 := sides_in L d s T
  have e2 := in_bools (isW R) (isH R)
  rw [callF_at L.hwi rfl]
  simp only [isW, isH] at e1 e2 ⊢
  generalize decide ((wid R).den = 1) = a at *
  generalize decide ((hei R).den = 1) = b at *
  simp [f_has_whole_in, startE, e1, e2]
theorem has_whole_side (L : WhP P) (d : Nat) {R : Rc} (hb : RB nearB nearB R) (h0 : R.ok) {w : PV} {n : Nat} (hw : Mx n (rc R) w) (hn : n ≤ 4) (T : Store) : callF P (d + 7) 107 [w] T = .ok (.bl (isW R || isH R)) T := by
  have e1 := sure_rc L.la.re hb h0 hw hn d T
  have e2 := has_whole L d hb.sz T
  rw [callF_at L.hws rfl]
  simp [f_has_whole_side, startE, e1, e2]
theorem law_wholes (F : DrP P) (h89 : P.fn 89 = some f_law_sides) (h : P.fn 111 = some f_law_wholes) (d : Nat) {R : Rc} (s : SzR R) (T : Store) : callF P (d + 5) 111 [rc R] T = .ok (.tup [.bl (isW R), .bl (isH R)]) T := by
  have e1 := law_sides F.fl F.less h89 d s T
  have b1 : (((wid R).den : Int) == 1) = isW R := by rw [Bool.eq_iff_iff]; simp; omega
  have b2 : (((hei R).den : Int) == 1) = isH R := by rw [Bool.eq_iff_iff]; simp; omega
  simp only [isW, isH] at b1 b2 ⊢
  simp only [wid, hei] at *
  rw [callF_at h rfl]
  simp [f_law_wholes, startE, e1, fr_i1, b1, b2]
/-! ### heaps -/
/-- the whole number below -/
def flo (q : Rat) : Int := q.num.fdiv (q.den : Int)
theorem flo_le (q : Rat) : ((flo q : Int) : Rat) ≤ q ∧ q < ((flo q + 1 : Int) : Rat) := by
  have h0 := q.den_pos
  have hd : (0 : Int) < (q.den : Int) := by omega
  unfold flo
  rw [Int.fdiv_eq_ediv_of_nonneg _ (by omega)]
  have h1 := Int.ediv_mul_le q.num (b := (q.den : Int)) (by omega)
  have h2 := Int.lt_ediv_add_one_mul_self q.num hd
  constructor
  · rw [Rat.le_iff, Rat.num_intCast, Rat.den_intCast]
    omega
  · rw [Rat.lt_iff, Rat.num_intCast, Rat.den_intCast]
    omega
theorem flo_uniq {q : Rat} {z : Int} (h1 : (z : Rat) ≤ q) (h2 : q < ((z + 1 : Int) : Rat)) : flo q = z := by
  obtain ⟨k1, k2⟩ := flo_le q
  have a : (z : Rat) < ((flo q + 1 : Int) : Rat) := by grind
  have b : ((flo q : Int) : Rat) < ((z + 1 : Int) : Rat) := by grind
  have a' : z < flo q + 1 := by exact_mod_cast a
  have b' : flo q < z + 1 := by exact_mod_cast b
  omega
theorem flo_add (q : Rat) (z : Int) : flo (q + (z : Rat)) = flo q + z := by
  obtain ⟨k1, k2⟩ := flo_le q
  refine flo_uniq ?_ ?_
  · rw [Rat.intCast_add]; grind
  · rw [Rat.intCast_add, Rat.intCast_add]; rw [Rat.intCast_add] at k2; grind
abbrev hf : Rat := Rat.divInt 1 2
/-- up to a half as it is, then down again -/
def hp (q : Rat) : Rat := if hf < q - (flo q : Rat) then 1 - (q - (flo q : Rat)) else q - (flo q : Rat)
theorem hf_two : hf * 2 = 1 := by decide +kernel
theorem hp_rng (q : Rat) : 0 ≤ hp q ∧ hp q ≤ hf := by
  obtain ⟨k1, k2⟩ := flo_le q
  rw [Rat.intCast_add] at k2
  have h2 := hf_two
  unfold hp
  have : ((1 : Int) : Rat) = 1 := rfl
  split <;> grind
theorem hp_on {M : Nat} {q : Rat} (h : On M q) : On M (hp q) := by
  have h1 : On M (q - (flo q : Rat)) := h.sub (On.int M _)
  unfold hp
  split
  · exact (On.int M 1).sub h1
  · exact h1
theorem hp_add (q : Rat) (z : Int) : hp (q + (z : Rat)) = hp q := by
  have e : q + (z : Rat) - (flo (q + (z : Rat)) : Rat) = q - (flo q : Rat) := by rw [flo_add, Rat.intCast_add]; grind
  unfold hp
  rw [e]
theorem hp_zero {q : Rat} : hp q = 0 ↔ q.den = 1 := by
  obtain ⟨k1, k2⟩ := flo_le q
  rw [Rat.intCast_add] at k2
  have o : ((1 : Int) : Rat) = 1 := rfl
  constructor
  · intro h
    refine whole_den.mpr ⟨flo q, ?_⟩
    unfold hp at h
    split at h <;> grind
  · intro h
    obtain ⟨z, rfl⟩ := whole_den.mp h
    have : flo ((z : Int) : Rat) = z := flo_uniq (by grind) (by rw [Rat.intCast_add]; grind)
    unfold hp
    rw [this]
    have h2 := hf_two
    have e : (z : Rat) - (z : Rat) = 0 := by grind
    rw [e, if_neg (by grind)]
theorem hp_tm {M : Nat} {q : Rat} (h : On M q) : Tm M 1 (hp q) := by
  obtain ⟨h1, h2⟩ := hp_rng q
  have h3 := hf_two
  exact ⟨hp_on h, by simp; grind, by simp; grind⟩
theorem hp_bd {N D : Nat} {q : Rat} (h : Bd N D q) : Bd D D (hp q) := by
  have := (hp_tm (On.den q)).bd q.den_pos
  rw [Nat.one_mul] at this
  exact this.mono h.2 h.2
theorem rest_bd {N D : Nat} {q : Rat} (h : Bd N D q) : Bd D D (q - (flo q : Rat)) := by
  obtain ⟨k1, k2⟩ := flo_le q
  rw [Rat.intCast_add] at k2
  have o : ((1 : Int) : Rat) = 1 := rfl
  have t : Tm q.den 1 (q - (flo q : Rat)) := ⟨(On.den q).sub (On.int _ _), by simp; grind, by simp; grind⟩
  have := t.bd q.den_pos
  rw [Nat.one_mul] at this
  exact this.mono h.2 h.2
theorem flo_bd {N D : Nat} {q : Rat} (h : Bd N D q) : Bd (N + 1) 1 (flo q : Rat) := by
  refine ⟨?_, by rw [Rat.den_intCast]; exact Nat.le_refl _⟩
  rw [Rat.num_intCast]
  have h0 := q.den_pos
  have h1 := h.1
  unfold flo
  rw [Int.fdiv_eq_ediv_of_nonneg _ (by omega)]
  have hd : (0 : Int) < (q.den : Int) := by omega
  have e1 := Int.ediv_mul_le q.num (b := (q.den : Int)) (by omega)
  have e2 := Int.lt_ediv_add_one_mul_self q.num hd
  generalize q.num / (q.den : Int) = z at *
  have up : z ≤ N := by
    by_cases hz : z ≤ 0
    · omega
    · have := Int.mul_le_mul_of_nonneg_left (show (1 : Int) ≤ q.den by omega) (show 0 ≤ z by omega)
      omega
  have lo : -(N : Int) - 1 ≤ z := by
    by_cases hz : 0 ≤ z + 1
    · omega
    · have := Int.mul_le_mul_of_nonpos_left (show z + 1 ≤ 0 by omega) (show (1 : Int) ≤ q.den by omega)
      omega
  omega
structure HeQ (P : Prog) : Prop where
  wh : WhP P
  floor : P.fn 65 = some f_floor_in
  heap : P.fn 66 = some f_heap
  wave : P.fn 71 = some f_wave_in
  chin : P.fn 64 = some f_checkered_in
structure HeP (P : Prog) : Prop where
  he : HeQ P
  suref : P.fn 70 = some f_sure_fraction
  surept : P.fn 166 = some f_sure_point
  ch : P.fn 190 = some f_checkered
abbrev B30 : Nat := 10 ^ 30
theorem sz30 {q : Rat} (h : Bd B30 B30 q) : Sz q := h.sz2 (by decide) (by decide)
theorem divOk_sz {b : Nat} (h0 : 0 < b) (h : b ≤ 2 ^ 1000) : divOk (b : Int) = true := by
  unfold divOk
  have : (b : Int) ≠ 0 := by omega
  simp only [Int.natAbs_natCast, Bool.and_eq_true, decide_eq_true_eq]
  exact ⟨this, Nat.lt_of_le_of_lt h (Nat.pow_lt_pow_right (by decide) (by decide))⟩
theorem fr_one : fr 1 = .tup [.int 1, .int 1] := rfl
theorem one_sz : Sz 1 := (show Bd 1 1 1 from ⟨by decide, by decide⟩).sz2 (by decide) (by decide)
theorem half_sz : Sz hf := (show Bd 1 2 hf from divInt_bd (by decide) (by decide) (by decide)).sz2 (by decide) (by decide)
theorem heap (L : HeQ P) (d : Nat) {q : Rat} (h : Bd B30 B30 q) (T : Store) : callF P (d + 4) 66 [fr q] T = .ok (fr (hp q)) T := by
  have F := L.wh.la.re.fr
  have sq := sz30 h
  have dk := divOk_sz q.den_pos sq.2
  have e1 : callF P (d + 3) 65 [fr q] T = .ok (.int (flo q)) T := by
    rw [callF_at L.floor rfl]
    simp [f_floor_in, startE, fr_i0, fr_i1, dk]
    rfl
  have sr := sz30 (rest_bd h)
  have e2 := less F d T sq ((flo_bd h).sz2 (by decide) (by decide))
  rw [fr_int] at e2
  have e3 := under F (d + 2) T half_sz sr
  rw [fr_half] at e3
  have e4 := less F d T one_sz sr
  rw [fr_one] at e4
  rw [callF_at L.heap rfl]
  unfold hp
  by_cases hc : hf < q - (flo q : Rat)
  · rw [decide_eq_true hc] at e3
    rw [if_pos hc]
    simp [f_heap, startE, e1, e2, e3, e4]
  · rw [decide_eq_false hc] at e3
    rw [if_neg hc]
    simp [f_heap, startE, e1, e2, e3, e4]
theorem law_heap (F : DrP P) (h : P.fn 296 = some f_law_heap) (d : Nat) {q : Rat} (hq : Bd B30 B30 q) (T : Store) : callF P (d + 4) 296 [fr q] T = .ok (fr (hp q)) T := by
  have sq := sz30 hq
  have dk := divOk_sz q.den_pos sq.2
  have sr := sz30 (rest_bd hq)
  have e2 := law_less F.fl F.less d T sq ((flo_bd hq).sz2 (by decide) (by decide))
  rw [fr_int] at e2
  have e4 := law_less F.fl F.less d T one_sz sr
  rw [fr_one] at e4
  have ef : q.num.fdiv (q.den : Int) = flo q := rfl
  have key : ∀ r : Rat, ((r.den : Int) < 2 * r.num) ↔ hf < r := fun r => by
    rw [Rat.lt_iff, show (hf).num = 1 from by decide +kernel, show (hf).den = 2 from by decide +kernel]
    omega
  have kr := key (q - (flo q : Rat))
  have m2 : ∀ x : Int, mulOk 2 x = true := fun x => mulOk_l (by decide)
  rw [callF_at h rfl]
  unfold hp
  by_cases hc : hf < q - (flo q : Rat)
  · rw [if_pos hc]
    have := kr.mpr hc
    simp [f_law_heap, startE, fr_i0, fr_i1, dk, ef, e2, m2, this, e4]
  · rw [if_neg hc]
    have : ¬ ((q - (flo q : Rat)).den : Int) < 2 * (q - (flo q : Rat)).num := fun z => hc (kr.mp z)
    simp [f_law_heap, startE, fr_i0, fr_i1, dk, ef, e2, m2, this]
/-- a checkered sum, told from a point -/
def chk (x y : Rat) (R : Rc) : Rat := va (fun z => hp (z - x)) (fun z => hp (z - y)) R
def pt (x y : Rat) : PV := .tup [fr x, fr y]
theorem pt_i0 (T : Store) (x y : Rat) : index T (pt x y) (.int 0) = some (fr x) := rfl
theorem pt_i1 (T : Store) (x y : Rat) : index T (pt x y) (.int 1) = some (fr y) := rfl
@[simp] theorem tp_pt (x y : Rat) : tp (pt x y) = pt x y := by simp [pt]
@[simp] theorem dat_pt (n : Nat) (x y : Rat) : dat (n + 2) (pt x y) = true := by simp [pt]; decide
@[simp] theorem rws_pt (x y : Rat) : rws (pt x y) = 3 := by simp [pt]
theorem mx_pt (x y : Rat) : Mx 2 (pt x y) (pt x y) := mx_self (dat_pt 0 x y)
@[simp] theorem b_pt (ts : Tgs) (ρ : Env) (x y : Rat) : bindTg (.tp ts) ρ (pt x y) = bindTgs ts ρ [fr x, fr y] := rfl
theorem near30 {p q : Rat} (hp : Bd nearB nearB p) (hq : Bd nearB nearB q) : Bd B30 B30 (p - q) := (sub_bd hp hq).mono (by decide) (by decide)
theorem hps {p q x : Rat} (h1 : Bd nearB nearB p) (h2 : Bd nearB nearB q) (hx : Bd nearB nearB x) : Sz (hp (p - x)) ∧ Sz (hp (q - x)) ∧ Bd (2 * 10 ^ 60) (10 ^ 60) (hp (p - x) - hp (q - x)) := by
  have b1 := hp_bd (near30 h1 hx)
  have b2 := hp_bd (near30 h2 hx)
  exact ⟨sz30 b1, sz30 b2, (sub_bd b1 b2).mono (by decide) (by decide)⟩
theorem chk_in (L : HeQ P) (d : Nat) {x y : Rat} {R : Rc} (hx : Bd nearB nearB x) (hy : Bd nearB nearB y) (hR : RB nearB nearB R) (T : Store) : callF P (d + 6) 64 [pt x y, rc R] T = .ok (fr (chk x y R)) T := by
  have F := L.wh.la.re.fr
  have wave : ∀ {p q : Rat}, Bd B30 B30 p → Bd B30 B30 q → callF P (d + 5) 71 [fr p, fr q] T = .ok (fr (hp q - hp p)) T := fun {p q} bp bq => by
    have e1 := heap L d bp T
    have e2 := heap L d bq T
    have e3 := less F (d + 1) T (sz30 (hp_bd bq)) (sz30 (hp_bd bp))
    rw [callF_at L.wave rfl]
    simp [f_wave_in, startE, e1, e2, e3]
  obtain ⟨h1, h2, h3, h4⟩ := hR
  have e1 := less F (d + 2) T h1.sz hx.sz
  have e2 := less F (d + 2) T h3.sz hx.sz
  have e3 := less F (d + 2) T h2.sz hy.sz
  have e4 := less F (d + 2) T h4.sz hy.sz
  have e5 := wave (near30 h1 hx) (near30 h3 hx)
  have e6 := wave (near30 h2 hy) (near30 h4 hy)
  obtain ⟨_, _, b1⟩ := hps h3 h1 hx
  obtain ⟨_, _, b2⟩ := hps h4 h2 hy
  have e7 := times F (d + 2) T (b1.sz2 (by decide) (by decide)) (b2.sz2 (by decide) (by decide))
  rw [callF_at L.chin rfl]
  simp [f_checkered_in, startE, pt_i0, pt_i1, e1, e2, e3, e4, e5, e6, e7]
  rfl
theorem sure_pt (L : HeP P) (d : Nat) {x y : Rat} (hx : Bd nearB nearB x) (hy : Bd nearB nearB y) {w : PV} {n : Nat} (hw : Mx n (pt x y) w) (hn : n ≤ 4) (T : Store) : callF P (d + 6) 166 [w] T = .ok (pt x y) T := by
  have F := L.he.wh.la.re.fr
  have e1 := tupled F.tupled 4 w (dat_up hn hw.dat) d T
  rw [hw.tp, tp_pt] at e1
  have e2 := is_long F.long (d + 4) [fr x, fr y] 2 T
  have e3 := sure_fraction F L.suref hx (mx_fr x) (by decide) d T
  have e4 := sure_fraction F L.suref hy (mx_fr y) (by decide) d T
  have e2' : callF P (d + 5) 8 [pt x y, .int 2] T = .ok (.bl true) T := e2
  rw [callF_at L.surept rfl]
  simp [f_sure_point, startE, e1, e2', pt_i0, pt_i1, e3, e4]
  rfl
theorem checkered (L : HeP P) (d : Nat) {x y : Rat} {R : Rc} (hx : Bd nearB nearB x) (hy : Bd nearB nearB y) (hR : RB nearB nearB R) (oR : R.ok) {w u : PV} {n m : Nat} (hw : Mx n (pt x y) w) (hn : n ≤ 4) (hu : Mx m (rc R) u) (hm : m ≤ 4) (T : Store) : callF P (d + 7) 190 [w, u] T = .ok (fr (chk x y R)) T := by
  have e1 := sure_pt L d hx hy hw hn T
  have e2 := sure_rc L.he.wh.la.re hR oR hu hm d T
  have e3 := chk_in L.he d hx hy hR T
  rw [callF_at L.ch rfl]
  simp [f_checkered, startE, e1, e2, e3]
theorem law_checkered (F : DrP P) (h296 : P.fn 296 = some f_law_heap) (h : P.fn 225 = some f_law_checkered) (d : Nat) {x y : Rat} {R : Rc} (hx : Bd nearB nearB x) (hy : Bd nearB nearB y) (hR : RB nearB nearB R) (T : Store) : callF P (d + 5) 225 [pt x y, rc R] T = .ok (fr (chk x y R)) T := by
  obtain ⟨h1, h2, h3, h4⟩ := hR
  have e1 := law_less F.fl F.less (d + 1) T h1.sz hx.sz
  have e2 := law_less F.fl F.less (d + 1) T h3.sz hx.sz
  have e3 := law_less F.fl F.less (d + 1) T h2.sz hy.sz
  have e4 := law_less F.fl F.less (d + 1) T h4.sz hy.sz
  have f1 := law_heap F h296 d (near30 h1 hx) T
  have f2 := law_heap F h296 d (near30 h3 hx) T
  have f3 := law_heap F h296 d (near30 h2 hy) T
  have f4 := law_heap F h296 d (near30 h4 hy) T
  obtain ⟨s1, s2, b1⟩ := hps h3 h1 hx
  obtain ⟨s3, s4, b2⟩ := hps h4 h2 hy
  have e5 := law_less F.fl F.less (d + 1) T s1 s2
  have e6 := law_less F.fl F.less (d + 1) T s3 s4
  have e7 := law_by F.fl F.by_ (d + 1) T (b1.sz2 (by decide) (by decide)) (b2.sz2 (by decide) (by decide))
  rw [callF_at h rfl]
  simp [f_law_checkered, startE, rc_i0, rc_i1, rc_i2, rc_i3, e1, e2, e3, e4, f1, f2, f3, f4, e5, e6, e7]
  rfl
end PU
end

section
set_option linter.all false
set_option autoImplicit false
set_option maxRecDepth 20000
set_option maxHeartbeats 4000000
/-! ties and walks: plain -/
namespace PU
/-- a point -/
structure Pt where
  x : Rat
  y : Rat
deriving DecidableEq
/-- a tie: of which part, from where to where -/
structure Ti where
  k : Nat
  a : Pt
  b : Pt
deriving DecidableEq
def tiesR (k : Nat) (R : Rc) : List Ti := if isW R then [⟨k, ⟨R.l, R.b⟩, ⟨R.r, R.b⟩⟩, ⟨k, ⟨R.l, R.t⟩, ⟨R.r, R.t⟩⟩] else [⟨k, ⟨R.l, R.b⟩, ⟨R.l, R.t⟩⟩, ⟨k, ⟨R.r, R.b⟩, ⟨R.r, R.t⟩⟩]
def tiesL : Nat → List Rc → List Ti
  | _, [] => []
  | k, R :: Rs => tiesR k R ++ tiesL (k + 1) Rs
def corners (R : Rc) : List Pt := [⟨R.l, R.b⟩, ⟨R.r, R.b⟩, ⟨R.l, R.t⟩, ⟨R.r, R.t⟩]
def one (b : Bool) : Nat := if b then 1 else 0
theorem one_le (b : Bool) : one b ≤ 1 := by cases b <;> decide
/-- ends at a point -/
def dgT (p : Pt) (t : Ti) : Nat := one (decide (t.a = p)) + one (decide (t.b = p))
def dg (p : Pt) (L : List Ti) : Nat := (L.map (dgT p)).sum
def dgC (p : Pt) (R : Rc) : Nat := one (decide ((⟨R.l, R.b⟩ : Pt) = p)) + one (decide ((⟨R.r, R.b⟩ : Pt) = p)) + one (decide ((⟨R.l, R.t⟩ : Pt) = p)) + one (decide ((⟨R.r, R.t⟩ : Pt) = p))
theorem dg_app (p : Pt) (A B : List Ti) : dg p (A ++ B) = dg p A + dg p B := by
  unfold dg
  rw [List.map_append, List.sum_append]
theorem dg_tiesR (p : Pt) (k : Nat) (R : Rc) : dg p (tiesR k R) = dgC p R := by
  unfold tiesR dgC dg
  split <;> simp only [List.map_cons, List.map_nil, List.sum_cons, List.sum_nil, dgT] <;> omega
theorem dg_ties (p : Pt) : ∀ (k : Nat) (Rs : List Rc), dg p (tiesL k Rs) = (Rs.map (dgC p)).sum
  | _, [] => rfl
  | k, R :: Rs => by rw [tiesL, dg_app, dg_tiesR, dg_ties p (k + 1) Rs, List.map_cons, List.sum_cons]
/-! ### evenness -/
def ind (c : Rat) (z : Rat) : Rat := if z = c then 1 else 0
theorem pt_eq (a b : Rat) (p : Pt) : decide ((⟨a, b⟩ : Pt) = p) = (decide (a = p.x) && decide (b = p.y)) := by
  obtain ⟨x, y⟩ := p
  rw [Bool.eq_iff_iff]
  simp
theorem par_one {R : Rc} (h : R.ok) (p : Pt) : ∃ z : Int, va (ind p.x) (ind p.y) R = (z : Rat) ∧ z % 2 = (dgC p R : Int) % 2 ∧ dgC p R ≤ 1 := by
  obtain ⟨h1, h2⟩ := h
  have a1 : R.l ≠ R.r := by grind
  have a2 : R.b ≠ R.t := by grind
  unfold va ind dgC
  simp only [pt_eq]
  by_cases c1 : R.l = p.x
  · have c2 : R.r ≠ p.x := by grind
    by_cases c3 : R.b = p.y
    · have c4 : R.t ≠ p.y := by grind
      refine ⟨1, ?_, ?_, ?_⟩ <;> simp [c1, c2, c3, c4, one]
      grind
    · by_cases c4 : R.t = p.y
      · refine ⟨-1, ?_, ?_, ?_⟩ <;> simp [c1, c2, c3, c4, one]
        grind
      · refine ⟨0, ?_, ?_, ?_⟩ <;> simp [c1, c2, c3, c4, one]
        grind
  · by_cases c2 : R.r = p.x
    · by_cases c3 : R.b = p.y
      · have c4 : R.t ≠ p.y := by grind
        refine ⟨-1, ?_, ?_, ?_⟩ <;> simp [c1, c2, c3, c4, one]
        grind
      · by_cases c4 : R.t = p.y
        · refine ⟨1, ?_, ?_, ?_⟩ <;> simp [c1, c2, c3, c4, one]
          grind
        · refine ⟨0, ?_, ?_, ?_⟩ <;> simp [c1, c2, c3, c4, one]
          grind
    · refine ⟨0, ?_, ?_, ?_⟩ <;> simp [c1, c2, one]
      grind
theorem par_sum (p : Pt) : ∀ {Rs : List Rc}, (∀ R ∈ Rs, R.ok) → ∃ z : Int, (Rs.map (va (ind p.x) (ind p.y))).sum = (z : Rat) ∧ z % 2 = ((Rs.map (dgC p)).sum : Int) % 2
  | [], _ => ⟨0, by simp, by simp⟩
  | R :: Rs, h => by
    obtain ⟨z, e, m, _⟩ := par_one (h R List.mem_cons_self) p
    obtain ⟨w, f, n⟩ := par_sum p (Rs := Rs) fun S hS => h S (List.mem_cons_of_mem _ hS)
    refine ⟨z + w, ?_, ?_⟩
    · rw [List.map_cons, List.sum_cons, e, f, Rat.intCast_add]
    · rw [List.map_cons, List.sum_cons]
      push_cast
      omega
theorem parity {W : Rc} {Rs : List Rc} (h : Lay W Rs) (oW : W.ok) (p : Pt) : (Rs.map (dgC p)).sum % 2 = dgC p W % 2 ∧ dgC p W ≤ 1 := by
  obtain ⟨z, e, m⟩ := par_sum p h.ok
  obtain ⟨w, f, n, l⟩ := par_one oW p
  rw [h.va, f] at e
  have : w = z := by exact_mod_cast e
  refine ⟨?_, l⟩
  omega
/-- at a corner of the whole is one part -/
theorem dgC_pos {R : Rc} {p : Pt} : 0 < dgC p R ↔ (R.l = p.x ∨ R.r = p.x) ∧ (R.b = p.y ∨ R.t = p.y) := by
  unfold dgC
  simp only [pt_eq]
  by_cases a : R.l = p.x <;> by_cases b : R.r = p.x <;> by_cases c : R.b = p.y <;> by_cases d : R.t = p.y <;> simp [a, b, c, d, one]
theorem corner_two {W A B : Rc} {p : Pt} (hW : 0 < dgC p W) (sA : Sub W A) (sB : Sub W B) (oA : A.ok) (oB : B.ok) (hA : 0 < dgC p A) (hB : 0 < dgC p B) : ¬ Dis A B := by
  rw [dgC_pos] at *
  unfold Dis Sub Rc.ok at *
  obtain ⟨w1, w2⟩ := hW
  obtain ⟨a1, a2⟩ := hA
  obtain ⟨b1, b2⟩ := hB
  have xA : (p.x = W.l → A.l = p.x) ∧ (p.x = W.r → A.r = p.x) := by grind
  have xB : (p.x = W.l → B.l = p.x) ∧ (p.x = W.r → B.r = p.x) := by grind
  have yA : (p.y = W.b → A.b = p.y) ∧ (p.y = W.t → A.t = p.y) := by grind
  have yB : (p.y = W.b → B.b = p.y) ∧ (p.y = W.t → B.t = p.y) := by grind
  clear sA sB a1 a2 b1 b2
  rcases w1 with w1 | w1 <;> rcases w2 with w2 | w2 <;> grind
theorem sum_zero : ∀ {l : List Nat}, (∀ n ∈ l, n = 0) → l.sum = 0
  | [], _ => rfl
  | n :: l, h => by rw [List.sum_cons, h n List.mem_cons_self, sum_zero fun m hm => h m (List.mem_cons_of_mem _ hm)]
theorem corner_le {W : Rc} {p : Pt} (hW : 0 < dgC p W) : ∀ {Rs : List Rc}, (∀ R ∈ Rs, R.ok) → (∀ R ∈ Rs, Sub W R) → Rs.Pairwise Dis → (Rs.map (dgC p)).sum ≤ 1
  | [], _, _, _ => by simp
  | R :: Rs, h, i, d => by
    obtain ⟨d1, d2⟩ := List.pairwise_cons.mp d
    have ih := corner_le hW (Rs := Rs) (fun S hS => h S (List.mem_cons_of_mem _ hS)) (fun S hS => i S (List.mem_cons_of_mem _ hS)) d2
    obtain ⟨_, _, _, l⟩ := par_one (h R List.mem_cons_self) p
    rw [List.map_cons, List.sum_cons]
    by_cases hR : 0 < dgC p R
    · have z : (Rs.map (dgC p)).sum = 0 := by
        refine sum_zero fun n hn => ?_
        obtain ⟨S, hS, rfl⟩ := List.mem_map.mp hn
        by_cases q : 0 < dgC p S
        · exact absurd (d1 S hS) (corner_two hW (i R List.mem_cons_self) (i S (List.mem_cons_of_mem _ hS)) (h R List.mem_cons_self) (h S (List.mem_cons_of_mem _ hS)) hR q)
        · omega
      omega
    · omega
/-- how many ends -/
theorem ends_at {W : Rc} {Rs : List Rc} (h : Lay W Rs) (oW : W.ok) (p : Pt) : (0 < dgC p W → dg p (tiesL 0 Rs) = 1) ∧ (dgC p W = 0 → dg p (tiesL 0 Rs) % 2 = 0) := by
  obtain ⟨e, l⟩ := parity h oW p
  rw [dg_ties]
  refine ⟨fun hW => ?_, fun hW => by omega⟩
  have := corner_le hW h.ok h.inn h.dis
  omega
end PU
end

section
set_option linter.all false
set_option autoImplicit false
set_option maxRecDepth 20000
set_option maxHeartbeats 4000000
/-! walks over ties: plain -/
namespace PU
def atE (t : Ti) (h : Pt) : Bool := decide (t.a = h) || decide (t.b = h)
def goods (L : List Ti) (h : Pt) : List Ti := L.filter fun t => atE t h
def oth (t : Ti) (h : Pt) : Pt := if t.a = h then t.b else t.a
def lessT (L : List Ti) (t : Ti) : List Ti := L.filter fun s => decide (s ≠ t)
abbrev Sp := Nat × Pt
inductive Wd (f : Bool) : List Ti → Pt → List Sp → Prop
  | stop {L : List Ti} {h : Pt} (e : goods L h = []) : Wd f L h []
  | step {L : List Ti} {h : Pt} {t : Ti} {F : List Sp} (m : t ∈ goods L h) (q : f = true → (goods L h).head? = some t) (w : Wd f (lessT L t) (oth t h) F) : Wd f L h ((t.k, oth t h) :: F)
def fin (h : Pt) : List Sp → Pt
  | [] => h
  | s :: F => fin s.2 F
def oe (t : Ti) (h : Pt) : Option Pt := if t.a = h then some t.b else if t.b = h then some t.a else none
def hits (L : List Ti) (h : Pt) (s : Sp) : List Ti := L.filter fun t => decide (t.k = s.1) && decide (oe t h = some s.2)
def run : List Ti → Pt → List Sp → Option Pt
  | _, h, [] => some h
  | L, h, s :: F => match hits L h s with
    | [] => none
    | t :: _ => run (lessT L t) s.2 F
structure Gd (L : List Ti) : Prop where
  nd : L.Nodup
  ne : ∀ t ∈ L, t.a ≠ t.b
  un : ∀ t ∈ L, ∀ s ∈ L, t.k = s.k → ∀ h, atE t h = true → atE s h = true → t = s
theorem less_sub {L : List Ti} {t s : Ti} (h : s ∈ lessT L t) : s ∈ L ∧ s ≠ t := by
  have := List.mem_filter.mp h
  exact ⟨this.1, by simpa using this.2⟩
theorem Gd.less {L : List Ti} (g : Gd L) (t : Ti) : Gd (lessT L t) where
  nd := g.nd.sublist List.filter_sublist
  ne := fun s hs => g.ne s (less_sub hs).1
  un := fun s hs u hu => g.un s (less_sub hs).1 u (less_sub hu).1
theorem less_len {L : List Ti} {t : Ti} (m : t ∈ L) : (lessT L t).length < L.length := by
  unfold lessT
  induction L with
  | nil => cases m
  | cons s L ih =>
    rw [List.filter_cons]
    by_cases e : s = t
    · rw [if_neg (by simpa using e)]
      exact Nat.lt_of_le_of_lt (List.length_filter_le _ _) (by simp)
    · rw [if_pos (by simpa using e)]
      have := ih (by rcases List.mem_cons.mp m with h | h; exact absurd h.symm e; exact h)
      simp only [List.length_cons]; omega
theorem less_none {L : List Ti} {t : Ti} (m : t ∉ L) : lessT L t = L := by
  unfold lessT
  rw [List.filter_eq_self]
  intro s hs
  simp only [ne_eq, decide_not, Bool.not_eq_true', decide_eq_false_iff_not]
  exact fun e => m (e ▸ hs)
theorem dg_less {p : Pt} : ∀ {L : List Ti} {t : Ti}, L.Nodup → t ∈ L → dg p (lessT L t) + dgT p t = dg p L
  | [], _, _, m => by cases m
  | s :: L, t, nd, m => by
    obtain ⟨n1, n2⟩ := List.nodup_cons.mp nd
    have e0 : dg p (s :: L) = dgT p s + dg p L := by unfold dg; rw [List.map_cons, List.sum_cons]
    by_cases e : s = t
    · subst e
      have : lessT (s :: L) s = lessT L s := by unfold lessT; rw [List.filter_cons, if_neg (by simp)]
      rw [this, less_none n1, e0]; omega
    · have : lessT (s :: L) t = s :: lessT L t := by unfold lessT; rw [List.filter_cons, if_pos (by simpa using e)]
      have e1 : dg p (s :: lessT L t) = dgT p s + dg p (lessT L t) := by unfold dg; rw [List.map_cons, List.sum_cons]
      have ih := dg_less (p := p) n2 (t := t) (by rcases List.mem_cons.mp m with h | h; exact absurd h.symm e; exact h)
      rw [this, e0, e1]; omega
theorem dgT_oth {t : Ti} {h : Pt} (p : Pt) (ne : t.a ≠ t.b) (m : atE t h = true) : dgT p t = one (decide (p = h)) + one (decide (p = oth t h)) := by
  unfold dgT oth
  unfold atE at m
  have c : ∀ q : Pt, decide (q = p) = decide (p = q) := fun q => by rw [Bool.eq_iff_iff]; simp [eq_comm]
  by_cases e : t.a = h
  · rw [if_pos e, c, c, e]
  · have e2 : t.b = h := by simpa [e] using m
    rw [if_neg e, c, c, e2]; omega
structure St (D : Pt → Nat) (c : Pt) (L : List Ti) (h : Pt) : Prop where
  gd : Gd L
  par : ∀ p, (dg p L + one (decide (p = h))) % 2 = (D p + one (decide (p = c))) % 2
  le : ∀ p, dg p L ≤ D p
theorem St.step {D : Pt → Nat} {c : Pt} {L : List Ti} {h : Pt} (s : St D c L h) {t : Ti} (m : t ∈ goods L h) : St D c (lessT L t) (oth t h) := by
  obtain ⟨m1, m2⟩ := List.mem_filter.mp m
  have key : ∀ p, dg p (lessT L t) + (one (decide (p = h)) + one (decide (p = oth t h))) = dg p L := fun p => by
    rw [← dgT_oth p (s.gd.ne t m1) m2]
    exact dg_less s.gd.nd m1
  refine ⟨s.gd.less t, fun p => ?_, fun p => ?_⟩
  · have := s.par p
    have := key p
    omega
  · have := s.le p
    have := key p
    omega
theorem dg_pos {L : List Ti} {h : Pt} : 0 < dg h L ↔ goods L h ≠ [] := by
  induction L with
  | nil => simp [dg, goods]
  | cons t L ih =>
    have e : dg h (t :: L) = dgT h t + dg h L := by unfold dg; rw [List.map_cons, List.sum_cons]
    have g : goods (t :: L) h = if atE t h then t :: goods L h else goods L h := by unfold goods; rw [List.filter_cons]
    have q : 0 < dgT h t ↔ atE t h = true := by
      unfold dgT atE
      by_cases a : t.a = h <;> by_cases b : t.b = h <;> simp [a, b, one]
    rw [e, g]
    by_cases a : atE t h = true
    · rw [if_pos a]
      have := q.mpr a
      simp; omega
    · rw [if_neg a]
      have : dgT h t = 0 := by
        by_cases z : 0 < dgT h t
        · exact absurd (q.mp z) a
        · omega
      rw [this, Nat.zero_add]; exact ih
theorem St.stop {D : Pt → Nat} {c : Pt} {L : List Ti} {h : Pt} (s : St D c L h) (hc : D c = 1) (e : goods L h = []) : h ≠ c ∧ D h % 2 = 1 := by
  have z : dg h L = 0 := by
    by_cases q : 0 < dg h L
    · exact absurd e (dg_pos.mp q)
    · omega
  have p := s.par h
  rw [z] at p
  by_cases k : h = c
  · subst k
    simp [one, hc] at p
  · simp [one, k] at p
    exact ⟨k, by omega⟩
theorem St.mid {D : Pt → Nat} {c : Pt} {L : List Ti} {h : Pt} (s : St D c L h) (e : goods L h ≠ []) (k : h ≠ c) : D h ≠ 1 := by
  intro d
  have q := dg_pos.mpr e
  have l := s.le h
  have p := s.par h
  simp [one, k] at p
  omega
theorem hits_one {L : List Ti} {h : Pt} (g : Gd L) {t : Ti} (m : t ∈ goods L h) : ∃ r, hits L h (t.k, oth t h) = t :: r := by
  obtain ⟨m1, m2⟩ := List.mem_filter.mp m
  have o : oe t h = some (oth t h) := by
    unfold oe oth
    unfold atE at m2
    by_cases a : t.a = h
    · rw [if_pos a, if_pos a]
    · have : t.b = h := by simpa [a] using m2
      rw [if_neg a, if_neg a, if_pos this]
  have mh : t ∈ hits L h (t.k, oth t h) := List.mem_filter.mpr ⟨m1, by simp [o]⟩
  cases e : hits L h (t.k, oth t h) with
  | nil => rw [e] at mh; cases mh
  | cons s r =>
    have ms : s ∈ hits L h (t.k, oth t h) := by rw [e]; exact List.mem_cons_self
    obtain ⟨q1, q2⟩ := List.mem_filter.mp ms
    have q3 : s.k = t.k ∧ oe s h = some (oth t h) := by simpa using q2
    have as : atE s h = true := by
      have := q3.2
      unfold oe at this
      unfold atE
      by_cases a : s.a = h
      · simp [a]
      · by_cases b : s.b = h
        · simp [b]
        · rw [if_neg a, if_neg b] at this; cases this
    exact ⟨r, by rw [g.un s q1 t m1 q3.1 h as m2]⟩
theorem Wd.at {f : Bool} {D : Pt → Nat} {c : Pt} : ∀ (A B : List Sp) {L : List Ti} {h : Pt}, Wd f L h (A ++ B) → St D c L h → ∃ L', Wd f L' (fin h A) B ∧ St D c L' (fin h A) ∧ (∀ C, run L h (A ++ C) = run L' (fin h A) C) ∧ ∀ t ∈ L', t ∈ L
  | [], B, L, h, w, s => ⟨L, w, s, fun C => rfl, fun t m => m⟩
  | a :: A, B, L, h, w, s => by
    cases w with
    | @step _ _ t _ m q w =>
      obtain ⟨r, e⟩ := hits_one s.gd m
      obtain ⟨L', w', s', k, i⟩ := Wd.at A B w (s.step m)
      refine ⟨L', w', s', fun C => ?_, fun t mt => (less_sub (i t mt)).1⟩
      rw [List.cons_append, run, e]
      exact k C
theorem fin_app (h : Pt) : ∀ (A B : List Sp), fin h (A ++ B) = fin (fin h A) B
  | [], B => by rw [List.nil_append]; rfl
  | s :: A, B => by rw [List.cons_append]; exact fin_app s.2 A B
theorem Wd.ex (f : Bool) : ∀ (n : Nat) (L : List Ti) (h : Pt), L.length ≤ n → ∃ F, Wd f L h F ∧ F.length ≤ L.length
  | n, L, h, hl => by
    cases e : goods L h with
    | nil => exact ⟨[], .stop e, by simp⟩
    | cons t r =>
      have m : t ∈ goods L h := by rw [e]; exact List.mem_cons_self
      have ml := less_len (List.mem_filter.mp m).1
      match n with
      | 0 => omega
      | n + 1 =>
        obtain ⟨F, w, l⟩ := Wd.ex f n (lessT L t) (oth t h) (by omega)
        exact ⟨(t.k, oth t h) :: F, .step m (fun _ => by rw [e]; rfl) w, by simp; omega⟩
theorem Wd.len {f : Bool} {L : List Ti} {h : Pt} {F : List Sp} (w : Wd f L h F) : F.length ≤ L.length := by
  induction w with
  | stop e => simp
  | step m q w ih =>
    have := less_len (List.mem_filter.mp m).1
    simp only [List.length_cons]; omega
/-! ### ties of parts -/
theorem ties_k : ∀ {k : Nat} {Rs : List Rc} {t : Ti}, t ∈ tiesL k Rs → k ≤ t.k ∧ t.k < k + Rs.length ∧ ∃ R ∈ Rs, t ∈ tiesR t.k R
  | k, [], t, m => by cases m
  | k, R :: Rs, t, m => by
    rw [tiesL, List.mem_append] at m
    rcases m with m | m
    · have : t.k = k := by
        unfold tiesR at m
        split at m <;> simp at m <;> rcases m with rfl | rfl <;> rfl
      exact ⟨by omega, by simp; omega, R, List.mem_cons_self, this ▸ m⟩
    · obtain ⟨a, b, S, hS, mS⟩ := ties_k m
      exact ⟨by omega, by simp; omega, S, List.mem_cons_of_mem _ hS, mS⟩
theorem tiesR_gd (k : Nat) {R : Rc} (h : R.ok) : Gd (tiesR k R) := by
  obtain ⟨h1, h2⟩ := h
  have a1 : R.l ≠ R.r := by grind
  have a2 : R.b ≠ R.t := by grind
  unfold tiesR
  split
  · refine ⟨?_, ?_, ?_⟩
    · simp [a2]
    · intro t ht
      simp at ht
      rcases ht with rfl | rfl <;> simp [a1]
    · intro t ht s hs _ p
      simp at ht hs
      rcases ht with rfl | rfl <;> rcases hs with rfl | rfl <;> intro c1 c2
      · rfl
      · unfold atE at c1 c2; simp at c1 c2; grind
      · unfold atE at c1 c2; simp at c1 c2; grind
      · rfl
  · refine ⟨?_, ?_, ?_⟩
    · simp [a1]
    · intro t ht
      simp at ht
      rcases ht with rfl | rfl <;> simp [a2]
    · intro t ht s hs _ p
      simp at ht hs
      rcases ht with rfl | rfl <;> rcases hs with rfl | rfl <;> intro c1 c2
      · rfl
      · unfold atE at c1 c2; simp at c1 c2; grind
      · unfold atE at c1 c2; simp at c1 c2; grind
      · rfl
theorem tiesR_k {k : Nat} {R : Rc} {t : Ti} (m : t ∈ tiesR k R) : t.k = k := by
  unfold tiesR at m
  split at m <;> simp at m <;> rcases m with rfl | rfl <;> rfl
theorem ties_gd : ∀ (k : Nat) {Rs : List Rc}, (∀ R ∈ Rs, R.ok) → Gd (tiesL k Rs)
  | k, [], _ => ⟨List.nodup_nil, fun t m => (by cases m), fun t m => (by cases m)⟩
  | k, R :: Rs, h => by
    have g := tiesR_gd k (h R List.mem_cons_self)
    have ih := ties_gd (k + 1) (Rs := Rs) fun S hS => h S (List.mem_cons_of_mem _ hS)
    refine ⟨?_, ?_, ?_⟩
    · rw [tiesL, List.nodup_append]
      refine ⟨g.nd, ih.nd, fun t ht s hs e => ?_⟩
      have := tiesR_k ht
      have := (ties_k hs).1
      subst e; omega
    · intro t ht
      rcases List.mem_append.mp ht with ht | ht
      · exact g.ne t ht
      · exact ih.ne t ht
    · intro t ht s hs e p c1 c2
      rcases List.mem_append.mp ht with ht | ht <;> rcases List.mem_append.mp hs with hs | hs
      · exact g.un t ht s hs e p c1 c2
      · have := tiesR_k ht
        have := (ties_k hs).1
        omega
      · have := tiesR_k hs
        have := (ties_k ht).1
        omega
      · exact ih.un t ht s hs e p c1 c2
/-! ### what walks do -/
abbrev ll0 (W : Rc) : Pt := ⟨W.l, W.b⟩
def oc (W : Rc) : List Pt := [⟨W.r, W.b⟩, ⟨W.l, W.t⟩, ⟨W.r, W.t⟩]
theorem oc_iff {W : Rc} (o : W.ok) (p : Pt) : p ∈ oc W ↔ p ≠ ll0 W ∧ 0 < dgC p W := by
  obtain ⟨h1, h2⟩ := o
  obtain ⟨x, y⟩ := p
  rw [dgC_pos]
  unfold oc
  simp
  grind
theorem st_start {W : Rc} {Rs : List Rc} (h : Lay W Rs) : St (fun p => dg p (tiesL 0 Rs)) (ll0 W) (tiesL 0 Rs) (ll0 W) := ⟨ties_gd 0 h.ok, fun p => rfl, fun p => Nat.le_refl _⟩
theorem d_c0 {W : Rc} {Rs : List Rc} (h : Lay W Rs) (o : W.ok) : dg (ll0 W) (tiesL 0 Rs) = 1 := (ends_at h o (ll0 W)).1 (dgC_pos.mpr ⟨.inl rfl, .inl rfl⟩)
theorem d_odd {W : Rc} {Rs : List Rc} (h : Lay W Rs) (o : W.ok) {p : Pt} (k : dg p (tiesL 0 Rs) % 2 = 1) : 0 < dgC p W := by
  by_cases z : 0 < dgC p W
  · exact z
  · have := (ends_at h o p).2 (by omega)
    omega
def iw (W : Rc) (L : List Ti) (F : List Sp) : Bool := !F.isEmpty && (match run L (ll0 W) F with
  | some e => decide (e ∈ oc W)
  | none => false)
/-- a walk leads to another corner -/
theorem walk_end {f : Bool} {W : Rc} {Rs : List Rc} (h : Lay W Rs) (o : W.ok) {F : List Sp} (w : Wd f (tiesL 0 Rs) (ll0 W) F) : fin (ll0 W) F ∈ oc W ∧ F ≠ [] ∧ iw W (tiesL 0 Rs) F = true := by
  obtain ⟨L', w', s', k, _⟩ := Wd.at F [] (by rw [List.append_nil]; exact w) (st_start h)
  have e : goods L' (fin (ll0 W) F) = [] := by cases w'; assumption
  obtain ⟨n1, n2⟩ := s'.stop (d_c0 h o) e
  have m : fin (ll0 W) F ∈ oc W := (oc_iff o _).mpr ⟨n1, d_odd h o n2⟩
  have ne : F ≠ [] := fun z => by subst z; exact n1 rfl
  have r := k []
  rw [List.append_nil] at r
  refine ⟨m, ne, ?_⟩
  unfold iw
  rw [r, run]
  have : F.isEmpty = false := by simpa using ne
  simp [this, m]
theorem walk_short {f : Bool} {W : Rc} {Rs : List Rc} (h : Lay W Rs) (o : W.ok) {A : List Sp} {s : Sp} (w : Wd f (tiesL 0 Rs) (ll0 W) (A ++ [s])) : iw W (tiesL 0 Rs) A = false := by
  obtain ⟨L', w', s', k, _⟩ := Wd.at A [s] w (st_start h)
  have g : goods L' (fin (ll0 W) A) ≠ [] := by
    cases w' with
    | step m q w => exact fun z => by rw [z] at m; cases m
  have r := k []
  rw [List.append_nil] at r
  unfold iw
  rw [r, run]
  by_cases m : fin (ll0 W) A ∈ oc W
  · obtain ⟨m1, m2⟩ := (oc_iff o _).mp m
    exact absurd ((ends_at h o _).1 m2) (s'.mid g m1)
  · simp [m]
theorem iw_none {W : Rc} {L : List Ti} {F : List Sp} (h : run L (ll0 W) F = none) : iw W L F = false := by
  unfold iw
  rw [h]; simp
/-- a bent step in a walk -/
theorem walk_bent {f : Bool} {W : Rc} {Rs : List Rc} (h : Lay W Rs) {A B C : List Sp} {s : Sp} (w : Wd f (tiesL 0 Rs) (ll0 W) (A ++ B)) (no : ∀ (L' : List Ti) (t : Ti), Gd L' → (∀ t ∈ L', t ∈ tiesL 0 Rs) → t ∈ L' → Wd f L' (fin (ll0 W) A) B → t.k = s.1 → oe t (fin (ll0 W) A) = some s.2 → False) : iw W (tiesL 0 Rs) (A ++ s :: C) = false := by
  obtain ⟨L', w', s', k, i⟩ := Wd.at A B w (st_start h)
  refine iw_none ?_
  rw [k, run]
  cases e : hits L' (fin (ll0 W) A) s with
  | nil => rfl
  | cons t r =>
    have ms : t ∈ hits L' (fin (ll0 W) A) s := by rw [e]; exact List.mem_cons_self
    obtain ⟨q1, q2⟩ := List.mem_filter.mp ms
    have q3 : t.k = s.1 ∧ oe t (fin (ll0 W) A) = some s.2 := by simpa using q2
    exact (no L' t s'.gd i q1 w' q3.1 q3.2).elim
theorem oe_at {t : Ti} {h p : Pt} (e : oe t h = some p) : atE t h = true ∧ p = oth t h := by
  unfold oe at e
  unfold atE oth
  by_cases a : t.a = h
  · rw [if_pos a] at e ⊢
    simp [a]; simpa using e.symm
  · rw [if_neg a] at e ⊢
    by_cases b : t.b = h
    · rw [if_pos b] at e
      simp [b]; simpa using e.symm
    · rw [if_neg b] at e; cases e
theorem walk_more {f : Bool} {W : Rc} {Rs : List Rc} (h : Lay W Rs) {F : List Sp} {s : Sp} (w : Wd f (tiesL 0 Rs) (ll0 W) F) : iw W (tiesL 0 Rs) (F ++ [s]) = false := by
  refine walk_bent h (A := F) (B := []) (by rw [List.append_nil]; exact w) fun L' t g i m w' _ q => ?_
  have e : goods L' (fin (ll0 W) F) = [] := by cases w'; assumption
  have : t ∈ goods L' (fin (ll0 W) F) := List.mem_filter.mpr ⟨m, (oe_at q).1⟩
  rw [e] at this; cases this
theorem walk_far {f : Bool} {W : Rc} {Rs : List Rc} (h : Lay W Rs) {A B C : List Sp} {p : Pt} (w : Wd f (tiesL 0 Rs) (ll0 W) (A ++ B)) : iw W (tiesL 0 Rs) (A ++ (Rs.length, p) :: C) = false :=
  walk_bent h w fun L' t g i m w' k q => by
    have := (ties_k (i t m)).2.1
    simp at k
    omega
theorem walk_off {f : Bool} {W : Rc} {Rs : List Rc} (h : Lay W Rs) {A B C : List Sp} {s : Sp} {p : Pt} (w : Wd f (tiesL 0 Rs) (ll0 W) (A ++ s :: B)) (hp : p ≠ s.2) : iw W (tiesL 0 Rs) (A ++ (s.1, p) :: C) = false :=
  walk_bent h w fun L' t g i m w' k q => by
    cases w' with
    | @step _ _ u _ mu _ _ =>
      obtain ⟨u1, u2⟩ := List.mem_filter.mp mu
      obtain ⟨a, e⟩ := oe_at q
      have : t = u := g.un t m u u1 k _ a u2
      subst this
      exact hp e
/-! ### whole steps -/
theorem den_sub {p q : Rat} (h : (p - q).den = 1) : (q - p).den = 1 := by
  obtain ⟨z, e⟩ := whole_den.mp h
  refine whole_den.mpr ⟨-z, ?_⟩
  rw [Rat.intCast_neg, ← e]; grind
theorem den_add {p q r : Rat} (h : (p - q).den = 1) (k : (q - r).den = 1) : (p - r).den = 1 := by
  obtain ⟨z, e⟩ := whole_den.mp h
  obtain ⟨w, f⟩ := whole_den.mp k
  refine whole_den.mpr ⟨z + w, ?_⟩
  rw [Rat.intCast_add, ← e, ← f]; grind
theorem den_self (p : Rat) : (p - p).den = 1 := whole_den.mpr ⟨0, by simp; grind⟩
theorem tie_whole {k : Nat} {R : Rc} (h : (isW R || isH R) = true) {t : Ti} (m : t ∈ tiesR k R) : (t.a.x - t.b.x).den = 1 ∧ (t.a.y - t.b.y).den = 1 := by
  unfold tiesR at m
  by_cases w : isW R = true
  · rw [if_pos w] at m
    have w' : (R.r - R.l).den = 1 := by simpa using w
    simp at m
    rcases m with rfl | rfl <;> exact ⟨den_sub w', den_self _⟩
  · rw [if_neg w] at m
    have w' : (R.t - R.b).den = 1 := by
      have := w
      rw [Bool.or_eq_true] at h
      rcases h with h | h
      · exact absurd h w
      · simpa using h
    simp at m
    rcases m with rfl | rfl <;> exact ⟨den_self _, den_sub w'⟩
theorem walk_steps {f : Bool} {L : List Ti} (hL : ∀ t ∈ L, (t.a.x - t.b.x).den = 1 ∧ (t.a.y - t.b.y).den = 1) {h : Pt} {F : List Sp} (w : Wd f L h F) : ((fin h F).x - h.x).den = 1 ∧ ((fin h F).y - h.y).den = 1 := by
  induction w with
  | stop e => exact ⟨den_self _, den_self _⟩
  | @step L h t F m q w ih =>
    obtain ⟨m1, m2⟩ := List.mem_filter.mp m
    obtain ⟨k1, k2⟩ := ih fun s hs => hL s (less_sub hs).1
    obtain ⟨t1, t2⟩ := hL t m1
    have o : ((oth t h).x - h.x).den = 1 ∧ ((oth t h).y - h.y).den = 1 := by
      unfold oth
      by_cases a : t.a = h
      · rw [if_pos a]; subst a; exact ⟨den_sub t1, den_sub t2⟩
      · have b : t.b = h := by unfold atE at m2; simpa [a] using m2
        rw [if_neg a]; subst b; exact ⟨t1, t2⟩
    exact ⟨den_add k1 o.1, den_add k2 o.2⟩
theorem walk_whole {f : Bool} {W : Rc} {Rs : List Rc} (h : Lay W Rs) (o : W.ok) (hs : ∀ R ∈ Rs, (isW R || isH R) = true) {F : List Sp} (w : Wd f (tiesL 0 Rs) (ll0 W) F) : ((fin (ll0 W) F).x - W.l).den = 1 ∧ ((fin (ll0 W) F).y - W.b).den = 1 := 
  walk_steps (fun t m => by
    obtain ⟨_, _, R, hR, k⟩ := ties_k m
    exact tie_whole (hs R hR) k) w
/-- the main theorem -/
theorem whole_has {W : Rc} {Rs : List Rc} (h : Lay W Rs) (o : W.ok) (hs : ∀ R ∈ Rs, (isW R || isH R) = true) : (isW W || isH W) = true := by
  obtain ⟨F, w, _⟩ := Wd.ex true _ (tiesL 0 Rs) (ll0 W) (Nat.le_refl _)
  obtain ⟨m, _, _⟩ := walk_end h o w
  obtain ⟨k1, k2⟩ := walk_whole h o hs w
  unfold oc at m
  simp at m
  rcases m with m | m | m <;> rw [m] at k1 k2
  · have : isW W = true := by simpa using k1
    rw [this]; rfl
  · have : isH W = true := by simpa using k2
    rw [this]; simp
  · have : isW W = true := by simpa using k1
    rw [this]; rfl
end PU
end

section
set_option linter.all false
set_option autoImplicit false
set_option exponentiation.threshold 100000
set_option maxRecDepth 20000
set_option maxHeartbeats 4000000
/-! checkered sums of layings; firsts -/
namespace PU
open MP IR
variable {P : Prog}
def enumF : Int → List PV → List PV
  | _, [] => []
  | k, v :: vs => .tup [.int k, v] :: enumF (k + 1) vs
theorem enum_from : ∀ (vs : List PV) (k : Nat), ((vs.zipIdx k).map fun p => PV.tup [.int (p.2 : Nat), p.1]) = enumF k vs
  | [], _ => rfl
  | v :: vs, k => by
    rw [List.zipIdx_cons, List.map_cons, enum_from vs (k + 1)]
    rfl
theorem enum_zero (vs : List PV) : enum_ vs = enumF 0 vs := enum_from vs 0
/-- the places where p holds -/
def idxs {α : Type} (p : α → Bool) : List α → Int → List Int
  | [], _ => []
  | x :: xs, k => if p x then k :: idxs p xs (k + 1) else idxs p xs (k + 1)
theorem first_loop {α : Type} {g : α → PV} {f : PV → Env → Store → SR} {ρ : Env} {T : Store} {p : α → Bool} : ∀ (xs : List α) (k : Int), (∀ x ∈ xs, ∀ i : Int, f (.tup [.int i, g x]) ρ T = if p x then .rt (.int i) T else .nx ρ T) →
    loopS f (enumF k (xs.map g)) ρ T = match (idxs p xs k).head? with
      | some i => .rt (.int i) T
      | none => .nx ρ T
  | [], k, _ => rfl
  | x :: xs, k, h => by
    have hx := h x List.mem_cons_self k
    rw [List.map_cons, enumF, loopS, hx]
    unfold idxs
    cases hp : p x with
    | true => simp
    | false => simpa using first_loop xs (k + 1) fun y hy i => h y (List.mem_cons_of_mem _ hy) i
theorem idxs_loop {α : Type} {g : α → PV} {f : PV → Store → Res (List PV)} {T : Store} {p : α → Bool} : ∀ (xs : List α) (k : Int), (∀ x ∈ xs, ∀ i : Int, f (.tup [.int i, g x]) T = if p x then .ok [.int i] T else .ok [] T) → loopC f (enumF k (xs.map g)) T = .ok (intz (idxs p xs k)) T
  | [], k, _ => rfl
  | x :: xs, k, h => by
    have hx := h x List.mem_cons_self k
    rw [List.map_cons, enumF, loopC, hx]
    unfold idxs
    have ih := idxs_loop xs (k + 1) fun y hy i => h y (List.mem_cons_of_mem _ hy) i
    cases hp : p x with
    | true => simp [ih]
    | false => simp [ih]
theorem idxs_len {α : Type} (p : α → Bool) : ∀ (xs : List α) (k : Int), (idxs p xs k).length ≤ xs.length
  | [], _ => Nat.le_refl _
  | x :: xs, k => by
    unfold idxs
    have := idxs_len p xs (k + 1)
    split <;> simp <;> omega
structure ChP (P : Prog) : Prop where
  he : HeQ P
  parts : P.fn 113 = some f_checkered_parts
  first : P.fn 256 = some f_first_uneven
theorem corner_near {W : Rc} {Rs : List Rc} (s : Sm W Rs) : Bd nearB nearB W.l ∧ Bd nearB nearB W.b := ⟨(s.near W List.mem_cons_self).1, (s.near W List.mem_cons_self).2.1⟩
theorem checkered_parts (L : ChP P) (d : Nat) {W : Rc} {Rs : List Rc} (h : Lay W Rs) (oW : W.ok) (s : Sm W Rs) {w u : PV} {n m : Nat} (hw : Mx n (rc W) w) (hn : n ≤ 4) (hu : Mx m (.tup (Rs.map rc)) u) (hm : m ≤ 5) (T : Store) :
    callF P (d + 10) 113 [w, u] T = .ok (.tup (Rs.map fun R => fr (chk W.l W.b R))) T := by
  have lp := line_pos
  have e1 := sure_lay L.he.wh.la d h oW s hw hn hu hm T
  obtain ⟨c1, c2⟩ := corner_near s
  have ln := s.len
  have key : ∀ (f : PV → Store → Res (List PV)), (∀ R ∈ Rs, f (rc R) T = .ok [fr (chk W.l W.b R)] T) → compR (loopC f (Rs.map rc) T) = .ok (.lst (Rs.map fun R => fr (chk W.l W.b R))) T := fun f hf => by
    have e : loopC f (Rs.map rc) T = .ok (Rs.map fun R => fr (chk W.l W.b R)) T := by
      clear e1 ln h s hu
      induction Rs with
      | nil => rfl
      | cons R Rs ih => rw [List.map_cons, loopC, hf R List.mem_cons_self, Res.bind_ok, ih fun S hS => hf S (List.mem_cons_of_mem _ hS)]; rfl
    rw [e, compR_ok (by rw [List.length_map]; omega)]
  rw [callF_at L.parts rfl]
  have e2 : ∀ R ∈ Rs, callF P (d + 9) 64 [pt W.l W.b, rc R] T = .ok (fr (chk W.l W.b R)) T := fun R hR => chk_in L.he (d + 3) c1 c2 (s.near R (List.mem_cons_of_mem _ hR)) T
  generalize hX : Rs.map rc = X at *
  simp [f_checkered_parts, startE, e1]
  rw [key _ fun R hR => by
    have := e2 R hR
    simp [rc_i0, rc_i1]
    rw [show PV.tup [fr W.l, fr W.b] = pt W.l W.b from rfl, this]
    simp]
  simp
theorem first_uneven (L : ChP P) (d : Nat) {W : Rc} {Rs : List Rc} (h : Lay W Rs) (oW : W.ok) (s : Sm W Rs) {w u : PV} {n m : Nat} (hw : Mx n (rc W) w) (hn : n ≤ 4) (hu : Mx m (.tup (Rs.map rc)) u) (hm : m ≤ 5) (T : Store) :
    callF P (d + 10) 256 [w, u] T = match (idxs (fun R => decide (chk W.l W.b R ≠ 0)) Rs 0).head? with
      | some i => .ok (.int i) T
      | none => .ex ⟨1, []⟩ T := by
  have e1 := sure_lay L.he.wh.la d h oW s hw hn hu hm T
  obtain ⟨c1, c2⟩ := corner_near s
  have g5 := L.he.wh.la.gl5
  have e2 : ∀ R ∈ Rs, callF P (d + 9) 64 [pt W.l W.b, rc R] T = .ok (fr (chk W.l W.b R)) T := fun R hR => chk_in L.he (d + 3) c1 c2 (s.near R (List.mem_cons_of_mem _ hR)) T
  have e3 := first_loop (g := rc) (f := turn ⟨callF P (d + 9), P.gl, P.fu⟩ (.tp (.cons (.nm 4) (.cons (.nm 5) .nil))) b_first_uneven_0) (ρ := [.va w, .va u, .va (rc W), .va (.tup (Rs.map rc)), .un, .un]) (T := T) (p := fun R => decide (chk W.l W.b R ≠ 0)) Rs 0 fun R hR i => by
    have := e2 R hR
    have p := pln_fr 39 (chk W.l W.b R)
    have q := eqv_fr (chk W.l W.b R) 0
    rw [fr_zero] at q
    have hb : decide (chk W.l W.b R ≠ 0) = !decide (chk W.l W.b R = 0) := by simp
    rw [hb]
    generalize Rs.map rc = X at *
    generalize decide (chk W.l W.b R = 0) = b at *
    generalize chk W.l W.b R = c at *
    simp only [b_first_uneven_0, turn_eq, b_tup, bs_cons, bs_nil, b_nm, Option.bind_some, List.set_cons_succ, List.set_cons_zero]
    simp [rc_i0, rc_i1]
    rw [show PV.tup [fr W.l, fr W.b] = pt W.l W.b from rfl, this]
    cases b <;> simp [g5, p, q]
  rw [callF_at L.first rfl]
  generalize Rs.map rc = X at *
  simp [f_first_uneven, startE, e1, enum_zero, e3]
  cases (idxs (fun R => !decide (chk W.l W.b R = 0)) Rs 0).head? <;> simp
end PU
end

section
set_option linter.all false
set_option autoImplicit false
set_option exponentiation.threshold 100000
set_option maxRecDepth 20000
set_option maxHeartbeats 4000000
/-! white less black, field by field -/
namespace PU
open MP IR
variable {P : Prog}
def fl2 (x : Rat) : Int := (2 * x.num).fdiv (x.den : Int)
theorem num_eq (x : Rat) : x * (x.den : Rat) = (x.num : Rat) ∧ (0 : Rat) < (x.den : Rat) := by
  refine ⟨?_, by exact_mod_cast (show (0 : Int) < x.den from by have := x.den_pos; omega)⟩
  have e := Rat.num_divInt_den x
  rw [Rat.divInt_eq_div, Rat.intCast_natCast] at e
  have : (x.den : Rat) ≠ 0 := by
    intro z
    have : (x.den : Int) = 0 := by exact_mod_cast z
    have := x.den_pos
    omega
  grind
theorem fl2_le (x : Rat) : ((fl2 x : Int) : Rat) ≤ 2 * x ∧ 2 * x < ((fl2 x + 1 : Int) : Rat) := by
  obtain ⟨e, d0⟩ := num_eq x
  have hd : (0 : Int) < (x.den : Int) := by have := x.den_pos; omega
  unfold fl2
  rw [Int.fdiv_eq_ediv_of_nonneg _ (by omega)]
  have h1 := Int.ediv_mul_le (2 * x.num) (b := (x.den : Int)) (by omega)
  have h2 := Int.lt_ediv_add_one_mul_self (2 * x.num) hd
  generalize 2 * x.num / (x.den : Int) = m at *
  have k1 : ((m : Int) : Rat) * (x.den : Rat) ≤ 2 * (x.num : Rat) := by
    have : ((m * (x.den : Int) : Int) : Rat) ≤ ((2 * x.num : Int) : Rat) := by exact_mod_cast h1
    rw [Rat.intCast_mul, Rat.intCast_mul, Rat.intCast_natCast] at this
    exact this
  have k2 : 2 * (x.num : Rat) < ((m + 1 : Int) : Rat) * (x.den : Rat) := by
    have : ((2 * x.num : Int) : Rat) < (((m + 1) * (x.den : Int) : Int) : Rat) := by exact_mod_cast h2
    rw [Rat.intCast_mul, Rat.intCast_mul, Rat.intCast_natCast] at this
    exact this
  constructor
  · by_cases hc : (m : Rat) ≤ 2 * x
    · exact hc
    · have := Rat.mul_lt_mul_of_pos_left (show 2 * x < (m : Rat) by grind) d0
      grind
  · by_cases hc : 2 * x < ((m + 1 : Int) : Rat)
    · exact hc
    · have := Rat.mul_le_mul_of_nonneg_left (show ((m + 1 : Int) : Rat) ≤ 2 * x by grind) (show (0 : Rat) ≤ (x.den : Rat) by grind)
      grind
theorem half_eq (k : Int) : Rat.divInt k 2 * 2 = (k : Rat) := by
  rw [Rat.divInt_eq_div]
  have : ((2 : Int) : Rat) = 2 := rfl
  have h2 : (2 : Rat) ≠ 0 := by decide +kernel
  grind
theorem lt_half (a : Rat) (k : Int) : a.num * 2 < k * (a.den : Int) ↔ a < Rat.divInt k 2 := by
  obtain ⟨e, d0⟩ := num_eq a
  have h2 := half_eq k
  generalize Rat.divInt k 2 = h at *
  have c : (a.num * 2 < k * (a.den : Int)) ↔ (a.num : Rat) * 2 < (k : Rat) * (a.den : Rat) := by
    constructor
    · intro z
      have : ((a.num * 2 : Int) : Rat) < ((k * (a.den : Int) : Int) : Rat) := by exact_mod_cast z
      rw [Rat.intCast_mul, Rat.intCast_mul, Rat.intCast_natCast] at this
      exact this
    · intro z
      have : ((a.num * 2 : Int) : Rat) < ((k * (a.den : Int) : Int) : Rat) := by rw [Rat.intCast_mul, Rat.intCast_mul, Rat.intCast_natCast]; exact z
      exact_mod_cast this
  rw [c, ← e, ← h2]
  constructor
  · intro z
    by_cases hc : a < h
    · exact hc
    · have := Rat.mul_le_mul_of_nonneg_left (show h ≤ a by grind) (show (0 : Rat) ≤ (a.den : Rat) by grind)
      grind
  · intro z
    have := Rat.mul_lt_mul_of_pos_left z d0
    grind
theorem half_lt (c : Rat) (k : Int) : k * (c.den : Int) < c.num * 2 ↔ Rat.divInt k 2 < c := by
  obtain ⟨e, d0⟩ := num_eq c
  have h2 := half_eq k
  generalize Rat.divInt k 2 = h at *
  have cc : (k * (c.den : Int) < c.num * 2) ↔ (k : Rat) * (c.den : Rat) < (c.num : Rat) * 2 := by
    constructor
    · intro z
      have : ((k * (c.den : Int) : Int) : Rat) < ((c.num * 2 : Int) : Rat) := by exact_mod_cast z
      rw [Rat.intCast_mul, Rat.intCast_mul, Rat.intCast_natCast] at this
      exact this
    · intro z
      have : ((k * (c.den : Int) : Int) : Rat) < ((c.num * 2 : Int) : Rat) := by rw [Rat.intCast_mul, Rat.intCast_mul, Rat.intCast_natCast]; exact z
      exact_mod_cast this
  rw [cc, ← e, ← h2]
  constructor
  · intro z
    by_cases hc : h < c
    · exact hc
    · have := Rat.mul_le_mul_of_nonneg_left (show c ≤ h by grind) (show (0 : Rat) ≤ (c.den : Rat) by grind)
      grind
  · intro z
    have := Rat.mul_lt_mul_of_pos_left z d0
    grind
/-- white or black -/
def sg (x : Rat) : Rat := if fl2 x % 2 = 0 then 1 else -1
theorem hp_at {x : Rat} {n : Int} (h1 : (n : Rat) ≤ x) (h2 : x < (n : Rat) + 1) : hp x = if hf < x - (n : Rat) then 1 - (x - (n : Rat)) else x - (n : Rat) := by
  have : flo x = n := flo_uniq h1 (by rw [Rat.intCast_add]; exact h2)
  unfold hp
  rw [this]
theorem hp_step {x y : Rat} (h : x < y) (no : ∀ k : Int, ¬ (x < Rat.divInt k 2 ∧ Rat.divInt k 2 < y)) : hp y - hp x = (y - x) * sg x := by
  obtain ⟨k1, k2⟩ := fl2_le x
  rw [Rat.intCast_add] at k2
  have one : ((1 : Int) : Rat) = 1 := rfl
  have n1 := no (fl2 x + 1)
  have n2 := half_eq (fl2 x + 1)
  rw [Rat.intCast_add] at n2
  have hy : 2 * y ≤ (fl2 x : Rat) + 1 := by grind
  have h2 := hf_two
  unfold sg
  by_cases he : fl2 x % 2 = 0
  · obtain ⟨n, hn⟩ : ∃ n, fl2 x = 2 * n := ⟨fl2 x / 2, by omega⟩
    rw [if_pos he]
    rw [hn, Rat.intCast_mul] at k1 k2 hy
    have two : ((2 : Int) : Rat) = 2 := rfl
    rw [hp_at (n := n) (x := x) (by grind) (by grind), hp_at (n := n) (x := y) (by grind) (by grind)]
    rw [if_neg (by grind), if_neg (by grind)]
    grind
  · obtain ⟨n, hn⟩ : ∃ n, fl2 x = 2 * n + 1 := ⟨fl2 x / 2, by omega⟩
    rw [if_neg he]
    rw [hn, Rat.intCast_add, Rat.intCast_mul] at k1 k2 hy
    have two : ((2 : Int) : Rat) = 2 := rfl
    have ex : hp x = 1 - (x - (n : Rat)) := by
      rw [hp_at (n := n) (x := x) (by grind) (by grind)]
      split <;> grind
    have ey : hp y = 1 - (y - (n : Rat)) := by
      by_cases hc : y < (n : Rat) + 1
      · rw [hp_at (n := n) (x := y) (by grind) hc]
        split <;> grind
      · have e : y = ((n + 1 : Int) : Rat) := by rw [Rat.intCast_add]; grind
        have z : hp y = 0 := hp_zero.mpr (by rw [e]; rfl)
        rw [z, e, Rat.intCast_add]; grind
    rw [ex, ey]; grind
/-- one step after the other, each with its sign -/
def ds : List Rat → Rat
  | x :: y :: r => (y - x) * sg x + ds (y :: r)
  | _ => 0
theorem ds_tele : ∀ (xs : List Rat) (x z : Rat), (x :: xs).Pairwise (· < ·) → (x :: xs).getLast (by simp) = z → (∀ k : Int, x < Rat.divInt k 2 → Rat.divInt k 2 < z → Rat.divInt k 2 ∈ x :: xs) → ds (x :: xs) = hp z - hp x
  | [], x, z, _, hz, _ => by
    have : x = z := hz
    subst this
    show (0 : Rat) = _
    grind
  | y :: xs, x, z, hs, hz, hk => by
    obtain ⟨h1, h2⟩ := List.pairwise_cons.mp hs
    have hxy := h1 y List.mem_cons_self
    have hz' : (y :: xs).getLast (by simp) = z := hz
    have yz : y = z ∨ y < z := by
      have := List.getLast_mem (l := y :: xs) (by simp)
      rw [hz'] at this
      rcases List.mem_cons.mp this with e | m
      · exact .inl e.symm
      · exact .inr ((List.pairwise_cons.mp h2).1 z m)
    have ih := ds_tele xs y z h2 hz' fun k a b => by
      have := hk k (by grind) b
      rcases List.mem_cons.mp this with e | m
      · grind
      · exact m
    have st := hp_step hxy fun k ⟨a, b⟩ => by
      have := hk k a (by grind)
      rcases List.mem_cons.mp this with e | m
      · grind
      · rcases List.mem_cons.mp m with e | m
        · grind
        · have := (List.pairwise_cons.mp h2).1 _ m
          grind
    show (y - x) * sg x + ds (y :: xs) = _
    rw [ih, ← st]; grind
/-! ### rows in line -/
theorem ins_sorted (q : Rat) : ∀ (xs : List Rat), xs.Pairwise (· < ·) → q ∉ xs → (xs.take (xs.filter (· < q)).length ++ [q] ++ xs.drop (xs.filter (· < q)).length).Pairwise (· < ·)
  | [], _, _ => by simp
  | x :: xs, h, hq => by
    obtain ⟨h1, h2⟩ := List.pairwise_cons.mp h
    have nx : q ≠ x := fun z => hq (z ▸ List.mem_cons_self)
    by_cases c : x < q
    · have ih := ins_sorted q xs h2 fun m => hq (List.mem_cons_of_mem _ m)
      rw [List.filter_cons_of_pos (by simpa using c), List.length_cons, List.take_succ_cons, List.drop_succ_cons, List.cons_append, List.cons_append]
      refine List.pairwise_cons.mpr ⟨fun y hy => ?_, ih⟩
      simp only [List.mem_append, List.mem_singleton] at hy
      rcases hy with (hy | rfl) | hy
      · exact h1 y (List.mem_of_mem_take hy)
      · exact c
      · exact h1 y (List.mem_of_mem_drop hy)
    · have qx : q < x := by grind
      have e : (x :: xs).filter (· < q) = [] := by
        rw [List.filter_eq_nil_iff]
        intro y hy
        rcases List.mem_cons.mp hy with rfl | hy
        · simpa using c
        · have := h1 y hy
          simp; grind
      rw [e]
      show (q :: x :: xs).Pairwise _
      refine List.pairwise_cons.mpr ⟨fun y hy => ?_, h⟩
      rcases List.mem_cons.mp hy with rfl | hy
      · exact qx
      · have := h1 y hy; grind
theorem lines_ok (qs : List Rat) : (lines qs).Pairwise (· < ·) ∧ ∀ x, x ∈ lines qs ↔ x ∈ qs := by
  have go : ∀ (qs acc : List Rat), acc.Pairwise (· < ·) → (qs.foldl (fun acc q => ins q acc) acc).Pairwise (· < ·) ∧ ∀ x, x ∈ qs.foldl (fun acc q => ins q acc) acc ↔ x ∈ acc ∨ x ∈ qs := by
    intro qs
    induction qs with
    | nil => intro acc h; exact ⟨h, fun x => by simp⟩
    | cons q qs ih =>
      intro acc h
      have hi : (ins q acc).Pairwise (· < ·) := by
        unfold ins
        split
        · exact h
        · rename_i c; exact ins_sorted q acc h c
      obtain ⟨a, b⟩ := ih (ins q acc) hi
      refine ⟨a, fun x => ?_⟩
      rw [List.foldl_cons, b x, ins_mem, List.mem_cons]
      exact ⟨fun h => by rcases h with (h | h) | h <;> simp [h], fun h => by rcases h with h | h | h <;> simp [h]⟩
  obtain ⟨a, b⟩ := go qs [] List.Pairwise.nil
  exact ⟨a, fun x => by rw [lines, b x]; simp⟩
theorem lines_len (qs : List Rat) : (lines qs).length ≤ qs.length := by
  have go : ∀ (qs acc : List Rat), (qs.foldl (fun acc q => ins q acc) acc).length ≤ acc.length + qs.length := by
    intro qs
    induction qs with
    | nil => intro acc; simp
    | cons q qs ih =>
      intro acc
      have := ih (ins q acc)
      have := ins_len q acc
      rw [List.foldl_cons, List.length_cons]; omega
  simpa [lines] using go qs []
/-- halves between -/
def halves (a c : Rat) : List Rat := (((List.range ((fl2 c + 2) - (fl2 a - 1)).toNat).map fun j => (fl2 a - 1) + (j : Nat)).filter fun k : Int => decide (a < Rat.divInt k 2) && decide (Rat.divInt k 2 < c)).map fun k => Rat.divInt k 2
theorem halves_mem {a c : Rat} {k : Int} (h1 : a < Rat.divInt k 2) (h2 : Rat.divInt k 2 < c) : Rat.divInt k 2 ∈ halves a c := by
  obtain ⟨a1, _⟩ := fl2_le a
  obtain ⟨_, c2⟩ := fl2_le c
  have e := half_eq k
  have g1 : (fl2 a : Rat) < (k : Rat) := by grind
  have g2 : (k : Rat) < ((fl2 c + 1 : Int) : Rat) := by grind
  have g1' : fl2 a < k := by exact_mod_cast g1
  have g2' : k < fl2 c + 1 := by exact_mod_cast g2
  refine List.mem_map.mpr ⟨k, List.mem_filter.mpr ⟨List.mem_map.mpr ⟨(k - (fl2 a - 1)).toNat, List.mem_range.mpr (by omega), by omega⟩, by simp [h1, h2]⟩, rfl⟩
theorem halves_of {a c x : Rat} (h : x ∈ halves a c) : ∃ k : Int, x = Rat.divInt k 2 ∧ a < x ∧ x < c := by
  obtain ⟨k, h1, rfl⟩ := List.mem_map.mp h
  have := (List.mem_filter.mp h1).2
  simp at this
  exact ⟨k, rfl, this.1, this.2⟩
/-- lines at halves: their steps add up to the heaps' growth -/
theorem ds_lines {a c : Rat} (h : a < c) : ds (lines ([a, c] ++ halves a c)) = hp c - hp a := by
  obtain ⟨so, me⟩ := lines_ok ([a, c] ++ halves a c)
  have rng : ∀ x ∈ lines ([a, c] ++ halves a c), a ≤ x ∧ x ≤ c := fun x hx => by
    have := (me x).mp hx
    simp at this
    rcases this with rfl | rfl | h3
    · constructor <;> grind
    · constructor <;> grind
    · obtain ⟨k, rfl, k1, k2⟩ := halves_of h3
      constructor <;> grind
  have ma : a ∈ lines ([a, c] ++ halves a c) := (me a).mpr (by simp)
  have mc : c ∈ lines ([a, c] ++ halves a c) := (me c).mpr (by simp)
  have mh : ∀ k : Int, a < Rat.divInt k 2 → Rat.divInt k 2 < c → Rat.divInt k 2 ∈ lines ([a, c] ++ halves a c) := fun k h1 h2 => (me _).mpr (by simp; exact .inr (.inr (halves_mem h1 h2)))
  generalize lines ([a, c] ++ halves a c) = xs at *
  cases xs with
  | nil => cases ma
  | cons x xs =>
    have ex : x = a := by
      rcases List.mem_cons.mp ma with e | m
      · exact e.symm
      · have := (List.pairwise_cons.mp so).1 a m
        have := (rng x List.mem_cons_self).1
        grind
    subst ex
    refine ds_tele xs x c so ?_ mh
    have hl := rng _ (List.getLast_mem (l := x :: xs) (by simp))
    have : c ≤ (x :: xs).getLast (by simp) := by
      have key : ∀ (l : List Rat) (hne : l ≠ []), l.Pairwise (· < ·) → ∀ y ∈ l, y ≤ l.getLast hne := by
        intro l
        induction l with
        | nil => intro h; exact absurd rfl h
        | cons z l ih =>
          intro _ hp y hy
          obtain ⟨p1, p2⟩ := List.pairwise_cons.mp hp
          cases l with
          | nil => simp at hy; subst hy; simp
          | cons w l =>
            rw [List.getLast_cons (by simp)]
            rcases List.mem_cons.mp hy with rfl | hy
            · have := ih (by simp) p2 w List.mem_cons_self
              have := p1 w List.mem_cons_self
              grind
            · exact ih (by simp) p2 y hy
      exact key _ _ so c mc
    grind
end PU
end

section
set_option linter.all false
set_option autoImplicit false
set_option exponentiation.threshold 100000
set_option maxRecDepth 20000
set_option maxHeartbeats 8000000
/-! white less black: the law's own run -/
namespace PU
open MP IR
variable {P : Prog}
theorem fr_neg (q : Rat) : PV.tup [.int (0 - q.num), .int (q.den : Int)] = fr (-q) := by
  unfold fr
  rw [Rat.neg_num, Rat.neg_den, Int.zero_sub]
theorem fr_half_k (k : Int) : (if k.fmod 2 = 1 then PV.tup [.int k, .int 2] else PV.tup [.int (k.fdiv 2), .int 1]) = fr (Rat.divInt k 2) := by
  rw [Int.fmod_eq_emod_of_nonneg _ (by decide), Int.fdiv_eq_ediv_of_nonneg _ (by decide)]
  by_cases h : k % 2 = 1
  · rw [if_pos h]
    have c : k.natAbs.Coprime 2 := by
      have g1 := Nat.gcd_dvd_left k.natAbs 2
      have g2 := Nat.gcd_le_right k.natAbs (show 0 < 2 by decide)
      have g3 := Nat.gcd_pos_of_pos_right k.natAbs (show 0 < 2 by decide)
      unfold Nat.Coprime
      generalize Nat.gcd k.natAbs 2 = g at *
      have : g = 1 ∨ g = 2 := by omega
      rcases this with rfl | rfl
      · rfl
      · obtain ⟨c, hc⟩ := g1; omega
    have e := Rat.num_divInt_den (⟨k, 2, by decide, c⟩ : Rat)
    have e' : Rat.divInt k 2 = ⟨k, 2, by decide, c⟩ := e
    rw [e']; rfl
  · rw [if_neg h]
    have e : Rat.divInt k 2 = ((k / 2 : Int) : Rat) := by
      have h2 := half_eq k
      have : k = 2 * (k / 2) := by omega
      have k2 : (k : Rat) = 2 * ((k / 2 : Int) : Rat) := by
        conv => lhs; rw [this]
        rw [Rat.intCast_mul]; rfl
      rw [k2] at h2
      grind
    rw [e, fr_int]
theorem under_raw1 (h : P.fn 72 = some f_law_under) (d : Nat) (a : Rat) (k : Int) (T : Store) (hk : k.natAbs ≤ 1000000) : callF P (d + 1) 72 [fr a, .tup [.int k, .int 2]] T = .ok (.bl (decide (a < Rat.divInt k 2))) T := by
  have m1 : mulOk a.num 2 = true := mulOk_r (by decide)
  have m2 : mulOk k a.den = true := mulOk_l (by omega)
  have i0 : index T (.tup [.int k, .int 2]) (.int 0) = some (.int k) := rfl
  have i1 : index T (.tup [.int k, .int 2]) (.int 1) = some (.int 2) := rfl
  rw [callF_at h rfl]
  simp [f_law_under, startE, fr_i0, fr_i1, i0, i1, m1, m2, lt_half]
theorem under_raw2 (h : P.fn 72 = some f_law_under) (d : Nat) (c : Rat) (k : Int) (T : Store) (hk : k.natAbs ≤ 1000000) : callF P (d + 1) 72 [.tup [.int k, .int 2], fr c] T = .ok (.bl (decide (Rat.divInt k 2 < c))) T := by
  have m1 : mulOk c.num 2 = true := mulOk_r (by decide)
  have m2 : mulOk k c.den = true := mulOk_l (by omega)
  have i0 : index T (.tup [.int k, .int 2]) (.int 0) = some (.int k) := rfl
  have i1 : index T (.tup [.int k, .int 2]) (.int 1) = some (.int 2) := rfl
  rw [callF_at h rfl]
  simp [f_law_under, startE, fr_i0, fr_i1, i0, i1, m1, m2, half_lt]
/-- consecutive ones -/
def prs : List Rat → List PV
  | x :: y :: r => .tup [fr x, fr y] :: prs (y :: r)
  | _ => []
theorem zip_prs : ∀ xs : List Rat, zip2 (xs.map fr) ((xs.map fr).tail) = prs xs
  | [] => rfl
  | [x] => rfl
  | x :: y :: r => by
    have ih := zip_prs (y :: r)
    show PV.tup [fr x, fr y] :: zip2 ((y :: r).map fr) (r.map fr) = _
    rw [prs, ← ih]; rfl
theorem cut_tail {α : Type} (X : List α) : cut X (some 1) none = X.tail := by
  cases X with
  | nil => rfl
  | cons x X => exact cut1 x X
theorem fl2_parity (x y : Rat) : sg x * sg y = if (fl2 x + fl2 y) % 2 = 0 then 1 else -1 := by
  unfold sg
  by_cases h1 : fl2 x % 2 = 0 <;> by_cases h2 : fl2 y % 2 = 0
  · rw [if_pos h1, if_pos h2, if_pos (by omega)]; grind
  · rw [if_pos h1, if_neg h2, if_neg (by omega)]; grind
  · rw [if_neg h1, if_pos h2, if_neg (by omega)]; grind
  · rw [if_neg h1, if_neg h2, if_pos (by omega)]; grind
abbrev B60 : Nat := 10 ^ 60
theorem Tm.sz {M V : Nat} {q : Rat} (h : Tm M V q) (h0 : 0 < M) (h1 : M ≤ 10 ^ 150) (h2 : V ≤ 10 ^ 20) : Sz q := (h.bd h0).sz2 (Nat.le_trans (Nat.mul_le_mul h2 h1) (by decide)) (Nat.le_trans h1 (by decide))
theorem Tm.add {M V V' : Nat} {p q : Rat} (h : Tm M V p) (k : Tm M V' q) : Tm M (V + V') (p + q) := ⟨h.on.add k.on, by have := h.lo; have := k.lo; rw [Rat.natCast_add]; grind, by have := h.hi; have := k.hi; rw [Rat.natCast_add]; grind⟩
theorem Tm.neg {M V : Nat} {p : Rat} (h : Tm M V p) : Tm M V (-p) := ⟨by have := (On.int M 0).sub h.on; rw [show ((0 : Int) : Rat) - p = -p from by have : ((0 : Int) : Rat) = 0 := rfl; grind] at this; exact this, by have := h.hi; grind, by have := h.lo; grind⟩
theorem Tm.sub {M V V' : Nat} {p q : Rat} (h : Tm M V p) (k : Tm M V' q) : Tm M (V + V') (p - q) := by
  have := h.add k.neg
  rwa [show p + -q = p - q from by grind] at this
theorem Tm.mul {M N V V' : Nat} {p q : Rat} (h : Tm M V p) (k : Tm N V' q) : Tm (M * N) (V * V') (p * q) := by
  have a1 := h.lo
  have a2 := h.hi
  have b1 := k.lo
  have b2 := k.hi
  have v0 : (0 : Rat) ≤ (V : Rat) := by exact_mod_cast Nat.zero_le V
  have v1 : (0 : Rat) ≤ (V' : Rat) := by exact_mod_cast Nat.zero_le V'
  have m1 := Rat.mul_nonneg (show 0 ≤ (V : Rat) - p by grind) (show 0 ≤ (V' : Rat) + q by grind)
  have m2 := Rat.mul_nonneg (show 0 ≤ (V : Rat) + p by grind) (show 0 ≤ (V' : Rat) - q by grind)
  have m3 := Rat.mul_nonneg (show 0 ≤ (V : Rat) - p by grind) (show 0 ≤ (V' : Rat) - q by grind)
  have m4 := Rat.mul_nonneg (show 0 ≤ (V : Rat) + p by grind) (show 0 ≤ (V' : Rat) + q by grind)
  exact ⟨h.on.mul k.on, by rw [Rat.natCast_mul]; grind, by rw [Rat.natCast_mul]; grind⟩
theorem Tm.mono {M V V' : Nat} {p : Rat} (h : Tm M V p) (k : V ≤ V') : Tm M V' p := by
  have c : (V : Rat) ≤ (V' : Rat) := by exact_mod_cast k
  exact ⟨h.on, by have := h.lo; grind, by have := h.hi; grind⟩
abbrev shE (s0 s1 : SV) (f : Rat) (s3 s4 s5 s6 s7 s8 s9 s10 s11 : SV) : Env := [s0, s1, .va (fr f), s3, s4, s5, s6, s7, s8, s9, s10, s11, .un, .un, .un, .un]
theorem sz_on {M : Nat} {x : Rat} (h : Tm M 60 x) (m0 : 0 < M) (m1 : M ≤ B60) : Sz x := h.sz m0 (Nat.le_trans m1 (by decide)) (by decide)
theorem v0 {V L : Nat} : V + 14400 + 14400 * (L + 1) = V + 14400 * (L + 2) := by omega
theorem v1 {V L : Nat} (h : V + 14400 * (L + 2) ≤ 1000000000000) : V + 14400 + 14400 * (L + 1) ≤ 1000000000000 := Nat.le_trans (Nat.le_of_eq v0) h
theorem v2 {V L : Nat} : V + 14400 + 14400 * (L + 1) ≤ V + 14400 * (L + 2) := by omega
theorem v3 {V L : Nat} (h : V + 14400 * (L + 2) ≤ 1000000000000) : V ≤ 1000000000000 := Nat.le_trans (Nat.le_add_right ..) h
theorem shade_in (F : DrP P) {d M N : Nat} (m0 : 0 < M) (n0 : 0 < N) (m1 : M ≤ B60) (n1 : N ≤ B60) {s0 s1 s3 s4 s5 s6 s7 s8 s9 : SV} {T : Store} {x x2 : Rat} (hx : Tm M 60 x) (hx2 : Tm M 60 x2) : ∀ (ys : List Rat) (f : Rat) (V : Nat), (∀ y ∈ ys, Tm N 60 y) → Tm (M * N) V f → V + 14400 * ys.length ≤ 1000000000000 →
    loopS (turn ⟨callF P (d + 4), P.gl, P.fu⟩ (.tp (.cons (.nm 12) (.cons (.nm 13) .nil))) b_law_shades_0) (prs ys) (shE s0 s1 f s3 s4 s5 s6 s7 s8 s9 (.va (fr x)) (.va (fr x2))) T = .nx (shE s0 s1 (f + sg x * (x2 - x) * ds ys) s3 s4 s5 s6 s7 s8 s9 (.va (fr x)) (.va (fr x2))) T ∧ Tm (M * N) (V + 14400 * ys.length) (f + sg x * (x2 - x) * ds ys)
  | [], f, V, _, hf, _ => by
    have e : f + sg x * (x2 - x) * ds [] = f := by show f + sg x * (x2 - x) * 0 = f; grind
    rw [e]
    exact ⟨rfl, by simpa using hf⟩
  | [y], f, V, _, hf, _ => by
    have e : f + sg x * (x2 - x) * ds [y] = f := by show f + sg x * (x2 - x) * 0 = f; grind
    rw [e]
    exact ⟨rfl, hf.mono (by omega)⟩
  | y :: y2 :: ys, f, V, hy, hf, hV => by
    have ty := hy y List.mem_cons_self
    have ty2 := hy y2 (List.mem_cons_of_mem _ List.mem_cons_self)
    have lc : (y :: y2 :: ys).length = ys.length + 2 := rfl
    have lc2 : (y2 :: ys).length = ys.length + 1 := rfl
    rw [lc] at hV ⊢
    have dx := hx2.sub hx
    have dy := ty2.sub ty
    have own := dx.mul dy
    have mn0 : 0 < M * N := Nat.mul_pos m0 n0
    have mn1 : M * N ≤ 10 ^ 150 := Nat.le_trans (Nat.mul_le_mul m1 n1) (by decide)
    have sx := sz_on hx m0 m1
    have sx2 := sz_on hx2 m0 m1
    have sy := sz_on ty n0 n1
    have sy2 := sz_on ty2 n0 n1
    have e1 := law_less F.fl F.less (d + 1) T sx2 sx
    have e2 := law_less F.fl F.less (d + 1) T sy2 sy
    have e3 := law_by F.fl F.by_ (d + 1) T (dx.sz m0 (Nat.le_trans m1 (by decide)) (by decide)) (dy.sz n0 (Nat.le_trans n1 (by decide)) (by decide))
    have so := own.sz mn0 mn1 (by decide)
    have son := own.neg.sz mn0 mn1 (by decide)
    have sf := hf.sz mn0 mn1 (Nat.le_trans (v3 hV) (by decide))
    have e4 := law_plus F.fl F.plus (d + 1) T sf so
    have e5 := law_plus F.fl F.plus (d + 1) T sf son
    have d1 := divOk_sz x.den_pos sx.2
    have d2 := divOk_sz y.den_pos sy.2
    have m2 : ∀ x : Int, mulOk 2 x = true := fun x => mulOk_l (by decide)
    have fx : (2 * x.num).fdiv (x.den : Int) = fl2 x := rfl
    have fy : (2 * y.num).fdiv (y.den : Int) = fl2 y := rfl
    have par := fl2_parity x y
    have ng := fr_neg ((x2 - x) * (y2 - y))
    obtain ⟨f', h1, h2, h3⟩ : ∃ f', turn ⟨callF P (d + 4), P.gl, P.fu⟩ (.tp (.cons (.nm 12) (.cons (.nm 13) .nil))) b_law_shades_0 (.tup [fr y, fr y2]) (shE s0 s1 f s3 s4 s5 s6 s7 s8 s9 (.va (fr x)) (.va (fr x2))) T = .nx (shE s0 s1 f' s3 s4 s5 s6 s7 s8 s9 (.va (fr x)) (.va (fr x2))) T ∧ Tm (M * N) (V + 14400) f' ∧ f' = f + sg x * sg y * ((x2 - x) * (y2 - y)) := by
      have hm : (fl2 x + fl2 y).fmod 2 = (fl2 x + fl2 y) % 2 := Int.fmod_eq_emod_of_nonneg _ (by decide)
      by_cases hp : (fl2 x + fl2 y) % 2 = 0
      · rw [if_pos hp] at par
        refine ⟨f + (x2 - x) * (y2 - y), ?_, hf.add own, by rw [par]; grind⟩
        rw [hp] at hm
        generalize (x2 - x) * (y2 - y) = o at *
        simp [b_law_shades_0, e1, e2, e3, fr_i0, fr_i1, m2, d1, d2, fx, fy, hm, e4]
      · rw [if_neg hp] at par
        refine ⟨f + -((x2 - x) * (y2 - y)), ?_, hf.add own.neg, by rw [par]; grind⟩
        have hm2 : ((fl2 x + fl2 y).fmod 2 == 0) = false := by rw [hm]; simpa using hp
        have hm3 : (fl2 x + fl2 y).fmod 2 ≠ 0 := by rw [hm]; exact hp
        generalize (x2 - x) * (y2 - y) = o at *
        simp [-Int.zero_sub, b_law_shades_0, e1, e2, e3, fr_i0, fr_i1, m2, d1, d2, fx, fy, hm2, ng, e5]
    obtain ⟨ih1, ih2⟩ := shade_in F (d := d) m0 n0 m1 n1 (s0 := s0) (s1 := s1) (s3 := s3) (s4 := s4) (s5 := s5) (s6 := s6) (s7 := s7) (s8 := s8) (s9 := s9) (T := T) hx hx2 (y2 :: ys) f' (V + 14400) (fun z hz => hy z (List.mem_cons_of_mem _ hz)) h2 (v1 hV)
    have e : f' + sg x * (x2 - x) * ds (y2 :: ys) = f + sg x * (x2 - x) * ds (y :: y2 :: ys) := by
      rw [h3]
      show _ = f + sg x * (x2 - x) * ((y2 - y) * sg y + ds (y2 :: ys))
      grind
    rw [e] at ih1 ih2
    refine ⟨by rw [prs, loopS_cons h1, ih1], ih2.mono v2⟩
theorem w0 {V C L : Nat} : V + C + C * (L + 1) = V + C * (L + 2) := by rw [show L + 2 = (L + 1) + 1 from rfl, Nat.mul_succ C (L + 1)]; omega
theorem w3 {V C L : Nat} {X : Nat} (h : V + C * (L + 2) ≤ X) : V + C ≤ X := Nat.le_trans (by rw [← w0]; exact Nat.le_add_right ..) h
theorem shade_out (F : DrP P) {d M N : Nat} (m0 : 0 < M) (n0 : 0 < N) (m1 : M ≤ B60) (n1 : N ≤ B60) {s0 s1 s3 s4 s5 s6 s7 s8 : SV} {T : Store} (ys : List Rat) (hy : ∀ y ∈ ys, Tm N 60 y) : ∀ (xs : List Rat) (f : Rat) (V : Nat), (∀ x ∈ xs, Tm M 60 x) → Tm (M * N) V f → V + 14400 * ys.length * xs.length ≤ 1000000000000 →
    loopS (turn ⟨callF P (d + 4), P.gl, P.fu⟩ (.tp (.cons (.nm 10) (.cons (.nm 11) .nil))) b_law_shades_1) (prs xs) (shE s0 s1 f s3 s4 s5 s6 s7 s8 (.va (.lst (ys.map fr))) .un .un) T = .nx (shE s0 s1 (f + ds xs * ds ys) s3 s4 s5 s6 s7 s8 (.va (.lst (ys.map fr))) .un .un) T
  | [], f, V, _, hf, _ => by
    have e : f + ds [] * ds ys = f := by show f + 0 * _ = f; grind
    rw [e]; rfl
  | [x], f, V, _, hf, _ => by
    have e : f + ds [x] * ds ys = f := by show f + 0 * _ = f; grind
    rw [e]; rfl
  | x :: x2 :: xs, f, V, hx, hf, hV => by
    have tx := hx x List.mem_cons_self
    have tx2 := hx x2 (List.mem_cons_of_mem _ List.mem_cons_self)
    have lc : (x :: x2 :: xs).length = xs.length + 2 := rfl
    have lc2 : (x2 :: xs).length = xs.length + 1 := rfl
    rw [lc] at hV
    obtain ⟨e1, t1⟩ := shade_in F (d := d) m0 n0 m1 n1 (s0 := s0) (s1 := s1) (s3 := s3) (s4 := s4) (s5 := s5) (s6 := s6) (s7 := s7) (s8 := s8) (s9 := .va (.lst (ys.map fr))) (T := T) tx tx2 ys f V hy hf (w3 hV)
    have ih := shade_out F (d := d) m0 n0 m1 n1 (s0 := s0) (s1 := s1) (s3 := s3) (s4 := s4) (s5 := s5) (s6 := s6) (s7 := s7) (s8 := s8) (T := T) ys hy (x2 :: xs) _ _ (fun z hz => hx z (List.mem_cons_of_mem _ hz)) t1 (by rw [lc2, w0]; exact hV)
    have e : f + sg x * (x2 - x) * ds ys + ds (x2 :: xs) * ds ys = f + ds (x :: x2 :: xs) * ds ys := by
      show _ = f + ((x2 - x) * sg x + ds (x2 :: xs)) * ds ys
      grind
    rw [e] at ih
    have zp := zip_prs ys
    have ct := cut_tail (ys.map fr)
    rw [prs, ← ih]
    refine loopS_cons ?_
    generalize f + sg x * (x2 - x) * ds ys = f1 at *
    rw [← zp] at e1
    generalize (ys.map fr).tail = YT at *
    generalize ys.map fr = Y at *
    unfold shE at *
    simp [b_law_shades_1, partV, isN, cutv, ct, e1]
structure ShP (P : Prog) : Prop where
  dr : DrP P
  under : P.fn 72 = some f_law_under
  lines : P.fn 109 = some f_law_lines
  shades : P.fn 379 = some f_law_shades
def hg (a c : Rat) : PV → List PV
  | .int k => if a < Rat.divInt k 2 ∧ Rat.divInt k 2 < c then [fr (Rat.divInt k 2)] else []
  | _ => []
theorem hg_int (a c : Rat) (k : Int) : hg a c (.int k) = if a < Rat.divInt k 2 ∧ Rat.divInt k 2 < c then [fr (Rat.divInt k 2)] else [] := rfl
theorem halves_flat (a c : Rat) : (rng (fl2 a - 1) (fl2 c + 2)).flatMap (hg a c) = (halves a c).map fr := by
  unfold rng halves
  rw [List.flatMap_map]
  generalize (List.range ((fl2 c + 2) - (fl2 a - 1)).toNat) = L
  induction L with
  | nil => rfl
  | cons j L ih =>
    rw [List.flatMap_cons, ih, List.map_cons, hg_int]
    by_cases h : a < Rat.divInt (fl2 a - 1 + (j : Nat)) 2 ∧ Rat.divInt (fl2 a - 1 + (j : Nat)) 2 < c
    · rw [List.filter_cons_of_pos (by simpa using h)]
      simp [h]
    · rw [List.filter_cons_of_neg (by simpa using h)]
      simp [h]
theorem fl2_val {a : Rat} (h : Tm 1 60 a ∨ (-(60 : Rat) ≤ a ∧ a ≤ 60)) : -120 ≤ fl2 a ∧ fl2 a ≤ 120 := by
  obtain ⟨k1, k2⟩ := fl2_le a
  have h' : -(60 : Rat) ≤ a ∧ a ≤ 60 := by
    rcases h with h | h
    · exact ⟨by have := h.lo; simpa using this, by have := h.hi; simpa using this⟩
    · exact h
  have a1 : ((-120 : Int) : Rat) < ((fl2 a + 1 : Int) : Rat) ∨ True := .inr trivial
  have e1 : ((-120 : Int) : Rat) = -120 := rfl
  have e2 : ((120 : Int) : Rat) = 120 := rfl
  have b1 : ((fl2 a : Int) : Rat) ≤ ((120 : Int) : Rat) := by rw [e2]; grind
  have b2 : ((-120 : Int) : Rat) < ((fl2 a + 1 : Int) : Rat) := by rw [e1]; grind
  have c1 : fl2 a ≤ 120 := by exact_mod_cast b1
  have c2 : -120 < fl2 a + 1 := by exact_mod_cast b2
  omega
theorem halves_len {a c : Rat} (ha : -(60 : Rat) ≤ a ∧ a ≤ 60) (hc : -(60 : Rat) ≤ c ∧ c ≤ 60) : (halves a c).length ≤ 243 := by
  have v1 := fl2_val (.inr ha)
  have v2 := fl2_val (.inr hc)
  unfold halves
  rw [List.length_map]
  refine Nat.le_trans (List.length_filter_le _ _) ?_
  rw [List.length_map, List.length_range]
  omega
/-- lines at halves, of a denominator -/
theorem lines_tm {M : Nat} {a c : Rat} (ha : Tm M 60 a) (hc : Tm M 60 c) : ∀ x ∈ PU.lines ([a, c] ++ halves a c), Tm (M * 2) 60 x := fun x hx => by
  have := ((lines_ok ([a, c] ++ halves a c)).2 x).mp hx
  simp at this
  rcases this with rfl | rfl | h
  · exact ha.up 2
  · exact hc.up 2
  · obtain ⟨k, rfl, k1, k2⟩ := halves_of h
    have o : On (M * 2) (Rat.divInt k 2) := by
      rw [Nat.mul_comm]
      exact (on_div k (M := 2) (by decide)).up M
    exact ⟨o, by have := ha.lo; grind, by have := hc.hi; grind⟩
end PU
end

section
set_option linter.all false
set_option autoImplicit false
set_option exponentiation.threshold 100000
set_option maxRecDepth 20000
set_option maxHeartbeats 8000000
/-! the law's own: each field covered once -/
namespace PU
open MP IR
variable {P : Prog}
/-- a point in a rectangle, on its rim too -/
def inR (x y : Rat) (R : Rc) : Bool := !(decide (x < R.l) || (decide (R.r < x) || (decide (y < R.b) || decide (R.t < y))))
structure CoP (P : Prog) : Prop where
  dr : DrP P
  under : P.fn 72 = some f_law_under
  lines : P.fn 109 = some f_law_lines
  lies : P.fn 231 = some f_law_lies
  covers : P.fn 228 = some f_law_covers
  islay : P.fn 230 = some f_law_is_laying
theorem lies (F : CoP P) (d : Nat) {x y : Rat} {R : Rc} (hx : Sz x) (hy : Sz y) (s : SzR R) (T : Store) : callF P (d + 2) 231 [rc R, fr x, fr y] T = .ok (.bl (inR x y R)) T := by
  have e1 := law_under (P := P) F.under d T hx s.1
  have e2 := law_under (P := P) F.under d T s.2.2.1 hx
  have e3 := law_under (P := P) F.under d T hy s.2.1
  have e4 := law_under (P := P) F.under d T s.2.2.2 hy
  rw [callF_at F.lies rfl]
  unfold inR
  generalize decide (x < R.l) = a at *
  generalize decide (R.r < x) = b at *
  generalize decide (y < R.b) = c at *
  generalize decide (R.t < y) = e at *
  cases a <;> cases b <;> cases c <;> cases e <;> simp [f_law_lies, startE, rc_i0, rc_i1, rc_i2, rc_i3, e1, e2, e3, e4]
theorem loopC_filt {α : Type} {h : α → PV} {f : PV → Store → Res (List PV)} {T : Store} (p : α → Bool) (v : α → PV) : ∀ (xs : List α), (∀ x ∈ xs, f (h x) T = if p x then .ok [v x] T else .ok [] T) → loopC f (xs.map h) T = .ok ((xs.filter p).map v) T
  | [], _ => rfl
  | x :: xs, hx => by
    rw [List.map_cons, loopC, hx x List.mem_cons_self]
    have ih := loopC_filt p v xs fun y hy => hx y (List.mem_cons_of_mem _ hy)
    cases hp : p x with
    | true => simp [hp, ih]
    | false => simp [hp, ih]
theorem cnt_sum {α : Type} (p : α → Bool) : ∀ xs : List α, (((xs.filter p).length : Nat) : Rat) = (xs.map fun x => if p x then (1 : Rat) else 0).sum
  | [] => rfl
  | x :: xs => by
    rw [List.map_cons, List.sum_cons, ← cnt_sum p xs]
    cases hp : p x with
    | true => rw [List.filter_cons_of_pos hp, List.length_cons, Rat.natCast_add]; simp; grind
    | false => rw [List.filter_cons_of_neg (by simp [hp])]; simp; grind
/-- no line at m -/
def Off (m : Rat) (qs : List Rat) : Prop := ∀ q ∈ qs, q < m ∨ m < q
abbrev linX (W : Rc) (Rs : List Rc) : List Rat := Rs.map (·.l) ++ Rs.map (·.r) ++ [W.l, W.r]
abbrev linY (W : Rc) (Rs : List Rc) : List Rat := Rs.map (·.b) ++ Rs.map (·.t) ++ [W.b, W.t]
def stp (m : Rat) (z : Rat) : Rat := if m < z then 1 else 0
theorem va_in {x y : Rat} {R : Rc} (o : R.ok) (h1 : R.l < x ∨ x < R.l) (h2 : R.r < x ∨ x < R.r) (h3 : R.b < y ∨ y < R.b) (h4 : R.t < y ∨ y < R.t) : va (stp x) (stp y) R = if inR x y R then 1 else 0 := by
  obtain ⟨o1, o2⟩ := o
  unfold va stp inR
  by_cases a : x < R.l <;> by_cases b : R.r < x <;> by_cases c : y < R.b <;> by_cases e : R.t < y <;> simp [a, b, c, e] <;> grind
theorem covered {W : Rc} {Rs : List Rc} (h : Lay W Rs) (oW : W.ok) {x y : Rat} (hx : Off x (linX W Rs)) (hy : Off y (linY W Rs)) : (Rs.filter (inR x y)).length = if inR x y W then 1 else 0 := by
  have e := h.va (stp x) (stp y)
  have mx : ∀ R ∈ Rs, (R.l < x ∨ x < R.l) ∧ (R.r < x ∨ x < R.r) ∧ (R.b < y ∨ y < R.b) ∧ (R.t < y ∨ y < R.t) := fun R hR => by
    refine ⟨hx _ ?_, hx _ ?_, hy _ ?_, hy _ ?_⟩ <;> simp <;> first | exact .inl ⟨R, hR, rfl⟩ | exact .inr (.inl ⟨R, hR, rfl⟩)
  have eW := va_in oW (hx W.l (by simp)) (hx W.r (by simp)) (hy W.b (by simp)) (hy W.t (by simp))
  have eR : (Rs.map (va (stp x) (stp y))) = Rs.map fun R => if inR x y R then (1 : Rat) else 0 := by
    refine List.map_congr_left fun R hR => ?_
    obtain ⟨a, b, c, e⟩ := mx R hR
    exact va_in (h.ok R hR) a b c e
  rw [eR, ← cnt_sum, eW] at e
  cases hw : inR x y W with
  | true => rw [hw] at e; simp at e ⊢; exact_mod_cast e
  | false => rw [hw] at e; simp at e ⊢; exact_mod_cast e
/-- in line behind all that is at most x -/
def Tail (qs : List Rat) : List Rat → Prop
  | [] => True
  | x :: r => (x :: r).Pairwise (· < ·) ∧ ∀ q ∈ qs, q ≤ x ∨ q ∈ r
theorem Tail.next {qs : List Rat} {x y : Rat} {r : List Rat} (h : Tail qs (x :: y :: r)) : Tail qs (y :: r) ∧ x < y ∧ ∀ q ∈ qs, q ≤ x ∨ y ≤ q := by
  obtain ⟨h1, h2⟩ := h
  obtain ⟨a, b⟩ := List.pairwise_cons.mp h1
  have xy := a y List.mem_cons_self
  refine ⟨⟨b, fun q hq => ?_⟩, xy, fun q hq => ?_⟩
  · rcases h2 q hq with h | h
    · exact .inl (by grind)
    · rcases List.mem_cons.mp h with rfl | h
      · exact .inl (by grind)
      · exact .inr h
  · rcases h2 q hq with h | h
    · exact .inl h
    · rcases List.mem_cons.mp h with rfl | h
      · exact .inr (by grind)
      · exact .inr (by have := (List.pairwise_cons.mp b).1 q h; grind)
theorem tail_lines (qs : List Rat) : Tail qs (lines qs) := by
  obtain ⟨so, me⟩ := lines_ok qs
  cases h : lines qs with
  | nil => trivial
  | cons x r =>
    rw [h] at so me
    refine ⟨so, fun q hq => ?_⟩
    rcases List.mem_cons.mp ((me q).mpr hq) with rfl | h
    · exact .inl (by grind)
    · exact .inr h
def mid (x y : Rat) : Rat := (x + y) * hf
theorem mid_off {qs : List Rat} {x y : Rat} (h : x < y) (k : ∀ q ∈ qs, q ≤ x ∨ y ≤ q) : Off (mid x y) qs := fun q hq => by
  have e := hf_two
  have m : mid x y * 2 = x + y := by unfold mid; rw [Rat.mul_assoc, e]; grind
  rcases k q hq with a | a
  · exact .inl (by grind)
  · exact .inr (by grind)
/-- a field's word: in the whole, covered so often -/
def Good (v : PV) : Prop := ∃ b : Bool, v = .tup [.bl b, .int (if b then 1 else 0)]
theorem mid_sz {x y : Rat} (hx : Bd nearB nearB x) (hy : Bd nearB nearB y) : Sz (x + y) ∧ Sz (mid x y) := by
  have b := add_bd hx hy
  have c := mul_bd b (show Bd 1 2 hf from divInt_bd (by decide) (by decide) (by decide))
  exact ⟨b.sz2 (by decide) (by decide), c.sz2 (by decide) (by decide)⟩
abbrev coE (W X : PV) (s2 : SV) (s4 : SV) (L : List PV) (s6 s7 : SV) : Env := [.va W, .va X, s2, .un, s4, .ow L, s6, s7, .un, .un, .un, .un]
theorem cover_in (F : CoP P) {d : Nat} {W : Rc} {Rs : List Rc} (h : Lay W Rs) (oW : W.ok) (s : Sm W Rs) {s2 s4 : SV} {T : Store} {x x2 : Rat} (bx : Bd nearB nearB x) (bx2 : Bd nearB nearB x2) (hx : x < x2) (hq : ∀ q ∈ linX W Rs, q ≤ x ∨ x2 ≤ q) : ∀ (ys : List Rat) (L : List PV), Tail (linY W Rs) ys → (∀ y ∈ ys, Bd nearB nearB y) → (∀ v ∈ L, Good v) → L.length + ys.length ≤ 100000 →
    ∃ L', loopS (turn ⟨callF P (d + 4), P.gl, P.fu⟩ (.tp (.cons (.nm 8) (.cons (.nm 9) .nil))) b_law_covers_0) (prs ys) (coE (rc W) (.tup (Rs.map rc)) s2 s4 L (.va (fr x)) (.va (fr x2))) T = .nx (coE (rc W) (.tup (Rs.map rc)) s2 s4 L' (.va (fr x)) (.va (fr x2))) T ∧ (∀ v ∈ L', Good v) ∧ L'.length ≤ L.length + ys.length
  | [], L, _, _, g, _ => ⟨L, rfl, g, Nat.le_add_right ..⟩
  | [y], L, _, _, g, _ => ⟨L, rfl, g, Nat.le_add_right ..⟩
  | y :: y2 :: ys, L, ht, hb, g, hl => by
    have lp := line_pos
    obtain ⟨t2, hy, hk⟩ := ht.next
    have by1 := hb y List.mem_cons_self
    have by2 := hb y2 (List.mem_cons_of_mem _ List.mem_cons_self)
    obtain ⟨m1, m2⟩ := mid_sz bx bx2
    obtain ⟨m3, m4⟩ := mid_sz by1 by2
    have e1 := law_plus F.dr.fl F.dr.plus (d + 1) T bx.sz bx2.sz
    have e2 := law_plus F.dr.fl F.dr.plus (d + 1) T by1.sz by2.sz
    have e3 := by_raw F.dr.fl F.dr.by_ (d + 1) 1 2 T m1 (by decide) (by decide) (by decide)
    have e4 := by_raw F.dr.fl F.dr.by_ (d + 1) 1 2 T m3 (by decide) (by decide) (by decide)
    have ex : (x + x2) * Rat.divInt 1 2 = mid x x2 := rfl
    have ey : (y + y2) * Rat.divInt 1 2 = mid y y2 := rfl
    rw [ex] at e3
    rw [ey] at e4
    have cv := covered h oW (mid_off hx hq) (mid_off hy hk)
    have e5 := lies F (d + 2) m2 m4 (s.near W List.mem_cons_self).sz T
    have e6 : ∀ R ∈ Rs, callF P (d + 4) 231 [rc R, fr (mid x x2), fr (mid y y2)] T = .ok (.bl (inR (mid x x2) (mid y y2) R)) T := fun R hR => lies F (d + 2) m2 m4 (s.near R (List.mem_cons_of_mem _ hR)).sz T
    have ln := s.len
    have key : ∀ (f : PV → Store → Res (List PV)), (∀ R ∈ Rs, f (rc R) T = if inR (mid x x2) (mid y y2) R then .ok [.int 1] T else .ok [] T) → ∃ Z, compR (loopC f (Rs.map rc) T) = .ok (.lst Z) T ∧ bi .len [.lst Z] = some (.int (if inR (mid x x2) (mid y y2) W then 1 else 0)) := fun f hf => by
      refine ⟨(Rs.filter (inR (mid x x2) (mid y y2))).map fun _ => .int 1, ?_, ?_⟩
      · rw [loopC_filt (inR (mid x x2) (mid y y2)) (fun _ => .int 1) Rs hf, compR_ok (by rw [List.length_map]; exact Nat.le_trans (List.length_filter_le _ _) (by omega))]
      · rw [bi_lenl, List.length_map, cv]; split <;> rfl
    generalize mid x x2 = mx at *
    generalize mid y y2 = my at *
    obtain ⟨L2, ih1, ih2, ih3⟩ := cover_in F (d := d) h oW s (s2 := s2) (s4 := s4) (T := T) bx bx2 hx hq (y2 :: ys) (L ++ [.tup [.bl (inR mx my W), .int (if inR mx my W then 1 else 0)]]) t2 (fun z hz => hb z (List.mem_cons_of_mem _ hz)) (fun v hv => by
      rcases List.mem_append.mp hv with hv | hv
      · exact g v hv
      · simp at hv; exact ⟨_, hv⟩) (by simp at hl ⊢; omega)
    refine ⟨L2, ?_, ih2, by simp at ih3 ⊢; omega⟩
    rw [prs, ← ih1]
    refine loopS_cons ?_
    have hLl : L.length < line := by simp at hl; omega
    unfold coE
    generalize hX : Rs.map rc = X at *
    generalize inR mx my W = wi at *
    simp [b_law_covers_0, e1, e2, e3, e4, e5]
    generalize hf : cturn _ _ _ _ _ _ = fB
    obtain ⟨Z, z1, z2⟩ := key fB fun R hR => by
      have := e6 R hR
      generalize inR mx my R = ri at *
      rw [← hf]
      cases ri <;> simp [this]
    rw [z1]
    simp only [Res.bind_ok, a_nil, z2, Res.of_some]
    simp [hLl]
theorem c0 {a b l : Nat} : a + l + l * (b + 1) ≤ a + l * (b + 2) := by rw [show b + 2 = (b + 1) + 1 from rfl, Nat.mul_succ l (b + 1)]; omega
theorem c1' {a b l X : Nat} (h : a + l * (b + 2) ≤ X) : a + l ≤ X := Nat.le_trans (Nat.le_trans (Nat.le_add_right _ _) (c0 (b := b))) h
theorem cover_out (F : CoP P) {d : Nat} {W : Rc} {Rs : List Rc} (h : Lay W Rs) (oW : W.ok) (s : Sm W Rs) {T : Store} {s2 : SV} (ys : List Rat) (ty : Tail (linY W Rs) ys) (hb : ∀ y ∈ ys, Bd nearB nearB y) : ∀ (xs : List Rat) (L : List PV), Tail (linX W Rs) xs → (∀ x ∈ xs, Bd nearB nearB x) → (∀ v ∈ L, Good v) → L.length + ys.length * xs.length ≤ 100000 →
    ∃ L', loopS (turn ⟨callF P (d + 4), P.gl, P.fu⟩ (.tp (.cons (.nm 6) (.cons (.nm 7) .nil))) b_law_covers_1) (prs xs) (coE (rc W) (.tup (Rs.map rc)) s2 (.va (.lst (ys.map fr))) L .un .un) T = .nx (coE (rc W) (.tup (Rs.map rc)) s2 (.va (.lst (ys.map fr))) L' .un .un) T ∧ (∀ v ∈ L', Good v) ∧ L'.length ≤ L.length + ys.length * xs.length
  | [], L, _, _, g, _ => ⟨L, rfl, g, Nat.le_add_right ..⟩
  | [x], L, _, _, g, _ => ⟨L, rfl, g, Nat.le_add_right ..⟩
  | x :: x2 :: xs, L, ht, hbx, g, hl => by
    obtain ⟨t2, hx, hk⟩ := ht.next
    have bx1 := hbx x List.mem_cons_self
    have bx2 := hbx x2 (List.mem_cons_of_mem _ List.mem_cons_self)
    have lc : (x :: x2 :: xs).length = xs.length + 2 := rfl
    have lc2 : (x2 :: xs).length = xs.length + 1 := rfl
    rw [lc] at hl
    obtain ⟨L1, e1, g1, l1⟩ := cover_in F (d := d) h oW s (s2 := s2) (s4 := .va (.lst (ys.map fr))) (T := T) bx1 bx2 hx hk ys L ty hb g (c1' hl)
    obtain ⟨L2, e2, g2, l2⟩ := cover_out F (d := d) h oW s (T := T) (s2 := s2) ys ty hb (x2 :: xs) L1 t2 (fun z hz => hbx z (List.mem_cons_of_mem _ hz)) g1 (by
      rw [lc2]
      exact Nat.le_trans (Nat.add_le_add_right l1 _) (Nat.le_trans c0 hl))
    refine ⟨L2, ?_, g2, by
      rw [lc]
      rw [lc2] at l2
      exact Nat.le_trans l2 (Nat.le_trans (Nat.add_le_add_right l1 _) c0)⟩
    have zp := zip_prs ys
    have ct := cut_tail (ys.map fr)
    rw [prs, ← e2]
    refine loopS_cons ?_
    rw [← zp] at e1
    unfold coE at *
    generalize (ys.map fr).tail = YT at *
    generalize ys.map fr = Y at *
    generalize Rs.map rc = X at *
    simp [b_law_covers_1, partV, isN, cutv, ct, e1]
theorem law_is_laying (F : CoP P) (d : Nat) {W : Rc} {Rs : List Rc} (h : Lay W Rs) (oW : W.ok) (s : Sm W Rs) (T : Store) : callF P (d + 6) 230 [rc W, .tup (Rs.map rc)] T = .ok (.bl true) T := by
  have lp := line_pos
  have ln := s.len
  have nW := s.near W List.mem_cons_self
  have nR : ∀ R ∈ Rs, RB nearB nearB R := fun R hR => s.near R (List.mem_cons_of_mem _ hR)
  have bX : ∀ q ∈ linX W Rs, Bd nearB nearB q := fun q hq => by
    simp at hq
    rcases hq with ⟨R, hR, rfl⟩ | ⟨R, hR, rfl⟩ | rfl | rfl
    · exact (nR R hR).1
    · exact (nR R hR).2.2.1
    · exact nW.1
    · exact nW.2.2.1
  have bY : ∀ q ∈ linY W Rs, Bd nearB nearB q := fun q hq => by
    simp at hq
    rcases hq with ⟨R, hR, rfl⟩ | ⟨R, hR, rfl⟩ | rfl | rfl
    · exact (nR R hR).2.1
    · exact (nR R hR).2.2.2
    · exact nW.2.1
    · exact nW.2.2.2
  have lX : (linX W Rs).length ≤ 122 := by simp; omega
  have lY : (linY W Rs).length ≤ 122 := by simp; omega
  have e1 := law_lines (P := P) F.under F.lines (d + 2) (linX W Rs) T (fun q hq => (bX q hq).sz) (by omega) (.lst ((linX W Rs).map fr)) (.inl rfl)
  have e2 := law_lines (P := P) F.under F.lines (d + 2) (linY W Rs) T (fun q hq => (bY q hq).sz) (by omega) (.lst ((linY W Rs).map fr)) (.inl rfl)
  have kX := lines_len (linX W Rs)
  have kY := lines_len (linY W Rs)
  have mul : (lines (linY W Rs)).length * (lines (linX W Rs)).length ≤ 122 * 122 := Nat.mul_le_mul (by omega) (by omega)
  obtain ⟨L, e3, g3, l3⟩ := cover_out F (d := d) h oW s (T := T) (s2 := .va (.lst ((lines (linX W Rs)).map fr))) (lines (linY W Rs)) (tail_lines _) (fun q hq => bY q (((lines_ok _).2 q).mp hq)) (lines (linX W Rs)) [] (tail_lines _) (fun q hq => bX q (((lines_ok _).2 q).mp hq)) (by simp) (by rw [List.length_nil, Nat.zero_add]; exact Nat.le_trans mul (by decide))
  have p1 := zip_prs (lines (linX W Rs))
  have ct := cut_tail ((lines (linX W Rs)).map fr)
  rw [← p1] at e3
  have sel : ∀ (g : Rc → Rat) (f : PV → Store → Res (List PV)), (∀ R ∈ Rs, f (rc R) T = .ok [fr (g R)] T) → compR (loopC f (Rs.map rc) T) = .ok (.lst (Rs.map fun R => fr (g R))) T := fun g f hf => by
    have e : loopC f (Rs.map rc) T = .ok (Rs.map fun R => fr (g R)) T := by
      clear e1 e2 e3 p1 ct kX kY mul l3 lX lY bX bY nR ln h s
      induction Rs with
      | nil => rfl
      | cons R Rs ih => rw [List.map_cons, loopC, hf R List.mem_cons_self, Res.bind_ok, ih fun S hS => hf S (List.mem_cons_of_mem _ hS)]; rfl
    rw [e, compR_ok (by rw [List.length_map]; omega)]
  have covers : callF P (d + 5) 228 [rc W, .tup (Rs.map rc)] T = .ok (.lst L) T := by
    have s1 := fun f => sel (fun R => R.l) f
    have s2 := fun f => sel (fun R => R.r) f
    have s3 := fun f => sel (fun R => R.b) f
    have s4 := fun f => sel (fun R => R.t) f
    have eX : (linX W Rs).map fr = (Rs.map fun R => fr R.l) ++ (Rs.map fun R => fr R.r) ++ [fr W.l, fr W.r] := by simp [linX, Function.comp_def]
    have eY : (linY W Rs).map fr = (Rs.map fun R => fr R.b) ++ (Rs.map fun R => fr R.t) ++ [fr W.b, fr W.t] := by simp [linY, Function.comp_def]
    rw [eX] at e1
    rw [eY] at e2
    have n1 : (Rs.map fun R => fr R.l).length = Rs.length := List.length_map ..
    have n2 : (Rs.map fun R => fr R.r).length = Rs.length := List.length_map ..
    have n3 : (Rs.map fun R => fr R.b).length = Rs.length := List.length_map ..
    have n4 : (Rs.map fun R => fr R.t).length = Rs.length := List.length_map ..
    generalize (lines (linX W Rs)).map fr = LX at *
    generalize (lines (linY W Rs)).map fr = LY at *
    generalize (Rs.map fun R => fr R.l) = A1 at *
    generalize (Rs.map fun R => fr R.r) = A2 at *
    generalize (Rs.map fun R => fr R.b) = A3 at *
    generalize (Rs.map fun R => fr R.t) = A4 at *
    have w1 : A1.length + A2.length ≤ line := by omega
    have w2 : A1.length + A2.length + 2 ≤ line := by omega
    have w3 : A3.length + A4.length ≤ line := by omega
    have w4 : A3.length + A4.length + 2 ≤ line := by omega
    rw [callF_at F.covers rfl]
    simp [f_law_covers, startE]
    rw [s1 _ fun R hR => by simp [rc_i0]]
    simp only [Res.bind_ok]
    rw [s2 _ fun R hR => by simp [rc_i2]]
    simp only [List.append_assoc] at e1 e2
    unfold coE at e3
    generalize hX : Rs.map rc = X at *
    simp [w1, w2, rc_i0, rc_i2, e1]
    rw [s3 _ fun R hR => by simp [rc_i1]]
    simp only [Res.bind_ok]
    rw [s4 _ fun R hR => by simp [rc_i3]]
    simp [w3, w4, rc_i1, rc_i3, e2, partV, isN, cutv, ct, e3]
  rw [callF_at F.islay rfl]
  have flat : ∀ (f : PV → Store → Res (List PV)), (∀ b : Bool, f (.tup [.bl b, .int (if b then 1 else 0)]) T = .ok [] T) → loopC f L T = .ok [] T := fun f hf => by
    rw [loopC_flat (g := fun _ => []) fun v hv => by
      obtain ⟨b, rfl⟩ := g3 v hv
      exact hf b]
    congr 1
    induction L with
    | nil => rfl
    | cons v L ih => simp
  generalize Rs.map rc = X at *
  simp [f_law_is_laying, startE, covers]
  rw [flat _ fun b => by cases b <;> simp]
  simp [compR]
end PU
end

section
set_option linter.all false
set_option autoImplicit false
set_option exponentiation.threshold 100000
set_option maxRecDepth 20000
set_option maxHeartbeats 8000000
/-! steps on, strips; the first part without a whole side -/
namespace PU
open MP IR
variable {P : Prog}
structure StP (P : Prog) : Prop where
  dr : DrP P
  under : P.fn 72 = some f_law_under
  step : P.fn 133 = some f_law_step_on
  split : P.fn 90 = some f_law_split
theorem rng19 : rng 1 9 = ([1, 2, 3, 4, 5, 6, 7, 8] : List Int).map PV.int := rfl
theorem int_bd (z : Int) (h : z.natAbs ≤ 1000) : Bd nearB nearB (z : Rat) := ⟨by rw [Rat.num_intCast]; exact Nat.le_trans h (by decide), by rw [Rat.den_intCast]; decide⟩
theorem eqvs_cons_nil (x : PV) (xs : List PV) : eqvs (x :: xs) [] = false := by
  rw [eqvs]
  · intro h; cases h
  · intro _ _ _ _ _ h; cases h
theorem step_on (F : StP P) {d n : Nat} {T : Store} (t : Tin n T) (hn : n + 1 < 1000000000) {p q : Rat} (bp : Bd nearB nearB p) (bq : Bd nearB nearB q) :
    (callF P (d + 4) 133 [.cel 0, fr p, fr q] T = .ok .non T) ∨ ∃ (k : Int) (T' : Store), callF P (d + 4) 133 [.cel 0, fr p, fr q] T = .ok (fr (p + (k : Rat))) T' ∧ p < p + (k : Rat) ∧ p + (k : Rat) < q ∧ Tin (n + 1) T' := by
  have s19 : smallR 1 = true := by decide
  have s9 : smallR 9 = true := by decide
  have one : ∀ k ∈ ([1, 2, 3, 4, 5, 6, 7, 8] : List Int), 1 ≤ k ∧ k ≤ 8 := by decide
  have pk : ∀ k ∈ ([1, 2, 3, 4, 5, 6, 7, 8] : List Int), ∀ T, callF P (d + 3) 57 [fr p, .tup [.int k, .int 1]] T = .ok (fr (p + (k : Rat))) T := fun k hk T => by
    have := one k hk
    have e := law_plus F.dr.fl F.dr.plus d T bp.sz (int_bd k (by omega)).sz
    rwa [fr_int] at e
  have sz : ∀ k ∈ ([1, 2, 3, 4, 5, 6, 7, 8] : List Int), Sz (p + (k : Rat)) := fun k hk => by
    have := one k hk
    exact (add_bd bp (int_bd k (by omega))).sz2 (by decide) (by decide)
  have ud : ∀ k ∈ ([1, 2, 3, 4, 5, 6, 7, 8] : List Int), callF P (d + 3) 72 [fr (p + (k : Rat)), fr q] T = .ok (.bl (decide (p + (k : Rat) < q))) T := fun k hk => law_under (P := P) F.under (d + 2) T (sz k hk) bq.sz
  have row : ∀ (f : PV → Store → Res (List PV)), (∀ k ∈ ([1, 2, 3, 4, 5, 6, 7, 8] : List Int), f (.int k) T = if decide (p + (k : Rat) < q) then .ok [.int k] T else .ok [] T) → compR (loopC f (([1, 2, 3, 4, 5, 6, 7, 8] : List Int).map PV.int) T) = .ok (.lst (intz (([1, 2, 3, 4, 5, 6, 7, 8] : List Int).filter fun k : Int => decide (p + (k : Rat) < q)))) T := fun f hf => by
    rw [loopC_filt (fun k : Int => decide (p + (k : Rat) < q)) PV.int _ hf, compR_ok (by
      rw [List.length_map]
      exact Nat.le_trans (List.length_filter_le _ _) (by decide))]
  obtain ⟨gs, hg⟩ : ∃ gs, gs = ([1, 2, 3, 4, 5, 6, 7, 8] : List Int).filter fun k : Int => decide (p + (k : Rat) < q) := ⟨_, rfl⟩
  have gm : ∀ k ∈ gs, k ∈ ([1, 2, 3, 4, 5, 6, 7, 8] : List Int) ∧ p + (k : Rat) < q := fun k hk => by
    rw [hg] at hk
    have := List.mem_filter.mp hk
    exact ⟨this.1, by simpa using this.2⟩
  have gl : gs.length ≤ 8 := by rw [hg]; exact List.length_filter_le _ _
  rw [← hg] at row
  clear hg
  generalize hL : ([1, 2, 3, 4, 5, 6, 7, 8] : List Int) = L at *
  have r19 : rng 1 9 = L.map PV.int := by rw [← hL]; exact rng19
  cases gs with
  | nil =>
    left
    rw [callF_at F.step rfl]
    simp [f_law_step_on, startE, s19, s9, r19]
    rw [row _ fun k hk => by
      have a := pk k hk T
      have b := ud k hk
      generalize decide (p + (k : Rat) < q) = z at *
      generalize fr (p + (k : Rat)) = y at *
      cases z <;> simp [a, b]]
    simp
  | cons g gs =>
    right
    obtain ⟨v, T', e, mv, t'⟩ := of_ F.dr.take F.dr.of_ (d := d + 1) (g := .lst (intz (g :: gs))) (xs := intz (g :: gs)) t (by omega) (.inl rfl) (by simp) (by rw [List.length_map]; omega)
    obtain ⟨k, mk, rfl⟩ := ints_mem mv
    obtain ⟨m1, m2⟩ := gm k mk
    have k0 := one k m1
    have kp : (0 : Rat) < (k : Rat) := by exact_mod_cast (show (0 : Int) < k by omega)
    refine ⟨k, T', ?_, by grind, m2, t'⟩
    have a' := pk k m1 T'
    have ne : ∀ n, (intz (g :: gs)).all (pln n) = true := fun n => by
      rw [List.all_eq_true]
      intro v hv
      obtain ⟨i, _, rfl⟩ := ints_mem hv
      exact pl_int i n
    have nn : eqv (.lst (intz (g :: gs))) (.lst []) = false := by rw [eq_lst]; exact eqvs_cons_nil _ _
    rw [callF_at F.step rfl]
    generalize intz (g :: gs) = GS at *
    simp [f_law_step_on, startE, s19, s9, r19]
    rw [row _ fun k hk => by
      have a := pk k hk T
      have b := ud k hk
      generalize decide (p + (k : Rat) < q) = z at *
      generalize fr (p + (k : Rat)) = y at *
      cases z <;> simp [a, b]]
    have ne39 := ne 39
    simp only [List.all_eq_true] at ne39
    simp [nn]
    rw [if_pos ne39]
    simp [e, a']
/-- strips cut off, what is left -/
structure Nr (W : Rc) (Mx My n : Nat) (L : List Rc) (H : Rc) : Prop where
  lay : Lay W (L ++ [H])
  fit : ∀ R ∈ W :: (L ++ [H]), Fit Mx My 30 R
  len : L.length ≤ n
structure NeP (P : Prog) : Prop where
  st : StP P
  near : P.fn 375 = some f_law_nearly
theorem Tm.step {M V : Nat} {p q : Rat} (hp : Tm M V p) (hq : Tm M V q) {k : Int} (h1 : p < p + (k : Rat)) (h2 : p + (k : Rat) < q) : Tm M V (p + (k : Rat)) := ⟨hp.on.add (On.int M k), by have := hp.lo; grind, by have := hq.hi; grind⟩
theorem near_turn (F : NeP P) {d n Mx My m : Nat} (x0 : 0 < Mx) (y0 : 0 < My) (xB : Mx ≤ 1000000) (yB : My ≤ 1000000) {s1 s2 s3 s4 s5 : SV} {v : PV} {T : Store} (t : Tin n T) (hn : n + 2 < 1000000000) {W H : Rc} {L : List Rc} (h : Nr W Mx My m L H) (hm : m ≤ 10) :
    ∃ L' H' T', turn ⟨callF P (d + 5), P.gl, P.fu⟩ (.nm 8) b_law_nearly_0 v [.va (.cel 0), s1, s2, s3, s4, s5, .ow (L.map rc), .va (rc H), .un, .un, .un, .un] T = .nx [.va (.cel 0), s1, s2, s3, s4, s5, .ow (L'.map rc), .va (rc H'), .un, .un, .un, .un] T' ∧ Nr W Mx My (m + 1) L' H' ∧ Tin (n + 2) T' := by
  have lp := line_pos
  obtain ⟨w, T1, e1, w1, w2, t1⟩ := take F.st.dr.take (d := d + 4) t (by omega) (b := 2) (by decide) (by decide)
  have fH := h.fit H (List.mem_cons_of_mem _ (List.mem_append_right _ (by simp)))
  have oH := h.lay.ok H (List.mem_append_right _ (by simp))
  have nH : RB nearB nearB H := fH.near x0 y0 (by show 30 * Mx ≤ 1000000000000; omega) (by show Mx ≤ 1000000000000; omega) (by show 30 * My ≤ 1000000000000; omega) (by show My ≤ 1000000000000; omega)
  have hL := h.len
  have lL : (L.map rc).length < line := by rw [List.length_map]; omega
  have same0 : ∀ (T2 : Store), Tin (n + 2) T2 → ∃ L' H' T', (SR.nx [.va (.cel 0), s1, s2, s3, s4, s5, .ow (L.map rc), .va (rc H), .un, .un, .un, .un] T2 : SR) = .nx [.va (.cel 0), s1, s2, s3, s4, s5, .ow (L'.map rc), .va (rc H'), .un, .un, .un, .un] T' ∧ Nr W Mx My (m + 1) L' H' ∧ Tin (n + 2) T' := fun T2 t2 => ⟨L, H, T2, rfl, ⟨h.lay, h.fit, by omega⟩, t2⟩
  have hw : w = 0 ∨ w = 1 := by omega
  rcases hw with rfl | rfl
  · rcases step_on F.st (d := d + 1) t1 (by omega) nH.1 nH.2.2.1 with e2 | ⟨k, T2, e2, k1, k2, t2⟩
    · refine ⟨L, H, T1, ?_, ⟨h.lay, h.fit, by omega⟩, t1.mono (by omega)⟩
      generalize L.map rc = X at *
      simp [b_law_nearly_0, e1, rc_i0, rc_i2, e2, isNon]
    · have e3 := split0 F.st.split (d + 4) H (H.l + (k : Rat)) T2
      refine ⟨L ++ [⟨H.l, H.b, H.l + (k : Rat), H.t⟩], ⟨H.l + (k : Rat), H.b, H.r, H.t⟩, T2, ?_, ⟨?_, fun R hR => ?_, by simp; omega⟩, t2.mono (by omega)⟩
      · have nn : isNon (fr (H.l + (k : Rat))) = false := rfl
        rw [List.map_append]
        generalize L.map rc = X at *
        simp [b_law_nearly_0, e1, rc_i0, rc_i2, e2, nn, e3, lL]
      · have := h.lay.cut (B := []) (lay_split0 oH k1 k2)
        simpa using this
      · have st := fH.l.step fH.r k1 k2
        simp at hR
        rcases hR with rfl | hR | rfl | rfl
        · exact h.fit _ List.mem_cons_self
        · exact h.fit R (List.mem_cons_of_mem _ (List.mem_append_left _ hR))
        · exact ⟨fH.l, fH.b, st, fH.t⟩
        · exact ⟨st, fH.b, fH.r, fH.t⟩
  · rcases step_on F.st (d := d + 1) t1 (by omega) nH.2.1 nH.2.2.2 with e2 | ⟨k, T2, e2, k1, k2, t2⟩
    · refine ⟨L, H, T1, ?_, ⟨h.lay, h.fit, by omega⟩, t1.mono (by omega)⟩
      generalize L.map rc = X at *
      simp [b_law_nearly_0, e1, rc_i1, rc_i3, e2, isNon]
    · have e3 := split1 F.st.split (d + 4) H (H.b + (k : Rat)) T2
      refine ⟨L ++ [⟨H.l, H.b, H.r, H.b + (k : Rat)⟩], ⟨H.l, H.b + (k : Rat), H.r, H.t⟩, T2, ?_, ⟨?_, fun R hR => ?_, by simp; omega⟩, t2.mono (by omega)⟩
      · have nn : isNon (fr (H.b + (k : Rat))) = false := rfl
        rw [List.map_append]
        generalize L.map rc = X at *
        simp [b_law_nearly_0, e1, rc_i1, rc_i3, e2, nn, e3, lL]
      · have := h.lay.cut (B := []) (lay_split1 oH k1 k2)
        simpa using this
      · have st := fH.b.step fH.t k1 k2
        simp at hR
        rcases hR with rfl | hR | rfl | rfl
        · exact h.fit _ List.mem_cons_self
        · exact h.fit R (List.mem_cons_of_mem _ (List.mem_append_left _ hR))
        · exact ⟨fH.l, fH.b, fH.r, st⟩
        · exact ⟨fH.l, st, fH.r, fH.t⟩
theorem near_loop (F : NeP P) {d Mx My : Nat} (x0 : 0 < Mx) (y0 : 0 < My) (xB : Mx ≤ 1000000) (yB : My ≤ 1000000) {s1 s2 s3 s4 s5 : SV} {W : Rc} : ∀ (vs : List PV) {n m : Nat} {T : Store} {H : Rc} {L : List Rc}, Tin n T → n + 2 * vs.length < 1000000000 → Nr W Mx My m L H → m + vs.length ≤ 10 →
    ∃ L' H' T', loopS (turn ⟨callF P (d + 5), P.gl, P.fu⟩ (.nm 8) b_law_nearly_0) vs [.va (.cel 0), s1, s2, s3, s4, s5, .ow (L.map rc), .va (rc H), .un, .un, .un, .un] T = .nx [.va (.cel 0), s1, s2, s3, s4, s5, .ow (L'.map rc), .va (rc H'), .un, .un, .un, .un] T' ∧ Nr W Mx My (m + vs.length) L' H' ∧ Tin (n + 2 * vs.length) T'
  | [], n, m, T, H, L, t, _, h, _ => ⟨L, H, T, rfl, h, by simpa using t⟩
  | v :: vs, n, m, T, H, L, t, hn, h, hm => by
    rw [List.length_cons] at *
    obtain ⟨L1, H1, T1, e1, h1, t1⟩ := near_turn F (d := d) x0 y0 xB yB (s1 := s1) (s2 := s2) (s3 := s3) (s4 := s4) (s5 := s5) (v := v) t (by omega) h (by omega)
    obtain ⟨L2, H2, T2, e2, h2, t2⟩ := near_loop F (d := d) x0 y0 xB yB (s1 := s1) (s2 := s2) (s3 := s3) (s4 := s4) (s5 := s5) vs t1 (by omega) h1 (by omega)
    exact ⟨L2, H2, T2, by rw [loopS_cons e1, e2], ⟨h2.lay, h2.fit, by have := h2.len; omega⟩, t2.mono (by omega)⟩
theorem nearly (F : NeP P) {d n : Nat} {T : Store} (t : Tin n T) (hn : n + 100 < 1000000000) {k : Int} {W : Rc} (hW : Whole k W) : ∃ Rs T', callF P (d + 6) 375 [.cel 0, rc W] T = .ok (.tup (Rs.map rc)) T' ∧ Dr W 36 5 Rs ∧ Tin (n + 20) T' := by
  obtain ⟨Mx, My, x0, y0, xB, yB, fit⟩ := hW.dr.ex
  have oW := hW.dr.lay.ok W List.mem_cons_self
  have l4 : (rng 0 4).length = 4 := rfl
  have s4 : smallR 4 = true := by decide
  obtain ⟨L, H, T1, e1, h1, t1⟩ := near_loop F (d := d) x0 y0 (by omega) (by omega) (s1 := .va (rc W)) (s2 := .va (fr W.l)) (s3 := .va (fr W.b)) (s4 := .va (fr W.r)) (s5 := .va (fr W.t)) (W := W) (rng 0 4) (m := 0) (H := W) (L := []) t (by rw [l4]; omega) ⟨lay_one oW, fun R hR => by
    simp at hR
    subst hR
    exact fit _ List.mem_cons_self, Nat.le_refl _⟩ (by rw [l4]; decide)
  rw [l4] at h1 t1
  have hl := h1.len
  have hlen : (L ++ [H]).length = L.length + 1 := by simp
  obtain ⟨Ss, T2, e2, p2, t2⟩ := pick_all F.st.dr (d := d + 3) t1 (Rs := L ++ [H]) (by omega) (by omega)
  rw [hlen] at e2
  have lp := line_pos
  have lL : (L.map rc).length + 1 ≤ line := by rw [List.length_map]; omega
  have lL2 : bi .len [.lst (L.map rc)] = some (.int L.length) := by rw [bi_lenl, List.length_map]
  have e3 : ((L.length + 1 : Nat) : Int) = (L.length : Int) + 1 := by omega
  rw [e3, List.map_append, List.map_cons, List.map_nil] at e2
  have d0 : Dr W 36 5 (L ++ [H]) := ⟨h1.lay, ⟨Mx, My, x0, y0, xB, yB, h1.fit⟩, by omega, by omega⟩
  refine ⟨Ss, T2, ?_, d0.perm p2, t2.mono (by omega)⟩
  rw [callF_at F.near rfl]
  generalize (L.length : Int) = N at *
  generalize L.map rc = X at *
  simp only [List.map_nil] at e1
  simp [-bi_lenl, f_law_nearly, startE, putAll, s4, e1, lL, lL2, e2]
/-! ### the first without a whole side -/
structure FiP (P : Prog) : Prop where
  wh : WhP P
  firstin : P.fn 96 = some f_first_without_in
  sws : P.fn 128 = some f_sure_whole_sided
structure FiB (P : Prog) : Prop where
  wh : WhB P
  firstin : P.fn 96 = some f_first_without_in
class FiC (α : Prop) (P : outParam Prog) : Prop where
  b : α → FiB P
instance {P : Prog} : FiC (FiB P) P := ⟨fun F => F⟩
instance {P : Prog} : FiC (FiP P) P := ⟨fun L => ⟨WhC.b L.wh, L.firstin⟩⟩
abbrev noW (R : Rc) : Bool := !(isW R || isH R)
theorem first_in {α : Prop} [FiC α P] (L : α) (d : Nat) {Rs : List Rc} (h : ∀ R ∈ Rs, SzR R) (T : Store) : callF P (d + 7) 96 [.tup (Rs.map rc)] T = .ok (match (idxs noW Rs 0).head? with
      | some i => .int i
      | none => .non) T := by
  have L : FiB P := FiC.b L
  have e3 := first_loop (g := rc) (f := turn ⟨callF P (d + 6), P.gl, P.fu⟩ (.tp (.cons (.nm 1) (.cons (.nm 2) .nil))) b_first_without_in_0) (ρ := [.va (.tup (Rs.map rc)), .un, .un]) (T := T) (p := noW) Rs 0 fun R hR i => by
    have e := has_whole L.wh d (h R hR) T
    unfold noW
    generalize (isW R || isH R) = b at *
    generalize Rs.map rc = X at *
    cases b <;> simp [b_first_without_in_0, e]
  rw [callF_at L.firstin rfl]
  generalize Rs.map rc = X at *
  simp [f_first_without_in, startE, enum_zero, e3]
  cases (idxs noW Rs 0).head? <;> simp
theorem sure_no (L : FiP P) (d : Nat) {W : Rc} {Rs : List Rc} (h : Lay W Rs) (oW : W.ok) (s : Sm W Rs) {w u : PV} {n m : Nat} (hw : Mx n (rc W) w) (hn : n ≤ 4) (hu : Mx m (.tup (Rs.map rc)) u) (hm : m ≤ 5) {i : Int} (hi : (idxs noW Rs 0).head? = some i) (T : Store) : callF P (d + 10) 128 [w, u] T = .ex ⟨1, []⟩ T := by
  have e1 := sure_lay L.wh.la d h oW s hw hn hu hm T
  have e2 := first_in L (d + 2) (fun R hR => (s.near R (List.mem_cons_of_mem _ hR)).sz) T
  rw [hi] at e2
  rw [callF_at L.sws rfl]
  generalize Rs.map rc = X at *
  simp [f_sure_whole_sided, startE, e1, e2, isNon]
end PU
end

section
set_option linter.all false
set_option autoImplicit false
set_option exponentiation.threshold 100000
set_option maxRecDepth 20000
set_option maxHeartbeats 8000000
/-! ties and walks: the program's -/
namespace PU
open MP IR
variable {P : Prog}
def ptv (p : Pt) : PV := .tup [fr p.x, fr p.y]
def tiv (t : Ti) : PV := .tup [.int (t.k : Nat), ptv t.a, ptv t.b]
def prv (t : Ti) : PV := .tup [ptv t.a, ptv t.b]
def spv (s : Sp) : PV := .tup [.int (s.1 : Nat), ptv s.2]
theorem ptv_pt (x y : Rat) : ptv ⟨x, y⟩ = pt x y := rfl
theorem eqv_pt (p q : Pt) : eqv (ptv p) (ptv q) = decide (p = q) := by
  obtain ⟨a, b⟩ := p
  obtain ⟨c, d⟩ := q
  unfold ptv
  rw [eq_tup, eqs_cons, eqs_cons, eqs_nil, eqv_fr, eqv_fr, Bool.eq_iff_iff]
  simp
theorem pln_pt (n : Nat) (p : Pt) : pln (n + 2) (ptv p) = true := by
  unfold ptv
  show ([fr p.x, fr p.y]).all (pln (n + 1)) = true
  simp [pln_fr]
theorem eqv_ti (s t : Ti) : eqv (tiv s) (tiv t) = decide (s = t) := by
  obtain ⟨a, b, c⟩ := s
  obtain ⟨d, e, f⟩ := t
  unfold tiv
  rw [eq_tup, eqs_cons, eqs_cons, eqs_cons, eqs_nil, eqv_pt, eqv_pt, eq_int, Bool.eq_iff_iff]
  simp
  intro _ _
  omega
theorem pln_ti (n : Nat) (t : Ti) : pln (n + 3) (tiv t) = true := by
  unfold tiv
  show ([PV.int t.k, ptv t.a, ptv t.b]).all (pln (n + 2)) = true
  have : pln (n + 2) (.int t.k) = true := rfl
  simp [pln_pt, this]
theorem pln_sp (n : Nat) (s : Sp) : pln (n + 3) (spv s) = true := by
  unfold spv
  show ([PV.int s.1, ptv s.2]).all (pln (n + 2)) = true
  have : pln (n + 2) (.int s.1) = true := rfl
  simp [pln_pt, this]
theorem all_pln {α : Type} {g : α → PV} {n : Nat} (h : ∀ x, pln n (g x) = true) (xs : List α) : (xs.map g).all (pln n) = true := by
  rw [List.all_eq_true]
  intro v hv
  obtain ⟨x, _, rfl⟩ := List.mem_map.mp hv
  exact h x
/-- is a row of such empty -/
theorem ne_nil {α : Type} {g : α → PV} (h : ∀ x, pln 39 (g x) = true) (xs : List α) : cmpop .ne (.lst (xs.map g)) (.lst []) = some (!xs.isEmpty) := by
  have h1 : (pln 40 (.lst (xs.map g)) && pln 40 (.lst [])) = true := by
    rw [Bool.and_eq_true]
    exact ⟨all_pln h xs, rfl⟩
  show (if (pln 40 (.lst (xs.map g)) && pln 40 (.lst [])) = true then some (!eqv (.lst (xs.map g)) (.lst [])) else none) = _
  rw [if_pos h1, eq_lst]
  cases xs with
  | nil => rw [List.map_nil, eqs_nil]; rfl
  | cons x xs => rw [List.map_cons, eqvs_cons_nil]; rfl
theorem eq_nil {α : Type} {g : α → PV} (h : ∀ x, pln 39 (g x) = true) (xs : List α) : cmpop .eq (.lst (xs.map g)) (.lst []) = some xs.isEmpty := by
  have h1 : (pln 40 (.lst (xs.map g)) && pln 40 (.lst [])) = true := by
    rw [Bool.and_eq_true]
    exact ⟨all_pln h xs, rfl⟩
  show (if (pln 40 (.lst (xs.map g)) && pln 40 (.lst [])) = true then some (eqv (.lst (xs.map g)) (.lst [])) else none) = _
  rw [if_pos h1, eq_lst]
  cases xs with
  | nil => rw [List.map_nil, eqs_nil]; rfl
  | cons x xs => rw [List.map_cons, eqvs_cons_nil]; rfl
theorem ne_ti (s t : Ti) : cmpop .ne (tiv s) (tiv t) = some (decide (s ≠ t)) := by
  have h1 : (pln 40 (tiv s) && pln 40 (tiv t)) = true := by rw [pln_ti 37 s, pln_ti 37 t]; rfl
  show (if (pln 40 (tiv s) && pln 40 (tiv t)) = true then some (!eqv (tiv s) (tiv t)) else none) = _
  rw [if_pos h1, eqv_ti]; simp
theorem cmp_pt (p q : Pt) : cmpop .eq (ptv p) (ptv q) = some (decide (p = q)) := by
  have h1 : (pln 40 (ptv p) && pln 40 (ptv q)) = true := by rw [pln_pt 38 p, pln_pt 38 q]; rfl
  show (if (pln 40 (ptv p) && pln 40 (ptv q)) = true then some (eqv (ptv p) (ptv q)) else none) = _
  rw [if_pos h1, eqv_pt]
theorem memv_pt (p : Pt) (xs : List Pt) : memv (ptv p) (xs.map ptv) = decide (p ∈ xs) := by
  unfold memv
  induction xs with
  | nil => rfl
  | cons x xs ih =>
    rw [List.map_cons, List.any_cons, ih, eqv_pt, Bool.eq_iff_iff, Bool.or_eq_true, decide_eq_true_eq, decide_eq_true_eq, decide_eq_true_eq, List.mem_cons]
    exact ⟨fun h => h.imp Eq.symm id, fun h => h.imp Eq.symm id⟩
theorem inop_ptl (p : Pt) (xs : List Pt) : inop (ptv p) (.lst (xs.map ptv)) = some (decide (p ∈ xs)) := by
  have h1 : (pln 40 (ptv p) && (xs.map ptv).all (pln 40)) = true := by
    rw [Bool.and_eq_true]
    exact ⟨pln_pt 38 p, all_pln (pln_pt 38) xs⟩
  show (if (pln 40 (ptv p) && (xs.map ptv).all (pln 40)) = true then some (memv (ptv p) (xs.map ptv)) else none) = _
  rw [if_pos h1, memv_pt]
theorem inop_ptt (p : Pt) (xs : List Pt) : inop (ptv p) (.tup (xs.map ptv)) = some (decide (p ∈ xs)) := by
  have h1 : (pln 40 (ptv p) && (xs.map ptv).all (pln 40)) = true := by
    rw [Bool.and_eq_true]
    exact ⟨pln_pt 38 p, all_pln (pln_pt 38) xs⟩
  have h0 : (MP.flat (ptv p) && (xs.map ptv).all MP.flat) = false := rfl
  show (if (MP.flat (ptv p) && (xs.map ptv).all MP.flat) = true then some (memv (ptv p) (xs.map ptv)) else if (pln 40 (ptv p) && (xs.map ptv).all (pln 40)) = true then some (memv (ptv p) (xs.map ptv)) else none) = _
  rw [h0, if_neg (by simp), if_pos h1, memv_pt]
theorem ti_i0 (T : Store) (t : Ti) : index T (tiv t) (.int 0) = some (.int (t.k : Nat)) := rfl
theorem ti_i1 (T : Store) (t : Ti) : index T (tiv t) (.int 1) = some (ptv t.a) := rfl
theorem ti_i2 (T : Store) (t : Ti) : index T (tiv t) (.int 2) = some (ptv t.b) := rfl
theorem sp_i0 (T : Store) (s : Sp) : index T (spv s) (.int 0) = some (.int (s.1 : Nat)) := rfl
theorem sp_i1 (T : Store) (s : Sp) : index T (spv s) (.int 1) = some (ptv s.2) := rfl
theorem ptv_i0 (T : Store) (p : Pt) : index T (ptv p) (.int 0) = some (fr p.x) := rfl
theorem ptv_i1 (T : Store) (p : Pt) : index T (ptv p) (.int 1) = some (fr p.y) := rfl
/-- the facts of the program's walks -/
structure WaP (P : Prog) : Prop where
  fi : FiP P
  tin : P.fn 101 = some f_ties_in
  allt : P.fn 93 = some f_all_ties
  oth : P.fn 97 = some f_other_end
  walk : P.fn 108 = some f_walk_in
structure WaB (P : Prog) : Prop where
  fi : FiB P
  tin : P.fn 101 = some f_ties_in
  allt : P.fn 93 = some f_all_ties
  oth : P.fn 97 = some f_other_end
class WaC (α : Prop) (P : outParam Prog) : Prop where
  b : α → WaB P
instance {P : Prog} : WaC (WaB P) P := ⟨fun F => F⟩
instance {P : Prog} : WaC (WaP P) P := ⟨fun L => ⟨FiC.b L.fi, L.tin, L.allt, L.oth⟩⟩
def opt (o : Option Pt) : PV := match o with
  | some p => ptv p
  | none => .non
theorem other_end {α : Prop} [WaC α P] (L : α) (d : Nat) (t : Ti) (h : Pt) (T : Store) : callF P (d + 1) 97 [tiv t, ptv h] T = .ok (opt (oe t h)) T := by
  have L : WaB P := WaC.b L
  have c1 := cmp_pt t.a h
  have c2 := cmp_pt t.b h
  rw [callF_at L.oth rfl]
  unfold oe
  by_cases a : t.a = h
  · rw [decide_eq_true a] at c1
    rw [if_pos a]
    simp [-co_eq, f_other_end, startE, ti_i1, ti_i2, c1]; rfl
  · rw [decide_eq_false a] at c1
    rw [if_neg a]
    by_cases b : t.b = h
    · rw [decide_eq_true b] at c2
      rw [if_pos b]
      simp [-co_eq, f_other_end, startE, ti_i1, ti_i2, c1, c2]; rfl
    · rw [decide_eq_false b] at c2
      rw [if_neg b]
      simp [-co_eq, f_other_end, startE, ti_i1, ti_i2, c1, c2]; rfl
theorem ties_in {α : Prop} [WaC α P] (L : α) (d k : Nat) {R : Rc} (s : SzR R) (T : Store) : callF P (d + 6) 101 [rc R] T = .ok (.lst ((tiesR k R).map prv)) T := by
  have L : WaB P := WaC.b L
  have e1 := sides_in L.fi.wh d s T
  rw [callF_at L.tin rfl]
  unfold tiesR
  by_cases w : isW R = true
  · rw [w] at e1
    rw [if_pos w]
    simp [f_ties_in, startE, e1]; rfl
  · rw [eq_false_of_ne_true w] at e1
    rw [if_neg w]
    simp [f_ties_in, startE, e1]; rfl
theorem ties_loop {f : PV → Store → Res (List PV)} {T : Store} : ∀ (Rs : List Rc) (k : Nat) (K : Int), K = k → (∀ R ∈ Rs, ∀ (k : Nat) (K : Int), K = k → f (.tup [.int K, rc R]) T = .ok ((tiesR k R).map tiv) T) → loopC f (enumF K (Rs.map rc)) T = .ok ((tiesL k Rs).map tiv) T
  | [], k, K, _, _ => rfl
  | R :: Rs, k, K, hK, h => by
    rw [List.map_cons, enumF, loopC, h R List.mem_cons_self k K hK, Res.bind_ok, ties_loop Rs (k + 1) (K + 1) (by omega) fun S hS => h S (List.mem_cons_of_mem _ hS)]
    rw [Res.bind_ok, tiesL, List.map_append]
theorem ties_len : ∀ (k : Nat) (Rs : List Rc), (tiesL k Rs).length = 2 * Rs.length
  | _, [] => rfl
  | k, R :: Rs => by
    rw [tiesL, List.length_append, ties_len (k + 1) Rs, List.length_cons]
    have : (tiesR k R).length = 2 := by unfold tiesR; split <;> rfl
    omega
theorem tiesR_two (k : Nat) (R : Rc) : ∃ a b, tiesR k R = [a, b] ∧ a.k = k ∧ b.k = k := by
  unfold tiesR
  split <;> exact ⟨_, _, rfl, rfl, rfl⟩
theorem all_ties {α : Prop} [WaC α P] (L : α) (d : Nat) {Rs : List Rc} (s : ∀ R ∈ Rs, SzR R) (hl : Rs.length ≤ 60) (T : Store) : callF P (d + 7) 93 [.tup (Rs.map rc)] T = .ok (.lst ((tiesL 0 Rs).map tiv)) T := by
  have L : WaB P := WaC.b L
  have lp := line_pos
  rw [callF_at L.allt rfl]
  have key : ∀ (f : PV → Store → Res (List PV)), (∀ R ∈ Rs, ∀ (k : Nat) (K : Int), K = k → f (.tup [.int K, rc R]) T = .ok ((tiesR k R).map tiv) T) → compR (loopC f (enumF 0 (Rs.map rc)) T) = .ok (.lst ((tiesL 0 Rs).map tiv)) T := fun f hf => by
    rw [ties_loop Rs 0 0 rfl hf, compR_ok (by rw [List.length_map, ties_len]; omega)]
  have e : ∀ R ∈ Rs, ∀ k, callF P (d + 6) 101 [rc R] T = .ok (.lst ((tiesR k R).map prv)) T := fun R hR k => ties_in L d k (s R hR) T
  generalize Rs.map rc = X at *
  simp [f_all_ties, startE, enum_zero]
  rw [key _ fun R hR k K hK => by
    obtain ⟨a, b, e2, ha, hb⟩ := tiesR_two k R
    have := e R hR k
    rw [e2] at this
    simp [this, e2, prv, loopC, tiv, ha, hb, ← hK]]
  simp
end PU
end

section
set_option linter.all false
set_option autoImplicit false
set_option exponentiation.threshold 100000
set_option maxRecDepth 20000
set_option maxHeartbeats 8000000
/-! walks: the program's -/
namespace PU
open MP IR
variable {P : Prog}
theorem opt_non (o : Option Pt) : isNon (opt o) = o.isNone := by cases o <;> rfl
theorem oe_none (t : Ti) (h : Pt) : (oe t h).isNone = !atE t h := by
  unfold oe atE
  by_cases a : t.a = h
  · simp [a]
  · by_cases b : t.b = h <;> simp [a, b]
theorem oe_oth {t : Ti} {h : Pt} (m : atE t h = true) : oe t h = some (oth t h) := by
  unfold oe oth
  unfold atE at m
  by_cases a : t.a = h
  · rw [if_pos a, if_pos a]
  · have : t.b = h := by simpa [a] using m
    rw [if_neg a, if_neg a, if_pos this]
/-- the goods at a point -/
theorem goods_row {α : Prop} [WaC α P] (L : α) {f : PV → Store → Res (List PV)} {T : Store} (d : Nat) (h : Pt) (ts : List Ti) (hl : ts.length ≤ line) (hf : ∀ t, callF P (d + 1) 97 [tiv t, ptv h] T = .ok (opt (oe t h)) T → isNon (opt (oe t h)) = (!atE t h) → f (tiv t) T = if atE t h then .ok [tiv t] T else .ok [] T) : compR (loopC f (ts.map tiv) T) = .ok (.lst ((goods ts h).map tiv)) T := by
  have L : WaB P := WaC.b L
  rw [loopC_filt (fun t => atE t h) tiv ts fun t _ => hf t (other_end L d t h T) (by rw [opt_non, oe_none]), compR_ok (by rw [List.length_map]; exact Nat.le_trans (List.length_filter_le _ _) hl)]
  rfl
theorem less_row {f : PV → Store → Res (List PV)} {T : Store} (u : Ti) (ts : List Ti) (hl : ts.length ≤ line) (hf : ∀ t, cmpop .ne (tiv t) (tiv u) = some (decide (t ≠ u)) → f (tiv t) T = if decide (t ≠ u) then .ok [tiv t] T else .ok [] T) : compR (loopC f (ts.map tiv) T) = .ok (.lst ((lessT ts u).map tiv)) T := by
  rw [loopC_filt (fun t => decide (t ≠ u)) tiv ts fun t _ => hf t (ne_ti t u), compR_ok (by rw [List.length_map]; exact Nat.le_trans (List.length_filter_le _ _) hl)]
  rfl
theorem hd_i0 (T : Store) (v : PV) (vs : List PV) : index T (.lst (v :: vs)) (.int 0) = some v := by
  have : (0 : Int) < (vs.length : Int) + 1 := by omega
  simp [index, ixn, this]
theorem walk_loop (L : WaP P) {d : Nat} {s0 s1 : SV} {T : Store} {ts : List Ti} {h : Pt} {F : List Sp} (w : Wd true ts h F) : ∀ (done : List Sp) (n : Nat) (s6 : SV), F.length < n → ts.length ≤ 200 → done.length + F.length ≤ 1000 →
    ∃ v2 v4, loopW (tst ⟨callF P (d + 1), P.gl, P.fu⟩ (.cmp .ne (.var 5) (.lst .nil))) (bod ⟨callF P (d + 1), P.gl, P.fu⟩ b_walk_in_0) n [s0, s1, .va (.lst (ts.map tiv)), .ow (done.map spv), .va (ptv h), .va (.lst ((goods ts h).map tiv)), .un] T = .nx [s0, s1, v2, .ow ((done ++ F).map spv), v4, .va (.lst []), .un] T := by
  have lp := line_pos
  induction w with
  | @stop ts h e =>
    intro done n s6 hn hl hd
    match n with
    | n + 1 =>
      refine ⟨.va (.lst (ts.map tiv)), .va (ptv h), ?_⟩
      rw [e, List.append_nil, List.map_nil, loopW]
      generalize ts.map tiv = X at *
      generalize done.map spv = Y at *
      simp [tst_eq]
  | @step ts h t F m q w ih =>
    intro done n s6 hn hl hd
    match n with
    | n + 1 =>
      rw [List.length_cons] at hn hd
      have hg := q rfl
      obtain ⟨r, hr⟩ : ∃ r, goods ts h = t :: r := by
        cases e : goods ts h with
        | nil => rw [e] at hg; cases hg
        | cons u r => rw [e] at hg; exact ⟨r, by simp at hg; rw [hg]⟩
      have m2 := (List.mem_filter.mp m).2
      have hl2 : (lessT ts t).length ≤ 200 := Nat.le_trans (List.length_filter_le _ _) hl
      obtain ⟨v2, v4, e⟩ := ih (done ++ [(t.k, oth t h)]) n s6 (by omega) hl2 (by simp; omega)
      refine ⟨v2, v4, ?_⟩
      have e' : done ++ [(t.k, oth t h)] ++ F = done ++ (t.k, oth t h) :: F := by simp
      rw [← e', ← e]
      have c := ne_nil (g := tiv) (pln_ti 36) (t :: r)
      have o := other_end L d t h T
      rw [oe_oth m2] at o
      have o' : callF P (d + 1) 97 [tiv t, ptv h] T = .ok (ptv (oth t h)) T := o
      rw [hr, loopW]
      have i0 := hd_i0 T (tiv t) (r.map tiv)
      have lr1 : ∀ f : PV → Store → Res (List PV), _ := fun f hf => less_row (f := f) (T := T) t ts (by omega) hf
      have lr2 : ∀ f : PV → Store → Res (List PV), _ := fun f hf => goods_row L (f := f) (T := T) d (oth t h) (lessT ts t) (by omega) hf
      have ll : (done.map spv).length < line := by rw [List.length_map]; omega
      have sp : PV.tup [.int (t.k : Nat), ptv (oth t h)] = spv (t.k, oth t h) := rfl
      have em : (done ++ [(t.k, oth t h)]).map spv = done.map spv ++ [.tup [.int (t.k : Nat), ptv (oth t h)]] := by rw [List.map_append]; rfl
      rw [em, List.map_cons]
      rw [List.map_cons] at c
      simp only [List.isEmpty_cons, Bool.not_false] at c
      have t0 := ti_i0 T t
      generalize hK : ((t.k : Nat) : Int) = K at *
      generalize done.map spv = Y at *
      generalize r.map tiv = Z at *
      generalize oth t h = g at *
      generalize hU : lessT ts t = U at *
      generalize hX : ts.map tiv = X at *
      have tc : tst ⟨callF P (d + 1), P.gl, P.fu⟩ (.cmp .ne (.var 5) (.lst .nil)) [s0, s1, .va (.lst X), .ow Y, .va (ptv h), .va (.lst (tiv t :: Z)), .un] T = .ok true T := by
        simp [-co_ne, tst_eq, c]
      rw [tc]
      simp only [Res.s_ok, if_true]
      have bd : bod ⟨callF P (d + 1), P.gl, P.fu⟩ b_walk_in_0 [s0, s1, .va (.lst X), .ow Y, .va (ptv h), .va (.lst (tiv t :: Z)), .un] T = .nx [s0, s1, .va (.lst (U.map tiv)), .ow (Y ++ [.tup [.int K, ptv g]]), .va (ptv g), .va (.lst ((goods U g).map tiv)), .un] T := by
        simp [-co_ne, bod_eq, b_walk_in_0]
        rw [lr1 _ fun u hu => by
          generalize decide (u ≠ t) = z at *
          cases z <;> simp [-co_ne, i0, hu]]
        simp [i0, o', t0, ll]
        rw [lr2 _ fun u hu hv => by
          generalize atE u g = z at *
          generalize opt (oe u g) = y at *
          cases z <;> simp [hu, hv]]
        simp
      rw [bd]
end PU
end

section
set_option linter.all false
set_option autoImplicit false
set_option exponentiation.threshold 100000
set_option maxRecDepth 20000
set_option maxHeartbeats 8000000
/-! walks: the program's doors -/
namespace PU
open MP IR
variable {P : Prog}
theorem idxs_none {α : Type} {p : α → Bool} : ∀ {xs : List α} {k : Int}, (∀ x ∈ xs, p x = false) → idxs p xs k = []
  | [], _, _ => rfl
  | x :: xs, k, h => by
    unfold idxs
    rw [if_neg (by rw [h x List.mem_cons_self]; simp)]
    exact idxs_none fun y hy => h y (List.mem_cons_of_mem _ hy)
theorem at_last (T : Store) (vs : List PV) (v : PV) : index T (.tup (vs ++ [v])) (.int (-1)) = some v := by
  have h0 : ¬ (0 : Int) ≤ -1 := by omega
  have h1 : -((vs.length : Int) + 1) ≤ -1 := by omega
  have h2 : ((-1 : Int) + ((vs.length : Int) + 1)).toNat = vs.length := by omega
  simp [index, ixn, h0, h1, h2]
structure WbP (P : Prog) : Prop where
  wa : WaP P
  fu : 1000 ≤ P.fu
  wof : P.fn 131 = some f_walk_of
  ways : P.fn 172 = some f_walk_ways
  isw : P.fn 121 = some f_is_walk
  iswi : P.fn 122 = some f_is_walk_in
  ispt : P.fn 120 = some f_is_point
  ocs : P.fn 127 = some f_other_corners
  within : P.fn 9 = some f_is_within
theorem walk_in (L : WaP P) (hfu : 1000 ≤ P.fu) (d : Nat) {W : Rc} {Rs : List Rc} (s : ∀ R ∈ Rs, SzR R) (hl : Rs.length ≤ 60) {F : List Sp} (w : Wd true (tiesL 0 Rs) (ll0 W) F) (T : Store) : callF P (d + 8) 108 [rc W, .tup (Rs.map rc)] T = .ok (.tup (F.map spv)) T := by
  have lp := line_pos
  have e1 := all_ties L d s hl T
  have wl := w.len
  have tl := ties_len 0 Rs
  obtain ⟨v2, v4, e2⟩ := walk_loop L (d := d + 6) (s0 := .va (rc W)) (s1 := .va (.tup (Rs.map rc))) (T := T) w [] P.fu .un (by omega) (by omega) (by simp; omega)
  have e3 : ∀ f : PV → Store → Res (List PV), _ := fun f hf => goods_row L (f := f) (T := T) (d + 6) (ll0 W) (tiesL 0 Rs) (by omega) hf
  have pl : PV.tup [fr W.l, fr W.b] = ptv (ll0 W) := rfl
  rw [callF_at L.walk rfl]
  rw [List.nil_append, List.map_nil] at e2
  generalize F.map spv = Z at *
  generalize Rs.map rc = X at *
  generalize (tiesL 0 Rs) = ts at *
  simp [f_walk_in, startE, putAll, e1, rc_i0, rc_i1, pl]
  rw [e3 _ fun u hu hv => by
    generalize atE u (ll0 W) = z at *
    generalize opt (oe u (ll0 W)) = y at *
    cases z <;> simp [hu, hv]]
  simp only [Res.s_ok, b_nm, ofEnv_some, List.set_cons_succ, List.set_cons_zero, seqE_nx, ss_cons, s_whl]
  rw [e2]
  simp
theorem sure_ws (L : FiP P) (d : Nat) {W : Rc} {Rs : List Rc} (h : Lay W Rs) (oW : W.ok) (s : Sm W Rs) (hs : ∀ R ∈ Rs, (isW R || isH R) = true) {w u : PV} {n m : Nat} (hw : Mx n (rc W) w) (hn : n ≤ 4) (hu : Mx m (.tup (Rs.map rc)) u) (hm : m ≤ 5) (T : Store) : callF P (d + 10) 128 [w, u] T = .ok (.tup [rc W, .tup (Rs.map rc)]) T := by
  have e1 := sure_lay L.wh.la d h oW s hw hn hu hm T
  have e2 := first_in L (d + 2) (fun R hR => (s.near R (List.mem_cons_of_mem _ hR)).sz) T
  rw [idxs_none fun R hR => by unfold noW; rw [hs R hR]; rfl] at e2
  rw [callF_at L.sws rfl]
  generalize Rs.map rc = X at *
  simp [f_sure_whole_sided, startE, e1, e2, isNon]
theorem walk_of (L : WbP P) (d : Nat) {W : Rc} {Rs : List Rc} (h : Lay W Rs) (oW : W.ok) (s : Sm W Rs) (hs : ∀ R ∈ Rs, (isW R || isH R) = true) {w u : PV} {n m : Nat} (hw : Mx n (rc W) w) (hn : n ≤ 4) (hu : Mx m (.tup (Rs.map rc)) u) (hm : m ≤ 5) {F : List Sp} (k : Wd true (tiesL 0 Rs) (ll0 W) F) (T : Store) : callF P (d + 11) 131 [w, u] T = .ok (.tup (F.map spv)) T := by
  have e1 := sure_ws L.wa.fi d h oW s hs hw hn hu hm T
  have e2 := walk_in L.wa L.fu (d + 2) (fun R hR => (s.near R (List.mem_cons_of_mem _ hR)).sz) s.len k T
  rw [callF_at L.wof rfl]
  generalize Rs.map rc = X at *
  generalize F.map spv = Z at *
  simp [f_walk_of, startE, e1, e2]
theorem oc_near {W : Rc} {p : Pt} (nW : RB nearB nearB W) (m : p ∈ oc W) : Bd nearB nearB p.x ∧ Bd nearB nearB p.y := by
  obtain ⟨h1, h2, h3, h4⟩ := nW
  unfold oc at m
  simp at m
  rcases m with rfl | rfl | rfl <;> constructor <;> assumption
theorem fin_last (h : Pt) (A : List Sp) (s : Sp) : fin h (A ++ [s]) = s.2 := by rw [fin_app]; rfl
theorem walk_ways (L : WbP P) (d : Nat) {W : Rc} {Rs : List Rc} (h : Lay W Rs) (oW : W.ok) (s : Sm W Rs) (hs : ∀ R ∈ Rs, (isW R || isH R) = true) {w u : PV} {n m : Nat} (hw : Mx n (rc W) w) (hn : n ≤ 4) (hu : Mx m (.tup (Rs.map rc)) u) (hm : m ≤ 5) {F : List Sp} (k : Wd true (tiesL 0 Rs) (ll0 W) F) (T : Store) : callF P (d + 11) 172 [w, u] T = .ok (.tup [fr ((fin (ll0 W) F).x - W.l), fr ((fin (ll0 W) F).y - W.b)]) T := by
  have e1 := sure_ws L.wa.fi d h oW s hs hw hn hu hm T
  have e2 := walk_in L.wa L.fu (d + 2) (fun R hR => (s.near R (List.mem_cons_of_mem _ hR)).sz) s.len k T
  obtain ⟨m1, m2, _⟩ := walk_end h oW k
  have nW := s.near W List.mem_cons_self
  obtain ⟨n1, n2⟩ := oc_near nW m1
  obtain ⟨A, t, rfl⟩ : ∃ A t, F = A ++ [t] := ⟨_, _, (List.dropLast_concat_getLast m2).symm⟩
  rw [fin_last] at *
  have e3 := less L.wa.fi.wh.la.re.fr (d + 7) T n1.sz nW.1.sz
  have e4 := less L.wa.fi.wh.la.re.fr (d + 7) T n2.sz nW.2.1.sz
  rw [List.map_append, List.map_cons, List.map_nil] at e2
  have e5 := at_last T (A.map spv) (spv t)
  rw [callF_at L.ways rfl]
  generalize A.map spv ++ [spv t] = Z at *
  generalize Rs.map rc = X at *
  simp [f_walk_ways, startE, e1, e2, e5, sp_i1, ptv_i0, ptv_i1, rc_i0, rc_i1, e3, e4]
theorem is_point (L : WbP P) (d : Nat) (p : Pt) (s : Sz p.x ∧ Sz p.y) (T : Store) : callF P (d + 4) 120 [ptv p] T = .ok (.bl true) T := by
  have lp := line_pos
  have F := L.wa.fi.wh.la.re.fr
  have e1 := is_long F.long (d + 2) [fr p.x, fr p.y] 2 T
  have e2 := isfr F d p.x T s.1.2
  have e3 := isfr F d p.y T s.2.2
  have l2 : 2 ≤ line := by omega
  unfold ptv
  rw [callF_at L.ispt rfl]
  simp at e1
  simp [f_is_point, startE, e1, loopC, e2, e3, compR, l2, boolsOf]
end PU
end

section
set_option linter.all false
set_option autoImplicit false
set_option exponentiation.threshold 100000
set_option maxRecDepth 20000
set_option maxHeartbeats 8000000
/-! is it a walk -/
namespace PU
open MP IR
variable {P : Prog}
theorem hits_row (L : WaP P) {f : PV → Store → Res (List PV)} {T : Store} (d : Nat) (h : Pt) (s : Sp) (ts : List Ti) (hl : ts.length ≤ line) (hf : ∀ t, callF P (d + 1) 97 [tiv t, ptv h] T = .ok (opt (oe t h)) T → f (tiv t) T = if decide (t.k = s.1) && decide (oe t h = some s.2) then .ok [tiv t] T else .ok [] T) : compR (loopC f (ts.map tiv) T) = .ok (.lst ((hits ts h s).map tiv)) T := by
  rw [loopC_filt (fun t => decide (t.k = s.1) && decide (oe t h = some s.2)) tiv ts fun t _ => hf t (other_end L d t h T), compR_ok (by rw [List.length_map]; exact Nat.le_trans (List.length_filter_le _ _) hl)]
  rfl
theorem eq_opt (o : Option Pt) (p : Pt) : cmpop .eq (opt o) (ptv p) = some (decide (o = some p)) := by
  cases o with
  | none =>
    have h1 : (pln 40 PV.non && pln 40 (ptv p)) = true := by rw [pln_pt 38 p]; rfl
    show (if (pln 40 PV.non && pln 40 (ptv p)) = true then some (eqv PV.non (ptv p)) else none) = _
    rw [if_pos h1]
    have : eqv PV.non (ptv p) = false := by unfold ptv; rw [eqv]; all_goals (intros; contradiction)
    rw [this]; simp
  | some q =>
    show cmpop .eq (ptv q) (ptv p) = _
    rw [cmp_pt]; simp
theorem hits_far {ts : List Ti} {h : Pt} {s : Sp} {n : Nat} (hk : ∀ t ∈ ts, t.k < n) (hs : n ≤ s.1) : hits ts h s = [] := by
  unfold hits
  rw [List.filter_eq_nil_iff]
  intro t ht
  have := hk t ht
  have : t.k ≠ s.1 := by omega
  simp [this]
theorem run_loop (L : WbP P) {d : Nat} {v0 v2 : SV} {X : List PV} {T : Store} : ∀ (F : List Sp) {ts : List Ti} {h : Pt}, (∀ t ∈ ts, t.k < X.length) → ts.length ≤ 1000 → (∀ s ∈ F, Sz s.2.x ∧ Sz s.2.y) →
    match run ts h F with
    | some e => ∃ v3, loopS (turn ⟨callF P (d + 4), P.gl, P.fu⟩ (.nm 5) b_is_walk_in_0) (F.map spv) [v0, .va (.tup X), v2, .va (.lst (ts.map tiv)), .va (ptv h), .un, .un, .un] T = .nx [v0, .va (.tup X), v2, v3, .va (ptv e), .un, .un, .un] T
    | none => loopS (turn ⟨callF P (d + 4), P.gl, P.fu⟩ (.nm 5) b_is_walk_in_0) (F.map spv) [v0, .va (.tup X), v2, .va (.lst (ts.map tiv)), .va (ptv h), .un, .un, .un] T = .rt (.bl false) T
  | [], ts, h, _, _, _ => ⟨_, rfl⟩
  | s :: F, ts, h, hk, hl, hs => by
    have lp := line_pos
    have FR := L.wa.fi.wh.la.re.fr
    have p1 := is_long FR.long (d + 3) [.int (s.1 : Nat), ptv s.2] 2 T
    have p2 := is_within FR.number L.within (d + 2) (s.1 : Nat) 0 ((X.length : Int) - 1) T
    have p3 := is_point L d s.2 (hs s List.mem_cons_self) T
    have p1' : callF P (d + 4) 8 [spv s, .int 2] T = .ok (.bl true) T := p1
    have c1 : ∀ f : PV → Store → Res (List PV), _ := fun f hf => hits_row L.wa (f := f) (T := T) (d + 3) h s ts (by omega) hf
    have c2 := eq_nil (g := tiv) (pln_ti 36) (hits ts h s)
    have bd : turn ⟨callF P (d + 4), P.gl, P.fu⟩ (.nm 5) b_is_walk_in_0 (spv s) [v0, .va (.tup X), v2, .va (.lst (ts.map tiv)), .va (ptv h), .un, .un, .un] T = match hits ts h s with
        | [] => .rt (.bl false) T
        | t :: _ => .nx [v0, .va (.tup X), v2, .va (.lst ((lessT ts t).map tiv)), .va (ptv s.2), .un, .un, .un] T := by
      have i0 := sp_i0 T s
      have i1 := sp_i1 T s
      have t0 : ∀ t : Ti, index T (tiv t) (.int 0) = some (.int (t.k : Nat)) := fun t => rfl
      by_cases hn : s.1 < X.length
      · have rg : (decide ((0 : Int) ≤ (s.1 : Nat) ∧ ((s.1 : Nat) : Int) ≤ (X.length : Int) - 1)) = true := by
          rw [decide_eq_true_eq]; omega
        rw [rg] at p2
        have kq : ∀ t : Ti, cmpop .eq (.int (t.k : Nat)) (.int (s.1 : Nat)) = some (decide (t.k = s.1)) := fun t => by
          show some (eqv (.int (t.k : Nat)) (.int (s.1 : Nat))) = _
          rw [eq_int]
          congr 1
          rw [Bool.eq_iff_iff]; simp; omega
        have kp : ∀ t : Ti, cmpop .eq (opt (oe t h)) (ptv s.2) = some (decide (oe t h = some s.2)) := fun t => eq_opt _ _
        have lx : bi .len [.tup X] = some (.int (X.length : Nat)) := rfl
        have ce : cmpop .eq (.lst ((hits ts h s).map tiv)) (.lst []) = some (hits ts h s).isEmpty := c2
        clear p1 c2
        generalize spv s = S at *
        generalize hq : ((s.1 : Nat) : Int) = q at *
        generalize (X.length : Int) = xl at *
        have hits1 : ∀ f : PV → Store → Res (List PV), (∀ t, f (tiv t) T = if decide (t.k = s.1) && decide (oe t h = some s.2) then .ok [tiv t] T else .ok [] T) → compR (loopC f (ts.map tiv) T) = .ok (.lst ((hits ts h s).map tiv)) T := fun f hf => c1 f fun t _ => hf t
        have oo := fun t => other_end L.wa (d + 3) t h T
        have less1 : ∀ (u : Ti) (f : PV → Store → Res (List PV)), _ := fun u f hf => less_row (f := f) (T := T) u ts (by omega) hf
        generalize hH : hits ts h s = H at *
        generalize hX : ts.map tiv = Y at *
        simp [-co_eq, -co_ne, -bi_lent, b_is_walk_in_0, p1', i0, i1, lx, p2, p3]
        rw [hits1 _ fun t => by
          have a := oo t
          have b := kq t
          have c := kp t
          have e := t0 t
          generalize decide (t.k = s.1) = z1 at *
          generalize decide (oe t h = some s.2) = z2 at *
          generalize opt (oe t h) = o at *
          generalize ((t.k : Nat) : Int) = tk at *
          cases z1 <;> cases z2 <;> simp [-co_eq, i0, i1, e, b, a, c]]
        cases H with
        | nil =>
          simp only [List.map_nil, List.isEmpty_nil] at ce
          simp [-co_eq, -co_ne, ce]
        | cons t r =>
          rw [List.map_cons] at ce ⊢
          simp only [List.isEmpty_cons] at ce
          have j0 := hd_i0 T (tiv t) (r.map tiv)
          generalize r.map tiv = R at *
          simp [-co_eq, -co_ne, ce]
          rw [less1 t _ fun u hu => by
            generalize decide (u ≠ t) = z at *
            cases z <;> simp [-co_ne, j0, hu]]
          simp [i1]
      · have rg : (decide ((0 : Int) ≤ (s.1 : Nat) ∧ ((s.1 : Nat) : Int) ≤ (X.length : Int) - 1)) = false := by
          rw [decide_eq_false_iff_not]; omega
        rw [rg] at p2
        rw [hits_far hk (by omega)]
        have lx : bi .len [.tup X] = some (.int (X.length : Nat)) := rfl
        clear p1 c1 c2
        generalize spv s = S at *
        generalize hq : ((s.1 : Nat) : Int) = q at *
        generalize (X.length : Int) = xl at *
        generalize hX : ts.map tiv = Y at *
        simp [-co_eq, -co_ne, -bi_lent, b_is_walk_in_0, p1', i0, i1, lx, p2]
    rw [List.map_cons]
    unfold run
    cases hH : hits ts h s with
    | nil =>
      rw [hH] at bd
      simp only []
      rw [loopS, bd]
    | cons t r =>
      rw [hH] at bd
      simp only [] at bd ⊢
      have ih := run_loop L (d := d) (v0 := v0) (v2 := v2) (X := X) (T := T) F (ts := lessT ts t) (h := s.2) (fun u hu => hk u (less_sub hu).1) (Nat.le_trans (List.length_filter_le _ _) hl) (fun u hu => hs u (List.mem_cons_of_mem _ hu))
      rw [loopS_cons bd]
      exact ih
end PU
end

section
set_option linter.all false
set_option autoImplicit false
set_option exponentiation.threshold 100000
set_option maxRecDepth 20000
set_option maxHeartbeats 8000000
/-! is it a walk: the doors -/
namespace PU
open MP IR
variable {P : Prog}
theorem eq_nilt {α : Type} {g : α → PV} (h : ∀ x, pln 39 (g x) = true) (xs : List α) : cmpop .eq (.tup (xs.map g)) (.tup []) = some xs.isEmpty := by
  have h1 : (pln 40 (.tup (xs.map g)) && pln 40 (.tup [])) = true := by
    rw [Bool.and_eq_true]
    exact ⟨all_pln h xs, rfl⟩
  show (if (pln 40 (.tup (xs.map g)) && pln 40 (.tup [])) = true then some (eqv (.tup (xs.map g)) (.tup [])) else none) = _
  rw [if_pos h1, eq_tup]
  cases xs with
  | nil => rw [List.map_nil, eqs_nil]; rfl
  | cons x xs => rw [List.map_cons, eqvs_cons_nil]; rfl
theorem other_corners (L : WbP P) (d : Nat) (W : Rc) (T : Store) : callF P (d + 1) 127 [rc W] T = .ok (.lst ((oc W).map ptv)) T := by
  rw [callF_at L.ocs rfl]
  simp [f_other_corners, startE]; rfl
theorem ties_lt {Rs : List Rc} {t : Ti} (m : t ∈ tiesL 0 Rs) : t.k < (Rs.map rc).length := by
  have := (ties_k m).2.1
  rw [List.length_map]; omega
theorem is_walk_in (L : WbP P) (d : Nat) {W : Rc} {Rs : List Rc} (s : ∀ R ∈ Rs, SzR R) (hl : Rs.length ≤ 60) (F : List Sp) (hF : ∀ s ∈ F, Sz s.2.x ∧ Sz s.2.y) (T : Store) : callF P (d + 8) 122 [rc W, .tup (Rs.map rc), .tup (F.map spv)] T = .ok (.bl (iw W (tiesL 0 Rs) F)) T := by
  have e1 := all_ties L.wa d s hl T
  have e2 := run_loop L (d := d + 3) (v0 := .va (rc W)) (v2 := .va (.tup (F.map spv))) (X := Rs.map rc) (T := T) F (ts := tiesL 0 Rs) (h := ll0 W) (fun t m => ties_lt m) (by have := ties_len 0 Rs; omega) hF
  have e3 := other_corners L (d + 6) W T
  have e4 := eq_nilt (g := spv) (pln_sp 36) F
  have pl : PV.tup [fr W.l, fr W.b] = ptv (ll0 W) := rfl
  have is1 : isTys [.tup] (.tup (F.map spv)) = some true := rfl
  rw [callF_at L.iswi rfl]
  unfold iw
  cases F with
  | nil =>
    have is0 : isTys [.tup] (.tup []) = some true := rfl
    have e0 : cmpop .eq (.tup []) (.tup []) = some true := e4
    simp [-co_eq, f_is_walk_in, startE, is0, e0]
  | cons f F =>
    simp only [List.isEmpty_cons] at e4
    generalize Rs.map rc = X at *
    generalize (f :: F).map spv = Z at *
    generalize (tiesL 0 Rs).map tiv = ts at *
    cases hr : run (tiesL 0 Rs) (ll0 W) (f :: F) with
    | none =>
      rw [hr] at e2
      simp only [] at e2
      simp [-co_eq, f_is_walk_in, startE, is1, e4, e1, rc_i0, rc_i1, pl, e2]
    | some e =>
      rw [hr] at e2
      simp only [] at e2
      obtain ⟨v3, e2⟩ := e2
      have e5 := inop_ptl e (oc W)
      generalize (oc W).map ptv = OC at *
      simp [-co_eq, f_is_walk_in, startE, is1, e4, e1, rc_i0, rc_i1, pl, e2, e3, e5]
theorem is_walk_no (L : WbP P) (d : Nat) (w u x : PV) (hx : isTys [.tup] x = some false) (T : Store) : callF P (d + 1) 122 [w, u, x] T = .ok (.bl false) T := by
  rw [callF_at L.iswi rfl]
  simp [f_is_walk_in, startE, hx]
theorem is_walk (L : WbP P) (d : Nat) {W : Rc} {Rs : List Rc} (h : Lay W Rs) (oW : W.ok) (s : Sm W Rs) (hs : ∀ R ∈ Rs, (isW R || isH R) = true) {w u : PV} {n m : Nat} (hw : Mx n (rc W) w) (hn : n ≤ 4) (hu : Mx m (.tup (Rs.map rc)) u) (hm : m ≤ 5) (F : List Sp) (hF : ∀ s ∈ F, Sz s.2.x ∧ Sz s.2.y) (T : Store) : callF P (d + 11) 121 [w, u, .tup (F.map spv)] T = .ok (.bl (iw W (tiesL 0 Rs) F)) T := by
  have e1 := sure_ws L.wa.fi d h oW s hs hw hn hu hm T
  have e2 := is_walk_in L (d + 2) (fun R hR => (s.near R (List.mem_cons_of_mem _ hR)).sz) s.len F hF (W := W) T
  rw [callF_at L.isw rfl]
  generalize Rs.map rc = X at *
  generalize F.map spv = Z at *
  simp [f_is_walk, startE, e1, e2]
theorem is_walk_not (L : WbP P) (d : Nat) {W : Rc} {Rs : List Rc} (h : Lay W Rs) (oW : W.ok) (s : Sm W Rs) (hs : ∀ R ∈ Rs, (isW R || isH R) = true) {w u x : PV} {n m : Nat} (hw : Mx n (rc W) w) (hn : n ≤ 4) (hu : Mx m (.tup (Rs.map rc)) u) (hm : m ≤ 5) (hx : isTys [.tup] x = some false) (T : Store) : callF P (d + 11) 121 [w, u, x] T = .ok (.bl false) T := by
  have e1 := sure_ws L.wa.fi d h oW s hs hw hn hu hm T
  have e2 := is_walk_no L (d + 9) (rc W) (.tup (Rs.map rc)) x hx T
  rw [callF_at L.isw rfl]
  generalize Rs.map rc = X at *
  simp [f_is_walk, startE, e1, e2]
end PU
end

section
set_option linter.all false
set_option autoImplicit false
set_option exponentiation.threshold 100000
set_option maxRecDepth 20000
set_option maxHeartbeats 8000000
/-! drawn layings whose parts each keep a whole side -/
namespace PU
open MP IR
variable {P : Prog}
structure KeP (P : Prog) : Prop where
  dr : DrP P
  st : StP P
  sides : P.fn 89 = some f_law_sides
  wholes : P.fn 111 = some f_law_wholes
  keep : P.fn 180 = some f_law_keeping
abbrev hasW (R : Rc) : Prop := (isW R || isH R) = true
theorem den_int {p : Rat} {k : Int} : (p + (k : Rat) - p).den = 1 := whole_den.mpr ⟨k, by grind⟩
/-- a drawn line in a part that keeps a whole side -/
structure Kd (p q : Rat) (M : Nat) (free : Bool) (x : Rat) (b : Nat) : Prop where
  h1 : p < x
  h2 : x < q
  b1 : 1 ≤ b
  b5 : b ≤ 5
  on : On (M * b) x
  st : free = false → (x - p).den = 1
theorem kd_draw (F : KeP P) {d n M : Nat} {T : Store} (t : Tin n T) (hn : n + 2 < 1000000000) {p q : Rat} (hp : On M p) (hq : On M q) (bp : Bd nearB nearB p) (bq : Bd nearB nearB q) (h : p < q) (free : Bool) :
    ∃ v T', callF P (d + 4) (if free then 88 else 133) [.cel 0, fr p, fr q] T = .ok v T' ∧ Tin (n + 2) T' ∧ (v = .non ∨ ∃ x b, v = fr x ∧ Kd p q M free x b) := by
  cases free with
  | true =>
    obtain ⟨x, b, T', e, h1, h2, b1, b5, o, t'⟩ := between F.dr (d := d) t hn hp hq bp bq h
    exact ⟨_, T', e, t', .inr ⟨x, b, rfl, h1, h2, b1, b5, o, fun z => by cases z⟩⟩
  | false =>
    rcases step_on F.st (d := d) t (by omega) bp bq with e | ⟨k, T', e, h1, h2, t'⟩
    · exact ⟨_, T, e, t.mono (by omega), .inl rfl⟩
    · exact ⟨_, T', e, t'.mono (by omega), .inr ⟨_, 1, rfl, h1, h2, by omega, by omega, (hp.up 1).add (On.int _ k), fun _ => den_int⟩⟩
theorem keep_turn (F : KeP P) {d n B m : Nat} {s1 s2 : SV} {x : PV} {T : Store} (t : Tin n T) (hn : n + 20 < 1000000000) {W : Rc} {Rs : List Rc} (h : Dr W B m Rs) (hk : ∀ R ∈ Rs, hasW R) (hB : 0 < B) (hB2 : B ≤ 1000000000) (hm : m ≤ 900) :
    ∃ Rs' T', turn ⟨callF P (d + 6), P.gl, P.fu⟩ (.nm 4) b_law_keeping_0 x [.va (.cel 0), s1, s2, .va (.lst (Rs.map rc)), .un, .un, .un, .un, .un, .un, .un, .un] T = .nx [.va (.cel 0), s1, s2, .va (.lst (Rs'.map rc)), .un, .un, .un, .un, .un, .un, .un, .un] T' ∧ Dr W (B * 5) (m + 1) Rs' ∧ (∀ R ∈ Rs', hasW R) ∧ Tin (n + 20) T' := by
  have lp := line_pos
  have hlen := h.len
  have hpos := h.pos
  obtain ⟨Mx, My, x0, y0, xB, yB, fit⟩ := h.ex
  obtain ⟨k, T1, e1, k1, k2, t1⟩ := take F.dr.take (d := d + 5) t (by omega) (b := Rs.length) (by omega) (by omega)
  obtain ⟨j, rfl⟩ : ∃ j : Nat, k = j := ⟨k.toNat, by omega⟩
  have hj : j < Rs.length := by omega
  obtain ⟨R, hR⟩ : ∃ R, R = Rs[j] := ⟨_, rfl⟩
  have mR : R ∈ Rs := hR ▸ List.getElem_mem hj
  have oR := h.lay.ok R mR
  have wR := hk R mR
  have fR := fit R (List.mem_cons_of_mem _ mR)
  have nR : RB nearB nearB R := fR.near x0 y0 (by show 30 * Mx ≤ 1000000000000; omega) (by show Mx ≤ 1000000000000; omega) (by show 30 * My ≤ 1000000000000; omega) (by show My ≤ 1000000000000; omega)
  have ir : index T1 (.lst (Rs.map rc)) (.int j) = some (rc R) := by
    show (ixn (Rs.map rc).length (j : Int)).bind (fun i => (Rs.map rc)[i]?) = _
    have : ixn (Rs.map rc).length (j : Int) = some j := by
      unfold ixn
      rw [if_pos (by omega), if_pos (by rw [List.length_map]; omega)]; rfl
    rw [this, Option.bind_some, List.getElem?_map, List.getElem?_eq_getElem hj, hR]; rfl
  have lay0 : Lay W (Rs.take j ++ R :: Rs.drop (j + 1)) := by rw [hR, List.getElem_cons_drop, List.take_append_drop]; exact h.lay
  have llen : (Rs.map rc).length = Rs.length := List.length_map ..
  have done : ∀ (N : List Rc) (a b : Nat), Lay R N → 0 < N.length → N.length ≤ 2 → 0 < a → 0 < b → a ≤ 5 → b ≤ 5 → (∀ S ∈ N, Fit (Mx * a) (My * b) 30 S) → (∀ S ∈ N, hasW S) → Dr W (B * 5) (m + 1) (Rs.take j ++ (N ++ Rs.drop (j + 1))) ∧ ∀ S ∈ Rs.take j ++ (N ++ Rs.drop (j + 1)), hasW S := fun N a b hN p1 p2 a0 b0 a1 b1 fN wN => ⟨{
    lay := lay0.cut hN
    ex := ⟨Mx * a, My * b, Nat.mul_pos x0 a0, Nat.mul_pos y0 b0, Nat.mul_le_mul xB a1, Nat.mul_le_mul yB b1, fun S hS => by
      rcases List.mem_cons.mp hS with rfl | hS
      · exact (fit _ List.mem_cons_self).up a b
      · rcases List.mem_append.mp hS with hS | hS
        · exact (fit S (List.mem_cons_of_mem _ (List.mem_of_mem_take hS))).up a b
        · rcases List.mem_append.mp hS with hS | hS
          · exact fN S hS
          · exact (fit S (List.mem_cons_of_mem _ (List.mem_of_mem_drop hS))).up a b⟩
    len := by simp only [List.length_append, List.length_take, List.length_drop]; omega
    pos := by simp only [List.length_append]; omega }, fun S hS => by
      rcases List.mem_append.mp hS with hS | hS
      · exact hk S (List.mem_of_mem_take hS)
      · rcases List.mem_append.mp hS with hS | hS
        · exact wN S hS
        · exact hk S (List.mem_of_mem_drop hS)⟩
  have same0 : Dr W (B * 5) (m + 1) Rs := ⟨h.lay, ⟨Mx, My, x0, y0, by omega, by omega, fit⟩, by omega, hpos⟩
  have e2 := law_wholes F.dr F.sides F.wholes (d + 1) nR.sz T1
  obtain ⟨w, T2, e3, w1, w2, t2⟩ := take F.dr.take (d := d + 5) t1 (by omega) (b := 2) (by decide) (by decide)
  have e2' := law_wholes F.dr F.sides F.wholes (d + 1) nR.sz T1
  have hw : w = 0 ∨ w = 1 := by omega
  rcases hw with rfl | rfl
  · obtain ⟨v, T3, e4, t3, hv⟩ := kd_draw F (d := d + 2) t2 (by omega) fR.l.on fR.r.on nR.1 nR.2.2.1 oR.1 (isH R)
    rcases hv with rfl | ⟨y, b, rfl, kd⟩
    · refine ⟨Rs, T3, ?_, same0, hk, t3.mono (by omega)⟩
      generalize isW R = u1 at *
      generalize isH R = u2 at *
      generalize Rs.map rc = L at *
      cases u2 <;> simp at e4 <;> simp [b_law_keeping_0, llen, e1, ir, e2, e3, rc_i0, rc_i2, e4, isNon]
    · have ty : Tm (Mx * b) 30 y := fR.l.mid fR.r kd.on kd.h1 kd.h2
      have es := split0 F.st.split (d + 5) R y T3
      obtain ⟨a, c, z1, z2, z3, z4, z5, z6⟩ := sl_parts Rs j hj [⟨R.l, R.b, y, R.t⟩, ⟨y, R.b, R.r, R.t⟩] T3 (by simp; omega)
      obtain ⟨D, K⟩ := done _ b 1 (lay_split0 oR kd.h1 kd.h2) (by simp) (by simp) kd.b1 (by decide) kd.b5 (by decide) (fun S hS => by
        have L := fR.l.up b
        have Rr := fR.r.up b
        have Bb := fR.b.up 1
        have Tt := fR.t.up 1
        simp at hS
        rcases hS with rfl | rfl <;> constructor <;> assumption) (fun S hS => by
        simp at hS
        unfold hasW at *
        cases hf : isH R with
        | true =>
          have q : (R.t - R.b).den = 1 := by simpa using hf
          rcases hS with rfl | rfl <;> (rw [Bool.or_eq_true]; right; exact decide_eq_true q)
        | false =>
          rw [hf, Bool.or_false] at wR
          have q : (R.r - R.l).den = 1 := by simpa using wR
          have q2 := kd.st hf
          rcases hS with rfl | rfl <;> (rw [Bool.or_eq_true]; left)
          · exact decide_eq_true q2
          · exact decide_eq_true (den_add q (den_sub q2)))
      refine ⟨_, T3, ?_, D, K, t3.mono (by omega)⟩
      rw [← z3]
      simp only [List.map_cons, List.map_nil] at z4 z5 z6 ⊢
      simp at z5 z6
      have w1 : a.length + 2 ≤ line := by omega
      have w2 : a.length + 2 + c.length ≤ line := by omega
      have nn : isNon (fr y) = false := rfl
      clear done D K kd wR hk
      generalize isW R = u1 at *
      generalize isH R = u2 at *
      generalize Rs.map rc = L at *
      cases u2 <;> simp at e4 <;> simp [b_law_keeping_0, llen, e1, ir, e2, e3, rc_i0, rc_i2, e4, nn, es, partV, isN, z1, z2, w1, w2]
  · obtain ⟨v, T3, e4, t3, hv⟩ := kd_draw F (d := d + 2) t2 (by omega) fR.b.on fR.t.on nR.2.1 nR.2.2.2 oR.2 (isW R)
    rcases hv with rfl | ⟨y, b, rfl, kd⟩
    · refine ⟨Rs, T3, ?_, same0, hk, t3.mono (by omega)⟩
      generalize isW R = u1 at *
      generalize isH R = u2 at *
      generalize Rs.map rc = L at *
      cases u1 <;> simp at e4 <;> simp [b_law_keeping_0, llen, e1, ir, e2, e3, rc_i1, rc_i3, e4, isNon]
    · have ty : Tm (My * b) 30 y := fR.b.mid fR.t kd.on kd.h1 kd.h2
      have es := split1 F.st.split (d + 5) R y T3
      obtain ⟨a, c, z1, z2, z3, z4, z5, z6⟩ := sl_parts Rs j hj [⟨R.l, R.b, R.r, y⟩, ⟨R.l, y, R.r, R.t⟩] T3 (by simp; omega)
      obtain ⟨D, K⟩ := done _ 1 b (lay_split1 oR kd.h1 kd.h2) (by simp) (by simp) (by decide) kd.b1 (by decide) kd.b5 (fun S hS => by
        have L := fR.l.up 1
        have Rr := fR.r.up 1
        have Bb := fR.b.up b
        have Tt := fR.t.up b
        simp at hS
        rcases hS with rfl | rfl <;> constructor <;> assumption) (fun S hS => by
        simp at hS
        unfold hasW at *
        cases hf : isW R with
        | true =>
          have q : (R.r - R.l).den = 1 := by simpa using hf
          rcases hS with rfl | rfl <;> (rw [Bool.or_eq_true]; left; exact decide_eq_true q)
        | false =>
          rw [hf, Bool.false_or] at wR
          have q : (R.t - R.b).den = 1 := by simpa using wR
          have q2 := kd.st hf
          rcases hS with rfl | rfl <;> (rw [Bool.or_eq_true]; right)
          · exact decide_eq_true q2
          · exact decide_eq_true (den_add q (den_sub q2)))
      refine ⟨_, T3, ?_, D, K, t3.mono (by omega)⟩
      rw [← z3]
      simp only [List.map_cons, List.map_nil] at z4 z5 z6 ⊢
      simp at z5 z6
      have w1 : a.length + 2 ≤ line := by omega
      have w2 : a.length + 2 + c.length ≤ line := by omega
      have nn : isNon (fr y) = false := rfl
      clear done D K kd wR hk
      generalize isW R = u1 at *
      generalize isH R = u2 at *
      generalize Rs.map rc = L at *
      cases u1 <;> simp at e4 <;> simp [b_law_keeping_0, llen, e1, ir, e2, e3, rc_i1, rc_i3, e4, nn, es, partV, isN, z1, z2, w1, w2]
theorem keep_loop (F : KeP P) {d : Nat} {s1 s2 : SV} {W : Rc} : ∀ (xs : List PV) {n B m : Nat} {Rs : List Rc} {T : Store}, Tin n T → n + 20 * xs.length < 1000000000 → Dr W B m Rs → (∀ R ∈ Rs, hasW R) → 0 < B → B * 5 ^ xs.length ≤ 1000000000 → m + xs.length ≤ 900 →
    ∃ Rs' T', loopS (turn ⟨callF P (d + 6), P.gl, P.fu⟩ (.nm 4) b_law_keeping_0) xs [.va (.cel 0), s1, s2, .va (.lst (Rs.map rc)), .un, .un, .un, .un, .un, .un, .un, .un] T = .nx [.va (.cel 0), s1, s2, .va (.lst (Rs'.map rc)), .un, .un, .un, .un, .un, .un, .un, .un] T' ∧ Dr W (B * 5 ^ xs.length) (m + xs.length) Rs' ∧ (∀ R ∈ Rs', hasW R) ∧ Tin (n + 20 * xs.length) T'
  | [], n, B, m, Rs, T, t, _, h, k, _, _, _ => ⟨Rs, T, rfl, by simpa using h, k, by simpa using t⟩
  | x :: xs, n, B, m, Rs, T, t, hn, h, k, hB, hB2, hm => by
    rw [List.length_cons] at *
    have e25 : B * 5 ^ (xs.length + 1) = B * 5 * 5 ^ xs.length := by rw [Nat.pow_succ, Nat.mul_comm (5 ^ xs.length), Nat.mul_assoc]
    have p1 : 1 ≤ 5 ^ xs.length := Nat.pow_pos (by decide)
    have p2 : B * 5 * 1 ≤ B * 5 * 5 ^ xs.length := Nat.mul_le_mul_left _ p1
    obtain ⟨Rs1, T1, e1, h1, k1, t1⟩ := keep_turn F (d := d) (s1 := s1) (s2 := s2) (x := x) t (by omega) h k hB (by omega) (by omega)
    obtain ⟨Rs2, T2, e2, h2, k2, t2⟩ := keep_loop F (d := d) (s1 := s1) (s2 := s2) xs t1 (by omega) h1 k1 (by omega) (by omega) (by omega)
    refine ⟨Rs2, T2, by rw [loopS_cons e1, e2], ?_, k2, t2.mono (by omega)⟩
    rw [e25, show m + (xs.length + 1) = m + 1 + xs.length from by omega]
    exact h2
theorem keeping (F : KeP P) {d n : Nat} {T : Store} (t : Tin n T) {W : Rc} {B k : Nat} {K : Int} (hK : K = k) (hB : 0 < B) (hk : B * 5 ^ k ≤ 1000000000) (hk2 : k ≤ 6) (h : Dr W B 1 [W]) (hW : hasW W) (hn : n + 200 < 1000000000) :
    ∃ Rs T', callF P (d + 7) 180 [.cel 0, rc W, .int K] T = .ok (.tup (Rs.map rc)) T' ∧ Dr W (B * 5 ^ k) (1 + k) Rs ∧ (∀ R ∈ Rs, hasW R) ∧ Tin (n + 150) T' := by
  have lk : (rng 0 K).length = k := by rw [rng_len]; omega
  have sk : smallR K = true := small_of (by omega) (by omega)
  obtain ⟨Rs, T1, e1, h1, w1, t1⟩ := keep_loop F (d := d) (s1 := .va (rc W)) (s2 := .va (.int K)) (rng 0 K) t (by rw [lk]; omega) h (fun R hR => by simp at hR; subst hR; exact hW) hB (by rw [lk]; exact hk) (by rw [lk]; omega)
  rw [lk] at h1 t1
  have l1 := h1.len
  obtain ⟨Ss, T2, e2, p2, t2⟩ := pick_all F.dr (d := d + 4) t1 (Rs := Rs) (by omega) (by omega)
  refine ⟨Ss, T2, ?_, h1.perm p2, fun R hR => w1 R (p2.mem_iff.mpr hR), t2.mono (by omega)⟩
  rw [callF_at F.keep rfl]
  have lR : (Rs.map rc).length = Rs.length := List.length_map ..
  generalize Rs.map rc = L at *
  simp only [List.map_cons, List.map_nil] at e1
  simp [f_law_keeping, startE, sk, e1, lR, e2]
end PU
end

section
set_option linter.all false
set_option autoImplicit false
set_option exponentiation.threshold 100000
set_option maxRecDepth 20000
set_option maxHeartbeats 8000000
/-! a drawn wheel whose parts each have a whole side -/
namespace PU
open MP IR
variable {P : Prog}
theorem add_int (q : Rat) (z : Int) : (q + (z : Rat)).num = q.num + z * q.den ∧ (q + (z : Rat)).den = q.den := by
  have c : (q.num + z * q.den).natAbs.Coprime q.den := by
    have r := q.reduced
    have e := Int.gcd_add_mul_right_left (q.den : Int) q.num z
    unfold Int.gcd at e
    rw [Int.natAbs_natCast] at e
    unfold Nat.Coprime at *
    rw [e]; exact r
  have d0 : (q.den : Int) ≠ 0 := by have := q.den_pos; omega
  have e : q + (z : Rat) = ⟨q.num + z * q.den, q.den, q.den_nz, c⟩ := by
    rw [Rat.mk_eq_divInt]
    have h := Rat.divInt_add_divInt q.num z (d₁ := q.den) (d₂ := 1) d0 (by decide)
    rw [Rat.num_divInt_den, divInt_int, Int.mul_one, Int.mul_one] at h
    exact h
  rw [e]
  exact ⟨rfl, rfl⟩
structure WlP (P : Prog) : Prop where
  ke : KeP P
  wheel : P.fn 104 = some f_law_wheel
  whd : P.fn 235 = some f_law_wheeled
theorem int_tm {M : Nat} {q : Rat} {z : Int} (o : On M q) (h1 : -30 ≤ q + (z : Rat)) (h2 : q + (z : Rat) ≤ 30) : Tm M 30 (q + (z : Rat)) := ⟨o.add (On.int M z), by simp; grind, by simp; grind⟩
theorem wheeled (F : WlP P) {d n : Nat} {T : Store} (t : Tin n T) (hn : n + 40 < 1000000000) :
    ∃ W Rs T', callF P (d + 4) 235 [.cel 0] T = .ok (.tup [rc W, .tup (Rs.map rc)]) T' ∧ Dr W 36 5 Rs ∧ (∀ R ∈ Rs, hasW R) ∧ Tin (n + 20) T' := by
  have D := F.ke.dr
  obtain ⟨v, u, T1, T2, e1, e2, e3, b1, t2⟩ := cut_draw D.fl D.take (D := d + 3) (by omega) t (by omega) 4 4 (c := 9) (m := 3) (by decide) (by decide) (by decide) (by decide) (fun v _ _ => by omega)
  obtain ⟨v', u', T3, T4, e4, e5, e6, b2, t4⟩ := cut_draw D.fl D.take (D := d + 3) (by omega) t2 (by omega) 4 4 (c := 9) (m := 3) (by decide) (by decide) (by decide) (by decide) (fun v _ _ => by omega)
  obtain ⟨a1, T5, f1, p1, p2, t5⟩ := take D.take (d := d + 2) t4 (by omega) (b := 4) (by decide) (by decide)
  have sm : (5 : Int).natAbs < 2 ^ 4000 := Nat.lt_of_lt_of_le (by decide : (5 : Int).natAbs < 2 ^ 3) (Nat.pow_le_pow_right (by decide) (by decide))
  have f2 := cut_ D.fl (d + 1) (1 + a1) 5 T5 (by decide) sm
  have bp : Bd 4 5 (Rat.divInt (1 + a1) 5) := divInt_bd (by decide) (by omega) (by decide)
  have pp := div_pos (show 0 < 1 + a1 by omega) (show (0 : Int) < 5 by decide)
  have pq := div_one (show 1 + a1 < 5 by omega) (show (0 : Int) < 5 by decide)
  have po : On 5 (Rat.divInt (1 + a1) 5) := on_div (1 + a1) (M := 5) (by decide)
  obtain ⟨a2, T6, g2, q1, q2, t6⟩ := take D.take (d := d + 2) t5 (by omega) (b := 3) (by decide) (by decide)
  obtain ⟨a3, T7, g3, q3, q4, t7⟩ := take D.take (d := d + 2) t6 (by omega) (b := 3) (by decide) (by decide)
  obtain ⟨a4, T8, g4, q5, q6, t8⟩ := take D.take (d := d + 2) t7 (by omega) (b := 3) (by decide) (by decide)
  obtain ⟨a5, T9, g5, q7, q8, t9⟩ := take D.take (d := d + 2) t8 (by omega) (b := 3) (by decide) (by decide)
  obtain ⟨a6, Ta, g6, q9, qa, ta⟩ := take D.take (d := d + 2) t9 (by omega) (b := 3) (by decide) (by decide)
  have b1 : Bd 4 3 (Rat.divInt (v - 4) (1 + u)) := b1
  have b2 : Bd 4 3 (Rat.divInt (v' - 4) (1 + u')) := b2
  generalize Rat.divInt (v - 4) (1 + u) = l at *
  generalize Rat.divInt (v' - 4) (1 + u') = b at *
  generalize Rat.divInt (1 + a1) 5 = p at *
  have sl : Sz l := b1.small (by decide) (by decide)
  have sb : Sz b := b2.small (by decide) (by decide)
  have sp : Sz p := bp.small (by decide) (by decide)
  have iz : ∀ z : Int, z.natAbs ≤ 1000 → Sz ((z : Int) : Rat) := fun z h => (int_bd z h).sz
  obtain ⟨n2, d2⟩ := add_int l (1 + a2)
  have ld := b1.2
  have ln := b1.1
  have lp := l.den_pos
  have m1 : (1 + a2) * 1 ≤ (1 + a2) * (l.den : Int) := Int.mul_le_mul_of_nonneg_left (by omega) (by omega)
  have m2 : (1 + a2) * (l.den : Int) ≤ 3 * 3 := Int.mul_le_mul (by omega) (by omega) (by omega) (by omega)
  have nb : -3 ≤ (l + ((1 + a2 : Int) : Rat)).num ∧ (l + ((1 + a2 : Int) : Rat)).num ≤ 13 := by rw [n2]; omega
  obtain ⟨N, hN⟩ : ∃ N : Int, N = 1 + (l + ((1 + a2 : Int) : Rat)).num + a3 + 9 := ⟨_, rfl⟩
  have N1 : 7 ≤ N := by omega
  have N2 : N ≤ 25 := by omega
  have lv := b1.val
  have bv := b2.val
  have i4 : ((4 : Nat) : Rat) = 4 := rfl
  rw [i4] at lv bv
  have cast : ∀ z : Int, ∀ lo hi : Int, lo ≤ z → z ≤ hi → (lo : Rat) ≤ (z : Rat) ∧ (z : Rat) ≤ (hi : Rat) := fun z lo hi h1 h2 => ⟨by exact_mod_cast h1, by exact_mod_cast h2⟩
  have cN := cast N 7 25 N1 N2
  have c2 := cast (1 + a2) 1 3 (by omega) (by omega)
  have c4 := cast (1 + a4) 1 3 (by omega) (by omega)
  have c5 := cast (1 + a5) 1 3 (by omega) (by omega)
  have c6 := cast (1 + a6) 1 3 (by omega) (by omega)
  have lits : ((7 : Int) : Rat) = 7 ∧ ((25 : Int) : Rat) = 25 ∧ ((1 : Int) : Rat) = 1 ∧ ((3 : Int) : Rat) = 3 := ⟨rfl, rfl, rfl, rfl⟩
  rw [lits.1, lits.2.1] at cN
  rw [lits.2.2.1, lits.2.2.2] at c2 c4 c5 c6
  have bz : ∀ z : Int, z.natAbs ≤ 30 → Bd 30 1 ((z : Int) : Rat) := fun z h => ⟨by rw [Rat.num_intCast]; exact h, by rw [Rat.den_intCast]; decide⟩
  have bx1 := add_bd b1 bp
  have by1 := add_bd b2 (bz (1 + a4) (by omega))
  have by2 := add_bd by1 (bz (1 + a5) (by omega))
  have r1 := law_plus D.fl D.plus d T5 sl sp
  have r2 := law_plus D.fl D.plus d T6 sl (iz (1 + a2) (by omega))
  have r3 := law_plus D.fl D.plus d T7 (bx1.small (by decide) (by decide)) (iz N (by omega))
  have r4 := law_plus D.fl D.plus d T8 sb (iz (1 + a4) (by omega))
  have r5 := law_plus D.fl D.plus d T9 (by1.small (by decide) (by decide)) (iz (1 + a5) (by omega))
  have r6 := law_plus D.fl D.plus d Ta (by2.small (by decide) (by decide)) (iz (1 + a6) (by omega))
  rw [fr_int] at r2 r3 r4 r5 r6
  rw [hN] at r3
  have i0 : index T6 (fr (l + ((1 + a2 : Int) : Rat))) (.int 0) = some (.int (l + ((1 + a2 : Int) : Rat)).num) := rfl
  generalize hx : (l + ((1 + a2 : Int) : Rat)).num = xn at *
  clear n2 m1 m2
  obtain ⟨x1, hx1⟩ : ∃ x1, x1 = l + p := ⟨_, rfl⟩
  obtain ⟨x2, hx2⟩ : ∃ x2, x2 = l + ((1 + a2 : Int) : Rat) := ⟨_, rfl⟩
  obtain ⟨xr, hxr⟩ : ∃ xr, xr = x1 + (N : Rat) := ⟨_, rfl⟩
  obtain ⟨y1, hy1⟩ : ∃ y1, y1 = b + ((1 + a4 : Int) : Rat) := ⟨_, rfl⟩
  obtain ⟨y2, hy2⟩ : ∃ y2, y2 = y1 + ((1 + a5 : Int) : Rat) := ⟨_, rfl⟩
  obtain ⟨yt, hyt⟩ : ∃ yt, yt = y2 + ((1 + a6 : Int) : Rat) := ⟨_, rfl⟩
  have oW : Rc.ok ⟨l, b, xr, yt⟩ := ⟨by show l < xr; grind, by show b < yt; grind⟩
  have lay := lay_wheel (R := ⟨l, b, xr, yt⟩) (x1 := x1) (x2 := x2) (y1 := y1) (y2 := y2) oW (by show l < x1; grind) (by grind) (by show x2 < xr; grind) (by show b < y1; grind) (by grind) (by show y2 < yt; grind)
  have ew := wheel F.wheel (d + 2) ⟨l, b, xr, yt⟩ x1 x2 y1 y2 Ta
  have ol : On (l.den * 5) l := (On.den l).up 5
  have ox1 : On (l.den * 5) x1 := by rw [hx1]; exact ol.add (by have := po.up l.den; rwa [Nat.mul_comm] at this)
  have ob := On.den b
  have bdp := b.den_pos
  have bdl := b2.2
  have Tl : Tm (l.den * 5) 30 l := ⟨ol, by simp; grind, by simp; grind⟩
  have Tx1 : Tm (l.den * 5) 30 x1 := ⟨ox1, by simp; grind, by simp; grind⟩
  have Tx2 : Tm (l.den * 5) 30 x2 := by rw [hx2]; exact int_tm ol (by grind) (by grind)
  have Txr : Tm (l.den * 5) 30 xr := by rw [hxr]; exact int_tm ox1 (by grind) (by grind)
  have Tb : Tm b.den 30 b := ⟨ob, by simp; grind, by simp; grind⟩
  have Ty1 : Tm b.den 30 y1 := by rw [hy1]; exact int_tm ob (by grind) (by grind)
  have Ty2 : Tm b.den 30 y2 := by rw [hy2]; exact int_tm Ty1.on (by grind) (by grind)
  have Tyt : Tm b.den 30 yt := by rw [hyt]; exact int_tm Ty2.on (by grind) (by grind)
  have dr0 : Dr ⟨l, b, xr, yt⟩ 36 5 [⟨l, b, x2, y1⟩, ⟨x2, b, xr, y2⟩, ⟨x1, y2, xr, yt⟩, ⟨l, y1, x1, yt⟩, ⟨x1, y1, x2, y2⟩] := {
    lay := lay
    ex := ⟨l.den * 5, b.den, by omega, by omega, by omega, by omega, fun R hR => by
      simp at hR
      rcases hR with rfl | rfl | rfl | rfl | rfl | rfl <;> constructor <;> assumption⟩
    len := by simp
    pos := by simp }
  have hw : ∀ R ∈ [(⟨l, b, x2, y1⟩ : Rc), ⟨x2, b, xr, y2⟩, ⟨x1, y2, xr, yt⟩, ⟨l, y1, x1, yt⟩, ⟨x1, y1, x2, y2⟩], hasW R := fun R hR => by
    have w1 : (x2 - l).den = 1 := by rw [hx2]; exact den_int
    have w2 : (y1 - b).den = 1 := by rw [hy1]; exact den_int
    have w3 : (y2 - y1).den = 1 := by rw [hy2]; exact den_int
    have w4 : (yt - y2).den = 1 := by rw [hyt]; exact den_int
    have w5 : (xr - x1).den = 1 := by rw [hxr]; exact den_int
    simp at hR
    unfold hasW
    rw [Bool.or_eq_true]
    rcases hR with rfl | rfl | rfl | rfl | rfl
    · exact .inl (decide_eq_true w1)
    · exact .inr (decide_eq_true (den_add w3 w2))
    · exact .inl (decide_eq_true w5)
    · exact .inr (decide_eq_true (den_add w4 w3))
    · exact .inr (decide_eq_true w3)
  obtain ⟨Ss, Tb', e9, pm, tb⟩ := pick_all D (d := d + 1) ta (Rs := [⟨l, b, x2, y1⟩, ⟨x2, b, xr, y2⟩, ⟨x1, y2, xr, yt⟩, ⟨l, y1, x1, yt⟩, ⟨x1, y1, x2, y2⟩]) (by simp; omega) (by simp)
  refine ⟨⟨l, b, xr, yt⟩, Ss, Tb', ?_, dr0.perm pm, fun R hR => hw R (pm.mem_iff.mpr hR), tb.mono (by simp)⟩
  simp only [List.map_cons, List.map_nil, List.length_cons, List.length_nil] at e9
  have e9' := e9
  simp at e9'
  rw [← hx2] at r2
  rw [← hx1] at r1 r3
  rw [← hN] at r3
  rw [← hxr] at r3
  rw [← hy1] at r4 r5
  rw [← hy2] at r5
  rw [← hy1, ← hy2] at r6
  rw [← hyt] at r6
  rw [← hx2] at i0 
  have rW : PV.tup [fr l, fr b, fr xr, fr yt] = rc ⟨l, b, xr, yt⟩ := rfl
  have nn : 1 + xn + a3 + 9 = N := hN.symm
  rw [callF_at F.whd rfl]
  simp [f_law_wheeled, startE, putAll, e1, e2, e3, e4, e5, e6, f1, f2, r1, g2, r2, i0, g3, nn, r3, g4, r4, g5, r5, g6, r6, rW, ew, e9']
end PU
end

section
set_option linter.all false
set_option autoImplicit false
set_option exponentiation.threshold 100000
set_option maxRecDepth 20000
set_option maxHeartbeats 8000000
/-! ties and walks: the law's own -/
namespace PU
open MP IR
variable {P : Prog}
structure LwP (P : Prog) : Prop where
  ke : KeP P
  ties : P.fn 233 = some f_law_ties
  goes : P.fn 295 = some f_law_goes
  wander : P.fn 305 = some f_law_wander
theorem ties_app : ∀ (k : Nat) (A B : List Rc), tiesL k (A ++ B) = tiesL k A ++ tiesL (k + A.length) B
  | _, [], _ => rfl
  | k, R :: A, B => by
    rw [List.cons_append, tiesL, tiesL, ties_app (k + 1) A B, List.append_assoc, List.length_cons, show k + 1 + A.length = k + (A.length + 1) from by omega]
theorem lties_loop (F : KeP P) {d : Nat} {Rs : List Rc} (hl : Rs.length ≤ 60) (s : ∀ R ∈ Rs, SzR R) {T : Store} : ∀ (B A : List Rc) (K : Int), Rs = A ++ B → K = A.length →
    loopS (turn ⟨callF P (d + 5), P.gl, P.fu⟩ (.tp (.cons (.nm 2) (.cons (.tp (.cons (.nm 3) (.cons (.nm 4) (.cons (.nm 5) (.cons (.nm 6) .nil))))) .nil))) b_law_ties_0) (enumF K (B.map rc)) [.va (.tup (Rs.map rc)), .ow ((tiesL 0 A).map tiv), .un, .un, .un, .un, .un, .un, .un, .un] T = .nx [.va (.tup (Rs.map rc)), .ow ((tiesL 0 Rs).map tiv), .un, .un, .un, .un, .un, .un, .un, .un] T
  | [], A, K, hA, hK => by rw [List.append_nil] at hA; subst hA; rfl
  | R :: B, A, K, hA, hK => by
    have lp := line_pos
    have ih := lties_loop F hl s (T := T) (d := d) B (A ++ [R]) (K + 1) (by rw [hA]; simp) (by rw [hK]; simp)
    have mR : R ∈ Rs := by rw [hA]; simp
    have e1 := law_wholes F.dr F.sides F.wholes d (s R mR) T
    have ir : index T (.tup (Rs.map rc)) (.int K) = some (rc R) := by
      rw [hK]
      exact at_nat T (by rw [hA, List.map_append, List.getElem?_append_right (by simp)]; simp)
    have la : (tiesL 0 A).length = 2 * A.length := ties_len 0 A
    have lA : A.length + 1 ≤ Rs.length := by rw [hA]; simp
    have ap : (tiesL 0 (A ++ [R])).map tiv = (tiesL 0 A).map tiv ++ (tiesR A.length R).map tiv := by
      rw [ties_app, List.map_append, Nat.zero_add, tiesL, tiesL, List.append_nil]
    have ll : ((tiesL 0 A).map tiv).length + 2 ≤ line := by rw [List.length_map]; omega
    rw [List.map_cons, enumF]
    refine (loopS_cons ?_).trans ih
    rw [ap]
    have two : ∀ a b : Pt, (PV.tup [.int K, ptv a, ptv b]) = tiv ⟨A.length, a, b⟩ := fun a b => by rw [hK]; rfl
    have pts : ∀ a b : Rat, PV.tup [fr a, fr b] = ptv ⟨a, b⟩ := fun _ _ => rfl
    have l2 : 2 ≤ line := by omega
    generalize (tiesL 0 A).map tiv = Z at *
    generalize Rs.map rc = X at *
    unfold tiesR
    by_cases w : isW R = true
    · rw [w] at e1
      rw [if_pos w]
      generalize isH R = iH at *
      have j0 : index T (.tup [.bl true, .bl iH]) (.int 0) = some (.bl true) := rfl
      simp [b_law_ties_0, ir, e1, j0, pts, loopC, compR, l2, two, ll, seqOf]
    · rw [eq_false_of_ne_true w] at e1
      rw [if_neg w]
      generalize isH R = iH at *
      have j0 : index T (.tup [.bl false, .bl iH]) (.int 0) = some (.bl false) := rfl
      simp [b_law_ties_0, ir, e1, j0, pts, loopC, compR, l2, two, ll, seqOf]
theorem law_ties (F : KeP P) (h : P.fn 233 = some f_law_ties) (d : Nat) {Rs : List Rc} (hl : Rs.length ≤ 60) (s : ∀ R ∈ Rs, SzR R) (T : Store) : callF P (d + 6) 233 [.tup (Rs.map rc)] T = .ok (.lst ((tiesL 0 Rs).map tiv)) T := by
  have e1 := lties_loop F hl s (T := T) (d := d) Rs [] 0 rfl rfl
  rw [callF_at h rfl]
  rw [show (tiesL 0 []).map tiv = [] from rfl] at e1
  generalize Rs.map rc = X at *
  simp [f_law_ties, startE, enum_zero, e1]
theorem law_goes (F : LwP P) (d : Nat) (t : Ti) (h : Pt) (T : Store) : callF P (d + 1) 295 [tiv t, ptv h] T = .ok (ptv (oth t h)) T := by
  have c1 := cmp_pt t.a h
  rw [callF_at F.goes rfl]
  unfold oth
  by_cases a : t.a = h
  · rw [decide_eq_true a] at c1
    rw [if_pos a]
    simp [-co_eq, f_law_goes, startE, ti_i1, ti_i2, c1]
  · rw [decide_eq_false a] at c1
    rw [if_neg a]
    simp [-co_eq, f_law_goes, startE, ti_i1, ti_i2, c1]
theorem in_tail (t : Ti) (h : Pt) : inop (ptv h) (.tup [ptv t.a, ptv t.b]) = some (atE t h) := by
  have e := inop_ptt h [t.a, t.b]
  rw [List.map_cons, List.map_cons, List.map_nil] at e
  rw [e]
  congr 1
  unfold atE
  rw [Bool.eq_iff_iff]
  simp only [decide_eq_true_eq, Bool.or_eq_true, List.mem_cons, List.not_mem_nil, or_false]
  exact ⟨fun k => k.imp Eq.symm Eq.symm, fun k => k.imp Eq.symm Eq.symm⟩
theorem good_row {f : PV → Store → Res (List PV)} {T : Store} (h : Pt) (ts : List Ti) (hl : ts.length ≤ line) (hf : ∀ t, inop (ptv h) (.tup [ptv t.a, ptv t.b]) = some (atE t h) → cutv (some 1) none (tiv t) = some (.tup [ptv t.a, ptv t.b]) → f (tiv t) T = if atE t h then .ok [tiv t] T else .ok [] T) : compR (loopC f (ts.map tiv) T) = .ok (.lst ((goods ts h).map tiv)) T := by
  rw [loopC_filt (fun t => atE t h) tiv ts fun t _ => hf t (in_tail t h) (by simp [tiv, cutv, cut, six]), compR_ok (by rw [List.length_map]; exact Nat.le_trans (List.length_filter_le _ _) hl)]
  rfl
/-- no tie is left -/
theorem wander_stop {d : Nat} {tn v : PV} {s1 s2 : SV} {Y : List PV} {T : Store} {ts : List Ti} {h : Pt} (hl : ts.length ≤ 200) (e : goods ts h = []) : turn ⟨callF P (d + 2), P.gl, P.fu⟩ (.nm 6) b_law_wander_0 v [.va tn, s1, s2, .va (.lst (ts.map tiv)), .va (ptv h), .ow Y, .un, .un, .un, .un] T = .bk [.va tn, s1, s2, .un, .un, .ow Y, .un, .un, .un, .un] T := by
  have lp := line_pos
  have lr : ∀ f : PV → Store → Res (List PV), _ := fun f hf => good_row (f := f) (T := T) h ts (by omega) hf
  rw [e] at lr
  generalize ts.map tiv = X at *
  simp [-co_eq, b_law_wander_0]
  rw [lr _ fun u hu hv => by
    generalize atE u h = z at *
    generalize tiv u = tu at *
    cases z <;> simp [partV, isN, hu, hv]]
  simp
theorem wander_step (F : LwP P) {d : Nat} {tn v : PV} {s1 s2 : SV} {Y : List PV} {T T' : Store} {ts : List Ti} {h : Pt} {t : Ti} (hl : ts.length ≤ 200) (hY : Y.length ≤ 1000) (m : t ∈ goods ts h)
    (ch : (tn = .non ∧ T' = T ∧ (goods ts h).head? = some t) ∨ (tn = .cel 0 ∧ callF P (d + 2) 10 [.cel 0, .lst ((goods ts h).map tiv)] T = .ok (tiv t) T')) :
    turn ⟨callF P (d + 2), P.gl, P.fu⟩ (.nm 6) b_law_wander_0 v [.va tn, s1, s2, .va (.lst (ts.map tiv)), .va (ptv h), .ow Y, .un, .un, .un, .un] T = .nx [.va tn, s1, s2, .va (.lst ((lessT ts t).map tiv)), .va (ptv (oth t h)), .ow (Y ++ [spv (t.k, oth t h)]), .un, .un, .un, .un] T' := by
  have lp := line_pos
  have lr : ∀ f : PV → Store → Res (List PV), _ := fun f hf => good_row (f := f) (T := T) h ts (by omega) hf
  have lr2 : ∀ f : PV → Store → Res (List PV), _ := fun f hf => less_row (f := f) (T := T') t ts (by omega) hf
  have e1 := law_goes F (d + 1) t h T'
  have c := eq_nil (g := tiv) (pln_ti 36) (goods ts h)
  have ne : (goods ts h).isEmpty = false := by
    cases e : goods ts h with
    | nil => rw [e] at m; cases m
    | cons a r => rfl
  rw [ne] at c
  have t0 := ti_i0 T' t
  have sp : PV.tup [.int (t.k : Nat), ptv (oth t h)] = spv (t.k, oth t h) := rfl
  have hY' : Y.length < line := by omega
  rw [← sp]
  have i0 : (goods ts h).head? = some t → index T (.lst ((goods ts h).map tiv)) (.int 0) = some (tiv t) := fun q => by
    cases e : goods ts h with
    | nil => rw [e] at m; cases m
    | cons a r =>
      rw [e] at q
      have : a = t := by simpa using q
      rw [this, List.map_cons]
      exact hd_i0 T _ _
  generalize ((t.k : Nat) : Int) = K at *
  generalize oth t h = g at *
  generalize hU : lessT ts t = U at *
  generalize hG : goods ts h = G at *
  generalize G.map tiv = GS at *
  generalize hX : ts.map tiv = X at *
  rcases ch with ⟨rfl, rfl, hd⟩ | ⟨rfl, e2⟩
  · have i0 := i0 hd
    simp [-co_eq, -co_ne, b_law_wander_0]
    rw [lr _ fun u hu hv => by
      generalize atE u h = z at *
      generalize tiv u = tu at *
      cases z <;> simp [partV, isN, hu, hv]]
    simp [-co_eq, -co_ne, c, isNon, i0]
    rw [lr2 _ fun u hu => by
      generalize decide (u ≠ t) = z at *
      cases z <;> simp [-co_ne, hu]]
    simp [e1, t0, hY']
  · have nn : isNon (.cel 0) = false := rfl
    simp [-co_eq, -co_ne, b_law_wander_0]
    rw [lr _ fun u hu hv => by
      generalize atE u h = z at *
      generalize tiv u = tu at *
      cases z <;> simp [partV, isN, hu, hv]]
    simp [-co_eq, -co_ne, c, nn, e2]
    rw [lr2 _ fun u hu => by
      generalize decide (u ≠ t) = z at *
      cases z <;> simp [-co_ne, hu]]
    simp [e1, t0, hY']
theorem wander_first (F : LwP P) {d : Nat} {s1 s2 : SV} {T : Store} {ts : List Ti} {h : Pt} {W : List Sp} (w : Wd true ts h W) : ∀ (xs : List PV) (done : List Sp), W.length < xs.length → ts.length ≤ 200 → done.length + W.length ≤ 1000 →
    loopS (turn ⟨callF P (d + 2), P.gl, P.fu⟩ (.nm 6) b_law_wander_0) xs [.va .non, s1, s2, .va (.lst (ts.map tiv)), .va (ptv h), .ow (done.map spv), .un, .un, .un, .un] T = .nx [.va .non, s1, s2, .un, .un, .ow ((done ++ W).map spv), .un, .un, .un, .un] T := by
  induction w with
  | @stop ts h e =>
    intro xs done hx hl hd
    match xs with
    | x :: xs => rw [loopS, wander_stop hl e, List.append_nil]
  | @step ts h t W m q w ih =>
    intro xs done hx hl hd
    match xs with
    | x :: xs =>
      rw [List.length_cons] at hx hd
      have := wander_step F (d := d) (v := x) (s1 := s1) (s2 := s2) (Y := done.map spv) (T := T) (T' := T) (tn := .non) hl (by rw [List.length_map]; omega) m (.inl ⟨rfl, rfl, q rfl⟩)
      rw [loopS_cons this]
      have ih := ih xs (done ++ [(t.k, oth t h)]) (by rw [List.length_cons] at hx; omega) (Nat.le_trans (List.length_filter_le _ _) hl) (by simp; omega)
      rw [List.map_append, List.map_cons, List.map_nil] at ih
      rw [ih, List.append_assoc]; rfl
theorem wander_any (F : LwP P) {d : Nat} {s1 s2 : SV} : ∀ (xs : List PV) {n : Nat} {T : Store} {ts : List Ti} {h : Pt} (done : List Sp), Tin n T → n + ts.length < 1000000000 → ts.length < xs.length → ts.length ≤ 200 → done.length + ts.length ≤ 1000 →
    ∃ W T', Wd false ts h W ∧ loopS (turn ⟨callF P (d + 2), P.gl, P.fu⟩ (.nm 6) b_law_wander_0) xs [.va (.cel 0), s1, s2, .va (.lst (ts.map tiv)), .va (ptv h), .ow (done.map spv), .un, .un, .un, .un] T = .nx [.va (.cel 0), s1, s2, .un, .un, .ow ((done ++ W).map spv), .un, .un, .un, .un] T' ∧ Tin (n + ts.length) T'
  | [], n, T, ts, h, done, t, hn, hx, hl, hd => by simp at hx
  | x :: xs, n, T, ts, h, done, t, hn, hx, hl, hd => by
    have lp := line_pos
    cases e : goods ts h with
    | nil => exact ⟨[], T, .stop e, by rw [loopS, wander_stop hl e, List.append_nil], t.mono (by omega)⟩
    | cons g r =>
      have gl : (goods ts h).length ≤ 200 := Nat.le_trans (List.length_filter_le _ _) hl
      obtain ⟨v, T1, e1, mv, t1⟩ := of_ F.ke.dr.take F.ke.dr.of_ (d := d) (g := .lst ((goods ts h).map tiv)) (xs := (goods ts h).map tiv) t (by omega) (.inl rfl) (by rw [e]; simp) (by rw [List.length_map]; omega)
      obtain ⟨u, mu, rfl⟩ := List.mem_map.mp mv
      have l1 := less_len (List.mem_filter.mp mu).1
      have st := wander_step F (d := d) (v := x) (s1 := s1) (s2 := s2) (Y := done.map spv) (T := T) (T' := T1) (tn := .cel 0) hl (by rw [List.length_map]; omega) mu (.inr ⟨rfl, e1⟩)
      obtain ⟨W, T2, w, e2, t2⟩ := wander_any F (d := d) (s1 := s1) (s2 := s2) xs (ts := lessT ts u) (h := oth u h) (done ++ [(u.k, oth u h)]) t1 (by omega) (by rw [List.length_cons] at hx; omega) (by omega) (by simp; omega)
      refine ⟨(u.k, oth u h) :: W, T2, .step mu (fun z => by cases z) w, ?_, t2.mono (by omega)⟩
      rw [loopS_cons st]
      rw [List.map_append, List.map_cons, List.map_nil] at e2
      rw [e2, List.append_assoc]; rfl
theorem wander0 (F : LwP P) (d : Nat) {W : Rc} {Rs : List Rc} (hl : Rs.length ≤ 60) (s : ∀ R ∈ Rs, SzR R) {V : List Sp} (w : Wd true (tiesL 0 Rs) (ll0 W) V) (T : Store) : callF P (d + 7) 305 [.non, rc W, .tup (Rs.map rc)] T = .ok (.tup (V.map spv)) T := by
  have e1 := law_ties F.ke F.ties d hl s T
  have tl := ties_len 0 Rs
  have wl := w.len
  have l4 : (rng 0 400).length = 400 := by rw [rng_len]; rfl
  have e2 := wander_first F (d := d + 4) (s1 := .va (rc W)) (s2 := .va (.tup (Rs.map rc))) (T := T) w (rng 0 400) [] (by rw [l4]; omega) (by omega) (by simp; omega)
  have s4 : smallR 400 = true := by decide
  have pl : PV.tup [fr W.l, fr W.b] = ptv (ll0 W) := rfl
  rw [List.nil_append, List.map_nil] at e2
  rw [callF_at F.wander rfl]
  generalize hRG : rng 0 400 = RG at *
  generalize V.map spv = Z at *
  generalize Rs.map rc = X at *
  generalize (tiesL 0 Rs).map tiv = ts at *
  simp [f_law_wander, startE, putAll, e1, rc_i0, rc_i1, pl, s4, hRG, e2]
theorem wander1 (F : LwP P) (d : Nat) {n : Nat} {T : Store} (t : Tin n T) (hn : n + 200 < 1000000000) {W : Rc} {Rs : List Rc} (hl : Rs.length ≤ 60) (s : ∀ R ∈ Rs, SzR R) : ∃ V T', Wd false (tiesL 0 Rs) (ll0 W) V ∧ callF P (d + 7) 305 [.cel 0, rc W, .tup (Rs.map rc)] T = .ok (.tup (V.map spv)) T' ∧ Tin (n + 120) T' := by
  have e1 := law_ties F.ke F.ties d hl s T
  have tl := ties_len 0 Rs
  have l4 : (rng 0 400).length = 400 := by rw [rng_len]; rfl
  obtain ⟨V, T', w, e2, t'⟩ := wander_any F (d := d + 4) (s1 := .va (rc W)) (s2 := .va (.tup (Rs.map rc))) (h := ll0 W) (ts := tiesL 0 Rs) (rng 0 400) [] t (by omega) (by rw [l4]; omega) (by omega) (by simp; omega)
  refine ⟨V, T', w, ?_, t'.mono (by omega)⟩
  have s4 : smallR 400 = true := by decide
  have pl : PV.tup [fr W.l, fr W.b] = ptv (ll0 W) := rfl
  rw [List.nil_append, List.map_nil] at e2
  rw [callF_at F.wander rfl]
  generalize hRG : rng 0 400 = RG at *
  generalize V.map spv = Z at *
  generalize Rs.map rc = X at *
  generalize (tiesL 0 Rs).map tiv = ts at *
  simp [f_law_wander, startE, putAll, e1, rc_i0, rc_i1, pl, s4, hRG, e2]
end PU
end

section
set_option linter.all false
set_option autoImplicit false
set_option maxRecDepth 20000
set_option maxHeartbeats 4000000
/-! ends of ties counted: plain -/
namespace PU
/-- how often a point is there -/
def cnt (p : Pt) (L : List Pt) : Nat := L.countP fun q => decide (q = p)
theorem cnt_app (p : Pt) (A B : List Pt) : cnt p (A ++ B) = cnt p A + cnt p B := List.countP_append
theorem cnt_corners (p : Pt) (R : Rc) : cnt p (corners R) = dgC p R := by
  unfold cnt corners dgC one
  simp only [List.countP_cons, List.countP_nil]
  omega
def pts (Rs : List Rc) : List Pt := Rs.flatMap corners
theorem cnt_pts (p : Pt) : ∀ Rs : List Rc, cnt p (pts Rs) = (Rs.map (dgC p)).sum
  | [] => rfl
  | R :: Rs => by
    show cnt p (corners R ++ pts Rs) = _
    rw [cnt_app, cnt_corners, cnt_pts p Rs, List.map_cons, List.sum_cons]
theorem pts_len : ∀ Rs : List Rc, (pts Rs).length = 4 * Rs.length
  | [] => rfl
  | R :: Rs => by
    show (corners R ++ pts Rs).length = _
    rw [List.length_append, pts_len Rs, List.length_cons]
    show 4 + _ = _
    omega
theorem cnt_pos {p : Pt} {L : List Pt} : 0 < cnt p L ↔ p ∈ L := by
  unfold cnt
  rw [List.countP_pos_iff]
  constructor
  · rintro ⟨q, hq, e⟩; have : q = p := by simpa using e
    exact this ▸ hq
  · intro h; exact ⟨p, h, by simp⟩
theorem dgT_at {t : Ti} (p : Pt) (ne : t.a ≠ t.b) : dgT p t = one (atE t p) := by
  unfold dgT atE
  by_cases a : t.a = p
  · have b : t.b ≠ p := fun e => ne (a.trans e.symm)
    simp [a, b, one]
  · simp [a, one]
theorem goods_len {p : Pt} : ∀ {L : List Ti}, (∀ t ∈ L, t.a ≠ t.b) → (goods L p).length = dg p L
  | [], _ => rfl
  | t :: L, h => by
    have ih := goods_len (p := p) (L := L) fun s hs => h s (List.mem_cons_of_mem _ hs)
    have e : dg p (t :: L) = dgT p t + dg p L := by unfold dg; rw [List.map_cons, List.sum_cons]
    have g : goods (t :: L) p = if atE t p then t :: goods L p else goods L p := by unfold goods; rw [List.filter_cons]
    rw [e, g, dgT_at p (h t List.mem_cons_self), ← ih]
    cases atE t p <;> simp [one]; omega
/-- ends at a point, told twice -/
theorem goods_cnt {Rs : List Rc} (h : ∀ R ∈ Rs, R.ok) (p : Pt) : (goods (tiesL 0 Rs) p).length = cnt p (pts Rs) := by
  rw [goods_len (ties_gd 0 h).ne, dg_ties, cnt_pts]
/-! ### unlike ones -/
def uq : List Pt → List Pt → List Pt
  | acc, [] => acc
  | acc, p :: ps => uq (if p ∈ acc then acc else acc ++ [p]) ps
theorem uq_mem {q : Pt} : ∀ (ps acc : List Pt), q ∈ uq acc ps ↔ q ∈ acc ∨ q ∈ ps
  | [], acc => by simp [uq]
  | p :: ps, acc => by
    rw [uq, uq_mem ps]
    by_cases h : p ∈ acc
    · rw [if_pos h]
      constructor
      · rintro (a | a)
        · exact .inl a
        · exact .inr (List.mem_cons_of_mem _ a)
      · rintro (a | a)
        · exact .inl a
        · rcases List.mem_cons.mp a with rfl | a
          · exact .inl h
          · exact .inr a
    · rw [if_neg h]
      simp [or_assoc]
theorem uq_nd : ∀ (ps acc : List Pt), acc.Nodup → (uq acc ps).Nodup
  | [], acc, h => h
  | p :: ps, acc, h => by
    rw [uq]
    refine uq_nd ps _ ?_
    split
    · exact h
    · rename_i n
      rw [List.nodup_append]
      exact ⟨h, by simp, fun a ha b hb e => by simp at hb; subst hb; subst e; exact n ha⟩
theorem uq_len : ∀ (ps acc : List Pt), (uq acc ps).length ≤ acc.length + ps.length
  | [], acc => by simp [uq]
  | p :: ps, acc => by
    rw [uq]
    have := uq_len ps (if p ∈ acc then acc else acc ++ [p])
    have l : (if p ∈ acc then acc else acc ++ [p]).length ≤ acc.length + 1 := by split <;> simp
    rw [List.length_cons]
    omega
theorem sum_add {α : Type} (f g : α → Nat) : ∀ L : List α, (L.map fun x => f x + g x).sum = (L.map f).sum + (L.map g).sum
  | [] => rfl
  | x :: L => by simp only [List.map_cons, List.sum_cons]; rw [sum_add f g L]; omega
theorem one_sum {p : Pt} : ∀ {U : List Pt}, U.Nodup → p ∈ U → (U.map fun u => one (decide (p = u))).sum = 1
  | [], _, h => by cases h
  | u :: U, nd, h => by
    obtain ⟨n1, n2⟩ := List.nodup_cons.mp nd
    rw [List.map_cons, List.sum_cons]
    by_cases e : p = u
    · subst e
      have z : (U.map fun u => one (decide (p = u))).sum = 0 := sum_zero fun n hn => by
        obtain ⟨v, hv, rfl⟩ := List.mem_map.mp hn
        have : p ≠ v := fun e => n1 (e ▸ hv)
        simp [one, this]
      rw [z]; simp [one]
    · rw [one_sum n2 (by rcases List.mem_cons.mp h with h | h; exact absurd h e; exact h)]
      simp [one, e]
theorem sum_cnt {U : List Pt} (nd : U.Nodup) : ∀ (ps : List Pt), (∀ p ∈ ps, p ∈ U) → (U.map fun u => cnt u ps).sum = ps.length
  | [], _ => sum_zero fun n hn => by
    obtain ⟨v, _, rfl⟩ := List.mem_map.mp hn
    rfl
  | p :: ps, h => by
    have e : ∀ u, cnt u (p :: ps) = cnt u ps + one (decide (p = u)) := fun u => by unfold cnt one; rw [List.countP_cons]
    simp only [e]
    rw [sum_add, sum_cnt nd ps fun q hq => h q (List.mem_cons_of_mem _ hq), one_sum nd (h p List.mem_cons_self), List.length_cons]
/-! ### one, two or four -/
theorem g_le {g : Rc → Bool} (hg : ∀ A B : Rc, A.ok → B.ok → g A = true → g B = true → ¬ Dis A B) : ∀ {Rs : List Rc}, (∀ R ∈ Rs, R.ok) → Rs.Pairwise Dis → (Rs.map fun R => one (g R)).sum ≤ 1
  | [], _, _ => by simp
  | R :: Rs, h, d => by
    obtain ⟨d1, d2⟩ := List.pairwise_cons.mp d
    have ih := g_le hg (Rs := Rs) (fun S hS => h S (List.mem_cons_of_mem _ hS)) d2
    rw [List.map_cons, List.sum_cons]
    by_cases hR : g R = true
    · have z : (Rs.map fun R => one (g R)).sum = 0 := sum_zero fun n hn => by
        obtain ⟨S, hS, rfl⟩ := List.mem_map.mp hn
        by_cases q : g S = true
        · exact absurd (d1 S hS) (hg R S (h R List.mem_cons_self) (h S (List.mem_cons_of_mem _ hS)) hR q)
        · rw [eq_false_of_ne_true q]; rfl
      rw [z, hR]; decide
    · rw [eq_false_of_ne_true hR]
      have : one false = 0 := rfl
      omega
theorem four {Rs : List Rc} (h : ∀ R ∈ Rs, R.ok) (d : Rs.Pairwise Dis) (p : Pt) : (Rs.map (dgC p)).sum ≤ 4 := by
  have e : (Rs.map (dgC p)).sum = (Rs.map fun R => one (decide ((⟨R.l, R.b⟩ : Pt) = p))).sum + (Rs.map fun R => one (decide ((⟨R.r, R.b⟩ : Pt) = p))).sum + (Rs.map fun R => one (decide ((⟨R.l, R.t⟩ : Pt) = p))).sum + (Rs.map fun R => one (decide ((⟨R.r, R.t⟩ : Pt) = p))).sum := by
    rw [← sum_add, ← sum_add, ← sum_add]; rfl
  rw [e]
  have key : ∀ (f : Rc → Pt), (∀ A B : Rc, A.ok → B.ok → f A = p → f B = p → ¬ Dis A B) → (Rs.map fun R => one (decide (f R = p))).sum ≤ 1 := fun f hf => g_le (g := fun R => decide (f R = p)) (fun A B a b x y => hf A B a b (by simpa using x) (by simpa using y)) h d
  have k1 := key (fun R => ⟨R.l, R.b⟩) fun A B a b x y => by
    have := congrArg Pt.x x; have := congrArg Pt.y x; have := congrArg Pt.x y; have := congrArg Pt.y y
    unfold Dis Rc.ok at *; grind
  have k2 := key (fun R => ⟨R.r, R.b⟩) fun A B a b x y => by
    have := congrArg Pt.x x; have := congrArg Pt.y x; have := congrArg Pt.x y; have := congrArg Pt.y y
    unfold Dis Rc.ok at *; grind
  have k3 := key (fun R => ⟨R.l, R.t⟩) fun A B a b x y => by
    have := congrArg Pt.x x; have := congrArg Pt.y x; have := congrArg Pt.x y; have := congrArg Pt.y y
    unfold Dis Rc.ok at *; grind
  have k4 := key (fun R => ⟨R.r, R.t⟩) fun A B a b x y => by
    have := congrArg Pt.x x; have := congrArg Pt.y x; have := congrArg Pt.x y; have := congrArg Pt.y y
    unfold Dis Rc.ok at *; grind
  omega
theorem corners_mem {W : Rc} {p : Pt} : p ∈ corners W ↔ 0 < dgC p W := by rw [← cnt_corners, cnt_pos]
/-- the law of the counts -/
theorem cnt_law {W : Rc} {Rs : List Rc} (h : Lay W Rs) (o : W.ok) {p : Pt} (m : p ∈ pts Rs) : (p ∈ corners W → cnt p (pts Rs) = 1) ∧ (p ∉ corners W → cnt p (pts Rs) = 2 ∨ cnt p (pts Rs) = 4) := by
  obtain ⟨a, b⟩ := ends_at h o p
  rw [dg_ties, ← cnt_pts] at a b
  have c := four h.ok h.dis p
  rw [← cnt_pts] at c
  have e := cnt_pos.mpr m
  rw [corners_mem]
  refine ⟨a, fun n => ?_⟩
  have := b (by omega)
  omega
end PU
end

section
set_option linter.all false
set_option autoImplicit false
set_option exponentiation.threshold 100000
set_option maxRecDepth 20000
set_option maxHeartbeats 8000000
/-! ties told: the program's doors -/
namespace PU
open MP IR
variable {P : Prog}
structure TdP (P : Prog) : Prop where
  wa : WaB P
  suref : P.fn 70 = some f_sure_fraction
  surept : P.fn 166 = some f_sure_point
  nearp : P.fn 13 = some f_are_near_parts
  surep : P.fn 55 = some f_sure_parts
  gl1 : P.gl 1 = some (.int 60)
  fwo : P.fn 193 = some f_first_without
  ties : P.fn 279 = some f_ties
  tiesat : P.fn 280 = some f_ties_at
theorem sure_ptB (L : TdP P) (d : Nat) {x y : Rat} (hx : Bd nearB nearB x) (hy : Bd nearB nearB y) {w : PV} {n : Nat} (hw : Mx n (pt x y) w) (hn : n ≤ 4) (T : Store) : callF P (d + 6) 166 [w] T = .ok (pt x y) T := by
  have F := L.wa.fi.wh.la.re.fr
  have e1 := tupled F.tupled 4 w (dat_up hn hw.dat) d T
  rw [hw.tp, tp_pt] at e1
  have e2 := is_long F.long (d + 4) [fr x, fr y] 2 T
  have e3 := sure_fraction F L.suref hx (mx_fr x) (by decide) d T
  have e4 := sure_fraction F L.suref hy (mx_fr y) (by decide) d T
  have e2' : callF P (d + 5) 8 [pt x y, .int 2] T = .ok (.bl true) T := e2
  rw [callF_at L.surept rfl]
  simp [f_sure_point, startE, e1, e2', pt_i0, pt_i1, e3, e4]
  rfl
/-- parts that fit -/
structure Pts (Rs : List Rc) : Prop where
  near : ∀ R ∈ Rs, RB nearB nearB R ∧ R.ok
  len : Rs.length ≤ 60
  pos : 0 < Rs.length
theorem first_ok (L : TdP P) (d : Nat) {Rs : List Rc} (s : Pts Rs) (hs : ∀ R ∈ Rs, hasW R) {u : PV} {m : Nat} (hu : Mx m (.tup (Rs.map rc)) u) (hm : m ≤ 5) (T : Store) : callF P (d + 8) 193 [u] T = .ex ⟨1, []⟩ T := by
  have e1 := sure_parts L.wa.fi.wh.la.re L.nearp L.surep L.gl1 s.pos s.len s.near hu hm d T
  have e2 := first_in L.wa.fi d (fun R hR => (s.near R hR).1.sz) T
  rw [idxs_none fun R hR => by unfold noW; rw [hs R hR]; rfl] at e2
  rw [callF_at L.fwo rfl]
  generalize Rs.map rc = X at *
  simp [f_first_without, startE, e1, e2, isNon]
theorem first_no (L : TdP P) (d : Nat) {Rs : List Rc} (s : Pts Rs) {i : Int} (hi : (idxs noW Rs 0).head? = some i) {u : PV} {m : Nat} (hu : Mx m (.tup (Rs.map rc)) u) (hm : m ≤ 5) (T : Store) : callF P (d + 8) 193 [u] T = .ok (.int i) T := by
  have e1 := sure_parts L.wa.fi.wh.la.re L.nearp L.surep L.gl1 s.pos s.len s.near hu hm d T
  have e2 := first_in L.wa.fi d (fun R hR => (s.near R hR).1.sz) T
  rw [hi] at e2
  rw [callF_at L.fwo rfl]
  generalize Rs.map rc = X at *
  simp [f_first_without, startE, e1, e2, isNon]
theorem ties_ok (L : TdP P) (d : Nat) {Rs : List Rc} (s : Pts Rs) (hs : ∀ R ∈ Rs, hasW R) {u : PV} {m : Nat} (hu : Mx m (.tup (Rs.map rc)) u) (hm : m ≤ 5) (T : Store) : callF P (d + 8) 279 [u] T = .ok (.tup ((tiesL 0 Rs).map tiv)) T := by
  have e1 := sure_parts L.wa.fi.wh.la.re L.nearp L.surep L.gl1 s.pos s.len s.near hu hm d T
  have e2 := first_in L.wa.fi d (fun R hR => (s.near R hR).1.sz) T
  have e3 := all_ties L.wa d (fun R hR => (s.near R hR).1.sz) s.len T
  rw [idxs_none fun R hR => by unfold noW; rw [hs R hR]; rfl] at e2
  rw [callF_at L.ties rfl]
  generalize Rs.map rc = X at *
  generalize (tiesL 0 Rs).map tiv = Z at *
  simp [f_ties, startE, e1, e2, e3, isNon]
theorem ties_no (L : TdP P) (d : Nat) {Rs : List Rc} (s : Pts Rs) {i : Int} (hi : (idxs noW Rs 0).head? = some i) {u : PV} {m : Nat} (hu : Mx m (.tup (Rs.map rc)) u) (hm : m ≤ 5) (T : Store) : callF P (d + 8) 279 [u] T = .ex ⟨1, []⟩ T := by
  have e1 := sure_parts L.wa.fi.wh.la.re L.nearp L.surep L.gl1 s.pos s.len s.near hu hm d T
  have e2 := first_in L.wa.fi d (fun R hR => (s.near R hR).1.sz) T
  rw [hi] at e2
  rw [callF_at L.ties rfl]
  generalize Rs.map rc = X at *
  simp [f_ties, startE, e1, e2, isNon]
theorem at_ok (L : TdP P) (d : Nat) {Rs : List Rc} (s : Pts Rs) (hs : ∀ R ∈ Rs, hasW R) {u : PV} {m : Nat} (hu : Mx m (.tup (Rs.map rc)) u) (hm : m ≤ 5) {p : Pt} (hx : Bd nearB nearB p.x) (hy : Bd nearB nearB p.y) {w : PV} {n : Nat} (hw : Mx n (ptv p) w) (hn : n ≤ 4) (T : Store) : callF P (d + 8) 280 [u, w] T = .ok (.int (cnt p (PU.pts Rs) : Nat)) T := by
  have lp := line_pos
  have e1 := sure_parts L.wa.fi.wh.la.re L.nearp L.surep L.gl1 s.pos s.len s.near hu hm d T
  have e2 := first_in L.wa.fi d (fun R hR => (s.near R hR).1.sz) T
  have e3 := all_ties L.wa d (fun R hR => (s.near R hR).1.sz) s.len T
  have e4 := sure_ptB L (d + 1) hx hy hw hn T
  have e4' : callF P (d + 7) 166 [w] T = .ok (ptv p) T := e4
  have ln := s.len
  have tl := ties_len 0 Rs
  have e5 : ∀ f : PV → Store → Res (List PV), _ := fun f hf => goods_row L.wa (f := f) (T := T) (d + 6) p (tiesL 0 Rs) (by omega) hf
  have gl : bi .len [.lst ((goods (tiesL 0 Rs) p).map tiv)] = some (.int (cnt p (PU.pts Rs) : Nat)) := by
    rw [bi_lenl, List.length_map, goods_cnt fun R hR => (s.near R hR).2]
  rw [idxs_none fun R hR => by unfold noW; rw [hs R hR]; rfl] at e2
  rw [callF_at L.tiesat rfl]
  generalize ((cnt p (PU.pts Rs) : Nat) : Int) = C at *
  generalize Rs.map rc = X at *
  generalize hG : (goods (tiesL 0 Rs) p).map tiv = G at *
  generalize (tiesL 0 Rs).map tiv = Z at *
  simp [-bi_lenl, f_ties_at, startE, e1, e2, e3, e4', isNon]
  rw [e5 _ fun u hu hv => by
    generalize atE u p = z at *
    generalize opt (oe u p) = y at *
    cases z <;> simp [hu, hv]]
  simp [-bi_lenl, gl]
theorem at_no (L : TdP P) (d : Nat) {Rs : List Rc} (s : Pts Rs) {i : Int} (hi : (idxs noW Rs 0).head? = some i) {u : PV} {m : Nat} (hu : Mx m (.tup (Rs.map rc)) u) (hm : m ≤ 5) {p : Pt} (hx : Bd nearB nearB p.x) (hy : Bd nearB nearB p.y) {w : PV} {n : Nat} (hw : Mx n (ptv p) w) (hn : n ≤ 4) (T : Store) : callF P (d + 8) 280 [u, w] T = .ex ⟨1, []⟩ T := by
  have e1 := sure_parts L.wa.fi.wh.la.re L.nearp L.surep L.gl1 s.pos s.len s.near hu hm d T
  have e2 := first_in L.wa.fi d (fun R hR => (s.near R hR).1.sz) T
  rw [hi] at e2
  have e4 := sure_ptB L (d + 1) hx hy hw hn T
  have e4' : callF P (d + 7) 166 [w] T = .ok (ptv p) T := e4
  rw [callF_at L.tiesat rfl]
  generalize Rs.map rc = X at *
  simp [f_ties_at, startE, e1, e2, e4', isNon]
end PU
end

section
set_option linter.all false
set_option autoImplicit false
set_option exponentiation.threshold 100000
set_option maxRecDepth 20000
set_option maxHeartbeats 8000000
/-! law k04: one trial, its start -/
namespace PU04
open MP IR PU L04
theorem F0 : FrB P := ⟨rfl, h_is_number, h_is_long, h_are_numbers, h_tupled, h_common, h_lowest, h_less, h_is_under, h_is_fraction_in, h_is_near_fraction, rfl⟩
theorem G0 : FrL P := ⟨h_law_gcd, h_law_cut⟩
theorem R0 : RpB P := ⟨F0, h_is_rectangle_in, h_is_near_rectangle⟩
theorem D0 : DoP P := ⟨h_law_call, h_law_slip, h_law_unmarked, h_law_heard⟩
theorem Dr0 : DrP P := ⟨G0, h_law_take, h_law_of, h_law_pick, h_law_plus, h_law_less, h_law_by, h_law_between⟩
theorem Wh0 : WhB P := ⟨⟨R0, h_sides_of⟩, h_is_whole_in, h_sides_in, h_has_whole_in⟩
theorem St0 : StP P := ⟨Dr0, h_law_under, h_law_step_on, h_law_split⟩
theorem Fi0 : FiB P := ⟨Wh0, h_first_without_in⟩
theorem Wa0 : WaB P := ⟨Fi0, h_ties_in, h_all_ties, h_other_end⟩
theorem Td0 : TdP P := ⟨Wa0, h_sure_fraction, h_sure_point, h_are_near_parts, h_sure_parts, rfl, h_first_without, h_ties, h_ties_at⟩
theorem Ke0 : KeP P := ⟨Dr0, St0, h_law_sides, h_law_wholes, h_law_keeping⟩
theorem Wl0 : WlP P := ⟨Ke0, h_law_wheel, h_law_wheeled⟩
abbrev C14 (d : Nat) : Ctx := ⟨callF P (d + 14), P.gl, P.fu⟩
/-- a drawn laying -/
structure Dn (W : Rc) (Rs : List Rc) : Prop where
  dr : Dr W 562500 7 Rs
  ok : W.ok
  hw : ∀ R ∈ Rs, hasW R
theorem dr_up {W : Rc} {B n B' n' : Nat} {Rs : List Rc} (h : Dr W B n Rs) (hB : B ≤ B') (hn : n ≤ n') : Dr W B' n' Rs := ⟨h.lay, by
  obtain ⟨Mx, My, a, b, c, d, e⟩ := h.ex
  exact ⟨Mx, My, a, b, by omega, by omega, e⟩, by have := h.len; omega, h.pos⟩
theorem dr_okW {W : Rc} {B n : Nat} {Rs : List Rc} (h : Dr W B n Rs) : W.ok := by
  obtain ⟨R, hR⟩ : ∃ R, R ∈ Rs := by
    have := h.pos
    cases Rs with
    | nil => simp at this
    | cons R Rs => exact ⟨R, List.mem_cons_self⟩
  have a := h.lay.inn R hR
  have b := h.lay.ok R hR
  unfold PU.Sub at a
  unfold Rc.ok at *
  grind
theorem Dn.pts {W : Rc} {Rs : List Rc} (h : Dn W Rs) : Pts Rs := by
  have sm := h.dr.sm (by decide) (by decide)
  exact ⟨fun R hR => ⟨sm.near R (List.mem_cons_of_mem _ hR), h.dr.lay.ok R hR⟩, sm.len, sm.pos⟩
theorem draw (d n : Nat) (T : Store) (t : Tin n T) (hn : n + 400 < 1000000000) : ∃ (W : Rc) (Rs : List Rc) (T4 : Store), execs (C14 d) (startE 23 [.cel 0]) T (takeS 1 f_law_right.body) = .nx [.va (.cel 0), .va (rc W), .va (.tup (Rs.map rc)), .un, .un, .un, .un, .un, .un, .un, .un, .un, .un, .un, .un, .un, .un, .un, .un, .un, .un, .un, .un] T4 ∧ Dn W Rs ∧ Tin (n + 200) T4 := by
  obtain ⟨m, T1, e1, m1, m2, t1⟩ := take (P := P) h_law_take (d := d + 13) t (by omega) (b := 3) (by decide) (by decide)
  by_cases hm : m = 0
  · subst hm
    obtain ⟨W, Rs, T2, e2, hD, hW, t2⟩ := wheeled Wl0 (d := d + 10) t1 (by omega)
    refine ⟨W, Rs, T2, ?_, ⟨dr_up hD (by decide) (by decide), dr_okW hD, hW⟩, t2.mono (by omega)⟩
    generalize Rs.map rc = X at *
    simp [f_law_right, takeS, startE, e1, e2]
  · obtain ⟨a, T2, e2, a1, a2, t2⟩ := take (P := P) h_law_take (d := d + 13) t1 (by omega) (b := 2) (by decide) (by decide)
    obtain ⟨W, T3, e3, hW, t3⟩ := law_start Dr0 h_law_start (d := d + 10) t2 (by omega) a (by omega) (by omega)
    obtain ⟨q, T4, e4, q1, q2, t4⟩ := take (P := P) h_law_take (d := d + 13) t3 (by omega) (b := 7) (by decide) (by decide)
    obtain ⟨j, hj⟩ : ∃ j : Nat, q = j := ⟨q.toNat, by omega⟩
    have j6 : j ≤ 6 := by omega
    have p5 : 5 ^ j ≤ 5 ^ 6 := Nat.pow_le_pow_right (by decide) j6
    have wW : hasW W := by
      unfold hasW
      rw [Bool.or_eq_true]
      have ha : a = 0 ∨ a = 1 := by omega
      rcases ha with rfl | rfl
      · exact .inl (decide_eq_true (hW.k0 rfl))
      · exact .inr (decide_eq_true (hW.k1 rfl))
    obtain ⟨Rs, T5, e5, hD, hR, t5⟩ := keeping Ke0 (d := d + 7) t4 hj (B := 36) (by decide) (Nat.le_trans (Nat.mul_le_mul_left 36 p5) (by decide)) j6 hW.dr wW (by omega)
    refine ⟨W, Rs, T5, ?_, ⟨dr_up hD (Nat.mul_le_mul_left 36 p5) (by omega), dr_okW hD, hR⟩, t5.mono (by omega)⟩
    generalize Rs.map rc = X at *
    have hm' : (m == 0) = false := by simpa using hm
    simp [f_law_right, takeS, startE, e1, hm', e2, e3, e4, e5]
theorem dat_cn (n : Nat) : dat n (.str (PySem.Str.ofString "can not")) = true := by
  cases n with
  | zero => decide +kernel
  | succ n => show (PySem.Str.ofString "can not").cps.all (· < 1114112) = true; decide +kernel
theorem dat_pv (n : Nat) (p : Pt) : dat (n + 2) (ptv p) = true := dat_pt n p.x p.y
theorem dat_tiv (n : Nat) (t : Ti) : dat (n + 3) (tiv t) = true := by
  unfold tiv
  have a := dat_pv n t.a
  have b := dat_pv n t.b
  simp [a, b]; decide
theorem dat_ts (L : List Ti) (h : L.length ≤ 1000) (n : Nat) : dat (n + 4) (.tup (L.map tiv)) = true := by
  have lp := line_pos
  rw [dat_tup, Bool.and_eq_true, List.all_eq_true]
  refine ⟨by simp; omega, fun v hv => ?_⟩
  obtain ⟨s, _, rfl⟩ := List.mem_map.mp hv
  exact dat_tiv n s
theorem rws_rcs (Rs : List Rc) : rws (.tup (Rs.map rc)) = 5 * Rs.length + 1 := by
  rw [rws_tup, List.map_map]
  have : ∀ L : List Rc, (L.map (rws ∘ rc)).sum = 5 * L.length := fun L => by
    induction L with
    | nil => rfl
    | cons R L ih => rw [List.map_cons, List.sum_cons, ih, List.length_cons]; show rws (rc R) + _ = _; rw [rws_rc]; omega
  rw [this]
theorem partA (d n : Nat) (T : Store) (t : Tin n T) (hn : n + 50 < 1000000000) {W : Rc} {Rs : List Rc} (h : Dn W Rs) : ∃ (v3 : SV) (T' : Store), execs (C14 d) [.va (.cel 0), .va (rc W), .va (.tup (Rs.map rc)), .un, .un, .un, .un, .un, .un, .un, .un, .un, .un, .un, .un, .un, .un, .un, .un, .un, .un, .un, .un] T (takeS 4 (dropS 1 f_law_right.body)) =
    .nx [.va (.cel 0), .va (rc W), .va (.tup (Rs.map rc)), v3, .va (fr W.l), .va (fr W.b), .va (fr W.r), .va (fr W.t), .va (.lst ((corners W).map ptv)), .un, .un, .un, .un, .un, .un, .un, .un, .un, .un, .un, .un, .un, .un] T' ∧ Tin (n + 40) T' := by
  have lp := line_pos
  have sp := h.pts
  have hl := h.dr.len
  have e1 := law_ties Ke0 h_law_ties (d + 8) sp.len (fun R hR => (sp.near R hR).1.sz) T
  obtain ⟨w, T1, e2, kw, t1⟩ := mixed (P := P) h_law_take h_law_mixed 3 (.tup (Rs.map rc)) (dat_rcs Rs (by omega) 0) (d + 9) _ T t (by rw [rws_rcs]; omega)
  rw [rws_rcs] at t1
  have e3 := ties_ok Td0 (d + 6) sp h.hw kw (by decide) T1
  have mP : Mx 3 (.tup (Rs.map rc)) (.tup (Rs.map rc)) := mx_self (dat_rcs Rs (by omega) 0)
  have e4 := heard_ex D0 (d + 11) 193 1 (.tup [.tup (Rs.map rc)]) [.tup (Rs.map rc)] T1 (.inl rfl) (by simp) (by simp) (by decide) (first_ok Td0 (d + 3) sp h.hw mP (by decide) T1)
  rw [show word 1 = PySem.Str.ofString "can not" from rfl] at e4
  have hd := dat_ts (tiesL 0 Rs) (by have := ties_len 0 Rs; omega) 0
  have e5 := same (P := P) h_law_same 5 (.lst [.tup ((tiesL 0 Rs).map tiv), .lst [.str (PySem.Str.ofString "can not"), .bl true]]) (by
    have h2 : dat 4 (.lst [.str (PySem.Str.ofString "can not"), .bl true]) = true := by
      rw [dat_lst, Bool.and_eq_true]
      refine ⟨by simp; omega, ?_⟩
      rw [List.all_cons, List.all_cons, List.all_nil, dat_cn, dat_bl]; rfl
    rw [dat_lst, Bool.and_eq_true]
    refine ⟨by simp; omega, ?_⟩
    rw [List.all_cons, List.all_cons, List.all_nil, hd, h2]; rfl) (d + 8) T1
  refine ⟨.va (.lst ((tiesL 0 Rs).map tiv)), T1, ?_, t1.mono (by omega)⟩
  have cs : (corners W).map ptv = [.tup [fr W.l, fr W.b], .tup [fr W.r, fr W.b], .tup [fr W.l, fr W.t], .tup [fr W.r, fr W.t]] := rfl
  rw [cs]
  clear hd
  generalize (tiesL 0 Rs).map tiv = Z at *
  generalize Rs.map rc = X at *
  generalize hcn : PySem.Str.ofString "can not" = cn at *
  have b4 : ∀ (ts : Tgs) (ρ : Env), bindTg (.tp ts) ρ (rc W) = bindTgs ts ρ [fr W.l, fr W.b, fr W.r, fr W.t] := fun _ _ => rfl
  simp [f_law_right, takeS, dropS, hcn, e1, e2, e3, e4, e5, b4]
end PU04
end

section
set_option linter.all false
set_option autoImplicit false
set_option exponentiation.threshold 100000
set_option maxRecDepth 20000
set_option maxHeartbeats 8000000
/-! law k04: one trial, points -/
namespace PU04
open MP IR PU L04
theorem pts_app (A B : List Rc) : pts (A ++ B) = pts A ++ pts B := List.flatMap_append
theorem pts_loop (d : Nat) {s0 s1 s2 s3 s4 s5 s6 s7 s8 sa sb sc : SV} {T : Store} : ∀ (B A : List Rc), (A ++ B).length ≤ 1000 →
    loopS (turn (C14 d) (.tp (.cons (.nm 10) (.cons (.nm 11) (.cons (.nm 12) (.cons (.nm 13) .nil))))) b_law_right_0) (B.map rc) [s0, s1, s2, s3, s4, s5, s6, s7, s8, .ow ((pts A).map ptv), .un, .un, .un, .un, sa, .un, .un, .un, .un, .un, .un, .un, .un] T = .nx [s0, s1, s2, s3, s4, s5, s6, s7, s8, .ow ((pts (A ++ B)).map ptv), .un, .un, .un, .un, sa, .un, .un, .un, .un, .un, .un, .un, .un] T
  | [], A, _ => by rw [List.append_nil]; rfl
  | R :: B, A, hl => by
    have lp := line_pos
    have ih := pts_loop d (s0 := s0) (s1 := s1) (s2 := s2) (s3 := s3) (s4 := s4) (s5 := s5) (s6 := s6) (s7 := s7) (s8 := s8) (sa := sa) (sb := sb) (sc := sc) (T := T) B (A ++ [R]) (by simpa using hl)
    rw [List.append_assoc] at ih
    have e : (pts (A ++ [R])).map ptv = (pts A).map ptv ++ [.tup [fr R.l, fr R.b], .tup [fr R.r, fr R.b], .tup [fr R.l, fr R.t], .tup [fr R.r, fr R.t]] := by
      rw [pts_app, List.map_append]; rfl
    have ll : ((pts A).map ptv).length + 4 ≤ line := by
      rw [List.length_map, pts_len]
      have : A.length + 1 ≤ (A ++ R :: B).length := by simp
      omega
    have b4 : ∀ (ts : Tgs) (ρ : Env), bindTg (.tp ts) ρ (rc R) = bindTgs ts ρ [fr R.l, fr R.b, fr R.r, fr R.t] := fun _ _ => rfl
    rw [List.map_cons]
    refine (loopS_cons ?_).trans ih
    rw [e]
    generalize (pts A).map ptv = Z at *
    simp [b_law_right_0, b4, seqOf, ll]
theorem uq_loop (d : Nat) {s0 s1 s2 s3 s4 s5 s6 s7 s8 s9 sa sb sc : SV} {T : Store} : ∀ (ps acc : List Pt), acc.length + ps.length ≤ 1000 →
    loopS (turn (C14 d) (.nm 15) b_law_right_1) (ps.map ptv) [s0, s1, s2, s3, s4, s5, s6, s7, s8, s9, .un, .un, .un, .un, .ow (acc.map ptv), .un, .un, .un, .un, .un, .un, .un, .un] T = .nx [s0, s1, s2, s3, s4, s5, s6, s7, s8, s9, .un, .un, .un, .un, .ow ((uq acc ps).map ptv), .un, .un, .un, .un, .un, .un, .un, .un] T
  | [], acc, _ => rfl
  | p :: ps, acc, hl => by
    have lp := line_pos
    rw [List.length_cons] at hl
    have ih := uq_loop d (s0 := s0) (s1 := s1) (s2 := s2) (s3 := s3) (s4 := s4) (s5 := s5) (s6 := s6) (s7 := s7) (s8 := s8) (s9 := s9) (sa := sa) (sb := sb) (sc := sc) (T := T) ps (if p ∈ acc then acc else acc ++ [p]) (by split <;> first | omega | (simp; omega))
    have c := inop_ptl p acc
    have ll : (acc.map ptv).length < line := by rw [List.length_map]; omega
    rw [List.map_cons, uq]
    refine (loopS_cons ?_).trans ih
    by_cases m : p ∈ acc
    · rw [if_pos m]
      rw [decide_eq_true m] at c
      generalize acc.map ptv = Z at *
      generalize ptv p = P0 at *
      simp [b_law_right_1, peek, c]
    · rw [if_neg m, List.map_append, List.map_cons, List.map_nil]
      rw [decide_eq_false m] at c
      generalize acc.map ptv = Z at *
      generalize ptv p = P0 at *
      simp [b_law_right_1, peek, c, ll]
abbrev U (Rs : List Rc) : List Pt := uq [] (pts Rs)
theorem U_mem {Rs : List Rc} {p : Pt} : p ∈ U Rs ↔ p ∈ pts Rs := by rw [uq_mem]; simp
theorem partB (d : Nat) (T : Store) {W : Rc} {Rs : List Rc} (h : Dn W Rs) {v3 : SV} : execs (C14 d) [.va (.cel 0), .va (rc W), .va (.tup (Rs.map rc)), v3, .va (fr W.l), .va (fr W.b), .va (fr W.r), .va (fr W.t), .va (.lst ((corners W).map ptv)), .un, .un, .un, .un, .un, .un, .un, .un, .un, .un, .un, .un, .un, .un] T (takeS 5 (dropS 5 f_law_right.body)) =
    .nx [.va (.cel 0), .va (rc W), .va (.tup (Rs.map rc)), v3, .va (fr W.l), .va (fr W.b), .va (fr W.r), .va (fr W.t), .va (.lst ((corners W).map ptv)), .va (.lst ((pts Rs).map ptv)), .un, .un, .un, .un, .ow ((U Rs).map ptv), .un, .un, .un, .un, .un, .un, .un, .un] T := by
  have hl := h.dr.len
  have e1 := pts_loop d (s0 := .va (.cel 0)) (s1 := .va (rc W)) (s2 := .va (.tup (Rs.map rc))) (s3 := v3) (s4 := .va (fr W.l)) (s5 := .va (fr W.b)) (s6 := .va (fr W.r)) (s7 := .va (fr W.t)) (s8 := .va (.lst ((corners W).map ptv))) (sa := .un) (sb := .un) (sc := .un) (T := T) Rs [] (by rw [List.nil_append]; omega)
  have e2 := uq_loop d (s0 := .va (.cel 0)) (s1 := .va (rc W)) (s2 := .va (.tup (Rs.map rc))) (s3 := v3) (s4 := .va (fr W.l)) (s5 := .va (fr W.b)) (s6 := .va (fr W.r)) (s7 := .va (fr W.t)) (s8 := .va (.lst ((corners W).map ptv))) (s9 := .va (.lst ((pts Rs).map ptv))) (sa := .un) (sb := .un) (sc := .un) (T := T) (pts Rs) [] (by rw [pts_len]; simp; omega)
  rw [List.nil_append, show (pts []).map ptv = [] from rfl] at e1
  rw [List.map_nil] at e2
  generalize (U Rs).map ptv = Z at *
  generalize (pts Rs).map ptv = Y at *
  generalize (corners W).map ptv = V at *
  generalize Rs.map rc = X at *
  simp [f_law_right, takeS, dropS, e1, e2]
end PU04
end

section
set_option linter.all false
set_option autoImplicit false
set_option exponentiation.threshold 100000
set_option maxRecDepth 20000
set_option maxHeartbeats 8000000
/-! law k04: one trial, counts -/
namespace PU04
open MP IR PU L04
theorem pts_near {Rs : List Rc} (s : Pts Rs) {p : Pt} (m : p ∈ pts Rs) : Bd nearB nearB p.x ∧ Bd nearB nearB p.y := by
  obtain ⟨R, hR, k⟩ := List.mem_flatMap.mp m
  obtain ⟨⟨a, b, c, d⟩, _⟩ := s.near R hR
  unfold corners at k
  simp at k
  rcases k with rfl | rfl | rfl | rfl <;> exact ⟨by assumption, by assumption⟩
theorem cntv_pt (p : Pt) (L : List Pt) : cntv (ptv p) (L.map ptv) = some (.int (cnt p L : Nat)) := by
  have h1 : (pln 40 (ptv p) && (L.map ptv).all (pln 40)) = true := by
    rw [Bool.and_eq_true]
    exact ⟨pln_pt 38 p, all_pln (pln_pt 38) L⟩
  have e : (L.map ptv).countP (fun y => eqv y (ptv p)) = cnt p L := by
    unfold cnt
    rw [List.countP_map]
    congr 1
    funext q
    exact eqv_pt q p
  show (if (pln 40 (ptv p) && (L.map ptv).all (pln 40)) = true then some (PV.int ((L.map ptv).countP fun y => eqv y (ptv p) : Nat)) else none) = _
  rw [if_pos h1, e]
/-- the counts -/
def cs (Rs : List Rc) : List Int := (U Rs).map fun p => ((cnt p (pts Rs) : Nat) : Int)
theorem cs_row {Rs : List Rc} (f : PV → Store → Res (List PV)) {T : Store} (hl : Rs.length ≤ 100) (hf : ∀ p ∈ pts Rs, f (ptv p) T = .ok [.int (cnt p (pts Rs) : Nat)] T) : compR (loopC f ((U Rs).map ptv) T) = .ok (.lst (intz (cs Rs))) T := by
  have lp := line_pos
  have l1 := uq_len (pts Rs) []
  rw [pts_len] at l1
  have e : loopC f ((U Rs).map ptv) T = .ok (intz (cs Rs)) T := by
    unfold cs
    have hf' : ∀ p ∈ U Rs, f (ptv p) T = .ok [.int (cnt p (pts Rs) : Nat)] T := fun p hp => hf p (U_mem.mp hp)
    generalize U Rs = V at hf'
    clear l1
    induction V with
    | nil => rfl
    | cons p V ih =>
      rw [List.map_cons, loopC, hf' p List.mem_cons_self, Res.bind_ok, ih fun q hq => hf' q (List.mem_cons_of_mem _ hq)]
      rfl
  rw [e, compR_ok]
  show ((cs Rs).map PV.int).length ≤ line
  unfold cs
  rw [List.length_map, List.length_map]
  show (uq [] (pts Rs)).length ≤ line
  simp at l1
  omega
theorem cs_sum (Rs : List Rc) : (cs Rs).sum = 4 * (Rs.length : Int) := by
  have e := sum_cnt (U := U Rs) (uq_nd _ _ List.nodup_nil) (pts Rs) fun p hp => U_mem.mpr hp
  rw [pts_len] at e
  unfold cs
  have : ∀ V : List Pt, (V.map fun p => ((cnt p (pts Rs) : Nat) : Int)).sum = (((V.map fun p => cnt p (pts Rs)).sum : Nat) : Int) := fun V => by
    induction V with
    | nil => rfl
    | cons p V ih => simp only [List.map_cons, List.sum_cons, ih]; omega
  rw [this, e]; omega
theorem intsOf_ints (xs : List Int) : intsOf (intz xs) = some xs := by
  induction xs with
  | nil => rfl
  | cons x xs ih => show (intsOf (intz xs)).map (x :: ·) = _; rw [ih]; rfl
theorem zip_row {f : PV → Store → Res (List PV)} {T : Store} (g : Pt → Int) : ∀ (V : List Pt), (∀ p ∈ V, f (.tup [ptv p, .int (g p)]) T = .ok [] T) → loopC f (zip2 (V.map ptv) ((V.map g).map PV.int)) T = .ok [] T
  | [], _ => rfl
  | p :: V, h => by
    show loopC f (.tup [ptv p, .int (g p)] :: zip2 (V.map ptv) ((V.map g).map PV.int)) T = _
    rw [loopC, h p List.mem_cons_self, Res.bind_ok, zip_row g V fun q hq => h q (List.mem_cons_of_mem _ hq)]
    rfl
theorem memv_int (n : Int) (xs : List Int) : memv (.int n) (intz xs) = decide (n ∈ xs) := by
  unfold memv
  induction xs with
  | nil => rfl
  | cons x xs ih =>
    show (eqv (.int x) (.int n) || (intz xs).any fun y => eqv y (.int n)) = _
    rw [ih, eq_int, Bool.eq_iff_iff, Bool.or_eq_true, beq_iff_eq, decide_eq_true_eq, decide_eq_true_eq, List.mem_cons]
    exact ⟨fun h => h.imp Eq.symm id, fun h => h.imp Eq.symm id⟩
theorem in_12 (n : Int) (xs : List Int) : inop (.int n) (.tup (intz xs)) = some (decide (n ∈ xs)) := by
  have h0 : (MP.flat (.int n) && (intz xs).all MP.flat) = true := by
    rw [Bool.and_eq_true, List.all_eq_true]
    exact ⟨rfl, fun v hv => by obtain ⟨i, _, rfl⟩ := List.mem_map.mp hv; rfl⟩
  show (if (MP.flat (.int n) && (intz xs).all MP.flat) = true then some (memv (.int n) (intz xs)) else if (pln 40 (.int n) && (intz xs).all (pln 40)) = true then some (memv (.int n) (intz xs)) else none) = _
  rw [if_pos h0, memv_int]
theorem eqvs_ints (xs : List Int) : eqvs (intz xs) (intz xs) = true := by
  induction xs with
  | nil => exact eqs_nil
  | cons x xs ih =>
    show eqvs (.int x :: intz xs) (.int x :: intz xs) = true
    rw [eqs_cons, ih, eq_int]; simp
theorem partC (d : Nat) (T : Store) {W : Rc} {Rs : List Rc} (h : Dn W Rs) {v3 : SV} : ∃ v16 : SV, execs (C14 d) [.va (.cel 0), .va (rc W), .va (.tup (Rs.map rc)), v3, .va (fr W.l), .va (fr W.b), .va (fr W.r), .va (fr W.t), .va (.lst ((corners W).map ptv)), .va (.lst ((pts Rs).map ptv)), .un, .un, .un, .un, .ow ((U Rs).map ptv), .un, .un, .un, .un, .un, .un, .un, .un] T (takeS 3 (dropS 10 f_law_right.body)) =
    .nx [.va (.cel 0), .va (rc W), .va (.tup (Rs.map rc)), v3, .va (fr W.l), .va (fr W.b), .va (fr W.r), .va (fr W.t), .va (.lst ((corners W).map ptv)), .va (.lst ((pts Rs).map ptv)), .un, .un, .un, .un, .ow ((U Rs).map ptv), .un, v16, .un, .un, .un, .un, .un, .un] T := by
  have lp := line_pos
  have sp := h.pts
  have hl := h.dr.len
  have mP : Mx 3 (.tup (Rs.map rc)) (.tup (Rs.map rc)) := mx_self (dat_rcs Rs (by omega) 0)
  have e1 : ∀ p ∈ pts Rs, callF P (d + 14) 280 [.tup (Rs.map rc), ptv p] T = .ok (.int (cnt p (pts Rs) : Nat)) T := fun p hp => by
    obtain ⟨n1, n2⟩ := pts_near sp hp
    exact at_ok Td0 (d + 6) sp h.hw mP (by decide) n1 n2 (mx_pt p.x p.y) (by decide) T
  have r1 : ∀ f : PV → Store → Res (List PV), _ := fun f hf => cs_row (Rs := Rs) f (T := T) (by omega) hf
  have sm : bi .sum [.lst (intz (cs Rs))] = some (.int (4 * (Rs.length : Int))) := by
    show (intsOf (intz (cs Rs))).map (fun is => PV.int is.sum) = _
    rw [intsOf_ints, Option.map_some, cs_sum]
  have ln : bi .len [.tup (Rs.map rc)] = some (.int (Rs.length : Nat)) := by rw [bi_lent, List.length_map]
  have mu : mulOk 4 (Rs.length : Nat) = true := mulOk_l (by decide)
  have zz : ∀ f : PV → Store → Res (List PV), (∀ p ∈ pts Rs, f (.tup [ptv p, .int (cnt p (pts Rs) : Nat)]) T = .ok [] T) → compR (loopC f (zip2 ((U Rs).map ptv) (intz (cs Rs))) T) = .ok (.lst []) T := fun f hf => by
    have := zip_row (f := f) (T := T) (fun p => ((cnt p (pts Rs) : Nat) : Int)) (U Rs) fun p hp => hf p (U_mem.mp hp)
    show compR (loopC f (zip2 ((U Rs).map ptv) ((cs Rs).map PV.int)) T) = _
    unfold cs
    rw [this]; rfl
  have ei : ∀ p, inop (ptv p) (.lst ((corners W).map ptv)) = some (decide (p ∈ corners W)) := fun p => inop_ptl p _
  have law := fun p (hp : p ∈ pts Rs) => cnt_law h.dr.lay h.ok hp
  have i1 := fun n : Int => in_12 n [1]
  have i2 := fun n : Int => in_12 n [2, 4]
  have ct : ∀ p, cntv (ptv p) ((pts Rs).map ptv) = some (.int (cnt p (pts Rs) : Nat)) := fun p => cntv_pt p _
  have eqc : cmpop .ne (.lst (intz (cs Rs))) (.lst (intz (cs Rs))) = some false := by
    have h1 : (pln 40 (.lst (intz (cs Rs))) && pln 40 (.lst (intz (cs Rs)))) = true := by
      have : pln 40 (.lst (intz (cs Rs))) = true := by
        show (intz (cs Rs)).all (pln 39) = true
        exact all_pln (fun i => pl_int i 39) _
      rw [this]; rfl
    show (if (pln 40 (.lst (intz (cs Rs))) && pln 40 (.lst (intz (cs Rs)))) = true then some (!eqv (.lst (intz (cs Rs))) (.lst (intz (cs Rs)))) else none) = _
    rw [if_pos h1]
    rw [eq_lst, eqvs_ints]; rfl
  refine ⟨.va (.lst (intz (cs Rs))), ?_⟩
  generalize hN : ((Rs.length : Nat) : Int) = N at *
  generalize hC : intz (cs Rs) = C at *
  generalize hU : (U Rs).map ptv = UU at *
  generalize hV : (corners W).map ptv = V at *
  generalize hX : Rs.map rc = X at *
  generalize hY : (pts Rs).map ptv = Y at *
  simp [-co_ne, -bi_lent, f_law_right, takeS, dropS, peek]
  rw [r1 _ fun p hp => by
    have := e1 p hp
    generalize ((cnt p (pts Rs) : Nat) : Int) = c at *
    generalize ptv p = pv at *
    simp [this]]
  have ne4 : ∀ a : Int, cmpop .ne (.int a) (.int a) = some false := fun a => by
    show (if (pln 40 (.int a) && pln 40 (.int a)) = true then some (!eqv (.int a) (.int a)) else none) = _
    rw [if_pos (by rw [pl_int]; rfl), eq_int]; simp
  simp [-co_ne, -bi_lent, peek, sm, ln, mu, ne4]
  rw [r1 _ fun p hp => by
    have := ct p
    generalize ((cnt p (pts Rs) : Nat) : Int) = c at *
    generalize ptv p = pv at *
    simp [this]]
  simp [-co_ne, peek, eqc]
  rw [zz _ fun p hp => by
    have a := ei p
    obtain ⟨l1, l2⟩ := law p hp
    have b1 := i1 ((cnt p (pts Rs) : Nat) : Int)
    have b2 := i2 ((cnt p (pts Rs) : Nat) : Int)
    rw [show intz [1] = [.int 1] from rfl] at b1
    rw [show intz [2, 4] = [.int 2, .int 4] from rfl] at b2
    by_cases m : p ∈ corners W
    · have c := l1 m
      rw [decide_eq_true m] at a
      rw [decide_eq_true (by rw [c]; simp)] at b1
      generalize ((cnt p (pts Rs) : Nat) : Int) = c at *
      generalize ptv p = pv at *
      simp [a, b1]
    · have c := l2 m
      rw [decide_eq_false m] at a
      rw [decide_eq_true (by rcases c with c | c <;> rw [c] <;> simp)] at b2
      generalize ((cnt p (pts Rs) : Nat) : Int) = c at *
      generalize ptv p = pv at *
      simp [a, b2]]
  have nn : cmpop .ne (.lst []) (.lst []) = some false := by rw [ne_nil (g := tiv) (pln_ti 36) ([] : List Ti) |> fun e => (show cmpop .ne (.lst []) (.lst []) = some (!([] : List Ti).isEmpty) from e)]; rfl
  simp [-co_ne, nn]
end PU04
end

section
set_option linter.all false
set_option autoImplicit false
set_option exponentiation.threshold 100000
set_option maxRecDepth 20000
set_option maxHeartbeats 8000000
/-! law k04: one trial, elsewhere, one part without -/
namespace PU04
open MP IR PU L04
theorem idxs_first {α : Type} {p : α → Bool} {x : α} (hx : p x = true) : ∀ (A B : List α) (k : Int), (∀ y ∈ A, p y = false) → (idxs p (A ++ x :: B) k).head? = some (k + A.length)
  | [], B, k, _ => by
    rw [List.nil_append]
    unfold idxs
    rw [if_pos hx]; simp
  | y :: A, B, k, h => by
    rw [List.cons_append]
    unfold idxs
    rw [if_neg (by rw [h y List.mem_cons_self]; simp), idxs_first hx A B (k + 1) fun z hz => h z (List.mem_cons_of_mem _ hz), List.length_cons]
    congr 1
    omega
theorem off_fit {M V : Nat} {q : Rat} (t : Tm M V q) (m0 : 0 < M) (b : Nat) (hb : 2 ≤ b) (h1 : (V + 1) * (M * b) ≤ nearB) (h2 : M * b ≤ nearB) : Bd nearB nearB (q + Rat.divInt 1 b) := by
  have p0 := div_pos (show (0 : Int) < 1 by decide) (show (0 : Int) < b by omega)
  have p1 := div_one (show (1 : Int) < b by omega) (show (0 : Int) < b by omega)
  have o := on_div 1 (M := b) (by omega)
  have lo := t.lo
  have hi := t.hi
  have on' : On (M * b) (q + Rat.divInt 1 b) := (t.on.up b).add (by have := o.up M; rwa [Nat.mul_comm] at this)
  have t' : Tm (M * b) (V + 1) (q + Rat.divInt 1 b) := ⟨on', by
    have : ((V + 1 : Nat) : Rat) = (V : Rat) + 1 := Rat.natCast_add V 1
    grind, by
    have : ((V + 1 : Nat) : Rat) = (V : Rat) + 1 := Rat.natCast_add V 1
    grind⟩
  exact t'.near (Nat.mul_pos m0 (by omega)) h1 h2
theorem den_off (q : Rat) : (q + Rat.divInt 1 2 - q).den = 2 ∧ (q + Rat.divInt 1 3 - q).den = 3 := by
  have e1 : q + Rat.divInt 1 2 - q = Rat.divInt 1 2 := by grind
  have e2 : q + Rat.divInt 1 3 - q = Rat.divInt 1 3 := by grind
  rw [e1, e2]
  exact ⟨by decide +kernel, by decide +kernel⟩
theorem partD (d n : Nat) (T : Store) (t : Tin n T) (hn : n + 50 < 1000000000) {W : Rc} {Rs : List Rc} (h : Dn W Rs) {v3 v8 v14 v16 : SV} : ∃ (T' : Store), ofSR (execs (C14 d) [.va (.cel 0), .va (rc W), .va (.tup (Rs.map rc)), v3, .va (fr W.l), .va (fr W.b), .va (fr W.r), .va (fr W.t), v8, .va (.lst ((pts Rs).map ptv)), .un, .un, .un, .un, v14, .un, v16, .un, .un, .un, .un, .un, .un] T (dropS 13 f_law_right.body)) = .ok (.bl true) T' ∧ Tin (n + 40) T' := by
  have lp := line_pos
  have sp := h.pts
  have sm := h.dr.sm (by decide) (by decide)
  have nW := sm.near W List.mem_cons_self
  have hl := h.dr.len
  obtain ⟨Mx, My, x0, y0, xB, yB, fit⟩ := h.dr.ex
  have fW := fit W List.mem_cons_self
  have mP : PU.Mx 3 (.tup (Rs.map rc)) (.tup (Rs.map rc)) := mx_self (dat_rcs Rs (by omega) 0)
  obtain ⟨x, b1, T1, e1, p1, p2, p3, p4, p5, t1⟩ := between Dr0 (d := d + 10) t (by omega) fW.l.on fW.r.on nW.1 nW.2.2.1 h.ok.1
  obtain ⟨y, b2, T2, e2, q1, q2, q3, q4, q5, t2⟩ := between Dr0 (d := d + 10) t1 (by omega) fW.b.on fW.t.on nW.2.1 nW.2.2.2 h.ok.2
  have mb1 : Mx * b1 ≤ 562500 * 5 := Nat.mul_le_mul xB p4
  have mb2 : My * b2 ≤ 562500 * 5 := Nat.mul_le_mul yB q4
  have nx : Bd nearB nearB x := (fW.l.mid fW.r p5 p1 p2).near (Nat.mul_pos x0 p3) (by show 30 * (Mx * b1) ≤ 1000000000000; omega) (by show Mx * b1 ≤ 1000000000000; omega)
  have ny : Bd nearB nearB y := (fW.b.mid fW.t q5 q1 q2).near (Nat.mul_pos y0 q3) (by show 30 * (My * b2) ≤ 1000000000000; omega) (by show My * b2 ≤ 1000000000000; omega)
  have rp : rws (ptv ⟨x, y⟩) = 3 := rws_pt x y
  obtain ⟨w, T3, e3, kw, t3⟩ := mixed (P := P) h_law_take h_law_mixed 2 (ptv ⟨x, y⟩) (dat_pv 0 _) (d + 10) _ T2 t2 (by rw [rp]; omega)
  rw [rp] at t3
  have e4 := at_ok Td0 (d + 6) sp h.hw mP (by decide) (p := ⟨x, y⟩) nx ny kw (by decide) T3
  have ct := cntv_pt ⟨x, y⟩ (pts Rs)
  have e5 : ∀ i : Int, callF P (d + 14) 7 [.int i, .int i] T3 = .ok (.bl true) T3 := fun i => same (P := P) h_law_same 0 (.int i) (by simp) (d + 13) T3
  have f1 := law_plus G0 h_law_plus (d + 11) T3 nW.1.sz ((divInt_bd (by decide) (by decide) (by decide) : Bd 1 2 (Rat.divInt 1 2)).small (by decide) (by decide))
  have f2 := law_plus G0 h_law_plus (d + 11) T3 nW.2.1.sz ((divInt_bd (by decide) (by decide) (by decide) : Bd 1 3 (Rat.divInt 1 3)).small (by decide) (by decide))
  rw [fr_half] at f1
  rw [fr_third] at f2
  obtain ⟨B, hB⟩ : ∃ B : Rc, B = ⟨W.l, W.b, W.l + Rat.divInt 1 2, W.b + Rat.divInt 1 3⟩ := ⟨_, rfl⟩
  have okB : B.ok := by
    have h2 := div_pos (show (0 : Int) < 1 by decide) (show (0 : Int) < 2 by decide)
    have h3 := div_pos (show (0 : Int) < 1 by decide) (show (0 : Int) < 3 by decide)
    rw [hB]
    exact ⟨by show W.l < W.l + _; grind, by show W.b < W.b + _; grind⟩
  have nB : RB nearB nearB B := by
    rw [hB]
    exact ⟨nW.1, nW.2.1, off_fit fW.l x0 2 (by decide) (by show 31 * (Mx * 2) ≤ 1000000000000; omega) (by show Mx * 2 ≤ 1000000000000; omega), off_fit fW.b y0 3 (by decide) (by show 31 * (My * 3) ≤ 1000000000000; omega) (by show My * 3 ≤ 1000000000000; omega)⟩
  have noB : noW B = true := by
    obtain ⟨a, _⟩ := den_off W.l
    obtain ⟨_, b⟩ := den_off W.b
    have h1 : isW B = false := by rw [hB]; exact decide_eq_false (by show ¬ (W.l + _ - W.l).den = 1; rw [a]; decide)
    have h2 : isH B = false := by rw [hB]; exact decide_eq_false (by show ¬ (W.b + _ - W.b).den = 1; rw [b]; decide)
    unfold noW
    rw [h1, h2]; rfl
  obtain ⟨q, T4, e6, k1, k2, t4⟩ := take (P := P) h_law_take (d := d + 13) t3 (by omega) (b := (Rs.length : Int) + 1) (by omega) (by omega)
  obtain ⟨j, hj⟩ : ∃ j : Nat, q = j := ⟨q.toNat, by omega⟩
  have jl : j ≤ Rs.length := by omega
  obtain ⟨Qs, hQ⟩ : ∃ Qs, Qs = Rs.take j ++ B :: Rs.drop j := ⟨_, rfl⟩
  have lQ : Qs.length = Rs.length + 1 := by rw [hQ]; simp; omega
  have sQ : Pts Qs := ⟨fun R hR => by
    rw [hQ] at hR
    rcases List.mem_append.mp hR with hR | hR
    · exact sp.near R (List.mem_of_mem_take hR)
    · rcases List.mem_cons.mp hR with rfl | hR
      · exact ⟨nB, okB⟩
      · exact sp.near R (List.mem_of_mem_drop hR), by omega, by omega⟩
  have hi : (idxs noW Qs 0).head? = some q := by
    rw [hQ, idxs_first noB _ _ _ fun R hR => by unfold noW; rw [h.hw R (List.mem_of_mem_take hR)]; rfl]
    rw [List.length_take, Nat.min_eq_left jl, hj]; simp
  have mQ : PU.Mx 3 (.tup (Qs.map rc)) (.tup (Qs.map rc)) := mx_self (dat_rcs Qs (by omega) 0)
  have g1 := first_no Td0 (d + 6) sQ hi mQ (by decide) T4
  have g2 := heard_ex D0 (d + 11) 279 1 (.tup [.tup (Qs.map rc)]) [.tup (Qs.map rc)] T4 (.inl rfl) (by simp) (by simp) (by decide) (ties_no Td0 (d + 3) sQ hi mQ (by decide) T4)
  have g3 := heard_ex D0 (d + 11) 280 1 (.tup [.tup (Qs.map rc), ptv ⟨x, y⟩]) [.tup (Qs.map rc), ptv ⟨x, y⟩] T4 (.inl rfl) (by simp) (by simp) (by decide) (at_no Td0 (d + 3) sQ hi mQ (by decide) (p := ⟨x, y⟩) nx ny (mx_pt x y) (by decide) T4)
  rw [show word 1 = PySem.Str.ofString "can not" from rfl] at g2 g3
  have g4 := same (P := P) h_law_same 2 (.lst [.int q, .lst [.str (PySem.Str.ofString "can not"), .bl true], .lst [.str (PySem.Str.ofString "can not"), .bl true]]) (by simp [dat_cn]; omega) (d + 11) T4
  have lX : (Rs.map rc).length = Rs.length := List.length_map ..
  have c1 : cutv none (some q) (.tup (Rs.map rc)) = some (.tup ((Rs.take j).map rc)) := by
    rw [hj]
    show some (PV.tup (cut (Rs.map rc) none (some (j : Int)))) = _
    rw [cut_take _ _ (by rw [lX]; omega), List.map_take]
  have c2 : cutv (some q) none (.tup (Rs.map rc)) = some (.tup ((Rs.drop j).map rc)) := by
    rw [hj]
    show some (PV.tup (cut (Rs.map rc) (some (j : Int)) none)) = _
    rw [cut_drop _ _ (by rw [lX]; omega), List.map_drop]
  have vQ : Qs.map rc = (Rs.take j).map rc ++ rc B :: (Rs.drop j).map rc := by rw [hQ, List.map_append, List.map_cons]
  have rB : PV.tup [fr W.l, fr W.b, fr (W.l + Rat.divInt 1 2), fr (W.b + Rat.divInt 1 3)] = rc B := by rw [hB]; rfl
  have w1 : ((Rs.take j).map rc).length + 1 ≤ line := by rw [List.length_map, List.length_take]; omega
  have w2 : ((Rs.take j).map rc).length + 1 + ((Rs.drop j).map rc).length ≤ line := by rw [List.length_map, List.length_map, List.length_take, List.length_drop]; omega
  have bX : bi .len [.tup (Rs.map rc)] = some (.int (Rs.length : Nat)) := by rw [bi_lent, lX]
  have ng : ¬ (58 : Int) < (Rs.length : Nat) := by omega
  have pxy : PV.tup [fr x, fr y] = ptv ⟨x, y⟩ := rfl
  rw [vQ] at g1 g2 g3
  refine ⟨T4, ?_, t4.mono (by omega)⟩
  clear vQ hi sQ hQ lQ mP mQ sp sm fit fW xB yB
  generalize ((Rs.length : Nat) : Int) = N at *
  generalize ((cnt ⟨x, y⟩ (pts Rs) : Nat) : Int) = cc at *
  generalize (Rs.take j).map rc = A' at *
  generalize (Rs.drop j).map rc = B' at *
  generalize Rs.map rc = X at *
  generalize (pts Rs).map ptv = Y at *
  generalize fr (W.l + Rat.divInt 1 2) = u1 at *
  generalize fr (W.b + Rat.divInt 1 3) = u2 at *
  generalize rc B = RB' at *
  generalize ptv ⟨x, y⟩ = pv at *
  generalize hcn : PySem.Str.ofString "can not" = cn at *
  simp [-bi_lent, f_law_right, dropS, hcn, putAll, e1, e2, pxy, e3, e4, ct, e5, f1, f2, rB, bX, e6, ng, c1, c2, partV, isN, w1, w2, g1, g2, g3, g4]
theorem right (d n : Nat) (T : Store) (t : Tin n T) (hn : n + 1000 < 1000000000) : ∃ T', callF P (d + 15) 20 [.cel 0] T = .ok (.bl true) T' ∧ Tin (n + 1000) T' := by
  obtain ⟨W, Rs, T1, e1, h, t1⟩ := draw d n T t (by omega)
  obtain ⟨v3, T2, e2, t2⟩ := partA d _ T1 t1 (by omega) h
  have e3 := partB d T2 h (v3 := v3)
  obtain ⟨v16, e4⟩ := partC d T2 h (v3 := v3)
  obtain ⟨T3, e5, t3⟩ := partD d _ T2 t2 (by omega) h (v3 := v3) (v8 := .va (.lst ((corners W).map ptv))) (v14 := .ow ((U Rs).map ptv)) (v16 := v16)
  refine ⟨T3, ?_, t3.mono (by omega)⟩
  rw [callF_at h_law_right rfl]
  show ofSR (execs (C14 d) (startE 23 [.cel 0]) T f_law_right.body) = _
  rw [execs_at 1 _ _ e1, execs_at 4 _ _ e2, drop_drop, execs_at 5 _ _ e3, drop_drop, execs_at 3 _ _ e4, drop_drop]
  exact e5
end PU04
end

section
set_option linter.all false
set_option autoImplicit false
set_option exponentiation.threshold 100000
set_option maxRecDepth 20000
set_option maxHeartbeats 8000000
/-! law k04: the law -/
namespace PU04
open MP IR PU L04
def hA : Rc := ⟨0, 0, Rat.divInt 1 2, 1⟩
def hB : Rc := ⟨0, 0, Rat.divInt 1 2, Rat.divInt 1 2⟩
theorem frc (a : Int) (b : Nat) (n : Int) (m : Nat) (h : (Rat.divInt a b).num = n ∧ (Rat.divInt a b).den = m) : fr (Rat.divInt a b) = .tup [.int n, .int m] := by unfold fr; rw [h.1, h.2]
theorem near0 (q : Rat) (h1 : q.num.natAbs ≤ 10) (h2 : q.den ≤ 10) : Bd nearB nearB q := ⟨Nat.le_trans h1 (by decide), Nat.le_trans h2 (by decide)⟩
theorem hA_ok : RB nearB nearB hA ∧ hA.ok := ⟨⟨near0 _ (by decide +kernel) (by decide +kernel), near0 _ (by decide +kernel) (by decide +kernel), near0 _ (by decide +kernel) (by decide +kernel), near0 _ (by decide +kernel) (by decide +kernel)⟩, by decide +kernel, by decide +kernel⟩
theorem hB_ok : RB nearB nearB hB ∧ hB.ok := ⟨⟨near0 _ (by decide +kernel) (by decide +kernel), near0 _ (by decide +kernel) (by decide +kernel), near0 _ (by decide +kernel) (by decide +kernel), near0 _ (by decide +kernel) (by decide +kernel)⟩, by decide +kernel, by decide +kernel⟩
theorem p1 : Pts [hA] := ⟨fun R hR => by simp at hR; subst hR; exact hA_ok, by decide, by decide⟩
theorem p2 : Pts [hA, hA] := ⟨fun R hR => by simp at hR; subst hR; exact hA_ok, by decide, by decide⟩
theorem p3 : Pts [hA, hB] := ⟨fun R hR => by
  simp at hR
  rcases hR with rfl | rfl
  · exact hA_ok
  · exact hB_ok, by decide, by decide⟩
theorem wA : hasW hA := by unfold hasW; decide +kernel
theorem law (ns : List Int) (hl : ns.length ≤ 63) : ∃ T, callF P 200 5 [.st (ns.map .int)] [] = .ok (.bl true) T := by
  have lp := line_pos
  rw [show (200 : Nat) = 199 + 1 from rfl, callF_at h_law rfl]
  obtain ⟨x, e1⟩ := cells (P := P) h_law_cells (d := 198) (T := []) ns hl
  obtain ⟨T1, e2, tt⟩ := box (P := P) (c := 26297004) h_law_box (by decide) (by decide) 198 x
  have mm : ∀ L : List Rc, L.length ≤ 10 → PU.Mx 3 (.tup (L.map rc)) (.tup (L.map rc)) := fun L h => mx_self (dat_rcs L (by omega) 0)
  have c1 := ties_ok Td0 191 p1 (fun R hR => by simp at hR; subst hR; exact wA) (mm _ (by decide)) (by decide) T1
  have c2 := at_ok Td0 191 p2 (fun R hR => by simp at hR; subst hR; exact wA) (mm _ (by decide)) (by decide) (p := ⟨0, 0⟩) (near0 _ (by decide +kernel) (by decide +kernel)) (near0 _ (by decide +kernel) (by decide +kernel)) (mx_pt 0 0) (by decide) T1
  have c3 := heard_ex D0 196 193 1 (.tup [.tup ([hA].map rc)]) [.tup ([hA].map rc)] T1 (.inl rfl) (by simp) (by simp) (by decide) (first_ok Td0 188 p1 (fun R hR => by simp at hR; subst hR; exact wA) (mm _ (by decide)) (by decide) T1)
  rw [show word 1 = PySem.Str.ofString "can not" from rfl] at c3
  have c4 := first_no Td0 191 p3 (i := 1) (by decide +kernel) (mm _ (by decide)) (by decide) T1
  rw [show cnt ⟨0, 0⟩ (pts [hA, hA]) = 2 from by decide +kernel] at c2
  have ts : tiesL 0 [hA] = [⟨0, ⟨0, 0⟩, ⟨0, 1⟩⟩, ⟨0, ⟨Rat.divInt 1 2, 0⟩, ⟨Rat.divInt 1 2, 1⟩⟩] := by decide +kernel
  rw [ts] at c1
  have f0 : fr (0 : Rat) = .tup [.int 0, .int 1] := rfl
  have f1 : fr (1 : Rat) = .tup [.int 1, .int 1] := rfl
  have fh : fr (Rat.divInt 1 2) = .tup [.int 1, .int 2] := frc 1 2 1 2 (by decide +kernel)
  have k0 : ((0 : Nat) : Int) = 0 := rfl
  have k2 : ((2 : Nat) : Int) = 2 := rfl
  simp only [hA, hB, rc, pt, tiv, ptv, List.map_cons, List.map_nil, f0, f1, fh, k0, k2] at c1 c2 c3 c4
  have sm := same (P := P) h_law_same 5 (.lst [.tup [.tup [.int 0, .tup [.tup [.int 0, .int 1], .tup [.int 0, .int 1]], .tup [.tup [.int 0, .int 1], .tup [.int 1, .int 1]]], .tup [.int 0, .tup [.tup [.int 1, .int 2], .tup [.int 0, .int 1]], .tup [.tup [.int 1, .int 2], .tup [.int 1, .int 1]]]], .int 2, .lst [.str (PySem.Str.ofString "can not"), .bl true], .int 1]) (by simp [dat_cn]; omega) 193 T1
  have s4' : smallR 4 = true := by decide
  generalize hcn : PySem.Str.ofString "can not" = cn at *
  simp [f_law, startE, hcn, e1, e2, c1, c2, c3, c4, sm, s4']
  generalize hf : cturn _ _ _ _ _ _ = fB
  obtain ⟨T2, e9, t2⟩ := trials (f := fB) (c := 1000) 4 tt (by decide) fun x n T t hN => by
    obtain ⟨T', e, t'⟩ := right 184 n T t hN
    exact ⟨T', by rw [← hf]; simp [e], t'⟩
  rw [show ((4 : Nat) : Int) = 4 from rfl] at e9
  rw [e9, compR_ok (by simp; omega)]
  simp only [Res.bind_ok, bi_all, bools_true, Option.map_some, Res.of_some]
  exact ⟨T2, by simp⟩
end PU04
end
theorem PySem.Challenge.cw_onesidewhole_k04_main_ends_of_ties_count_holds : PySem.Challenge.rw_onesidewhole_k04_main_ends_of_ties_count.Holds := by
  exact CK04.holds_of PU04.law
