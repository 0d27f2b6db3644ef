import PyProof.Rows.All
import Wide.All
import OpenK.AllK
import Wide.FinOn
import HandS.Base
import HandS.Call
import HandS.List
import HandS.Comp
import HandS.Iter
import HandS.Exc
import HandS.Text
import HandS.Zip
import HandS.Wide
import HandS.IsInst
import HandS.TupAny
import HandS.TupMul
import HandS.Deep
import HandS.Style
import HandS.Conv
import HandS.Small
import HandS.ExcOwn
import KE.GoesEnum
import HandS.Flow
import HandS.CallSlots
import HandS.Defaults
import HandS.WordsExc
import HandS.HeadHook2
import HandS.HeadHook4
import HandS.HeadEnd
import HandS.Head0
import HandS.Head1
import HandS.Head2
import PySem.Challenge.RW_boardsure_k01_values_recognized
set_option Elab.async false
set_option autoImplicit false
set_option linter.all false
set_option maxRecDepth 100000
set_option maxHeartbeats 0
/-! Core1: the small language, its data and its evaluator -/
namespace BS
open PySem

inductive Lit | non | bl (b : Bool) | int (i : Int) | str (x : Str)
  deriving DecidableEq
/-- strict operations on values; they change nothing -/
inductive Pr
  | add | sub | mul | fdiv | mod | pow | neg
  | eq | ne | lt | le | gt | ge | isin | notin | isN | notN | isB | notB
  | ix | len | abs | min2 | max2 | sum | any | all | toTup | toInt | toStr
  | ist (T : String) | index | count | join
  deriving DecidableEq
/-- operations that give a new list -/
inductive Pl
  | add | mul | toL | enum | rng1 | rng2 | split
  deriving DecidableEq
/-- operations that change a list -/
inductive Pm | append | pop
  deriving DecidableEq
inductive Tg | v (i : Nat) | tup (ts : List Tg)
mutual
inductive E
  | lit (l : Lit) | v (i : Nat) | gtup (x : Str) (ls : List Lit)
  | pr (p : Pr) (es : List E) | pl (m : Bool) (p : Pl) (es : List E) | pm (p : Pm) (a : E) (es : List E)
  | and_ (a b : E) | or_ (a b : E) | not_ (a : E) | ite (c a b : E)
  | chain (p q : Pr) (a b c : E) | slc (m hl hh : Bool) (a lo hi : E)
  | tup (es : List E) | lst (m : Bool) (es : List E)
  | comp (m : Bool) (own : List Nat) (tg : Tg) (it : I) (c : E) (e : E)
  | call (f : FD) (es : List E) | self (es : List E) | fnv (f : FD) | callv (f : E) (es : List E)
inductive I
  | e (a : E) | r1 (a : E) | r2 (a b : E) | enum (a : E) | zip (a b : E)
inductive S
  | ex (e : E) | ret (e : E) | set (t : Tg) (e : E) | par (ts : List Nat) (es : List E) | setIx (o i e : E)
  | ite (c : E) (a b : List S) | for_ (t : Tg) (it : I) (b : List S) | while_ (c : E) (b : List S)
  | pass | brk | cont | never
  | raise_ (c : Str) (m : Str)
inductive FD
  | mk (x : Str) (np ns : Nat) (body : List S)
end
inductive D
  | non | bl (b : Bool) | int (i : Int) | str (x : Str) | tup (ds : List D) | lst (ds : List D)
  | obj (n : Nat) | scr (ns : List Int) | fn (f : FD)
inductive Ob | lst (ds : List D) | ins (c : Str) (fs : List (Str × D))
abbrev Sto := List Ob
abbrev Env := List (Option D)
structure Exn where
  cls : Str
  fs : List (Str × D)
inductive Out (α : Type) | ok (a : α) (s : Sto) | ex (x : Exn) (s : Sto) | no
@[inline] def Out.bind {α β : Type} (o : Out α) (f : α → Sto → Out β) : Out β :=
  match o with
  | .ok a s => f a s
  | .ex x s => .ex x s
  | .no => .no
def Lit.d : Lit → D | .non => .non | .bl b => .bl b | .int i => .int i | .str x => .str x

mutual
def pyD : D → Option PyData
  | .non => some .none
  | .bl b => some (.bool b)
  | .int i => some (.int i)
  | .str x => some (.str x)
  | .tup ds => (pyDs ds).map .tuple
  | .lst ds => (pyDs ds).map .list
  | .obj _ => none
  | .scr _ => none
  | .fn _ => none
def pyDs : List D → Option (List PyData)
  | [] => some []
  | d :: ds => match pyD d, pyDs ds with
    | some x, some xs => some (x :: xs)
    | _, _ => none
end
/-- the items of a list, of any sequence -/
def vL (s : Sto) : D → Option (List D)
  | .lst ds => some ds
  | .obj n => match s[n]? with
    | some (.lst ds) => some ds
    | _ => none
  | _ => none
def vS (s : Sto) : D → Option (List D)
  | .tup ds => some ds
  | .lst ds => some ds
  | .obj n => vL s (.obj n)
  | _ => none
/-- a value with its own list told -/
def und (s : Sto) : D → D
  | .obj n => match s[n]? with
    | some (.lst ds) => .lst ds
    | _ => .obj n
  | d => d
def shp (d : D) : Option PyData := match pyD d with
  | some p => if SeqAt.shaped p then some p else none
  | none => none
def eqv (s : Sto) (x y : D) : Option Bool := match shp (und s x), shp (und s y) with
  | some p, some q => some (PyData.eqv p q)
  | _, _ => none
def truD (s : Sto) : D → Option Bool
  | .non => some false
  | .bl b => some b
  | .int i => some (i != 0)
  | .str x => if x.length ≤ sizeLine then some ((x.length : Int) != 0) else none
  | .tup ds => some (!ds.isEmpty)
  | .lst ds => some (!ds.isEmpty)
  | .obj n => (vL s (.obj n)).map (!·.isEmpty)
  | _ => none
def mulOk (i j : Int) : Bool := decide (i.natAbs < 2 ^ 64) || decide (j.natAbs < 2 ^ 64) || decide (i.natAbs.log2 + j.natAbs.log2 < 1000000)
def isIntD : D → Option Int
  | .int i => some i
  | _ => none
def isBlD : D → Option Bool
  | .bl i => some i
  | _ => none
def intsD : List D → Option (List Int)
  | [] => some []
  | .int i :: ds => (intsD ds).map (i :: ·)
  | _ :: _ => none
def boolsD : List D → Option (List Bool)
  | [] => some []
  | .bl b :: ds => (boolsD ds).map (b :: ·)
  | _ :: _ => none
def strsD : List D → Option (List Str)
  | [] => some []
  | .str b :: ds => (strsD ds).map (b :: ·)
  | _ :: _ => none
def addD (s : Sto) : D → D → Option D
  | .int i, .int j => some (.int (i + j))
  | .bl b, .int j => some (.int ((if b = true then 1 else 0) + j))
  | .str x, .str y => if x.length + y.length ≤ sizeLine then some (.str (x ++ y)) else none
  | .tup a, .tup b => if a.length + b.length ≤ sizeLine then some (.tup (a ++ b)) else none
  | .lst a, .lst b => if a.length + b.length ≤ sizeLine then some (.lst (a ++ b)) else none
  | .lst a, .obj n => (vL s (.obj n)).bind fun b => if a.length + b.length ≤ sizeLine then some (.lst (a ++ b)) else none
  | .obj n, .lst b => (vL s (.obj n)).bind fun a => if a.length + b.length ≤ sizeLine then some (.lst (a ++ b)) else none
  | .obj n, .obj m => (vL s (.obj n)).bind fun a => (vL s (.obj m)).bind fun b => if a.length + b.length ≤ sizeLine then some (.lst (a ++ b)) else none
  | _, _ => none
def repOk (n : Nat) (k : Int) : Bool := decide (2 ≤ k) && decide (k ≤ 1000) && decide (0 < n) && decide (n ≤ 1000)
def mulD (s : Sto) : D → D → Option D
  | .int i, .int j => if mulOk i j then some (.int (i * j)) else none
  | .tup a, .int k => if k = 1 then some (.tup a) else if repOk a.length k then some (.tup (List.replicate k.toNat a).flatten) else none
  | .lst a, .int k => if Nat.blt k.natAbs (2 ^ 63) && decide (a.length * k.toNat ≤ sizeLine) then some (.lst (List.replicate k.toNat a).flatten) else none
  | _, _ => none
def arith (f : Int → Int → Option Int) : D → D → Option D
  | .int i, .int j => (f i j).map .int
  | _, _ => none
def cmpI (f : Int → Int → Bool) : D → D → Option D
  | .int i, .int j => some (.bl (f i j))
  | _, _ => none
def ltD : D → D → Option D
  | .int i, .int j => some (.bl (decide (i < j)))
  | .tup a, .tup b => match intsD a, intsD b with
    | some ns, some ms => some (.bl (HT.lexLt ns ms))
    | _, _ => none
  | _, _ => none
def inD (s : Sto) (x y : D) : Option Bool := match shp (und s x), vS s y with
  | some p, some ds => match (pyDs ds) with
    | some qs => if SeqAt.shaped (.list qs) then some (qs.any fun z => PyData.eqv z p) else none
    | none => none
  | _, _ => none
def ixD (s : Sto) : D → D → Option D
  | .str z, .int i => if z.length ≤ sizeLine then (L2.atI z.cps.toList i).map fun c => .str ⟨#[c]⟩ else none
  | .scr ns, .int i => (L2.atI ns i).map .int
  | .tup ds, .int i => L2.atI ds i
  | .lst ds, .int i => L2.atI ds i
  | .obj n, .int i => (vL s (.obj n)).bind fun ds => L2.atI ds i
  | _, _ => none
def cutD (xs : List D) (lo hi : Option Int) : List D := (xs.drop (HT.sIx xs.length 0 lo)).take (HT.sIx xs.length xs.length hi - HT.sIx xs.length 0 lo)
def slcD (s : Sto) (lo hi : Option Int) : D → Option D
  | .tup ds => some (.tup (cutD ds lo hi))
  | .lst ds => some (.lst (cutD ds lo hi))
  | .obj n => (vL s (.obj n)).map fun ds => .lst (cutD ds lo hi)
  | _ => none
/-- a bound of a slice: written or not -/
def bnd : Bool → D → Option (Option Int)
  | true, .int i => some (some i)
  | false, .non => some none
  | _, _ => none
def lenD (s : Sto) : D → Option Nat
  | .str z => if z.length ≤ sizeLine then some z.length else none
  | .scr ns => some ns.length
  | .tup ds => some ds.length
  | .lst ds => some ds.length
  | .obj n => (vL s (.obj n)).map (·.length)
  | _ => none
def istD (s : Sto) (T : String) : D → Option Bool
  | .non => L2.kitB "NoneType" T
  | .bl _ => L2.kitB "bool" T
  | .int _ => L2.kitB "int" T
  | .str _ => L2.kitB "str" T
  | .tup _ => L2.kitB "tuple" T
  | .lst _ => L2.kitB "list" T
  | .obj n => if (vL s (.obj n)).isSome then L2.kitB "list" T else none
  | _ => none
def prim (s : Sto) : Pr → List D → Option D
  | .add, [x, y] => addD s x y
  | .sub, [x, y] => arith (fun i j => some (i - j)) x y
  | .mul, [x, y] => mulD s x y
  | .fdiv, [x, y] => arith (fun i j => if decide (0 < j) && decide (j.natAbs.log2 < 9000) then some (i / j) else none) x y
  | .mod, [x, y] => arith (fun i j => if 0 < j then some (i % j) else none) x y
  | .pow, [x, y] => arith (fun i j => if decide (0 ≤ j) && decide (j ≤ 1000000) && decide (i.natAbs < 2 ^ 64) then some (i ^ j.toNat) else none) x y
  | .neg, [.int i] => some (.int (-i))
  | .eq, [x, y] => (eqv s x y).map .bl
  | .ne, [x, y] => (eqv s x y).map fun b => .bl (!b)
  | .lt, [x, y] => ltD x y
  | .le, [x, y] => cmpI (fun i j => decide (i ≤ j)) x y
  | .gt, [x, y] => cmpI (fun i j => decide (j < i)) x y
  | .ge, [x, y] => cmpI (fun i j => decide (j ≤ i)) x y
  | .isin, [x, y] => (inD s x y).map .bl
  | .notin, [x, y] => (inD s x y).map fun b => .bl (!b)
  | .isN, [x] => some (.bl (match x with | .non => true | _ => false))
  | .notN, [x] => some (.bl (match x with | .non => false | _ => true))
  | .isB, [.bl a, .bl b] => some (.bl (decide (a = b)))
  | .notB, [.bl a, .bl b] => some (.bl (!decide (a = b)))
  | .ix, [x, y] => ixD s x y
  | .len, [x] => (lenD s x).map fun (n : Nat) => D.int (n : Int)
  | .abs, [.int i] => some (.int (if i < 0 then -i else i))
  | .min2, [.int i, .int j] => some (.int (if j < i then j else i))
  | .max2, [.int i, .int j] => some (.int (if j > i then j else i))
  | .sum, [x] => (vL s x).bind fun ds => (intsD ds).map fun ns => .int ns.sum
  | .any, [x] => (vL s x).bind fun ds => (boolsD ds).map fun bs => .bl (bs.any id)
  | .all, [x] => (vL s x).bind fun ds => (boolsD ds).map fun bs => .bl (bs.all id)
  | .toTup, [x] => (vS s x).map .tup
  | .toInt, [.int i] => some (.int i)
  | .toInt, [.bl k] => some (.int (if k then 1 else 0))
  | .ist T, [x] => (istD s T x).map .bl
  | _, _ => none
def rngD (a b : Int) : List D := (List.range (b - a).toNat).map fun i => D.int (a + (i : Nat))
def enumD : Nat → List D → List D
  | _, [] => []
  | i, d :: ds => .tup [.int i, d] :: enumD (i + 1) ds
def primL (s : Sto) : Pl → List D → Option (List D)
  | .toL, [x] => vS s x
  | .mul, [x, .int k] => (vL s x).bind fun a => if Nat.blt k.natAbs (2 ^ 63) && decide (a.length * k.toNat ≤ sizeLine) then some (List.replicate k.toNat a).flatten else none
  | .rng1, [.int j] => if decide (0 ≤ j) && Nat.ble j.natAbs 16777216 then some (rngD 0 j) else none
  | .rng2, [.int i, .int j] => if decide (0 ≤ i) && Nat.ble i.natAbs 16777216 && decide (0 ≤ j) && Nat.ble j.natAbs 16777216 then some (rngD i j) else none
  | _, _ => none
def mkL (m : Bool) (ds : List D) (s : Sto) : Out D :=
  if m then .ok (.obj s.length) (s ++ [.lst ds]) else .ok (.lst ds) s
def primM (s : Sto) : Pm → List D → Out D
  | .append, [.obj n, d] => match s[n]? with
    | some (.lst ds) => if ds.length < sizeLine then .ok .non (s.set n (.lst (ds ++ [d]))) else .no
    | _ => .no
  | .pop, [.obj n] => match s[n]? with
    | some (.lst ds) => match ds.getLast? with
      | some d => .ok d (s.set n (.lst ds.dropLast))
      | none => .no
    | _ => .no
  | _, _ => .no
def isObjL (s : Sto) : D → Bool
  | .obj n => (vL s (.obj n)).isSome
  | _ => false
def setIx (s : Sto) : D → D → D → Option Sto
  | .obj n, .int i, d => match s[n]? with
    | some (.lst ds) => (L2.ixN ds.length i).map fun j => s.set n (.lst (ds.set j d))
    | _ => none
  | _, _, _ => none
def ofO {α : Type} (s : Sto) : Option α → Out α
  | some a => .ok a s
  | none => .no
/-- what a loop walks -/
inductive Src | seq (d : D) | rng (lo : Int) (n : Nat) | enum (d : D) | zip (a b : D)
/-- its turn: the next item, the end, or stuck -/
inductive Trn | it (d : D) | stop | no
def Src.at (s : Sto) : Src → Nat → Trn
  | .seq d, i => match vS s d with
    | some ds => match ds[i]? with
      | some x => .it x
      | none => .stop
    | none => .no
  | .rng lo n, i => if i < n then .it (.int (lo + i)) else .stop
  | .enum d, i => match vS s d with
    | some ds => match ds[i]? with
      | some x => .it (.tup [.int i, x])
      | none => if i = ds.length then .stop else .no
    | none => .no
  | .zip a b, i => match vS s a, vS s b with
    | some ds, some es => match ds[i]?, es[i]? with
      | some x, some y => .it (.tup [x, y])
      | _, _ => if decide (i ≤ ds.length) && decide (i ≤ es.length) then .stop else .no
    | _, _ => .no
/-- how many turns at most -/
def Src.most (s : Sto) : Src → Nat
  | .seq d => ((vS s d).map (·.length)).getD 0
  | .rng _ n => n
  | .enum d => ((vS s d).map (·.length)).getD 0
  | .zip a _ => ((vS s a).map (·.length)).getD 0
mutual
def asg : Tg → D → Env → Option Env
  | .v i, d, ρ => some (ρ.set i (some d))
  | .tup ts, .tup ds, ρ => asgs ts ds ρ
  | .tup _, _, _ => none
def asgs : List Tg → List D → Env → Option Env
  | [], [], ρ => some ρ
  | t :: ts, d :: ds, ρ => match asg t d ρ with
    | some ρ' => asgs ts ds ρ'
    | none => none
  | _, _, _ => none
end
structure G where
  call : FD → List D → Sto → Out D
  self : List D → Sto → Out D
  W : Nat
/-- a comprehension's turns -/
def compLoop (src : Src) (b : Nat → D → Sto → Out (Option D)) : Nat → Nat → List D → Sto → Out (List D)
  | 0, i, acc, s => match src.at s i with
    | .stop => .ok acc.reverse s
    | _ => .no
  | n + 1, i, acc, s => match src.at s i with
    | .stop => .ok acc.reverse s
    | .no => .no
    | .it d => match b i d s with
      | .ok none s' => compLoop src b n (i + 1) acc s'
      | .ok (some y) s' => if acc.length < sizeLine then compLoop src b n (i + 1) (y :: acc) s' else .no
      | _ => .no
/-- a turn: the item stored, the test, the element -/
def compB (tg : Tg) (ρ0 : Env) (c e : Env → Sto → Out D) (_ : Nat) (d : D) (s : Sto) : Out (Option D) :=
  match asg tg d ρ0 with
  | none => .no
  | some ρ1 => (c ρ1 s).bind fun b s' => match truD s' b with
    | some true => (e ρ1 s').bind fun y s'' => .ok (some y) s''
    | some false => .ok none s'
    | none => .no
inductive Flow | next (ρ : Env) | ret (d : D) | brk (ρ : Env) | cont (ρ : Env)
/-- what comes of statements; an exception with the names as they stand -/
inductive SO | fl (f : Flow) (s : Sto) | ex (x : Exn) (ρ : Env) (s : Sto) | no
def Out.so (ρ : Env) (o : Out D) (f : D → Sto → SO) : SO :=
  match o with
  | .ok a s => f a s
  | .ex x s => .ex x ρ s
  | .no => .no
def forLoop (src : Src) (tg : Tg) (b : Env → Sto → SO) : Nat → Nat → Env → Sto → SO
  | 0, i, ρ, s => match src.at s i with
    | .stop => .fl (.next ρ) s
    | _ => .no
  | n + 1, i, ρ, s => match src.at s i with
    | .stop => .fl (.next ρ) s
    | .no => .no
    | .it d => match asg tg d ρ with
      | none => .no
      | some ρ1 => match b ρ1 s with
        | .fl (.next ρ') s' => forLoop src tg b n (i + 1) ρ' s'
        | .fl (.cont ρ') s' => forLoop src tg b n (i + 1) ρ' s'
        | .fl (.brk ρ') s' => .fl (.next ρ') s'
        | .fl (.ret d) s' => .fl (.ret d) s'
        | .ex x ρ' s' => .ex x ρ' s'
        | .no => .no
def whileLoop (c : Env → Sto → Out D) (b : Env → Sto → SO) : Nat → Env → Sto → SO
  | 0, _, _ => .no
  | n + 1, ρ, s => (c ρ s).so ρ fun d s1 => match truD s1 d with
    | some true => match b ρ s1 with
      | .fl (.next ρ') s' => whileLoop c b n ρ' s'
      | .fl (.cont ρ') s' => whileLoop c b n ρ' s'
      | .fl (.brk ρ') s' => .fl (.next ρ') s'
      | .fl (.ret d) s' => .fl (.ret d) s'
      | .ex x ρ' s' => .ex x ρ' s'
      | .no => .no
    | some false => .fl (.next ρ) s1
    | none => .no
/-- the names of a comprehension's own forgotten -/
def wipeE (ρ : Env) : List Nat → Env
  | [] => ρ
  | v :: vs => (wipeE ρ vs).set v none
mutual
def evE (g : G) : E → Env → Sto → Out D
  | .lit l, _, s => .ok l.d s
  | .v i, ρ, s => match ρ[i]? with
    | some (some d) => .ok d s
    | _ => .no
  | .gtup _ ls, _, s => .ok (.tup (ls.map Lit.d)) s
  | .pr p es, ρ, s => (evEs g es ρ s).bind fun ds s1 => ofO s1 (prim s1 p ds)
  | .pl m p es, ρ, s => (evEs g es ρ s).bind fun ds s1 => match primL s1 p ds with
    | some r => mkL m r s1
    | none => .no
  | .pm p a es, ρ, s => (evE g a ρ s).bind fun d s1 => match isObjL s1 d with
    | true => (evEs g es ρ s1).bind fun ds s2 => primM s2 p (d :: ds)
    | false => .no
  | .and_ a b, ρ, s => (evE g a ρ s).bind fun d s1 => match truD s1 d with
    | some true => evE g b ρ s1
    | some false => .ok d s1
    | none => .no
  | .or_ a b, ρ, s => (evE g a ρ s).bind fun d s1 => match truD s1 d with
    | some true => .ok d s1
    | some false => evE g b ρ s1
    | none => .no
  | .not_ a, ρ, s => (evE g a ρ s).bind fun d s1 => match truD s1 d with
    | some b => .ok (.bl (!b)) s1
    | none => .no
  | .ite c a b, ρ, s => (evE g c ρ s).bind fun d s1 => match truD s1 d with
    | some true => evE g a ρ s1
    | some false => evE g b ρ s1
    | none => .no
  | .chain p q a b c, ρ, s => (evE g a ρ s).bind fun x s1 => (evE g b ρ s1).bind fun y s2 => match prim s2 p [x, y] with
    | some (.bl true) => (evE g c ρ s2).bind fun z s3 => ofO s3 (prim s3 q [y, z])
    | some (.bl false) => .ok (.bl false) s2
    | _ => .no
  | .slc m hl hh a lo hi, ρ, s => (evE g a ρ s).bind fun d s1 => (evE g lo ρ s1).bind fun x s2 => match bnd hl x with
    | none => .no
    | some l => (evE g hi ρ s2).bind fun y s3 => match bnd hh y with
      | none => .no
      | some h => if m then match vL s3 d with
          | some ds => mkL true (cutD ds l h) s3
          | none => .no
        else ofO s3 (slcD s3 l h d)
  | .tup es, ρ, s => (evEs g es ρ s).bind fun ds s1 => .ok (.tup ds) s1
  | .lst m es, ρ, s => (evEs g es ρ s).bind fun ds s1 => mkL m ds s1
  | .comp m own tg it c e, ρ, s => (evI g it ρ s).bind fun src s1 =>
    (compLoop src (compB tg (wipeE ρ own) (fun ρ s => evE g c ρ s) fun ρ s => evE g e ρ s) (src.most s1) 0 [] s1).bind fun ds s2 => mkL m ds s2
  | .call f es, ρ, s => (evEs g es ρ s).bind fun ds s1 => g.call f ds s1
  | .self es, ρ, s => (evEs g es ρ s).bind fun ds s1 => g.self ds s1
  | .fnv f, _, s => .ok (.fn f) s
  | .callv f es, ρ, s => (evE g f ρ s).bind fun d s1 => match d with
    | .fn fd => (evEs g es ρ s1).bind fun ds s2 => g.call fd ds s2
    | _ => .no
def evEs (g : G) : List E → Env → Sto → Out (List D)
  | [], _, s => .ok [] s
  | e :: es, ρ, s => (evE g e ρ s).bind fun d s1 => (evEs g es ρ s1).bind fun ds s2 => .ok (d :: ds) s2
def evI (g : G) : I → Env → Sto → Out Src
  | .e a, ρ, s => (evE g a ρ s).bind fun d s1 => match vS s1 d with
    | some _ => .ok (.seq d) s1
    | none => .no
  | .r1 a, ρ, s => (evE g a ρ s).bind fun d s1 => match d with
    | .int j => if Nat.blt j.natAbs (2 ^ 62) then .ok (.rng 0 j.toNat) s1 else .no
    | _ => .no
  | .r2 a b, ρ, s => (evE g a ρ s).bind fun d s1 => (evE g b ρ s1).bind fun d2 s2 => match d, d2 with
    | .int i, .int j => if Nat.blt i.natAbs (2 ^ 62) && Nat.blt j.natAbs (2 ^ 62) then .ok (.rng i (j - i).toNat) s2 else .no
    | _, _ => .no
  | .enum a, ρ, s => (evE g a ρ s).bind fun d s1 => match vS s1 d with
    | some _ => .ok (.enum d) s1
    | none => .no
  | .zip a b, ρ, s => (evE g a ρ s).bind fun d s1 => (evE g b ρ s1).bind fun d2 s2 => match vS s2 d, vS s2 d2 with
    | some _, some _ => .ok (.zip d d2) s2
    | _, _ => .no
end
mutual
def evS (g : G) : S → Env → Sto → SO
  | .ex e, ρ, s => (evE g e ρ s).so ρ fun _ s1 => .fl (.next ρ) s1
  | .ret e, ρ, s => (evE g e ρ s).so ρ fun d s1 => .fl (.ret d) s1
  | .set t e, ρ, s => (evE g e ρ s).so ρ fun d s1 => match asg t d ρ with
    | some ρ1 => .fl (.next ρ1) s1
    | none => .no
  | .par ts es, ρ, s => match evEs g es ρ s with
    | .ok ds s1 => match asgs (ts.map Tg.v) ds ρ with
      | some ρ1 => .fl (.next ρ1) s1
      | none => .no
    | .ex x s1 => .ex x ρ s1
    | .no => .no
  | .setIx o i e, ρ, s => (evE g e ρ s).so ρ fun d s1 => (evE g o ρ s1).so ρ fun x s2 => (evE g i ρ s2).so ρ fun y s3 => match setIx s3 x y d with
    | some s4 => .fl (.next ρ) s4
    | none => .no
  | .ite c a b, ρ, s => (evE g c ρ s).so ρ fun d s1 => match truD s1 d with
    | some true => evSs g a ρ s1
    | some false => evSs g b ρ s1
    | none => .no
  | .for_ t it b, ρ, s => match evI g it ρ s with
    | .ok src s1 => forLoop src t (fun ρ s => evSs g b ρ s) (src.most s1) 0 ρ s1
    | .ex x s1 => .ex x ρ s1
    | .no => .no
  | .while_ c b, ρ, s => whileLoop (fun ρ s => evE g c ρ s) (fun ρ s => evSs g b ρ s) g.W ρ s
  | .pass, ρ, s => .fl (.next ρ) s
  | .brk, ρ, s => .fl (.brk ρ) s
  | .cont, ρ, s => .fl (.cont ρ) s
  | .never, _, _ => .no
  | .raise_ c _, ρ, s => .ex ⟨c, []⟩ ρ s
def evSs (g : G) : List S → Env → Sto → SO
  | [], ρ, s => .fl (.next ρ) s
  | t :: ts, ρ, s => match evS g t ρ s with
    | .fl (.next ρ1) s1 => evSs g ts ρ1 s1
    | o => o
end
def callN (W : Nat) : Nat → FD → List D → Sto → Out D
  | 0, _, _, _ => .no
  | n + 1, .mk x np ns body, ds, s =>
    if ds.length = np then
      match evSs ⟨callN W n, callN W n (.mk x np ns body), W⟩ body (ds.map some ++ List.replicate (ns - np) none) s with
      | .fl (.next _) s1 => .ok .non s1
      | .fl (.ret d) s1 => .ok d s1
      | .fl _ _ => .no
      | .ex x _ s1 => .ex x s1
      | .no => .no
    else .no
end BS

/-! CoreW: zip and enumerate over lists and tuples in any mix -/
namespace BS
open PySem PySem.Spec PyProof.Rows L2
open Sem (wp)

def sqG (K : PySem.W.Frag) : Bool → Hp → Addr → List V → Prop
  | true, H, a, xs => SqL K H a xs
  | false, H, a, xs => SqT K H a xs
def isG : Bool → Heap → Addr → Array Value → Prop
  | true, h, a, its => h.IsList a its
  | false, h, a, its => h.IsTuple a its
def itG : Bool → Heap → Addr → Addr → Nat → Prop
  | true, h, it, a, i => h.IsListIter it a i
  | false, h, it, a, i => h.IsTupleIter it a i
def itO (k : Bool) (a : Addr) : Obj := { cls := .type (bif k then "list_iterator" else "tuple_iterator"), data := .fields #[.ref a, .int 0 0] }
theorem itG.obj {k : Bool} {h : Heap} {it a : Addr} {i : Nat} (x : itG k h it a i) : ∃ o, h.get? it = some o ∧ ∀ v, o.data ≠ .cell v := by
  cases k with
  | true => obtain ⟨o, e, _, d⟩ := x; exact ⟨o, e, fun v q => by rw [d] at q; cases q⟩
  | false => obtain ⟨o, e, _, d⟩ := x; exact ⟨o, e, fun v q => by rw [d] at q; cases q⟩
theorem itG.moved {k : Bool} {h h' : Heap} {it a : Addr} {i : Nat} (x : itG k h it a i) (e : ∀ o, h.get? it = some o → h'.get? it = some o) : itG k h' it a i := by
  cases k with
  | true => exact Heap.IsListIter.at x e
  | false => exact Heap.IsTupleIter.at x e
theorem itG.new {k : Bool} {h : Heap} {it a : Addr} (e : h.get? it = some (itO k a)) : itG k h it a 0 := by
  cases k with
  | true => exact ⟨_, e, rfl, rfl⟩
  | false => exact ⟨_, e, rfl, rfl⟩
theorem isG.live {k : Bool} {h : Heap} {a : Addr} {its : Array Value} (x : isG k h a its) : a < h.objs.size := by
  cases k with
  | true => obtain ⟨o, e, _⟩ := x; exact Heap.lt_size e
  | false => obtain ⟨o, e, _⟩ := x; exact Heap.lt_size e
theorem drawsG {prog : Program} {w : World} {A : Around} (hh : A.handled = none) (k : Bool) (it a : Addr) (hne : a ≠ it) (items : Array Value) :
    Draws prog w A it [it, a] items.size (fun i v => items[i]? = some v) (fun i h => itG k h it a i ∧ isG k h a items) := by
  cases k with
  | true => exact .list hh it a hne items
  | false => exact .tuple hh it a hne items
theorem beginsG (k : Bool) (a : Addr) (items : Array Value) : Begins (.ref a) (itO k a) fun h => isG k h a items := by
  cases k with
  | true => exact begins_list a items
  | false => exact begins_tuple a items
section
variable {X : Cx} {pins : List (Addr × Obj)} {σ : L2.St} {H : Hp} {s : Shared} {a : Addr} {xs ys : List V}
theorem inv_seqG {k : Bool} (I : Inv X pins σ H s) (h : sqG X.K k H a xs) : ∃ its : List Value, Vals xs its ∧ isG k s.heap a its.toArray := by
  cases k with
  | true => obtain ⟨its, r, p, _⟩ := I.list h; exact ⟨its, r, p.isList⟩
  | false => obtain ⟨its, r, p, _⟩ := I.tuple h; exact ⟨its, r, p⟩
theorem inv_injG {k : Bool} (I : Inv X pins σ H s) (h : sqG X.K k H a xs) (h' : sqG X.K k H a ys) : xs = ys := by
  cases k with
  | true => exact I.list_inj h h'
  | false => exact I.tuple_inj h h'
end
/-! ### zip -/
def ItzG (K : PySem.W.Frag) (k1 k2 : Bool) (a b : Addr) : It where
  go i H := ∃ (xs ys : List V) (x y : V), sqG K k1 H a xs ∧ sqG K k2 H b ys ∧ xs[i]? = some x ∧ ys[i]? = some y
  yld i H v H' := ∃ T x y, v = .ref T ∧ H T = none ∧ H' = upd H T (.tup [x, y]) ∧ (∀ xs, sqG K k1 H a xs → xs[i]? = some x) ∧ ∀ ys, sqG K k2 H b ys → ys[i]? = some y
  stop i H := ∃ xs ys : List V, sqG K k1 H a xs ∧ sqG K k2 H b ys ∧ i ≤ xs.length ∧ i ≤ ys.length ∧ (i = xs.length ∨ i = ys.length)
structure ZipAp (z TI TO i1 i2 a b : Addr) : Prop where
  sep : ZipSep2 z TI TO i1 i2 [i1, a] [i2, b]
  a1 : a ≠ i1
  b2 : b ≠ i2
  i12 : i1 ≠ i2
theorem zipAp_new {N a b : Addr} (ha : a < N) (hb : b < N) : ZipAp (N + 4) (N + 2) (N + 3) N (N + 1) a b where
  sep := zip_sep2 (N := N) (fp1 := [a]) (fp2 := [b]) (by simpa using ha) (by simpa using hb)
  a1 := Nat.ne_of_lt ha
  b2 := Nat.ne_of_lt (Nat.lt_succ_of_lt hb)
  i12 := Nat.ne_of_lt (Nat.lt_succ_self _)
theorem zip_letGo {prog : Program} {w : World} {A : Around} {E : Value → Shared → Prop} {s : Shared} {elts : List Expr} {x1 : Nat} {pos : Pos} {z TI TO T : Addr} {Q : Unit → Shared → Prop} (hz : IsZip s.heap z TI TO (rawInt T))
    (h : ∀ h', IsZip h' z TI TO .none → Heap.SameBut z s.heap h' → Q () { s with heap := h' }) : wpAny (model prog w) A (letOwnedTupleGo (.Tuple elts x1 pos) (.ref z) (.ref T)) Q E s := wpAny_letOwnedTupleGo_zip hz h
theorem turn_zipG {P : Program} {w : World} {K : PySem.W.Frag} {elts : List Expr} {kk : Nat} {tpos : Pos} {k1 k2 : Bool} {a b z TI TO i1 i2 : Addr} (D : ZipAp z TI TO i1 i2 a b) :
    Turn P w K (.Tuple elts kk tpos) (ItzG K k1 k2 a b) [z, TI, TO, i1, i2] z (fun i h => IsZip h z TI TO .none ∧ IsTupOf2 h TI (.ref i1) (.ref i2) ∧ (∃ x y, IsTupOf2 h TO x y) ∧ itG k1 h i1 a i ∧ itG k2 h i2 b i) where
  mem := List.mem_cons_self ..
  obj := by
    rintro i h ⟨hz, hTI, ⟨x, y, hTO⟩, h1, h2⟩ c hc
    simp only [List.mem_cons, List.not_mem_nil, or_false] at hc
    rcases hc with rfl | rfl | rfl | rfl | rfl
    · exact ⟨_, hz, fun _ q => nomatch q⟩
    · exact ⟨_, hTI, fun _ q => nomatch q⟩
    · exact ⟨_, hTO, fun _ q => nomatch q⟩
    · exact h1.obj
    · exact h2.obj
  keep := by
    rintro i h h' ⟨hz, hTI, ⟨x, y, hTO⟩, h1, h2⟩ k
    exact ⟨k z (by simp) _ hz, k TI (by simp) _ hTI, ⟨x, y, k TO (by simp) _ hTO⟩, h1.moved (k i1 (by simp)), h2.moved (k i2 (by simp))⟩
  item := by
    rintro X rfl rfl rfl hc i pins s σ H E I hf ⟨hz, hTI, ⟨x0, y0, hTO⟩, h1, h2⟩ ⟨xs, ys, x, y, hqx, hqy, hx, hy⟩
    obtain ⟨its, rv, p⟩ := inv_seqG I hqx
    obtain ⟨its2, rv2, p2⟩ := inv_seqG I hqy
    obtain ⟨u, hu, ru⟩ := rv.get hx
    obtain ⟨u2, hu2, ru2⟩ := rv2.get hy
    have hu' : its.toArray[i]? = some u := by simpa using hu
    have hu2' : its2.toArray[i]? = some u2 := by simpa using hu2
    have lz : z < s.heap.objs.size := Heap.lt_size hz
    have lt : ∀ c ∈ [z, TI, TO, i1, i2], c < s.heap.objs.size := by
      intro c hm
      simp only [List.mem_cons, List.not_mem_nil, or_false] at hm
      rcases hm with rfl | rfl | rfl | rfl | rfl
      · exact lz
      · exact Heap.lt_size hTI
      · exact Heap.lt_size hTO
      · obtain ⟨_, e, _⟩ := h1.obj; exact Heap.lt_size e
      · obtain ⟨_, e, _⟩ := h2.obj; exact Heap.lt_size e
    refine wpAny_pyNext_zipD2_item D.sep (drawsG (prog := X.prog) (w := X.w) (A := X.A.in1) (show X.A.in1.handled = none from I.ok.hd hc) k1 i1 a D.a1 its.toArray) (drawsG (prog := X.prog) (w := X.w) (A := X.A.in1) (show X.A.in1.handled = none from I.ok.hd hc) k2 i2 b D.b2 its2.toArray) hz hTI hTO ⟨h1, p⟩ ⟨h2, p2⟩ ?_ ?_ fun w1 w2 h' tk e1 e2 z' TO' st1 st2 hT hsz hk => ?_
    · exact (Array.getElem?_eq_some_iff.mp hu').1
    · exact (Array.getElem?_eq_some_iff.mp hu2').1
    rw [hu'] at e1; cases e1
    rw [hu2'] at e2; cases e2
    refine ⟨_, rfl, zip_letGo (s := { s with heap := h', toks := tk }) z' fun h'' z'' sb => ?_⟩
    have sb : Heap.SameBut z h' h'' := sb
    have hT2 : h''.get? s.heap.objs.size = some { cls := .type "tuple", data := .seq #[u, u2] } := (sb.2 _ (Nat.ne_of_gt lz)).trans hT
    have new : ObjOk X.prog X.w (upd H s.heap.objs.size (.tup [x, y])) h'' s.heap.objs.size (.tup [x, y]) :=
      ⟨by show 2 ≤ sizeLine; decide, [u, u2], .cons ru (.cons ru2 .nil), ⟨_, hT2, rfl, _, rfl⟩⟩
    have kept : ∀ c o, c ∉ [z, TI, TO, i1, i2] → s.heap.get? c = some o → h''.get? c = some o := fun c o hb q => by
      simp only [List.mem_cons, List.not_mem_nil, or_false, not_or] at hb
      exact (sb.2 c hb.1).trans (hk c o hb.1 hb.2.2.1 hb.2.2.2.1 hb.2.2.2.2 q)
    have I1 : Inv X pins σ (upd H s.heap.objs.size (.tup [x, y])) { s with heap := h'', toks := tk } := I.turnedNew (ch := [z, TI, TO, i1, i2]) kept hf (Nat.le_refl _) new
    have S := D.sep
    refine ⟨.ref s.heap.objs.size, _, I1, rfl, ⟨_, x, y, rfl, I.hok.fresh (Nat.le_refl _), rfl, fun l hl => ?_, fun l hl => ?_⟩, ⟨z'', ?_, ⟨u, u2, ?_⟩, ?_, ?_⟩, fun c hm => ?_⟩
    · rw [inv_injG I hl hqx]; exact hx
    · rw [inv_injG I hl hqy]; exact hy
    · exact (sb.2 _ S.TIz).trans (hk _ _ S.TIz S.TITO S.TIi1 S.TIi2 hTI)
    · exact (sb.2 _ S.TOz).trans TO'
    · exact st1.1.moved fun o q => (sb.2 _ S.zi1.symm).trans q
    · exact st2.1.moved fun o q => (sb.2 _ S.zi2.symm).trans q
    · rw [upd_ne (Nat.ne_of_lt (lt c hm))]
      exact (hf c hm).1
  done := by
    rintro X rfl rfl rfl hc i pins s σ H E I hf ⟨hz, hTI, ⟨x0, y0, hTO⟩, h1, h2⟩ ⟨xs, ys, hqx, hqy, q1, q2, q3⟩
    obtain ⟨its, rv, p⟩ := inv_seqG I hqx
    obtain ⟨its2, rv2, p2⟩ := inv_seqG I hqy
    have l1 := rv.length
    have l2 := rv2.length
    refine wpAny_pyNext_zipD2_end D.sep (drawsG (prog := X.prog) (w := X.w) (A := X.A.in1) (show X.A.in1.handled = none from I.ok.hd hc) k1 i1 a D.a1 its.toArray) (drawsG (prog := X.prog) (w := X.w) (A := X.A.in1) (show X.A.in1.handled = none from I.ok.hd hc) k2 i2 b D.b2 its2.toArray) hz hTI hTO ⟨h1, p⟩ ⟨h2, p2⟩ (by simp; omega) (by simp; omega) (by simp; omega) fun h' tk hk => ⟨rfl, ?_⟩
    refine I.turnedL (ch := [z, TI, TO, i1, i2]) (fun c o hb q => ?_) hf
    simp only [List.mem_cons, List.not_mem_nil, or_false, not_or] at hb
    exact hk c o hb.1 hb.2.2.1 hb.2.2.2.1 hb.2.2.2.2 q
  self := fun A i s Q E st h => wpAny_pyIter_zip st.1 h
def iZipG (K : PySem.W.Frag) (ta : TA) : TI := fun σ H R => ta σ H fun vs H1 => ∃ k1 k2 a b xs ys, vs = [.ref a, .ref b] ∧ sqG K k1 H1 a xs ∧ sqG K k2 H1 b ys ∧ R (ItzG K k1 k2 a b) H1
theorem pi_zipG {X : Cx} {e e2 : Expr} {ta : TA} {p pos tpos : Pos} {elts : List Expr} {kk : Nat} (hg : Gl X "zip") (hm : X.mg "zip" = none) (ha : PA X [e, e2] ta)
    (hs : starEach [e, e2] X.env = (false, eval e X.env) :: starEach [e2] X.env) (hpl : (backTo pos (starEach [e2] X.env)).any (·.1) = false) :
    PI X (.Tuple elts kk tpos) (.Call (.Name "zip" p) [e, e2] [] pos) (iZipG X.K ta) where
  run := fun pins s σ H R I h => by
    refine Call_ (ld_blt I hg hm PyProof.Rows.boot_zip (PyProof.Rows.callWith_type1 (thn (ha.run pos pins s σ H _ I h) fun us s1 ⟨vs, H1, I1, r1, q1⟩ => ?_) hs hpl))
    obtain ⟨k1, k2, a, b, xs, ys, rfl, hqx, hqy, q⟩ := q1
    obtain ⟨w1, w2, rfl, rw1, rw2⟩ : ∃ w1 w2, us = [w1, w2] ∧ RelV (.ref a) w1 ∧ RelV (.ref b) w2 := by
      cases r1 with
      | cons r rr => cases rr with
        | cons r' rr => cases rr; exact ⟨_, _, rfl, r, r'⟩
    cases rw1
    cases rw2
    obtain ⟨its, rv, p1⟩ := inv_seqG I1 hqx
    obtain ⟨its2, rv2, p2⟩ := inv_seqG I1 hqy
    refine zip_begins2 (beginsG k1 a its.toArray) (beginsG k2 b its2.toArray) p1 p2 fun h' hz hTI hTO g1 g2 hsz hk => wpAny_pyIter_zip hz ?_
    refine ⟨s1.heap.objs.size + 4, [s1.heap.objs.size + 4, s1.heap.objs.size + 2, s1.heap.objs.size + 3, s1.heap.objs.size, s1.heap.objs.size + 1], _, _, H1, rfl, I1.kept (t' := s1.toks) hk, turn_zipG (zipAp_new p1.live p2.live), ⟨hz, hTI, ⟨_, _, hTO⟩, .new g1, .new g2⟩, fun c hm => ?_, q⟩
    have hle : s1.heap.objs.size ≤ c := by
      simp only [List.mem_cons, List.not_mem_nil, or_false] at hm
      rcases hm with rfl | rfl | rfl | rfl | rfl <;> first | exact Nat.le_add_right _ _ | exact Nat.le_refl _
    exact I1.fpOk hle (I1.hok.fresh hle)
/-! ### enumerate -/
theorem meets_enumG {v : Value} {o : Obj} {Hs : Heap → Prop} (B : Begins v o Hs) :
    Meets (Builtin.«enumerate.__new__» ⟨[.type "enumerate", v], []⟩) (fun _ R s => Hs s.heap ∧
      R (.ok (.ret (.ref (s.heap.push o).objs.size))) { s with heap := (s.heap.push o).push { cls := .type "enumerate", data := .fields #[.none, .bool false, .ref s.heap.objs.size, rawInt 0, .none, .none] } }) := by
  refine .of_wp fun prog w A R s h => ?_
  obtain ⟨hp, gg, dd, tk, os⟩ := s
  obtain ⟨h1, h⟩ := h
  have hsub := sub_enumerate
  have go : ∀ {A' : Around} {E : Value → Shared → Prop} {Q : Value → Shared → Prop}, Q (.ref hp.objs.size) ⟨hp.push o, gg, dd, tk, os⟩ → wpAny (model prog w) A' (pyIter v) Q E ⟨hp, gg, dd, tk, os⟩ :=
    fun q => B.iter prog w _ _ ⟨hp, gg, dd, tk, os⟩ _ h1 q
  wp_walk using go
  refine wpAny_stack_any fun st => wpAny_pure ?_
  split
  · rename_i c _ _ _ _ _
    cases (c == Value.type "enumerate")
    · wp_walk using go
      exact ⟨_, rfl, h⟩
    · wp_walk using go
      exact ⟨_, rfl, h⟩
  · wp_walk using go
    exact ⟨_, rfl, h⟩
theorem call_enumG {prog : Program} {w : World} {A : Around} {E : Value → Shared → Prop} {s : Shared} {v : Value} {o : Obj} {Hs : Heap → Prop} {Q : Value → Shared → Prop} (B : Begins v o Hs) (h1 : Hs s.heap)
    (h : ∀ h', IsEnum h' (s.heap.objs.size + 1) s.heap.objs.size 0 .none → h'.get? s.heap.objs.size = some o → (∀ b o, s.heap.get? b = some o → h'.get? b = some o) → Q (.ref (s.heap.objs.size + 1)) { s with heap := h' }) :
    wpAny (model prog w) A (call (.type "enumerate") [v]) Q E s := by
  refine callType_new F.called_enumerate (by decide) (F.typeCall_enumerate_1 _) (F.newCall_enumerate_1 _) (fun obj => F.args_object_init_2 obj _) F.entry_enumerate_new (meets_enumG B) ⟨h1, ?_⟩
  have hz : (s.heap.push o).objs.size = s.heap.objs.size + 1 := Heap.size_push ..
  show _ ∧ _
  rw [hz]
  have he := Heap.get?_push_size (s.heap.push o) (o := { cls := .type "enumerate", data := .fields #[.none, .bool false, .ref s.heap.objs.size, rawInt 0, .none, .none] }) rfl
  rw [hz] at he
  exact ⟨⟨_, he, rfl⟩, h _ he (Heap.get?_push_of_some _ (Heap.get?_push_size _ B.free)) fun b o x => Heap.get?_push_of_some _ (Heap.get?_push_of_some _ x)⟩
def IteG (K : PySem.W.Frag) (k : Bool) (a : Addr) : It where
  go i H := ∃ (xs : List V) (x : V), sqG K k H a xs ∧ xs[i]? = some x
  yld i H v H' := ∃ T x, v = .ref T ∧ H T = none ∧ H' = upd H T (.tup [.int (i : Nat), x]) ∧ ∀ xs, sqG K k H a xs → xs[i]? = some x
  stop i H := ∃ xs : List V, sqG K k H a xs ∧ xs.length = i
theorem turn_enumG {P : Program} {w : World} {K : PySem.W.Frag} {elts : List Expr} {kk : Nat} {tpos : Pos} {k : Bool} {a e it : Addr} (h0 : a ≠ it) (hei : e ≠ it) (hea : e ≠ a) :
    Turn P w K (.Tuple elts kk tpos) (IteG K k a) [e, it] e (fun i h => (∃ old, IsEnum h e it ((i : Nat) : Int) old) ∧ itG k h it a i) where
  mem := List.mem_cons_self ..
  obj := by
    rintro i h ⟨⟨old, he⟩, hi⟩ b hb
    simp only [List.mem_cons, List.not_mem_nil, or_false] at hb
    rcases hb with rfl | rfl
    · exact ⟨_, he, fun _ q => nomatch q⟩
    · exact hi.obj
  keep := by
    rintro i h h' ⟨⟨old, he⟩, hi⟩ kp
    exact ⟨⟨old, kp e (by simp) _ he⟩, hi.moved (kp it (by simp))⟩
  item := by
    rintro X rfl rfl rfl hc i pins s σ H E I hf ⟨⟨old, he⟩, hi⟩ ⟨xs, x, hq, hx⟩
    obtain ⟨its, rv, p⟩ := inv_seqG I hq
    obtain ⟨u, hu, ru⟩ := rv.get hx
    have hu' : its.toArray[i]? = some u := by simpa using hu
    have le : e < s.heap.objs.size := Heap.lt_size he
    have li : it < s.heap.objs.size := by obtain ⟨_, q, _⟩ := hi.obj; exact Heap.lt_size q
    refine wpAny_pyNext_enum_itemC (drawsG (prog := X.prog) (w := X.w) (A := X.A.in1) (show X.A.in1.handled = none from I.ok.hd hc) k it a h0 its.toArray) he ⟨hi, p⟩ (Array.getElem?_eq_some_iff.mp hu').1 hei (by simp [hei, hea]) fun w1 h' tk e1 ho st hT hsz hk => ?_
    rw [hu'] at e1; cases e1
    refine ⟨_, rfl, wpAny_letOwnedTupleGo_enum (s := { s with heap := h', toks := tk + 1 }) ho fun h'' he'' sb => ?_⟩
    have sb : Heap.SameBut e h' h'' := sb
    have hT2 : h''.get? s.heap.objs.size = some { cls := .type "tuple", data := .seq #[.int (i : Int) tk, u] } := (sb.2 _ (Nat.ne_of_gt le)).trans hT
    have new : ObjOk X.prog X.w (upd H s.heap.objs.size (.tup [.int (i : Nat), x])) h'' s.heap.objs.size (.tup [.int (i : Nat), x]) :=
      ⟨by show 2 ≤ sizeLine; decide, [.int (i : Int) tk, u], .cons ⟨_, rfl⟩ (.cons ru .nil), ⟨_, hT2, rfl, _, rfl⟩⟩
    have kept : ∀ c o, c ∉ [e, it] → s.heap.get? c = some o → h''.get? c = some o := fun c o hb q => by
      simp only [List.mem_cons, List.not_mem_nil, or_false, not_or] at hb
      exact (sb.2 c hb.1).trans (hk c o hb.1 hb.2 q)
    have I1 : Inv X pins σ (upd H s.heap.objs.size (.tup [.int (i : Nat), x])) { s with heap := h'', toks := tk + 1 } := I.turnedNew (ch := [e, it]) kept hf (Nat.le_refl _) new
    refine ⟨.ref s.heap.objs.size, _, I1, rfl, ⟨_, x, rfl, I.hok.fresh (Nat.le_refl _), rfl, fun l hl => ?_⟩, ⟨⟨u, ?_⟩, ?_⟩, fun c hm => ?_⟩
    · rw [inv_injG I hl hq]; exact hx
    · have e1 : ((i + 1 : Nat) : Int) = (i : Int) + 1 := by omega
      show IsEnum h'' e it ((i + 1 : Nat) : Int) u
      rw [e1]
      exact he''
    · exact st.1.moved fun o q => (sb.2 _ hei.symm).trans q
    · have lt : c < s.heap.objs.size := by
        simp only [List.mem_cons, List.not_mem_nil, or_false] at hm
        rcases hm with rfl | rfl
        · exact le
        · exact li
      rw [upd_ne (Nat.ne_of_lt lt)]
      exact (hf c hm).1
  done := by
    rintro X rfl rfl rfl hc i pins s σ H E I hf ⟨⟨old, he⟩, hi⟩ ⟨xs, hq, hl⟩
    obtain ⟨its, rv, p⟩ := inv_seqG I hq
    have l1 := rv.length
    have hn : its.toArray.size = i := by simp; omega
    subst hn
    refine wpAny_pyNext_enum_endD (drawsG (prog := X.prog) (w := X.w) (A := X.A.in1) (show X.A.in1.handled = none from I.ok.hd hc) k it a h0 its.toArray) he ⟨hi, p⟩ fun h' hk => ⟨rfl, ?_⟩
    refine I.turnedL (t' := s.toks) (ch := [e, it]) (fun c o hb q => ?_) hf
    simp only [List.mem_cons, List.not_mem_nil, or_false, not_or] at hb
    exact hk c o hb.2 q
  self := fun A i s Q E st h => let ⟨old, he⟩ := st.1; wpAny_pyIter_enum he h
def iEnumG (K : PySem.W.Frag) (ta : TA) : TI := fun σ H R => ta σ H fun vs H1 => ∃ k a xs, vs = [.ref a] ∧ sqG K k H1 a xs ∧ R (IteG K k a) H1
theorem pi_enumG {X : Cx} {e : Expr} {ta : TA} {p pos tpos : Pos} {elts : List Expr} {kk : Nat} (hg : Gl X "enumerate") (hm : X.mg "enumerate" = none) (ha : PA X [e] ta) (hs : starEach [e] X.env = [(false, eval e X.env)]) :
    PI X (.Tuple elts kk tpos) (.Call (.Name "enumerate" p) [e] [] pos) (iEnumG X.K ta) where
  run := fun pins s σ H R I h => by
    refine Call_ (ld_blt I hg hm boot_enumerate (PyProof.Rows.callWith_type1 (thn (ha.run pos pins s σ H _ I h) fun us s1 ⟨vs, H1, I1, r1, q1⟩ => ?_) hs rfl))
    obtain ⟨k, a, xs, rfl, hq, q⟩ := q1
    obtain ⟨w1, rfl, rw1⟩ : ∃ w1, us = [w1] ∧ RelV (.ref a) w1 := by
      cases r1 with
      | cons r rr => cases rr; exact ⟨_, rfl, r⟩
    cases rw1
    obtain ⟨its, rv, p'⟩ := inv_seqG I1 hq
    refine call_enumG (beginsG k a its.toArray) p' fun h' he g1 hk => wpAny_pyIter_enum he ?_
    have la : a < s1.heap.objs.size := p'.live
    refine ⟨s1.heap.objs.size + 1, [s1.heap.objs.size + 1, s1.heap.objs.size], _, _, H1, rfl, I1.kept (t' := s1.toks) hk, turn_enumG (k := k) (a := a) (Nat.ne_of_lt la) (Nat.succ_ne_self _) (Nat.ne_of_gt (Nat.lt_succ_of_lt la)), ⟨⟨.none, he⟩, .new g1⟩, fun c hm => ?_, q⟩
    have hle : s1.heap.objs.size ≤ c := by
      simp only [List.mem_cons, List.not_mem_nil, or_false] at hm
      rcases hm with rfl | rfl <;> first | exact Nat.le_add_right _ _ | exact Nat.le_refl _
    exact I1.fpOk hle (I1.hok.fresh hle)
end BS

/-! Core2: how data stands in the abstract heap -/
namespace BS
open PySem PySem.Spec PyProof.Rows L2

/-- what is fixed: the written part, the module's names, its functions, its classes -/
structure RC where
  K : PySem.W.Frag
  mg : Str → Option Value
  fns : List (Str × FD)
  cls : Str → Option Addr

/-- the law's script: a list that nobody writes -/
def ScrOk (K : PySem.W.Frag) (H : Hp) (a : Addr) (ns : List Int) : Prop :=
  (∃ o, H a = some (.frz o (.lst (ns.map V.int)))) ∨
    ∃ (o : Obj) (its : Array Value) (n : Nat), K.lookup a = some o ∧ o.cls = .type "list" ∧ o.dict = none ∧ o.data = .seq its n ∧ its.size ≤ sizeLine ∧ Vals (ns.map V.int) its.toList
theorem ScrOk.sq {K : PySem.W.Frag} {H : Hp} {a : Addr} {ns : List Int} (h : ScrOk K H a ns) : SqL K H a (ns.map V.int) := h.imp (fun ⟨o, h⟩ => .inr ⟨o, h⟩) id
mutual
inductive Rep (C : RC) (ξ : Addr → Prop) (ω : List Addr) (H : Hp) : V → D → Prop
  | non : Rep C ξ ω H .non .non
  | bl (b : Bool) : Rep C ξ ω H (.bl b) (.bl b)
  | int (i : Int) : Rep C ξ ω H (.int i) (.int i)
  | str (x : Str) : Rep C ξ ω H (.str x) (.str x)
  | tup {a : Addr} {vs : List V} {ds : List D} : SqT C.K H a vs → Reps C ξ ω H vs ds → Rep C ξ ω H (.ref a) (.tup ds)
  | lst {a : Addr} {vs : List V} {ds : List D} : H a = some (.lst vs) → a ∉ ω → ¬ ξ a → Reps C ξ ω H vs ds → Rep C ξ ω H (.ref a) (.lst ds)
  | obj {a : Addr} {n : Nat} : ω[n]? = some a → Rep C ξ ω H (.ref a) (.obj n)
  | scr {a : Addr} {ns : List Int} : ScrOk C.K H a ns → Rep C ξ ω H (.ref a) (.scr ns)
  | fn {a : Addr} {x : Str} {f : FD} : (x, f) ∈ C.fns → C.mg x = some (.ref a) → Rep C ξ ω H (.ref a) (.fn f)
inductive Reps (C : RC) (ξ : Addr → Prop) (ω : List Addr) (H : Hp) : List V → List D → Prop
  | nil : Reps C ξ ω H [] []
  | cons {v : V} {vs : List V} {d : D} {ds : List D} : Rep C ξ ω H v d → Reps C ξ ω H vs ds → Reps C ξ ω H (v :: vs) (d :: ds)
end

/-- an object of the store -/
def ObRel (C : RC) (ξ : Addr → Prop) (ω : List Addr) (H : Hp) (a : Addr) : Ob → Prop
  | .lst ds => ∃ vs, H a = some (.lst vs) ∧ Reps C ξ ω H vs ds
  | .ins c fs => ∃ Ca dx vfs, H a = some (.ins Ca dx vfs) ∧ C.cls c = some Ca ∧ vfs.map (·.1) = fs.map (·.1) ∧ Reps C ξ ω H (vfs.map (·.2)) (fs.map (·.2))
structure SRel (C : RC) (ξ : Addr → Prop) (ω : List Addr) (H : Hp) (s : Sto) : Prop where
  len : s.length = ω.length
  nd : ω.Nodup
  nx : ∀ a ∈ ω, ¬ ξ a
  xn : ∀ a, ξ a → H a ≠ none
  ob : ∀ (n : Nat) (a : Addr) (o : Ob), ω[n]? = some a → s[n]? = some o → ObRel C ξ ω H a o
structure Keep (ω : List Addr) (H H' : Hp) : Prop where
  at_ : ∀ a o, H a = some o → a ∉ ω → (∀ ps, o ≠ .tbl ps) → H' a = some o
  no : ∀ a, H' a = none → H a = none
def Fresh (H : Hp) (δ : List Addr) : Prop := ∀ a ∈ δ, H a = none
structure ERel (C : RC) (ξ : Addr → Prop) (ω : List Addr) (H : Hp) (σ : L2.St) (ρ : Env) : Prop where
  len : ρ.length = σ.length
  at_ : ∀ (i : Nat) (d : D), ρ[i]? = some (some d) → ∃ v, σ[i]? = some (some v) ∧ Rep C ξ ω H v d

section
variable {C : RC} {ξ : Addr → Prop} {ω δ δ' : List Addr} {H H' H'' : Hp} {s s' : Sto}
theorem SRel.there (r : SRel C ξ ω H s) {a : Addr} (h : a ∈ ω) : (∃ vs, H a = some (.lst vs)) ∨ ∃ Ca dx fs, H a = some (.ins Ca dx fs) := by
  obtain ⟨n, hn, e⟩ := List.getElem_of_mem h
  have hs : n < s.length := by rw [r.len]; exact hn
  have q := r.ob n a s[n] (by rw [List.getElem?_eq_getElem hn, e]) (List.getElem?_eq_getElem hs)
  cases e2 : s[n] with
  | lst ds => rw [e2] at q; obtain ⟨vs, h1, _⟩ := q; exact .inl ⟨vs, h1⟩
  | ins c fs => rw [e2] at q; obtain ⟨Ca, dx, vfs, h1, _⟩ := q; exact .inr ⟨Ca, dx, vfs, h1⟩
theorem SRel.notin (r : SRel C ξ ω H s) {a : Addr} {o : HO} (e : H a = some o) (h1 : ∀ vs, o ≠ .lst vs) (h2 : ∀ Ca dx fs, o ≠ .ins Ca dx fs) : a ∉ ω := fun h => by
  rcases r.there h with ⟨vs, q⟩ | ⟨Ca, dx, fs, q⟩
  · rw [e] at q; exact h1 vs (Option.some.inj q)
  · rw [e] at q; exact h2 _ _ _ (Option.some.inj q)
theorem Keep.refl : Keep ω H H := ⟨fun _ _ h _ _ => h, fun _ h => h⟩
theorem Keep.trans (a : Keep ω H H') (b : Keep (ω ++ δ) H' H'') (f : Fresh H δ) : Keep ω H H'' :=
  ⟨fun c o h hn ht => b.at_ c o (a.at_ c o h hn ht) (fun z => (List.mem_append.mp z).elim hn fun q => by rw [f c q] at h; cases h) ht, fun c h => a.no c (b.no c h)⟩
theorem Keep.mono (a : Keep ω H H') : Keep (ω ++ δ) H H' := ⟨fun c o h hn ht => a.at_ c o h (fun z => hn (List.mem_append_left _ z)) ht, a.no⟩
theorem Fresh.nil : Fresh H [] := fun _ h => nomatch h
theorem Fresh.app (a : Fresh H δ) (k : Keep ω H H') (b : Fresh H' δ') : Fresh H (δ ++ δ') := fun c h => (List.mem_append.mp h).elim (a c) fun q => k.no c (b c q)
theorem SqT.keep {K : PySem.W.Frag} {a : Addr} {vs : List V} (r : SRel C ξ ω H s) (k : Keep ω H H') (h : SqT K H a vs) : SqT K H' a vs := by
  rcases h with (h | ⟨o, h⟩) | h
  · exact .inl (.inl (k.at_ _ _ h (r.notin h (fun _ z => nomatch z) fun _ _ _ z => nomatch z) fun _ z => nomatch z))
  · exact .inl (.inr ⟨o, k.at_ _ _ h (r.notin h (fun _ z => nomatch z) fun _ _ _ z => nomatch z) fun _ z => nomatch z⟩)
  · exact .inr h
mutual
theorem Rep.keep (r : SRel C ξ ω H s) (k : Keep ω H H') (f : Fresh H δ) : ∀ {d : D} {v : V}, Rep C ξ ω H v d → Rep C ξ (ω ++ δ) H' v d
  | .non, _, .non => .non
  | .bl _, _, .bl _ => .bl _
  | .int _, _, .int _ => .int _
  | .str _, _, .str _ => .str _
  | .tup ds, _, .tup h q => .tup (SqT.keep r k h) (Reps.keep r k f q)
  | .lst ds, _, .lst h n x q => .lst (k.at_ _ _ h n fun _ z => nomatch z) (fun z => (List.mem_append.mp z).elim n fun w => by rw [f _ w] at h; cases h) x (Reps.keep r k f q)
  | .obj n, _, .obj h => .obj (by rw [List.getElem?_append_left (List.getElem?_eq_some_iff.mp h).1]; exact h)
  | .scr ns, _, .scr h => .scr (h.imp (fun ⟨o, h⟩ => ⟨o, k.at_ _ _ h (r.notin h (fun _ z => nomatch z) fun _ _ _ z => nomatch z) fun _ z => nomatch z⟩) id)
  | .fn g, _, .fn h e => .fn h e
theorem Reps.keep (r : SRel C ξ ω H s) (k : Keep ω H H') (f : Fresh H δ) : ∀ {ds : List D} {vs : List V}, Reps C ξ ω H vs ds → Reps C ξ (ω ++ δ) H' vs ds
  | [], _, .nil => .nil
  | d :: ds, _, .cons h q => .cons (Rep.keep r k f h) (Reps.keep r k f q)
end
theorem Rep.keep0 (r : SRel C ξ ω H s) (k : Keep ω H H') {d : D} {v : V} (h : Rep C ξ ω H v d) : Rep C ξ ω H' v d := by
  have q := Rep.keep (δ := []) r k Fresh.nil h
  rwa [List.append_nil] at q
theorem Reps.keep0 (r : SRel C ξ ω H s) (k : Keep ω H H') {d : List D} {v : List V} (h : Reps C ξ ω H v d) : Reps C ξ ω H' v d := by
  have q := Reps.keep (δ := []) r k Fresh.nil h
  rwa [List.append_nil] at q
theorem ERel.keep {σ : L2.St} {ρ : Env} (r : SRel C ξ ω H s) (k : Keep ω H H') (f : Fresh H δ) (e : ERel C ξ ω H σ ρ) : ERel C ξ (ω ++ δ) H' σ ρ :=
  ⟨e.len, fun i d h => let ⟨v, h1, h2⟩ := e.at_ i d h; ⟨v, h1, h2.keep r k f⟩⟩
theorem Reps.length : ∀ {ds : List D} {vs : List V}, Reps C ξ ω H vs ds → vs.length = ds.length
  | [], _, .nil => rfl
  | _ :: _, _, .cons _ q => congrArg (· + 1) q.length
theorem Reps.get : ∀ {ds : List D} {vs : List V} {i : Nat} {d : D}, Reps C ξ ω H vs ds → ds[i]? = some d → ∃ v, vs[i]? = some v ∧ Rep C ξ ω H v d
  | _ :: _, _, 0, _, .cons h _, e => by cases Option.some.inj e; exact ⟨_, rfl, h⟩
  | _ :: _, _, i + 1, _, .cons _ q, e => by
    obtain ⟨v, h1, h2⟩ := q.get (i := i) (by simpa using e)
    exact ⟨v, by simpa using h1, h2⟩
theorem Reps.app : ∀ {ds es : List D} {vs ws : List V}, Reps C ξ ω H vs ds → Reps C ξ ω H ws es → Reps C ξ ω H (vs ++ ws) (ds ++ es)
  | [], _, _, _, .nil, q => q
  | _ :: _, _, _, _, .cons h p, q => .cons h (p.app q)
theorem Reps.take : ∀ {ds : List D} {vs : List V} (n : Nat), Reps C ξ ω H vs ds → Reps C ξ ω H (vs.take n) (ds.take n)
  | _, _, 0, _ => by simpa using .nil
  | [], _, n + 1, .nil => .nil
  | _ :: _, _, n + 1, .cons h q => .cons h (q.take n)
theorem Reps.drop : ∀ {ds : List D} {vs : List V} (n : Nat), Reps C ξ ω H vs ds → Reps C ξ ω H (vs.drop n) (ds.drop n)
  | _, _, 0, h => by simpa using h
  | [], _, n + 1, .nil => .nil
  | _ :: _, _, n + 1, .cons _ q => q.drop n
theorem Reps.set {v : V} {d : D} (r : Rep C ξ ω H v d) : ∀ {ds : List D} {vs : List V} (n : Nat), Reps C ξ ω H vs ds → Reps C ξ ω H (vs.set n v) (ds.set n d)
  | [], _, _, .nil => .nil
  | _ :: _, _, 0, .cons _ q => .cons r q
  | _ :: _, _, n + 1, .cons h q => .cons h (q.set r n)
theorem Reps.rep {ds : List D} {vs : List V} (q : Reps C ξ ω H vs ds) : ∀ n : Nat, Reps C ξ ω H (List.replicate n vs).flatten (List.replicate n ds).flatten
  | 0 => .nil
  | n + 1 => by
    rw [List.replicate_succ, List.replicate_succ, List.flatten_cons, List.flatten_cons]
    exact q.app (Reps.rep q n)
theorem Reps.dropLast {ds : List D} {vs : List V} (q : Reps C ξ ω H vs ds) : Reps C ξ ω H vs.dropLast ds.dropLast := by
  rw [List.dropLast_eq_take, List.dropLast_eq_take, q.length]
  exact q.take _
theorem Reps.isEmpty {ds : List D} {vs : List V} (q : Reps C ξ ω H vs ds) : vs.isEmpty = ds.isEmpty := by
  cases q <;> rfl
/-- the items of a sequence -/
theorem vL_ok (r : SRel C ξ ω H s) {d : D} {v : V} {ds : List D} (h : Rep C ξ ω H v d) (e : vL s d = some ds) : ∃ a vs, v = .ref a ∧ H a = some (.lst vs) ∧ Reps C ξ ω H vs ds := by
  cases h with
  | lst h1 h2 h3 h4 => cases Option.some.inj e; exact ⟨_, _, rfl, h1, h4⟩
  | @obj a n h1 =>
    simp only [vL] at e
    cases q : s[n]? with
    | none => simp only [q] at e; cases e
    | some o =>
      simp only [q] at e
      cases o with
      | lst es =>
        cases Option.some.inj e
        obtain ⟨vs, e1, e2⟩ := r.ob n a _ h1 q
        exact ⟨a, vs, rfl, e1, e2⟩
      | ins c fs => cases e
  | _ => cases e
theorem vS_ok (r : SRel C ξ ω H s) {d : D} {v : V} {ds : List D} (h : Rep C ξ ω H v d) (e : vS s d = some ds) : ∃ a vs, v = .ref a ∧ (SqL C.K H a vs ∨ SqT C.K H a vs) ∧ Reps C ξ ω H vs ds := by
  cases h with
  | tup h1 h2 => cases Option.some.inj e; exact ⟨_, _, rfl, .inr h1, h2⟩
  | lst h1 h2 h3 h4 => cases Option.some.inj e; exact ⟨_, _, rfl, .inl (SqL.of h1), h4⟩
  | @obj a n h1 =>
    obtain ⟨b, vs, e0, e1, e2⟩ := vL_ok r (Rep.obj h1) (show vL s (.obj n) = some ds from e)
    exact ⟨b, vs, e0, .inl (SqL.of e1), e2⟩
  | _ => cases e
/-! plain data -/
mutual
theorem pyD_ok : ∀ {d : D} {v : V} {p : PyData}, Rep C ξ ω H v d → pyD d = some p → Dp C.K H v p
  | .non, _, _, .non, e => by simp only [pyD, Option.some.injEq] at e; subst e; exact .non
  | .bl b, _, _, .bl _, e => by simp only [pyD, Option.some.injEq] at e; subst e; exact .bl b
  | .int b, _, _, .int _, e => by simp only [pyD, Option.some.injEq] at e; subst e; exact .int b
  | .str b, _, _, .str _, e => by simp only [pyD, Option.some.injEq] at e; subst e; exact .str b
  | .tup ds, _, _, .tup h q, e => by
    simp only [pyD, Option.map_eq_some_iff] at e
    obtain ⟨ps, e1, rfl⟩ := e
    exact .tup h (pyDs_ok q e1)
  | .lst ds, _, _, .lst h n x q, e => by
    simp only [pyD, Option.map_eq_some_iff] at e
    obtain ⟨ps, e1, rfl⟩ := e
    exact .lst (SqL.of h) (pyDs_ok q e1)
  | .obj n, _, _, _, e => by simp [pyD] at e
  | .scr n, _, _, _, e => by simp [pyD] at e
  | .fn n, _, _, _, e => by simp [pyD] at e
theorem pyDs_ok : ∀ {ds : List D} {vs : List V} {ps : List PyData}, Reps C ξ ω H vs ds → pyDs ds = some ps → DpAll C.K H vs ps
  | [], _, _, .nil, e => by simp only [pyDs, Option.some.injEq] at e; subst e; exact .nil
  | d :: ds, _, _, .cons h q, e => by
    simp only [pyDs] at e
    split at e
    · rename_i x xs h1 h2
      simp only [Option.some.injEq] at e
      subst e
      exact .cons (pyD_ok h h1) (pyDs_ok q h2)
    · cases e
end
theorem shp_ok (r : SRel C ξ ω H s) {d : D} {v : V} {p : PyData} (h : Rep C ξ ω H v d) (e : shp (und s d) = some p) : Dp C.K H v p ∧ SeqAt.shaped p = true := by
  unfold shp at e
  split at e
  · rename_i q hq
    split at e
    · rename_i hs
      cases Option.some.inj e
      refine ⟨?_, hs⟩
      cases d with
      | obj n =>
        simp only [und] at hq
        split at hq
        · rename_i ds hn
          obtain ⟨a, vs, rfl, e1, e2⟩ := vL_ok (ds := ds) r h (by simp only [vL, hn])
          simp only [pyD, Option.map_eq_some_iff] at hq
          obtain ⟨ps, e3, rfl⟩ := hq
          exact .lst (SqL.of e1) (pyDs_ok e2 e3)
        · simp [pyD] at hq
      | _ => exact pyD_ok h hq
    · cases e
  · cases e
/-- a change at an address that is no datum's -/
theorem SqT.upd {K : PySem.W.Frag} {a D : Addr} {o : HO} {vs : List V} (hD : ∀ vs, H D ≠ some (.tup vs)) (hD2 : ∀ o u, H D ≠ some (.frz o u)) (h : SqT K H a vs) : SqT K (upd H D o) a vs := by
  rcases h with (h | ⟨o, h⟩) | h
  · exact .inl (.inl (by rw [upd_ne (by rintro rfl; exact hD _ h)]; exact h))
  · exact .inl (.inr ⟨o, by rw [upd_ne (by rintro rfl; exact hD2 _ _ h)]; exact h⟩)
  · exact .inr h
end
end BS

/-! Core3: readings; the operations by values -/
namespace BS
open PySem PySem.Spec PyProof.Rows L2

def Ext (ω : List Addr) (H : Hp) (ω' : List Addr) (H' : Hp) : Prop := ∃ δ, ω' = ω ++ δ ∧ Keep ω H H' ∧ Fresh H δ
/-- an exception: its class, its own dict -/
def ExRel (C : RC) (ξ : Addr → Prop) (ω : List Addr) (H : Hp) (x : Exn) (cls : Value) (dx : Option Addr) : Prop :=
  ∃ Ca, C.cls x.cls = some Ca ∧ cls = .ref Ca ∧
    match dx with
    | none => x.fs = []
    | some a => ∃ vfs, H a = some (.xd vfs) ∧ vfs.map (·.1) = x.fs.map (·.1) ∧ Reps C ξ ω H (vfs.map (·.2)) (x.fs.map (·.2))
def PO {α : Type} (C : RC) (ξ : Addr → Prop) (ω : List Addr) (H : Hp) (σ : L2.St) (W : WX) (o : Out α) (k : α → Sto → List Addr → Hp → Prop) : Prop :=
  match o with
  | .ok a s' => ∀ ω' H', Ext ω H ω' H' → SRel C ξ ω' H' s' → k a s' ω' H'
  | .ex x s' => ∀ cls dx ω' H', Ext ω H ω' H' → SRel C ξ ω' H' s' → ExRel C ξ ω' H' x cls dx → W cls dx σ H'
  | .no => False

section
variable {C : RC} {ξ : Addr → Prop} {ω ω' ω'' : List Addr} {H H' H'' : Hp} {s s' : Sto} {σ : L2.St} {ρ : Env} {W : WX} {g : G}
theorem Ext.refl : Ext ω H ω H := ⟨[], (List.append_nil _).symm, Keep.refl, Fresh.nil⟩
theorem Ext.trans (a : Ext ω H ω' H') (b : Ext ω' H' ω'' H'') : Ext ω H ω'' H'' := by
  obtain ⟨δ, rfl, k, f⟩ := a
  obtain ⟨δ', rfl, k', f'⟩ := b
  exact ⟨δ ++ δ', List.append_assoc .., k.trans k' f, f.app k f'⟩
theorem Ext.no (a : Ext ω H ω' H') {p : Addr} (h : H' p = none) : H p = none := a.choose_spec.2.1.no p h
theorem Rep.ext (r : SRel C ξ ω H s) (e : Ext ω H ω' H') {d : D} {v : V} (h : Rep C ξ ω H v d) : Rep C ξ ω' H' v d := by
  obtain ⟨δ, rfl, k, f⟩ := e
  exact h.keep r k f
theorem Reps.ext (r : SRel C ξ ω H s) (e : Ext ω H ω' H') {d : List D} {v : List V} (h : Reps C ξ ω H v d) : Reps C ξ ω' H' v d := by
  obtain ⟨δ, rfl, k, f⟩ := e
  exact h.keep r k f
theorem ERel.ext (r : SRel C ξ ω H s) (e : Ext ω H ω' H') (h : ERel C ξ ω H σ ρ) : ERel C ξ ω' H' σ ρ := by
  obtain ⟨δ, rfl, k, f⟩ := e
  exact h.keep r k f
theorem PO.bind {α β : Type} {o : Out α} {f : α → Sto → Out β} {k : β → Sto → List Addr → Hp → Prop} (h : PO C ξ ω H σ W (o.bind f) k) :
    PO C ξ ω H σ W o fun a s' ω' H' => PO C ξ ω' H' σ W (f a s') k := by
  cases o with
  | no => exact h
  | ex x s' => exact h
  | ok a s1 =>
    intro ω1 H1 e1 r1
    have h : PO C ξ ω H σ W (f a s1) k := h
    cases q : f a s1 with
    | no => rw [q] at h; exact h
    | ex x s2 => rw [q] at h; exact fun cls dx ω2 H2 e2 r2 z => h cls dx ω2 H2 (e1.trans e2) r2 z
    | ok b s2 => rw [q] at h; exact fun ω2 H2 e2 r2 => h ω2 H2 (e1.trans e2) r2
theorem PO.mono {α : Type} {o : Out α} {k k' : α → Sto → List Addr → Hp → Prop} (h : PO C ξ ω H σ W o k) (m : ∀ a s' ω' H', o = .ok a s' → Ext ω H ω' H' → SRel C ξ ω' H' s' → k a s' ω' H' → k' a s' ω' H') : PO C ξ ω H σ W o k' := by
  cases o with
  | no => exact h
  | ex x s' => exact h
  | ok a s1 => exact fun ω1 H1 e1 r1 => m a s1 ω1 H1 rfl e1 r1 (h ω1 H1 e1 r1)
theorem PO.here {α : Type} {a : α} {k : α → Sto → List Addr → Hp → Prop} (h : PO C ξ ω H σ W (.ok a s) k) (r : SRel C ξ ω H s) : k a s ω H := h ω H Ext.refl r

/-! ### the readings -/
def tD (C : RC) (W : WX) (g : G) (e : E) : TE := fun σ H Q => ∃ ξ ω ρ s, ERel C ξ ω H σ ρ ∧ SRel C ξ ω H s ∧ PO C ξ ω H σ W (evE g e ρ s) fun d _ ω' H' => ∀ v, Rep C ξ ω' H' v d → Q v H'
def tT (C : RC) (W : WX) (g : G) (e : E) : TT := fun σ H Q => ∃ ξ ω ρ s, ERel C ξ ω H σ ρ ∧ SRel C ξ ω H s ∧ PO C ξ ω H σ W (evE g e ρ s) fun d s' _ H' => ∃ b, truD s' d = some b ∧ Q b H'
def tDs (C : RC) (W : WX) (g : G) (es : List E) : TA := fun σ H Q => ∃ ξ ω ρ s, ERel C ξ ω H σ ρ ∧ SRel C ξ ω H s ∧ PO C ξ ω H σ W (evEs g es ρ s) fun ds _ ω' H' => ∀ vs, Reps C ξ ω' H' vs ds → Q vs H'
theorem tD.mk {e : E} {Q : VK} (er : ERel C ξ ω H σ ρ) (sr : SRel C ξ ω H s) (h : PO C ξ ω H σ W (evE g e ρ s) fun d _ ω' H' => ∀ v, Rep C ξ ω' H' v d → Q v H') : tD C W g e σ H Q := ⟨ξ, ω, ρ, s, er, sr, h⟩
theorem tDs.mk {e : List E} {Q : List V → Hp → Prop} (er : ERel C ξ ω H σ ρ) (sr : SRel C ξ ω H s) (h : PO C ξ ω H σ W (evEs g e ρ s) fun d _ ω' H' => ∀ v, Reps C ξ ω' H' v d → Q v H') : tDs C W g e σ H Q := ⟨ξ, ω, ρ, s, er, sr, h⟩
/-- a value, and what is known there -/
theorem tD.go {e : E} {Q : VK} {K : D → Sto → List Addr → Hp → Prop} (er : ERel C ξ ω H σ ρ) (sr : SRel C ξ ω H s) (h : PO C ξ ω H σ W (evE g e ρ s) K)
    (m : ∀ d s' ω' H' v, Ext ω H ω' H' → SRel C ξ ω' H' s' → ERel C ξ ω' H' σ ρ → K d s' ω' H' → Rep C ξ ω' H' v d → Q v H') : tD C W g e σ H Q :=
  tD.mk er sr (h.mono fun d s' ω' H' _ e r k v rv => m d s' ω' H' v e r (er.ext sr e) k rv)

theorem mapOut_one {a : E} : evEs g [a] ρ s = (evE g a ρ s).bind fun d s1 => .ok [d] s1 := by
  simp only [evEs]
  cases evE g a ρ s <;> rfl
theorem mapOut_two {a b : E} : evEs g [a, b] ρ s = (evE g a ρ s).bind fun d s1 => (evE g b ρ s1).bind fun d2 s2 => .ok [d, d2] s2 := by
  simp only [evEs]
  cases evE g a ρ s with
  | ok d s1 =>
    simp only [Out.bind]
    cases evE g b ρ s1 <;> rfl
  | _ => rfl
theorem bind_assoc {α β γ : Type} (o : Out α) (f : α → Sto → Out β) (k : β → Sto → Out γ) : (o.bind f).bind k = o.bind fun a s => (f a s).bind k := by
  cases o <;> rfl

/-! ### new objects -/
theorem Keep.laid {p : Addr} {o : HO} (h : H p = none) : Keep ω H (upd H p o) :=
  ⟨fun a u e _ _ => by rw [upd_ne (ne_of_none e h)]; exact e, fun a e => by
    by_cases q : a = p
    · rw [q]; exact h
    · rwa [upd_ne q] at e⟩
theorem Ext.laid {p : Addr} {o : HO} (h : H p = none) : Ext ω H ω (upd H p o) := ⟨[], (List.append_nil _).symm, Keep.laid h, Fresh.nil⟩
theorem ObRel.full {o : Ob} {a : Addr} (r : SRel C ξ ω H s) (k : ∀ a u, H a = some u → H' a = some u) (kn : Keep ω H H') (h : ObRel C ξ ω H a o) : ObRel C ξ ω H' a o := by
  cases o with
  | lst ds => obtain ⟨vs, h1, h2⟩ := h; exact ⟨vs, k _ _ h1, h2.keep0 r kn⟩
  | ins c fs => obtain ⟨Ca, dx, vfs, h1, h2, h3, h4⟩ := h; exact ⟨Ca, dx, vfs, k _ _ h1, h2, h3, h4.keep0 r kn⟩
theorem SRel.full (r : SRel C ξ ω H s) (k : ∀ a u, H a = some u → H' a = some u) (kn : Keep ω H H') : SRel C ξ ω H' s :=
  ⟨r.len, r.nd, r.nx, fun a h e => r.xn a h (kn.no a e), fun n a o h1 h2 => (r.ob n a o h1 h2).full r k kn⟩
theorem SRel.laid {p : Addr} {o : HO} (r : SRel C ξ ω H s) (h : H p = none) : SRel C ξ ω (upd H p o) s :=
  r.full (fun a u e => by rw [upd_ne (ne_of_none e h)]; exact e) (Keep.laid h)
theorem SRel.out (r : SRel C ξ ω H s) {p : Addr} (h : H p = none) : p ∉ ω ∧ ¬ ξ p :=
  ⟨fun z => by
    rcases r.there z with ⟨_, q⟩ | ⟨_, _, _, q⟩
    · rw [h] at q; cases q
    · (rw [h] at q; cases q), fun z => r.xn p z h⟩
theorem new_tup {p : Addr} {vs : List V} {ds : List D} (r : SRel C ξ ω H s) (h : H p = none) (q : Reps C ξ ω H vs ds) : Rep C ξ ω (upd H p (.tup vs)) (.ref p) (.tup ds) :=
  .tup (SqT.of upd_same) (q.keep0 r (Keep.laid h))
theorem new_lst {p : Addr} {vs : List V} {ds : List D} (r : SRel C ξ ω H s) (h : H p = none) (q : Reps C ξ ω H vs ds) : Rep C ξ ω (upd H p (.lst vs)) (.ref p) (.lst ds) :=
  .lst upd_same (r.out h).1 (r.out h).2 (q.keep0 r (Keep.laid h))
/-- a new list of the store -/
theorem new_obj {p : Addr} {vs : List V} {ds : List D} (r : SRel C ξ ω H s) (h : H p = none) (q : Reps C ξ ω H vs ds) :
    Ext ω H (ω ++ [p]) (upd H p (.lst vs)) ∧ SRel C ξ (ω ++ [p]) (upd H p (.lst vs)) (s ++ [.lst ds]) ∧ Rep C ξ (ω ++ [p]) (upd H p (.lst vs)) (.ref p) (.obj s.length) := by
  have k : Keep ω H (upd H p (.lst vs)) := Keep.laid h
  have f : Fresh H [p] := fun a ha => by rw [List.mem_singleton.mp ha]; exact h
  have o := r.out h
  refine ⟨⟨[p], rfl, k, f⟩, ⟨by rw [List.length_append, List.length_append, r.len]; rfl, List.nodup_append.mpr ⟨r.nd, by simp, fun a ha b hb => by rw [List.mem_singleton.mp hb]; rintro rfl; exact o.1 ha⟩,
    fun a ha => (List.mem_append.mp ha).elim (r.nx a) fun z => by rw [List.mem_singleton.mp z]; exact o.2, fun a z e => r.xn a z (k.no a e), fun n a u h1 h2 => ?_⟩, .obj (by rw [List.getElem?_append_right (by rw [r.len]; exact Nat.le_refl _), r.len]; simp)⟩
  by_cases hn : n < ω.length
  · rw [List.getElem?_append_left hn] at h1
    rw [List.getElem?_append_left (by rw [r.len]; exact hn)] at h2
    have q2 := r.ob n a u h1 h2
    cases u with
    | lst es =>
      obtain ⟨ws, e1, e2⟩ := q2
      exact ⟨ws, by rw [upd_ne (ne_of_none e1 h)]; exact e1, e2.keep r k f⟩
    | ins c fs =>
      obtain ⟨Ca, dx, vfs, e1, e2, e3, e4⟩ := q2
      exact ⟨Ca, dx, vfs, by rw [upd_ne (ne_of_none e1 h)]; exact e1, e2, e3, e4.keep r k f⟩
  · have hn' : n = ω.length := by
      have := (List.getElem?_eq_some_iff.mp h1).1
      rw [List.length_append] at this
      simp at this
      omega
    subst hn'
    rw [List.getElem?_append_right (Nat.le_refl _)] at h1
    rw [← r.len, List.getElem?_append_right (Nat.le_refl _)] at h2
    simp at h1 h2
    subst h1 h2
    exact ⟨vs, upd_same, q.keep r k f⟩
/-- a list of the store changed -/
theorem put_obj {n : Nat} {a : Addr} {vs ws : List V} {ds es : List D} (r : SRel C ξ ω H s) (h : ω[n]? = some a) (e : s[n]? = some (.lst ds)) (hv : H a = some (.lst vs)) (q : Reps C ξ ω H ws es) :
    Ext ω H ω (upd H a (.lst ws)) ∧ SRel C ξ ω (upd H a (.lst ws)) (s.set n (.lst es)) := by
  have ha : a ∈ ω := List.mem_of_getElem? h
  have k : Keep ω H (upd H a (.lst ws)) := ⟨fun b u e hb _ => by rw [upd_ne (by rintro rfl; exact hb ha)]; exact e, fun b e => by
    by_cases hb : b = a
    · rw [hb, upd_same] at e; cases e
    · rwa [upd_ne hb] at e⟩
  refine ⟨⟨[], (List.append_nil _).symm, k, Fresh.nil⟩, by rw [List.length_set]; exact r.len, r.nd, r.nx, fun b z e => r.xn b z (k.no b e), fun m b u h1 h2 => ?_⟩
  by_cases hm : m = n
  · subst hm
    rw [h] at h1; cases h1
    rw [List.getElem?_set_self (List.getElem?_eq_some_iff.mp e).1] at h2
    cases h2
    exact ⟨ws, upd_same, q.keep0 r k⟩
  · rw [List.getElem?_set_ne (Ne.symm hm)] at h2
    have hb : b ≠ a := by
      rintro rfl
      obtain ⟨p1, e1⟩ := List.getElem?_eq_some_iff.mp h
      obtain ⟨p2, e2⟩ := List.getElem?_eq_some_iff.mp h1
      exact hm ((List.getElem_inj r.nd).mp (e2.trans e1.symm))
    have q2 := r.ob m b u h1 h2
    cases u with
    | lst es => obtain ⟨ws, e1, e2⟩ := q2; exact ⟨ws, by rw [upd_ne hb]; exact e1, e2.keep0 r k⟩
    | ins c fs => obtain ⟨Ca, dx, vfs, e1, e2, e3, e4⟩ := q2; exact ⟨Ca, dx, vfs, by rw [upd_ne hb]; exact e1, e2, e3, e4.keep0 r k⟩
end
theorem absLt {k : Int} {m : Nat} (h : Nat.blt k.natAbs m = true) : -(m : Int) ≤ k ∧ k < (m : Int) := by
  have h : k.natAbs < m := Nat.le_of_ble_eq_true h
  omega
theorem abs62 {k : Int} (h : Nat.blt k.natAbs (2 ^ 62) = true) : -(2 ^ 62) ≤ k ∧ k < 2 ^ 62 := absLt h
theorem abs63 {k : Int} (h : Nat.blt k.natAbs (2 ^ 63) = true) : -(2 ^ 63) ≤ k ∧ k < 2 ^ 63 := absLt h
end BS

/-! Core4: binary operations by values -/
namespace BS
open PySem PySem.Spec PyProof.Rows L2

/-- what is wanted of a pure operation's value -/
def Fin (C : RC) (ξ : Addr → Prop) (ω : List Addr) (H : Hp) (s : Sto) (r : D) (Q : VK) : Prop := ∀ v ω' H', Ext ω H ω' H' → SRel C ξ ω' H' s → Rep C ξ ω' H' v r → Q v H'
def rP (C : RC) (p : Pr) : R2 := fun x y H Q => ∃ ξ ω s d e r, SRel C ξ ω H s ∧ Rep C ξ ω H x d ∧ Rep C ξ ω H y e ∧ prim s p [d, e] = some r ∧ Fin C ξ ω H s r Q
section
variable {C : RC} {ξ : Addr → Prop} {ω ω' ω'' : List Addr} {H H' H'' : Hp} {s s' : Sto} {σ : L2.St} {ρ : Env} {W : WX} {g : G} {X : Cx}
theorem Fin.int {i : Int} {Q : VK} (f : Fin C ξ ω H s (.int i) Q) (r : SRel C ξ ω H s) : Q (.int i) H := f _ _ _ Ext.refl r (.int i)
theorem Fin.bl {i : Bool} {Q : VK} (f : Fin C ξ ω H s (.bl i) Q) (r : SRel C ξ ω H s) : Q (.bl i) H := f _ _ _ Ext.refl r (.bl i)
theorem Fin.str {i : Str} {Q : VK} (f : Fin C ξ ω H s (.str i) Q) (r : SRel C ξ ω H s) : Q (.str i) H := f _ _ _ Ext.refl r (.str i)
theorem Fin.old {v : V} {d : D} {Q : VK} (f : Fin C ξ ω H s d Q) (r : SRel C ξ ω H s) (h : Rep C ξ ω H v d) : Q v H := f _ _ _ Ext.refl r h
theorem Fin.tup {p : Addr} {vs : List V} {ds : List D} {Q : VK} (f : Fin C ξ ω H s (.tup ds) Q) (r : SRel C ξ ω H s) (q : Reps C ξ ω H vs ds) (h : H p = none) : Q (.ref p) (upd H p (.tup vs)) :=
  f _ _ _ (Ext.laid h) (r.laid h) (new_tup r h q)
theorem Fin.lst {p : Addr} {vs : List V} {ds : List D} {Q : VK} (f : Fin C ξ ω H s (.lst ds) Q) (r : SRel C ξ ω H s) (q : Reps C ξ ω H vs ds) (h : H p = none) : Q (.ref p) (upd H p (.lst vs)) :=
  f _ _ _ (Ext.laid h) (r.laid h) (new_lst r h q)
theorem OpR.of {f : Value → Value → Sem Value} {r r' : R2} (h : OpR X f r) (m : ∀ x y H Q, r' x y H Q → r x y H Q) : OpR X f r' := fun pins s σ H x y v u Q I rx ry q => h pins s σ H x y v u Q I rx ry (m _ _ _ _ q)

theorem op_addBI : OpR X (binaryOp .Add) (fun x y H Q => ∃ (b : Bool) (j : Int), x = .bl b ∧ y = .int j ∧ Q (.int ((if b = true then 1 else 0) + j)) H) := by
  rintro pins s σ H x y v u Q I rx ry ⟨b, j, rfl, rfl, q⟩
  obtain ⟨t, rfl⟩ := ry
  cases rx
  exact PySem.IntBool.add_bool_int ⟨.int ((if b = true then 1 else 0) + j), H, I.tok _, ⟨_, rfl⟩, q⟩
theorem v_add (hK : C.K = X.K) : OpR X (binaryOp .Add) (rP C .add) := by
  refine OpR.of ((op_addBI (X := X)).or (((op_add (X := X)).or (op_add_str (X := X))).or ((op_catA (X := X)).or (op_cat (X := X))))) fun x y H Q h => ?_
  obtain ⟨ξ, ω, s, d, e, r, sr, hx, hy, hp, fin⟩ := h
  have cat : ∀ (a b : Addr) (vs ws : List V) (ds es : List D), x = .ref a → y = .ref b → H a = some (.lst vs) → H b = some (.lst ws) → Reps C ξ ω H vs ds → Reps C ξ ω H ws es → (if ds.length + es.length ≤ sizeLine then some (D.lst (ds ++ es)) else none) = some r → rCat x y H Q :=
    fun a b vs ws ds es e1 e2 h1 h2 q1 q2 e3 => by
      split at e3
      · rename_i hz
        cases Option.some.inj e3
        exact ⟨a, b, vs, ws, e1, e2, h1, h2, by rw [q1.length, q2.length]; exact hz, fun p hp => fin.lst sr (q1.app q2) hp⟩
      · cases e3
  cases hx <;> cases hy <;> try (simp [prim, addD] at hp; done)
  · cases Option.some.inj hp
    exact .inl ⟨_, _, rfl, rfl, fin.int sr⟩
  · cases Option.some.inj hp
    exact .inr (.inl (.inl ⟨_, _, rfl, rfl, fin.int sr⟩))
  · simp only [prim, addD] at hp
    split at hp
    · rename_i hz
      cases Option.some.inj hp
      exact .inr (.inl (.inr ⟨_, _, rfl, rfl, hz, fin.str sr⟩))
    · cases hp
  · rename_i a vs ds h1 q1 b ws es h2 q2
    simp only [prim, addD] at hp
    split at hp
    · rename_i hz
      cases Option.some.inj hp
      rw [hK] at h1 h2
      refine .inr (.inr (.inl ⟨a, b, vs, ws, rfl, rfl, h1, h2, by rw [q1.length, q2.length]; exact hz, fun e => ?_, fun _ e => ?_, fun _ _ p hp => fin.tup sr (q1.app q2) hp⟩))
      · subst e
        cases q1
        exact fin.old sr (.tup (by rw [hK]; exact h2) q2)
      · subst e
        cases q2
        rw [List.append_nil] at fin
        exact fin.old sr (.tup (by rw [hK]; exact h1) q1)
    · cases hp
  · rename_i a vs ds h1 _ _ q1 b ws es h2 _ _ q2
    exact .inr (.inr (.inr (cat _ _ _ _ _ _ rfl rfl h1 h2 q1 q2 hp)))
  · rename_i a vs ds h1 _ _ q1 b n h2
    simp only [prim, addD] at hp
    cases hv : vL s (.obj n) with
    | none => rw [hv] at hp; cases hp
    | some es =>
      rw [hv] at hp
      obtain ⟨b', ws, e1, e2, q2⟩ := vL_ok sr (Rep.obj h2) hv
      exact .inr (.inr (.inr (cat _ _ _ _ _ _ rfl e1 h1 e2 q1 q2 hp)))
  · rename_i a n h2 b ws es h1 _ _ q1
    simp only [prim, addD] at hp
    cases hv : vL s (.obj n) with
    | none => rw [hv] at hp; cases hp
    | some ds =>
      rw [hv] at hp
      obtain ⟨b', vs, e1, e2, q2⟩ := vL_ok sr (Rep.obj h2) hv
      exact .inr (.inr (.inr (cat _ _ _ _ _ _ e1 rfl e2 h1 q2 q1 hp)))
  · rename_i a n h1 b m h2
    simp only [prim, addD] at hp
    cases hv : vL s (.obj n) with
    | none => rw [hv] at hp; cases hp
    | some ds =>
      rw [hv] at hp
      cases hw : vL s (.obj m) with
      | none => simp [hw] at hp
      | some es =>
        simp only [hw, Option.bind] at hp
        obtain ⟨a', vs, e1, e2, q1⟩ := vL_ok sr (Rep.obj h1) hv
        obtain ⟨b', ws, e3, e4, q2⟩ := vL_ok sr (Rep.obj h2) hw
        exact .inr (.inr (.inr (cat _ _ _ _ _ _ e1 e3 e2 e4 q1 q2 hp)))
/-- two ints by a rule -/
theorem arith_ok {f : Int → Int → Option Int} {d e r : D} {x y : V} (hx : Rep C ξ ω H x d) (hy : Rep C ξ ω H y e) (h : arith f d e = some r) : ∃ i j k, x = .int i ∧ y = .int j ∧ f i j = some k ∧ r = .int k := by
  cases hx <;> cases hy <;> try (simp [arith] at h; done)
  simp only [arith, Option.map_eq_some_iff] at h
  obtain ⟨k, h1, rfl⟩ := h
  exact ⟨_, _, k, rfl, rfl, h1, rfl⟩
theorem v_sub : OpR X (binaryOp .Sub) (rP C .sub) := by
  refine OpR.of (op_sub (X := X)) fun x y H Q h => ?_
  obtain ⟨ξ, ω, s, d, e, r, sr, hx, hy, hp, fin⟩ := h
  obtain ⟨i, j, k, rfl, rfl, h1, rfl⟩ := arith_ok hx hy (by simpa [prim] using hp)
  cases Option.some.inj h1
  exact ⟨i, j, rfl, rfl, fin.int sr⟩
theorem v_fdiv : OpR X (binaryOp .FloorDiv) (rP C .fdiv) := by
  refine OpR.of (op_fdivW (X := X)) fun x y H Q h => ?_
  obtain ⟨ξ, ω, s, d, e, r, sr, hx, hy, hp, fin⟩ := h
  obtain ⟨i, j, k, rfl, rfl, h1, rfl⟩ := arith_ok hx hy (by simpa only [prim] using hp)
  split at h1
  · rename_i hc
    cases Option.some.inj h1
    simp only [Bool.and_eq_true, decide_eq_true_eq] at hc
    exact ⟨i, j, rfl, rfl, hc, fin.int sr⟩
  · cases h1
theorem v_mod : OpR X (binaryOp .Mod) (rP C .mod) := by
  refine OpR.of (op_mod (X := X)) fun x y H Q h => ?_
  obtain ⟨ξ, ω, s, d, e, r, sr, hx, hy, hp, fin⟩ := h
  obtain ⟨i, j, k, rfl, rfl, h1, rfl⟩ := arith_ok hx hy (by simpa only [prim] using hp)
  split at h1
  · rename_i hc
    cases Option.some.inj h1
    exact ⟨i, j, rfl, rfl, hc, fin.int sr⟩
  · cases h1
theorem v_pow : OpR X (binaryOp .Pow) (rP C .pow) := by
  refine OpR.of (op_pow (X := X)) fun x y H Q h => ?_
  obtain ⟨ξ, ω, s, d, e, r, sr, hx, hy, hp, fin⟩ := h
  obtain ⟨i, j, k, rfl, rfl, h1, rfl⟩ := arith_ok hx hy (by simpa only [prim] using hp)
  split at h1
  · rename_i hc
    cases Option.some.inj h1
    simp only [Bool.and_eq_true, decide_eq_true_eq] at hc
    exact ⟨i, j, rfl, rfl, ⟨hc.1.1, hc.1.2, hc.2⟩, fin.int sr⟩
  · cases h1
/-- tuple * 1 -/
theorem tuple_mul1 (l : Addr) (items : Array Value) (n : Nat) (dd : Option Addr) (sl : Array (Option Value)) (x : Int) (u : Tok) (c0 : (decide (x < -(2 ^ 63)) || decide (x ≥ 2 ^ 63)) = false) (c1 : (items.isEmpty || x == 1) = true) :
    Meets (Builtin.«tuple.__mul__» ⟨[.ref l, .int x u], []⟩) (fun _ R s => s.heap.get? l = some { cls := .type "tuple", dict := dd, data := .seq items n, slots := sl } ∧ R (.ok (.ret (Value.ref l))) s) :=
  .of_wp fun prog w A R s h => by
    obtain ⟨hp, g, d, tk, os⟩ := s
    obtain ⟨hl, h⟩ := h
    have f1 := AutoSeq1.idx_int
    wp_walk using wpAny_loadPart' hl
    repeat (first
      | (refine wpAny_ite_false (decide_eq_false (by rw [c0]; exact Bool.false_ne_true)) ?_; wp_walk using wpAny_loadPart' hl)
      | (refine wpAny_ite_true (decide_eq_true c1) ?_; wp_walk using wpAny_loadPart' hl))
    exact ⟨_, rfl, h⟩
def rRep1 (K : PySem.W.Frag) : R2 := fun x y H Q => ∃ l xs, x = .ref l ∧ y = .int 1 ∧ SqT K H l xs ∧ Q (.ref l) H
theorem op_rep1 : OpR X (binaryOp .Mult) (rRep1 X.K) := by
  intro pins s σ H x y v u Q I rx ry h
  obtain ⟨l, xs, rfl, rfl, hT, q⟩ := h
  cases rx
  obtain ⟨t, rfl⟩ := ry
  obtain ⟨its, r, ⟨⟨cls, dd, data, sl⟩, ho, hc, n, hd⟩, hs⟩ := I.tuple hT
  simp only at hc hd
  subst hc hd
  refine wpAny_binaryOp_repeat_ref (T := "tuple") (U := "int") (by decide) ⟨_, ho, rfl⟩ (fun s' => typeIs_int s' 1 t) noFill_tuple_mul F.fills_int_mul F.slot_int_rmul repeat_tuple F.slot_int_index.lookup
    (call_meets F.slot_int_rmul (typeIs_int s 1 t) F.entry_int_rmul (F.args_int_rmul_2 _ _) (int_rmul_tuple 1 t l its.toArray n dd sl)
      ⟨ho, rfl, ⟨_, ho, rfl⟩, call_meets F.slot_tuple_mul ⟨_, ho, rfl⟩ F.entry_tuple_mul (F.args_tuple_mul_2 _ _) (tuple_mul1 l its.toArray n dd sl 1 t (by decide) (by simp)) ⟨ho, ?_⟩⟩)
  exact ⟨.ref l, H, I, rfl, q⟩
theorem v_mul (hK : C.K = X.K) : OpR X (binaryOp .Mult) (rP C .mul) := by
  refine OpR.of (((op_mul (X := X)).or (op_mulW (X := X))).or (((op_repT (X := X)).or (op_rep1 (X := X))).or (op_rep (X := X)))) fun x y H Q h => ?_
  obtain ⟨ξ, ω, s, d, e, r, sr, hx, hy, hp, fin⟩ := h
  cases hx <;> cases hy <;> try (simp [prim, mulD] at hp; done)
  · rename_i i j
    simp only [prim, mulD] at hp
    split at hp
    · rename_i hz
      cases Option.some.inj hp
      simp only [mulOk, Bool.or_eq_true, decide_eq_true_eq] at hz
      rcases hz with (hz | hz) | hz
      · exact .inl (.inl ⟨_, _, rfl, rfl, .inl (by omega), fin.int sr⟩)
      · exact .inl (.inl ⟨_, _, rfl, rfl, .inr (by omega), fin.int sr⟩)
      · exact .inl (.inr ⟨_, _, rfl, rfl, hz, fin.int sr⟩)
    · cases hp
  · rename_i a vs ds h1 q1 k
    simp only [prim, mulD] at hp
    split at hp
    · rename_i hk
      subst hk
      cases Option.some.inj hp
      exact .inr (.inl (.inr ⟨a, vs, rfl, rfl, by rw [← hK]; exact h1, fin.old sr (.tup h1 q1)⟩))
    · split at hp
      · rename_i hk
        cases Option.some.inj hp
        simp only [repOk, Bool.and_eq_true, decide_eq_true_eq] at hk
        obtain ⟨⟨⟨k1, k2⟩, k3⟩, k4⟩ := hk
        refine .inr (.inl (.inl ⟨a, k, vs, rfl, rfl, by rw [← hK]; exact h1, fun e => ?_, k1, k2, by rw [q1.length]; exact k4, fun p hp => fin.tup sr (q1.rep _) hp⟩))
        have := q1.length
        rw [e] at this
        simp at this
        omega
      · cases hp
  · rename_i a vs ds h1 _ _ q1 k
    simp only [prim, mulD] at hp
    split at hp
    · rename_i hk
      cases Option.some.inj hp
      simp only [Bool.and_eq_true, decide_eq_true_eq] at hk
      exact .inr (.inr ⟨a, k, vs, rfl, rfl, h1, (abs63 hk.1).1, (abs63 hk.1).2, by rw [q1.length]; exact hk.2, fun p hp => fin.lst sr (q1.rep _) hp⟩)
    · cases hp

theorem eqv_ok {d e : D} {x y : V} {b : Bool} (sr : SRel C ξ ω H s) (hx : Rep C ξ ω H x d) (hy : Rep C ξ ω H y e) (h : eqv s d e = some b) : ∃ p q, Dp C.K H x p ∧ Dp C.K H y q ∧ SeqAt.shaped p = true ∧ SeqAt.shaped q = true ∧ b = PyData.eqv p q := by
  unfold eqv at h
  split at h
  · rename_i p q h1 h2
    cases Option.some.inj h
    obtain ⟨a1, a2⟩ := shp_ok sr hx h1
    obtain ⟨b1, b2⟩ := shp_ok sr hy h2
    exact ⟨p, q, a1, b1, a2, b2, rfl⟩
  · cases h
theorem v_eq (hK : C.K = X.K) (hu : X.A.units + 64 < cLine) : OpR X (compareOp .Eq) (rP C .eq) := by
  refine OpR.of (op_eqD (X := X) hu) fun x y H Q h => ?_
  obtain ⟨ξ, ω, s, d, e, r, sr, hx, hy, hp, fin⟩ := h
  simp only [prim, Option.map_eq_some_iff] at hp
  obtain ⟨b, h1, rfl⟩ := hp
  obtain ⟨p, q, a1, a2, a3, a4, rfl⟩ := eqv_ok sr hx hy h1
  rw [hK] at a1 a2
  exact ⟨p, q, a1, a2, a3, a4, fin.bl sr⟩
theorem v_ne (hK : C.K = X.K) (hu : X.A.units + 64 < cLine) : OpR X (compareOp .NotEq) (rP C .ne) := by
  refine OpR.of (op_neD (X := X) hu) fun x y H Q h => ?_
  obtain ⟨ξ, ω, s, d, e, r, sr, hx, hy, hp, fin⟩ := h
  simp only [prim, Option.map_eq_some_iff] at hp
  obtain ⟨b, h1, rfl⟩ := hp
  obtain ⟨p, q, a1, a2, a3, a4, rfl⟩ := eqv_ok sr hx hy h1
  rw [hK] at a1 a2
  exact ⟨p, q, a1, a2, a3, a4, fin.bl sr⟩
theorem intsD_ok : ∀ {ds : List D} {vs : List V} {ns : List Int}, Reps C ξ ω H vs ds → intsD ds = some ns → vs = ns.map V.int
  | [], _, _, .nil, e => by cases Option.some.inj e; rfl
  | d :: ds, _, _, .cons h q, e => by
    cases h with
    | int i =>
      simp only [intsD, Option.map_eq_some_iff] at e
      obtain ⟨ms, e1, rfl⟩ := e
      rw [intsD_ok q e1]
      rfl
    | _ => cases e
theorem boolsD_ok : ∀ {ds : List D} {vs : List V} {ns : List Bool}, Reps C ξ ω H vs ds → boolsD ds = some ns → vs = ns.map V.bl
  | [], _, _, .nil, e => by cases Option.some.inj e; rfl
  | d :: ds, _, _, .cons h q, e => by
    cases h with
    | bl i =>
      simp only [boolsD, Option.map_eq_some_iff] at e
      obtain ⟨ms, e1, rfl⟩ := e
      rw [boolsD_ok q e1]
      rfl
    | _ => cases e
theorem strsD_ok : ∀ {ds : List D} {vs : List V} {ns : List Str}, Reps C ξ ω H vs ds → strsD ds = some ns → vs = ns.map V.str
  | [], _, _, .nil, e => by cases Option.some.inj e; rfl
  | d :: ds, _, _, .cons h q, e => by
    cases h with
    | str i =>
      simp only [strsD, Option.map_eq_some_iff] at e
      obtain ⟨ms, e1, rfl⟩ := e
      rw [strsD_ok q e1]
      rfl
    | _ => cases e
theorem v_lt (hK : C.K = X.K) (hu : X.A.units < cLine) : OpR X (compareOp .Lt) (rP C .lt) := by
  refine OpR.of ((op_lt (X := X)).or (op_ltT (X := X) hu)) fun x y H Q h => ?_
  obtain ⟨ξ, ω, s, d, e, r, sr, hx, hy, hp, fin⟩ := h
  cases hx <;> cases hy <;> try (simp [prim, ltD] at hp; done)
  · cases Option.some.inj hp
    exact .inl ⟨_, _, rfl, rfl, fin.bl sr⟩
  · rename_i a vs ds h1 q1 b ws es h2 q2
    simp only [prim, ltD] at hp
    split at hp
    · rename_i ns ms e1 e2
      cases Option.some.inj hp
      rw [hK] at h1 h2
      have v1 := intsD_ok q1 e1
      have v2 := intsD_ok q2 e2
      subst v1 v2
      exact .inr ⟨a, b, ns, ms, rfl, rfl, h1, h2, fin.bl sr⟩
    · cases hp
theorem cmpI_ok {f : Int → Int → Bool} {d e r : D} {x y : V} (hx : Rep C ξ ω H x d) (hy : Rep C ξ ω H y e) (h : cmpI f d e = some r) : ∃ i j, x = .int i ∧ y = .int j ∧ r = .bl (f i j) := by
  cases hx <;> cases hy <;> try (simp [cmpI] at h; done)
  cases Option.some.inj h
  exact ⟨_, _, rfl, rfl, rfl⟩
theorem v_le : OpR X (compareOp .LtE) (rP C .le) := by
  refine OpR.of (op_le (X := X)) fun x y H Q h => ?_
  obtain ⟨ξ, ω, s, d, e, r, sr, hx, hy, hp, fin⟩ := h
  obtain ⟨i, j, rfl, rfl, rfl⟩ := cmpI_ok hx hy (by simpa only [prim] using hp)
  exact ⟨i, j, rfl, rfl, fin.bl sr⟩
theorem v_gt : OpR X (compareOp .Gt) (rP C .gt) := by
  refine OpR.of (op_gt (X := X)) fun x y H Q h => ?_
  obtain ⟨ξ, ω, s, d, e, r, sr, hx, hy, hp, fin⟩ := h
  obtain ⟨i, j, rfl, rfl, rfl⟩ := cmpI_ok hx hy (by simpa only [prim] using hp)
  exact ⟨i, j, rfl, rfl, fin.bl sr⟩
theorem v_ge : OpR X (compareOp .GtE) (rP C .ge) := by
  refine OpR.of (op_ge (X := X)) fun x y H Q h => ?_
  obtain ⟨ξ, ω, s, d, e, r, sr, hx, hy, hp, fin⟩ := h
  obtain ⟨i, j, rfl, rfl, rfl⟩ := cmpI_ok hx hy (by simpa only [prim] using hp)
  exact ⟨i, j, rfl, rfl, fin.bl sr⟩
/-- x in a tuple of data -/
def rInT (K : PySem.W.Frag) : R2 := fun x y H Q => ∃ d ds, Dp K H x d ∧ Dp K H y (.tuple ds) ∧ SeqAt.shaped d = true ∧ SeqAt.shaped (.tuple ds) = true ∧ Q (.bl (ds.any fun z => PyData.eqv z d)) H
def rNotInT (K : PySem.W.Frag) : R2 := fun x y H Q => ∃ d ds, Dp K H x d ∧ Dp K H y (.tuple ds) ∧ SeqAt.shaped d = true ∧ SeqAt.shaped (.tuple ds) = true ∧ Q (.bl (!ds.any fun z => PyData.eqv z d)) H
theorem op_inT (hu : X.A.units + 65 < cLine) : OpR X (compareOp .In) (rInT X.K) := by
  intro pins s σ H x y v u Q I rx ry h
  obtain ⟨d, ds, hd, he, sd, se, q⟩ := h
  obtain ⟨as, r1⟩ := Dp.reads I d x v hd rx
  obtain ⟨bs, r2⟩ := Dp.reads I (.tuple ds) y u he ry
  exact SeqAt.in_tuple_reads r2 r1 (SeqAt.canLay_of_shaped se) (SeqAt.canLay_of_shaped sd) (room_in_shaped sd hu) ⟨.bl _, H, I, rfl, q⟩
theorem op_notInT (hu : X.A.units + 65 < cLine) : OpR X (compareOp .NotIn) (rNotInT X.K) := by
  intro pins s σ H x y v u Q I rx ry h
  obtain ⟨d, ds, hd, he, sd, se, q⟩ := h
  obtain ⟨as, r1⟩ := Dp.reads I d x v hd rx
  obtain ⟨bs, r2⟩ := Dp.reads I (.tuple ds) y u he ry
  exact SeqAt.notIn_tuple_reads r2 r1 (SeqAt.canLay_of_shaped se) (SeqAt.canLay_of_shaped sd) (room_in_shaped sd hu) ⟨.bl _, H, I, rfl, q⟩
theorem inD_ok {d e : D} {x y : V} {b : Bool} (sr : SRel C ξ ω H s) (hx : Rep C ξ ω H x d) (hy : Rep C ξ ω H y e) (h : inD s d e = some b) :
    ∃ p qs, Dp C.K H x p ∧ (Dp C.K H y (.list qs) ∨ Dp C.K H y (.tuple qs)) ∧ SeqAt.shaped p = true ∧ SeqAt.shaped (.list qs) = true ∧ SeqAt.shaped (.tuple qs) = true ∧ b = qs.any fun z => PyData.eqv z p := by
  unfold inD at h
  split at h
  · rename_i p ds h1 h2
    split at h
    · rename_i qs h3
      split at h
      · rename_i h4
        cases Option.some.inj h
        obtain ⟨a1, a2⟩ := shp_ok sr hx h1
        have h5 : SeqAt.shaped (.tuple qs) = true := h4
        refine ⟨p, qs, a1, ?_, a2, h4, h5, rfl⟩
        obtain ⟨a, vs, rfl, hs, q⟩ := vS_ok sr hy h2
        exact hs.imp (fun z => .lst z (pyDs_ok q h3)) fun z => .tup z (pyDs_ok q h3)
      · cases h
    · cases h
  · cases h
theorem v_in (hK : C.K = X.K) (hu : X.A.units + 65 < cLine) : OpR X (compareOp .In) (rP C .isin) := by
  refine OpR.of ((op_inD (X := X) hu).or (op_inT (X := X) hu)) fun x y H Q h => ?_
  obtain ⟨ξ, ω, s, d, e, r, sr, hx, hy, hp, fin⟩ := h
  simp only [prim, Option.map_eq_some_iff] at hp
  obtain ⟨b, h1, rfl⟩ := hp
  obtain ⟨p, qs, a1, a2, a3, a4, a5, rfl⟩ := inD_ok sr hx hy h1
  rw [hK] at a1 a2
  exact a2.imp (fun z => ⟨p, qs, a1, z, a3, a4, fin.bl sr⟩) fun z => ⟨p, qs, a1, z, a3, a5, fin.bl sr⟩
theorem v_notin (hK : C.K = X.K) (hu : X.A.units + 65 < cLine) : OpR X (compareOp .NotIn) (rP C .notin) := by
  refine OpR.of ((op_notInD (X := X) hu).or (op_notInT (X := X) hu)) fun x y H Q h => ?_
  obtain ⟨ξ, ω, s, d, e, r, sr, hx, hy, hp, fin⟩ := h
  simp only [prim, Option.map_eq_some_iff] at hp
  obtain ⟨b, h1, rfl⟩ := hp
  obtain ⟨p, qs, a1, a2, a3, a4, a5, rfl⟩ := inD_ok sr hx hy h1
  rw [hK] at a1 a2
  exact a2.imp (fun z => ⟨p, qs, a1, z, a3, a4, fin.bl sr⟩) fun z => ⟨p, qs, a1, z, a3, a5, fin.bl sr⟩
theorem v_isB : OpR X (compareOp .Is) (rP C .isB) := by
  refine OpR.of (op_isBl (X := X)) fun x y H Q h => ?_
  obtain ⟨ξ, ω, s, d, e, r, sr, hx, hy, hp, fin⟩ := h
  cases hx <;> cases hy <;> try (simp [prim] at hp; done)
  cases Option.some.inj hp
  exact ⟨_, _, rfl, rfl, fin.bl sr⟩
theorem v_notB : OpR X (compareOp .IsNot) (rP C .notB) := by
  refine OpR.of (op_notBl (X := X)) fun x y H Q h => ?_
  obtain ⟨ξ, ω, s, d, e, r, sr, hx, hy, hp, fin⟩ := h
  cases hx <;> cases hy <;> try (simp [prim] at hp; done)
  cases Option.some.inj hp
  exact ⟨_, _, rfl, rfl, fin.bl sr⟩
/-- x[i] -/
theorem atI_reps {ds : List D} {vs : List V} {i : Int} {d : D} (q : Reps C ξ ω H vs ds) (h : atI ds i = some d) : ∃ v, atI vs i = some v ∧ Rep C ξ ω H v d := by
  unfold atI at h ⊢
  rw [q.length]
  cases e : ixN ds.length i with
  | none => rw [e] at h; cases h
  | some j =>
    rw [e] at h
    obtain ⟨v, h1, h2⟩ := q.get (i := j) h
    exact ⟨v, h1, h2⟩
theorem atI_map {α β : Type} (f : α → β) (xs : List α) (i : Int) : atI (xs.map f) i = (atI xs i).map f := by
  unfold atI
  rw [List.length_map]
  cases ixN xs.length i <;> simp
theorem v_ix (hK : C.K = X.K) : IxR X (rP C .ix) := by
  have h0 := ix_seq (X := X)
  intro a b pins sh σ H x y v u Q I rx ry h hs
  refine h0 a b pins sh σ H x y v u Q I rx ry ?_ hs
  clear hs
  obtain ⟨ξ, ω, s, d, e, r, sr, hx, hy, hp, fin⟩ := h
  have sq : ∀ ds i, vS s d = some ds → y = .int i → atI ds i = some r → rIx X.K x y H Q := fun ds i h1 h2 h3 => by
    obtain ⟨a, vs, rfl, hs, q⟩ := vS_ok sr hx h1
    obtain ⟨w, e1, e2⟩ := atI_reps q h3
    rcases hs with hs | hs
    · exact .inl ⟨a, vs, i, w, rfl, h2, by rw [← hK]; exact hs, e1, fin.old sr e2⟩
    · exact .inr (.inl ⟨a, vs, i, w, rfl, h2, by rw [← hK]; exact hs, e1, fin.old sr e2⟩)
  cases hy <;> try (cases hx <;> simp [prim, ixD] at hp; done)
  cases hx <;> try (simp [prim, ixD] at hp; done)
  · simp only [prim, ixD] at hp
    split at hp
    · rename_i hz
      simp only [Option.map_eq_some_iff] at hp
      obtain ⟨c, h1, rfl⟩ := hp
      exact .inr (.inr ⟨_, _, c, rfl, rfl, hz, h1, fin.str sr⟩)
    · cases hp
  · exact sq _ _ rfl rfl hp
  · exact sq _ _ rfl rfl hp
  · simp only [prim, ixD] at hp
    cases hv : vL s (.obj _) with
    | none => rw [hv] at hp; cases hp
    | some es => rw [hv] at hp; exact sq es _ hv rfl hp
  · rename_i a ns h1
    simp only [prim, ixD, Option.map_eq_some_iff] at hp
    obtain ⟨k, h2, rfl⟩ := hp
    exact .inl ⟨_, _, _, .int k, rfl, rfl, by rw [← hK]; exact h1.sq, by rw [atI_map, h2]; rfl, fin.int sr⟩
end
end BS

/-! Core5: calls of built-ins, slices, lists, by values -/
namespace BS
open PySem PySem.Spec PyProof.Rows L2

def rC (C : RC) (p : Pr) : List V → Hp → VK → Prop := fun vs H Q => ∃ ξ ω s ds r, SRel C ξ ω H s ∧ Reps C ξ ω H vs ds ∧ prim s p ds = some r ∧ Fin C ξ ω H s r Q
/-- what is wanted of a new list -/
def FinL (C : RC) (ξ : Addr → Prop) (ω : List Addr) (H : Hp) (ds : List D) (Q : VK) : Prop := ∀ p vs, H p = none → Reps C ξ ω H vs ds → Q (.ref p) (upd H p (.lst vs))
def rL (C : RC) (p : Pl) : List V → Hp → VK → Prop := fun vs H Q => ∃ ξ ω s ds r, SRel C ξ ω H s ∧ Reps C ξ ω H vs ds ∧ primL s p ds = some r ∧ FinL C ξ ω H r Q
section
variable {C : RC} {ξ : Addr → Prop} {ω ω' ω'' : List Addr} {H H' H'' : Hp} {s s' : Sto} {σ : L2.St} {ρ : Env} {W : WX} {g : G} {X : Cx}
theorem CallR.mono {f : Value} {r r' : List V → Hp → VK → Prop} (h : CallR X f r) (m : ∀ vs H Q, r' vs H Q → r vs H Q) : CallR X f r' := fun pins s σ H xs us Q I rr q => h pins s σ H xs us Q I rr (m _ _ _ q)
theorem mkL_fin {m : Bool} {ds : List D} {Q : VK} (sr : SRel C ξ ω H s) (h : PO C ξ ω H σ W (mkL m ds s) fun d _ ω' H' => ∀ v, Rep C ξ ω' H' v d → Q v H') : FinL C ξ ω H ds Q := fun p vs hp q => by
  cases m with
  | false => exact h ω _ (Ext.laid hp) (sr.laid hp) _ (new_lst sr hp q)
  | true =>
    obtain ⟨e, r, v⟩ := new_obj sr hp q
    exact h _ _ e r _ v
/-- truth -/
theorem tru_of (hK : C.K = X.K) (sr : SRel C ξ ω H s) {d : D} {v : V} {b : Bool} (h : Rep C ξ ω H v d) (e : truD s d = some b) : TruV X.K v H b := by
  cases h with
  | non => cases Option.some.inj e; rfl
  | bl => cases Option.some.inj e; rfl
  | int => cases Option.some.inj e; rfl
  | str x =>
    simp only [truD] at e
    split at e
    · rename_i hz; cases Option.some.inj e; exact ⟨hz, rfl⟩
    · cases e
  | tup h1 h2 => cases Option.some.inj e; exact .inr (.inl ⟨_, by rw [← hK]; exact h1, by rw [h2.isEmpty]⟩)
  | lst h1 h2 h3 h4 => cases Option.some.inj e; exact .inl ⟨_, SqL.of h1, by rw [h4.isEmpty]⟩
  | @obj a n h1 =>
    simp only [truD, Option.map_eq_some_iff] at e
    obtain ⟨ds, e1, rfl⟩ := e
    obtain ⟨b, vs, e0, e2, e3⟩ := vL_ok sr (Rep.obj h1) e1
    cases e0
    exact .inl ⟨_, SqL.of e2, by rw [e3.isEmpty]⟩
  | _ => cases e
theorem one_of {P : List D → Option D} {ds : List D} {vs : List V} {r : D} (q : Reps C ξ ω H vs ds) (h : P ds = some r) (hn : ∀ ds, ds.length ≠ 1 → P ds = none) : ∃ v d, vs = [v] ∧ ds = [d] ∧ Rep C ξ ω H v d := by
  by_cases e : ds.length = 1
  · match ds, vs, q, e with
    | [d], [v], .cons h .nil, _ => exact ⟨v, d, rfl, rfl, h⟩
  · rw [hn ds e] at h; cases h
theorem c_len (hK : C.K = X.K) : CallR X (.builtin "len") (rC C .len) := by
  refine CallR.mono (call_len (X := X)) fun vs H Q h => ?_
  obtain ⟨ξ, ω, s, ds, r, sr, hv, hp, fin⟩ := h
  match ds, vs, hv with
  | [], _, _ => simp [prim] at hp
  | _ :: _ :: _, _, _ => simp [prim] at hp
  | [d], [v], .cons h .nil =>
    simp only [prim, Option.map_eq_some_iff] at hp
    obtain ⟨n, hn, rfl⟩ := hp
    refine ⟨v, n, rfl, ?_, fin.int sr⟩
    cases h with
    | str x =>
      simp only [lenD] at hn
      split at hn
      · rename_i hz; cases Option.some.inj hn; exact ⟨hz, rfl⟩
      · cases hn
    | tup h1 h2 => cases Option.some.inj hn; exact .inr ⟨_, by rw [← hK]; exact h1, h2.length.symm⟩
    | lst h1 h2 h3 h4 => cases Option.some.inj hn; exact .inl ⟨_, SqL.of h1, h4.length.symm⟩
    | @scr a ns h1 => cases Option.some.inj hn; exact .inl ⟨_, by rw [← hK]; exact h1.sq, by simp⟩
    | @obj a n h1 =>
      simp only [lenD, Option.map_eq_some_iff] at hn
      obtain ⟨es, e1, rfl⟩ := hn
      obtain ⟨b, ws, e0, e2, e3⟩ := vL_ok sr (Rep.obj h1) e1
      cases e0
      exact .inl ⟨_, SqL.of e2, e3.length.symm⟩
    | _ => cases hn
theorem c_abs : CallR X (.builtin "abs") (rC C .abs) := by
  refine CallR.mono (call_abs (X := X)) fun vs H Q h => ?_
  obtain ⟨ξ, ω, s, ds, r, sr, hv, hp, fin⟩ := h
  match ds, vs, hv with
  | [], _, _ => simp [prim] at hp
  | _ :: _ :: _, _, _ => simp [prim] at hp
  | [d], [v], .cons h .nil =>
    cases h with
    | int i => cases Option.some.inj hp; exact ⟨i, rfl, fin.int sr⟩
    | _ => simp [prim] at hp
theorem c_min2 (hc : X.calm = true) : CallR X (.builtin "min") (rC C .min2) := by
  refine CallR.mono (call_min2 hc) fun vs H Q h => ?_
  obtain ⟨ξ, ω, s, ds, r, sr, hv, hp, fin⟩ := h
  match ds, vs, hv with
  | [], _, _ => simp [prim] at hp
  | [_], _, _ => simp [prim] at hp
  | _ :: _ :: _ :: _, _, _ => simp [prim] at hp
  | [d, e], [v, w], .cons h (.cons h' .nil) =>
    cases h <;> cases h' <;> try (simp [prim] at hp; done)
    cases Option.some.inj hp
    exact ⟨_, _, rfl, fin.int sr⟩
theorem c_max2 (hc : X.calm = true) : CallR X (.builtin "max") (rC C .max2) := by
  refine CallR.mono (call_max2 hc) fun vs H Q h => ?_
  obtain ⟨ξ, ω, s, ds, r, sr, hv, hp, fin⟩ := h
  match ds, vs, hv with
  | [], _, _ => simp [prim] at hp
  | [_], _, _ => simp [prim] at hp
  | _ :: _ :: _ :: _, _, _ => simp [prim] at hp
  | [d, e], [v, w], .cons h (.cons h' .nil) =>
    cases h <;> cases h' <;> try (simp [prim] at hp; done)
    cases Option.some.inj hp
    exact ⟨_, _, rfl, fin.int sr⟩
theorem c_sum (hc : X.calm = true) (hK : C.K = X.K) : CallR X (.builtin "sum") (rC C .sum) := by
  refine CallR.mono (cr_sum hc) fun vs H Q h => ?_
  obtain ⟨ξ, ω, s, ds, r, sr, hv, hp, fin⟩ := h
  match ds, vs, hv with
  | [], _, _ => simp [prim] at hp
  | _ :: _ :: _, _, _ => simp [prim] at hp
  | [d], [v], .cons h .nil =>
    simp only [prim, Option.bind_eq_some_iff, Option.map_eq_some_iff] at hp
    obtain ⟨es, e1, ns, e2, rfl⟩ := hp
    obtain ⟨a, ws, rfl, e3, e4⟩ := vL_ok sr h e1
    have := intsD_ok e4 e2
    subst this
    exact ⟨a, ns, rfl, SqL.of e3, fin.int sr⟩
theorem c_any (hc : X.calm = true) : CallR X (.builtin "any") (rC C .any) := by
  refine CallR.mono (cr_any hc) fun vs H Q h => ?_
  obtain ⟨ξ, ω, s, ds, r, sr, hv, hp, fin⟩ := h
  match ds, vs, hv with
  | [], _, _ => simp [prim] at hp
  | _ :: _ :: _, _, _ => simp [prim] at hp
  | [d], [v], .cons h .nil =>
    simp only [prim, Option.bind_eq_some_iff, Option.map_eq_some_iff] at hp
    obtain ⟨es, e1, ns, e2, rfl⟩ := hp
    obtain ⟨a, ws, rfl, e3, e4⟩ := vL_ok sr h e1
    have := boolsD_ok e4 e2
    subst this
    exact ⟨a, ns, rfl, SqL.of e3, fin.bl sr⟩
theorem c_all (hc : X.calm = true) : CallR X (.builtin "all") (rC C .all) := by
  refine CallR.mono (cr_all hc) fun vs H Q h => ?_
  obtain ⟨ξ, ω, s, ds, r, sr, hv, hp, fin⟩ := h
  match ds, vs, hv with
  | [], _, _ => simp [prim] at hp
  | _ :: _ :: _, _, _ => simp [prim] at hp
  | [d], [v], .cons h .nil =>
    simp only [prim, Option.bind_eq_some_iff, Option.map_eq_some_iff] at hp
    obtain ⟨es, e1, ns, e2, rfl⟩ := hp
    obtain ⟨a, ws, rfl, e3, e4⟩ := vL_ok sr h e1
    have := boolsD_ok e4 e2
    subst this
    exact ⟨a, ns, rfl, SqL.of e3, fin.bl sr⟩
theorem c_toTup (hK : C.K = X.K) : CallR X (.type "tuple") (rC C .toTup) := by
  refine CallR.mono (call_tuple_of (X := X)) fun vs H Q h => ?_
  obtain ⟨ξ, ω, s, ds, r, sr, hv, hp, fin⟩ := h
  match ds, vs, hv with
  | [], _, _ => simp [prim] at hp
  | _ :: _ :: _, _, _ => simp [prim] at hp
  | [d], [v], .cons h .nil =>
    simp only [prim, Option.map_eq_some_iff] at hp
    obtain ⟨es, e1, rfl⟩ := hp
    obtain ⟨a, ws, rfl, e3, e4⟩ := vS_ok sr h e1
    refine ⟨a, ws, rfl, ?_⟩
    rcases e3 with e3 | e3
    · exact .inl ⟨by rw [← hK]; exact e3, fun l hl => fin.tup sr e4 hl⟩
    · exact .inr ⟨by rw [← hK]; exact e3, fin.old sr (.tup e3 e4)⟩
theorem c_toInt : CallR X (.type "int") (rC C .toInt) := by
  refine CallR.mono (call_int1 (X := X)) fun vs H Q h => ?_
  obtain ⟨ξ, ω, s, ds, r, sr, hv, hp, fin⟩ := h
  match ds, vs, hv with
  | [], _, _ => simp [prim] at hp
  | _ :: _ :: _, _, _ => simp [prim] at hp
  | [d], [v], .cons h .nil =>
    cases h with
    | int i => cases Option.some.inj hp; exact .inl ⟨i, rfl, fin.int sr⟩
    | bl i => cases Option.some.inj hp; exact .inr ⟨i, rfl, fin.int sr⟩
    | _ => simp [prim] at hp
/-- isinstance(x, T), T a built-in type -/
def rIst (C : RC) (T : String) : List V → Hp → VK → Prop := fun vs H Q => ∃ ξ ω s v d r, vs = [v, .ty T] ∧ SRel C ξ ω H s ∧ Rep C ξ ω H v d ∧ prim s (.ist T) [d] = some r ∧ Fin C ξ ω H s r Q
theorem c_ist (hK : C.K = X.K) {T : String} : CallR X (.builtin "isinstance") (rIst C T) := by
  refine CallR.mono (call_isi (X := X)) fun vs H Q h => ?_
  obtain ⟨ξ, ω, s, v, d, r, rfl, sr, h, hp, fin⟩ := h
  simp only [prim, Option.map_eq_some_iff] at hp
  obtain ⟨b, h1, rfl⟩ := hp
  have go : ∀ {T' : String}, TyX X.K H v (.type T') → L2.kitB T' T = some b → rIsi X.K [v, .ty T] H Q := fun {T'} ty e => ⟨v, .ty T, .type T', .type T, b, rfl, .ty T, ty, kit_ty e, fin.bl sr⟩
  cases h with
  | non => exact go (.base .non) h1
  | bl => exact go (.base (.bl _)) h1
  | int => exact go (.base (.int _)) h1
  | str => exact go (.base (.str _)) h1
  | @tup a vs ds h2 h3 =>
    refine go ?_ h1
    rcases h2 with (h2 | ⟨o, h2⟩) | ⟨o, its, n, h2, h4, _⟩
    · exact .base (.tup h2)
    · exact .fTuple h2
    · exact .kTuple (by rw [← hK]; exact h2) h4
  | lst h2 => exact go (.base (.lst h2)) h1
  | @obj a n h2 =>
    simp only [istD] at h1
    split at h1
    · rename_i h3
      obtain ⟨es, e1⟩ := Option.isSome_iff_exists.mp h3
      obtain ⟨b', ws, e0, e2, e3⟩ := vL_ok sr (Rep.obj h2) e1
      cases e0
      exact go (.base (.lst e2)) h1
    · cases h1
  | _ => cases h1
/-- slices -/
def rSlcP (C : RC) : V → Option Int → Option Int → Hp → VK → Prop := fun x lo hi H Q => ∃ ξ ω s d r, SRel C ξ ω H s ∧ Rep C ξ ω H x d ∧ slcD s lo hi d = some r ∧ Fin C ξ ω H s r Q
theorem cut_reps {ds : List D} {vs : List V} {lo hi : Option Int} (q : Reps C ξ ω H vs ds) : Reps C ξ ω H (cutV vs lo hi) (cutD ds lo hi) := by
  unfold cutV cutD
  rw [q.length]
  exact (q.drop _).take _
theorem sl_P (hK : C.K = X.K) : SlR X (rSlcP C) := by
  intro pins sh σ H x v vl vu lo hi sl Q I rx hs pl pu h
  refine (sl_tupA.or sl_list) pins sh σ H x v vl vu lo hi sl Q I rx hs pl pu ?_
  clear hs pl pu
  obtain ⟨ξ, ω, s, d, r, sr, h, hp, fin⟩ := h
  cases h with
  | @tup a vs ds h1 h2 =>
    cases Option.some.inj hp
    refine .inl ⟨a, vs, rfl, by rw [← hK]; exact h1, fun e => ?_, fun _ p hp => fin.tup sr (cut_reps h2) hp⟩
    have e2 : cutD ds lo hi = ds := by
      unfold cutD
      rw [h2.length] at e
      rw [e.1, e.2, List.drop_zero, Nat.sub_zero, List.take_length]
    rw [e2] at fin
    exact fin.old sr (.tup h1 h2)
  | @lst a vs ds h1 h2 h3 h4 =>
    cases Option.some.inj hp
    exact .inr ⟨a, vs, rfl, SqL.of h1, fun p hp => fin.lst sr (cut_reps h4) hp⟩
  | @obj a n h1 =>
    simp only [slcD, Option.map_eq_some_iff] at hp
    obtain ⟨es, e1, rfl⟩ := hp
    obtain ⟨b', ws, e0, e2, e3⟩ := vL_ok sr (Rep.obj h1) e1
    cases e0
    exact .inr ⟨a, ws, rfl, SqL.of e2, fun p hp => fin.lst sr (cut_reps e3) hp⟩
  | _ => cases hp
def rSlcL (C : RC) : V → Option Int → Option Int → Hp → VK → Prop := fun x lo hi H Q => ∃ ξ ω s d ds, SRel C ξ ω H s ∧ Rep C ξ ω H x d ∧ vL s d = some ds ∧ FinL C ξ ω H (cutD ds lo hi) Q
theorem sl_L : SlR X (rSlcL C) := by
  intro pins sh σ H x v vl vu lo hi sl Q I rx hs pl pu h
  refine sl_list pins sh σ H x v vl vu lo hi sl Q I rx hs pl pu ?_
  clear hs pl pu
  obtain ⟨ξ, ω, s, d, ds, sr, h, e, fin⟩ := h
  obtain ⟨a, ws, rfl, e2, e3⟩ := vL_ok sr h e
  exact ⟨a, ws, rfl, SqL.of e2, fun p hp => fin p _ hp (cut_reps e3)⟩
/-- new lists -/
theorem c_toL (hK : C.K = X.K) : CallR X (.type "list") (rL C .toL) := by
  refine CallR.mono (call_list_of (X := X)) fun vs H Q h => ?_
  obtain ⟨ξ, ω, s, ds, r, sr, hv, hp, fin⟩ := h
  match ds, vs, hv with
  | [], _, _ => simp [primL] at hp
  | _ :: _ :: _, _, _ => simp [primL] at hp
  | [d], [v], .cons h .nil =>
    simp only [primL] at hp
    obtain ⟨a, ws, rfl, e3, e4⟩ := vS_ok sr h hp
    exact ⟨a, ws, rfl, by rw [← hK]; exact e3, fun l hl => fin l ws hl e4⟩
/-- xs * k, a new list -/
def rLmul (C : RC) : R2 := fun x y H Q => ∃ ξ ω s d e r, SRel C ξ ω H s ∧ Rep C ξ ω H x d ∧ Rep C ξ ω H y e ∧ primL s .mul [d, e] = some r ∧ FinL C ξ ω H r Q
theorem v_lmul : OpR X (binaryOp .Mult) (rLmul C) := by
  refine OpR.of (op_rep (X := X)) fun x y H Q h => ?_
  obtain ⟨ξ, ω, s, d, e, r, sr, hx, hy, hp, fin⟩ := h
  cases hy with
  | int k =>
    simp only [primL, Option.bind_eq_some_iff] at hp
    obtain ⟨ds, e1, hp⟩ := hp
    split at hp
    · rename_i hk
      cases Option.some.inj hp
      simp only [Bool.and_eq_true, decide_eq_true_eq] at hk
      obtain ⟨a, vs, rfl, e2, e3⟩ := vL_ok sr hx e1
      exact ⟨a, k, vs, rfl, rfl, e2, (abs63 hk.1).1, (abs63 hk.1).2, by rw [e3.length]; exact hk.2, fun p hp => fin p _ hp (e3.rep _)⟩
    · cases hp
  | _ => simp [primL] at hp
theorem rngD_reps (a b : Int) : Reps C ξ ω H (rgV a b) (rngD a b) := by
  unfold rgV rngD
  induction List.range (b - a).toNat with
  | nil => exact .nil
  | cons i is ih => exact .cons (.int _) ih
/-- append, pop -/
theorem m_append : MtM X "list.append" fun x vs H Q => ∃ ξ ω s d e, SRel C ξ ω H s ∧ Rep C ξ ω H x d ∧ Reps C ξ ω H vs e ∧ PO C ξ ω H σ W (primM s .append (d :: e)) fun r _ ω' H' => ∀ v, Rep C ξ ω' H' v r → Q v H' := by
  intro pins sh σ H x vs v us Q I rx rv h
  refine mt_append pins sh σ H x vs v us Q I rx rv ?_
  obtain ⟨ξ, ω, s, d, e, sr, hx, hv, h⟩ := h
  cases hx with
  | @obj a n h1 =>
    match e, vs, hv with
    | [], _, _ => exact False.elim h
    | _ :: _ :: _, _, _ => exact False.elim h
    | [y], [w], .cons hy .nil =>
      simp only [primM] at h
      split at h
      · rename_i ds e1
        split at h
        · rename_i hz
          obtain ⟨b, ws, e0, e2, e3⟩ := vL_ok (ds := ds) sr (Rep.obj h1) (by simp only [vL, e1])
          cases e0
          obtain ⟨k1, k2⟩ := put_obj sr h1 e1 e2 (e3.app (.cons hy .nil))
          exact ⟨a, ws, w, rfl, rfl, e2, by rw [e3.length]; exact hz, h _ _ k1 k2 _ .non⟩
        · exact False.elim h
      · exact False.elim h
  | _ => exact False.elim h
theorem m_pop : MtM X "list.pop" fun x vs H Q => ∃ ξ ω s d e, SRel C ξ ω H s ∧ Rep C ξ ω H x d ∧ Reps C ξ ω H vs e ∧ PO C ξ ω H σ W (primM s .pop (d :: e)) fun r _ ω' H' => ∀ v, Rep C ξ ω' H' v r → Q v H' := by
  intro pins sh σ H x vs v us Q I rx rv h
  refine mt_pop pins sh σ H x vs v us Q I rx rv ?_
  obtain ⟨ξ, ω, s, d, e, sr, hx, hv, h⟩ := h
  cases hx with
  | @obj a n h1 =>
    match e, vs, hv with
    | _ :: _, _, _ => exact False.elim h
    | [], [], .nil =>
      simp only [primM] at h
      split at h
      · rename_i ds e1
        split at h
        · rename_i y hy
          obtain ⟨b, ws, e0, e2, e3⟩ := vL_ok (ds := ds) sr (Rep.obj h1) (by simp only [vL, e1])
          cases e0
          obtain ⟨k1, k2⟩ := put_obj sr h1 e1 e2 e3.dropLast
          rw [List.getLast?_eq_getElem?] at hy
          obtain ⟨w, w1, w2⟩ := e3.get hy
          exact ⟨a, ws, w, rfl, rfl, e2, by rw [e3.length]; exact w1, h _ _ k1 k2 _ (w2.ext sr k1)⟩
        · exact False.elim h
      · exact False.elim h
  | _ => exact False.elim h
def rSetP (C : RC) : TSet := fun o i v H Q => ∃ ξ ω s d e y s', SRel C ξ ω H s ∧ Rep C ξ ω H o d ∧ Rep C ξ ω H i e ∧ Rep C ξ ω H v y ∧ setIx s d e y = some s' ∧ ∀ H', Ext ω H ω H' → SRel C ξ ω H' s' → Q H'
theorem set_P : PSet X (rSetP C) := by
  intro pins sh σ H o i v ov iv u Q I ro ri rv h
  refine set_list pins sh σ H o i v ov iv u Q I ro ri rv ?_
  obtain ⟨ξ, ω, s, d, e, y, s', sr, ho, hi, hv, hs, fin⟩ := h
  cases ho with
  | @obj a n h1 =>
    cases hi with
    | int k =>
      simp only [setIx] at hs
      split at hs
      · rename_i ds e1
        simp only [Option.map_eq_some_iff] at hs
        obtain ⟨j, hj, rfl⟩ := hs
        obtain ⟨b, ws, e0, e2, e3⟩ := vL_ok (ds := ds) sr (Rep.obj h1) (by simp only [vL, e1])
        cases e0
        obtain ⟨k1, k2⟩ := put_obj sr h1 e1 e2 (e3.set hv j)
        exact ⟨a, ws, k, j, rfl, rfl, e2, by rw [e3.length]; exact hj, fin _ k1 k2⟩
      · cases hs
    | _ => simp [setIx] at hs
  | _ => simp [setIx] at hs
end
end BS

/-! Core6: what is walked; comprehensions -/
namespace BS
open PySem PySem.Spec PyProof.Rows L2

def Src.ds : Src → List D
  | .seq d => [d]
  | .rng _ _ => []
  | .enum d => [d]
  | .zip a b => [a, b]
/-- J walks src, whose values are vs -/
def JOk (C : RC) (J : It) (vs : List V) (src : Src) : Prop :=
  ∀ (ξ : Addr → Prop) (ω : List Addr) (H : Hp) (s : Sto) (i : Nat), SRel C ξ ω H s → Reps C ξ ω H vs src.ds →
    (src.at s i = .stop → J.stop i H) ∧ ∀ d, src.at s i = .it d → J.go i H ∧ ∀ x H', J.yld i H x H' → (∀ a o, H a = some o → H' a = some o) ∧ Keep ω H H' ∧ Rep C ξ ω H' x d
def tI (C : RC) (W : WX) (g : G) (it : I) : TI := fun σ H R => ∃ ξ ω ρ s, ERel C ξ ω H σ ρ ∧ SRel C ξ ω H s ∧ PO C ξ ω H σ W (evI g it ρ s) fun src _ ω' H' => ∀ J vs, Reps C ξ ω' H' vs src.ds → JOk C J vs src → R J H'
section
variable {C : RC} {ξ ξ' : Addr → Prop} {ω ω' ω'' : List Addr} {H H' H'' : Hp} {s s' : Sto} {σ : L2.St} {ρ : Env} {W : WX} {g : G} {X : Cx}
theorem Reps.one {vs : List V} {d : D} (h : Reps C ξ ω H vs [d]) : ∃ v, vs = [v] ∧ Rep C ξ ω H v d := by
  cases h with
  | cons h q => cases q; exact ⟨_, rfl, h⟩
theorem Reps.two {vs : List V} {d e : D} (h : Reps C ξ ω H vs [d, e]) : ∃ v w, vs = [v, w] ∧ Rep C ξ ω H v d ∧ Rep C ξ ω H w e := by
  cases h with
  | cons h q => cases q with
    | cons h' q' => cases q'; exact ⟨_, _, rfl, h, h'⟩
theorem sqL_of {K : PySem.W.Frag} {a : Addr} {vs : List V} (h : H a = some (.lst vs)) : ∀ xs, SqL K H a xs → True := fun _ _ => trivial
/-- a list, a tuple, at each turn -/
theorem jok_list {a : Addr} {d : D} (hl : (∃ ds, d = .lst ds) ∨ ∃ n, d = .obj n) : JOk C (Itl C.K a) [.ref a] (.seq d) := by
  intro ξ ω H s i sr hv
  obtain ⟨v, e, h⟩ := hv.one
  cases e
  have key : ∀ ds, vS s d = some ds → ∃ vs, SqL C.K H a vs ∧ Reps C ξ ω H vs ds := fun ds e => by
    have e' : vL s d = some ds := by rcases hl with ⟨es, rfl⟩ | ⟨n, rfl⟩ <;> exact e
    obtain ⟨b, vs, e0, e1, e2⟩ := vL_ok sr h e'
    cases e0
    exact ⟨vs, SqL.of e1, e2⟩
  refine ⟨fun e => ?_, fun x e => ?_⟩
  · simp only [Src.at] at e
    split at e
    · rename_i ds hds
      obtain ⟨vs, h1, h2⟩ := key ds hds
      split at e
      · cases e
      · rename_i hn
        exact ⟨vs, h1, by rw [h2.length]; exact List.getElem?_eq_none_iff.mp hn⟩
    · cases e
  · simp only [Src.at] at e
    split at e
    · rename_i ds hds
      obtain ⟨vs, h1, h2⟩ := key ds hds
      split at e
      · rename_i y hy
        cases e
        obtain ⟨w, w1, w2⟩ := h2.get hy
        refine ⟨⟨vs, w, h1, w1⟩, fun z H' hz => ?_⟩
        obtain ⟨rfl, hz⟩ := hz
        have := hz vs h1
        rw [w1] at this
        cases this
        exact ⟨fun _ _ e => e, Keep.refl, w2⟩
      · cases e
    · cases e
theorem jok_tup {a : Addr} {ds : List D} : JOk C (Itt C.K a) [.ref a] (.seq (.tup ds)) := by
  intro ξ ω H s i sr hv
  obtain ⟨v, e, h⟩ := hv.one
  cases e
  cases h with
  | @tup _ vs _ h1 h2 =>
    refine ⟨fun e => ?_, fun x e => ?_⟩
    · simp only [Src.at, vS] at e
      split at e
      · cases e
      · rename_i hn
        exact ⟨vs, h1, by rw [h2.length]; exact List.getElem?_eq_none_iff.mp hn⟩
    · simp only [Src.at, vS] at e
      split at e
      · rename_i y hy
        cases e
        obtain ⟨w, w1, w2⟩ := h2.get hy
        refine ⟨⟨vs, w, h1, w1⟩, fun z H' hz => ?_⟩
        obtain ⟨rfl, hz⟩ := hz
        have := hz vs h1
        rw [w1] at this
        cases this
        exact ⟨fun _ _ e => e, Keep.refl, w2⟩
      · cases e
theorem jok_rng {lo : Int} {n : Nat} : JOk C (Itr lo n) [] (.rng lo n) := by
  intro ξ ω H s i sr hv
  refine ⟨fun e => ?_, fun x e => ?_⟩
  · simp only [Src.at] at e
    split at e
    · cases e
    · rename_i h; exact Nat.le_of_not_lt h
  · simp only [Src.at] at e
    split at e
    · rename_i h
      cases e
      refine ⟨h, fun z H' hz => ?_⟩
      obtain ⟨rfl, rfl⟩ := hz
      exact ⟨fun _ _ e => e, Keep.refl, .int _⟩
    · cases e
/-- a pair, new -/
theorem pair_new {T : Addr} {x y : V} {d e : D} (sr : SRel C ξ ω H s) (hT : H T = none) (hx : Rep C ξ ω H x d) (hy : Rep C ξ ω H y e) :
    (∀ a o, H a = some o → (upd H T (.tup [x, y])) a = some o) ∧ Keep ω H (upd H T (.tup [x, y])) ∧ Rep C ξ ω (upd H T (.tup [x, y])) (.ref T) (.tup [d, e]) :=
  ⟨fun a o h => by rw [upd_ne (ne_of_none h hT)]; exact h, Keep.laid hT, new_tup sr hT (.cons hx (.cons hy .nil))⟩
def kindD : D → Bool
  | .tup _ => false
  | _ => true
theorem vS_G {v : V} {d : D} {ds : List D} (sr : SRel C ξ ω H s) (h : Rep C ξ ω H v d) (e : vS s d = some ds) : ∃ a vs, v = .ref a ∧ sqG C.K (kindD d) H a vs ∧ Reps C ξ ω H vs ds := by
  by_cases ht : ∃ es, d = .tup es
  · obtain ⟨es, rfl⟩ := ht
    cases e
    cases h with
    | @tup a vs _ h1 h2 => exact ⟨a, vs, rfl, h1, h2⟩
  · have hl : (∃ ds, d = .lst ds) ∨ ∃ n, d = .obj n := by
      cases d with
      | lst ds => exact .inl ⟨ds, rfl⟩
      | obj k => exact .inr ⟨k, rfl⟩
      | tup ds => exact absurd ⟨ds, rfl⟩ ht
      | _ => cases e
    have e' : vL s d = some ds := by rcases hl with ⟨es, rfl⟩ | ⟨n, rfl⟩ <;> exact e
    have hk : kindD d = true := by rcases hl with ⟨es, rfl⟩ | ⟨n, rfl⟩ <;> rfl
    obtain ⟨b, vs, e0, e1, e2⟩ := vL_ok sr h e'
    exact ⟨b, vs, e0, by rw [hk]; exact SqL.of e1, e2⟩
theorem jok_enumG {a : Addr} {d : D} : JOk C (IteG C.K (kindD d) a) [.ref a] (.enum d) := by
  intro ξ ω H s i sr hv
  obtain ⟨v, e, h⟩ := hv.one
  cases e
  refine ⟨fun e => ?_, fun x e => ?_⟩
  · simp only [Src.at] at e
    split at e
    · rename_i ds hds
      obtain ⟨b, vs, e0, h1, h2⟩ := vS_G sr h hds
      cases e0
      split at e
      · cases e
      · split at e
        · rename_i hi
          exact ⟨vs, h1, by rw [h2.length, hi]⟩
        · cases e
    · cases e
  · simp only [Src.at] at e
    split at e
    · rename_i ds hds
      obtain ⟨b, vs, e0, h1, h2⟩ := vS_G sr h hds
      cases e0
      split at e
      · rename_i y hy
        cases e
        obtain ⟨w, w1, w2⟩ := h2.get hy
        refine ⟨⟨vs, w, h1, w1⟩, fun z H' hz => ?_⟩
        obtain ⟨T, q, rfl, hT, rfl, hz⟩ := hz
        have := hz vs h1
        rw [w1] at this
        cases this
        exact pair_new sr hT (.int _) w2
      · split at e <;> cases e
    · cases e
theorem jok_zipG {a b : Addr} {d e : D} : JOk C (ItzG C.K (kindD d) (kindD e) a b) [.ref a, .ref b] (.zip d e) := by
  intro ξ ω H s i sr hv
  obtain ⟨v, w, q, h, h'⟩ := hv.two
  cases q
  refine ⟨fun q => ?_, fun x q => ?_⟩
  · simp only [Src.at] at q
    split at q
    · rename_i ds es hds hes
      obtain ⟨c, vs, e0, h1, h2⟩ := vS_G sr h hds
      cases e0
      obtain ⟨c, ws, e0, h3, h4⟩ := vS_G sr h' hes
      cases e0
      split at q
      · cases q
      · rename_i hn
        split at q
        · rename_i hc
          simp only [Bool.and_eq_true, decide_eq_true_eq] at hc
          refine ⟨vs, ws, h1, h3, ?_⟩
          rw [h2.length, h4.length]
          refine ⟨hc.1, hc.2, ?_⟩
          by_cases c1 : i < ds.length
          · by_cases c2 : i < es.length
            · exact absurd (List.getElem?_eq_getElem c2) (hn _ _ (List.getElem?_eq_getElem c1))
            · exact .inr (by omega)
          · exact .inl (by omega)
        · cases q
    · cases q
  · simp only [Src.at] at q
    split at q
    · rename_i ds es hds hes
      obtain ⟨c, vs, e0, h1, h2⟩ := vS_G sr h hds
      cases e0
      obtain ⟨c, ws, e0, h3, h4⟩ := vS_G sr h' hes
      cases e0
      split at q
      · rename_i y z hy hz
        cases q
        obtain ⟨w1, a1, a2⟩ := h2.get hy
        obtain ⟨w2, b1, b2⟩ := h4.get hz
        refine ⟨⟨vs, ws, w1, w2, h1, h3, a1, b1⟩, fun u H' hu => ?_⟩
        obtain ⟨T, p, r, rfl, hT, rfl, hp, hr⟩ := hu
        have e1 := hp vs h1
        have e2 := hr ws h3
        rw [a1] at e1; cases e1
        rw [b1] at e2; cases e2
        exact pair_new sr hT a2 b2
      · split at q <;> cases q
    · cases q
/-! ### the new list of a comprehension, while it grows -/
def ξD (ξ : Addr → Prop) (A : Addr) : Addr → Prop := fun a => ξ a ∨ a = A
mutual
theorem Rep.enter {A : Addr} {o : HO} (hA : H A = none) : ∀ {d : D} {v : V}, Rep C ξ ω H v d → Rep C (ξD ξ A) ω (upd H A o) v d
  | .non, _, .non => .non
  | .bl _, _, .bl _ => .bl _
  | .int _, _, .int _ => .int _
  | .str _, _, .str _ => .str _
  | .tup ds, _, .tup h q => .tup (SqT.upd (by rw [hA]; exact fun _ z => nomatch z) (by rw [hA]; exact fun _ _ z => nomatch z) h) (Reps.enter hA q)
  | .lst ds, _, .lst h n x q => .lst (by rw [upd_ne (ne_of_none h hA)]; exact h) n (fun z => z.elim x fun e => by rw [e, hA] at h; cases h) (Reps.enter hA q)
  | .obj n, _, .obj h => .obj h
  | .scr ns, _, .scr h => .scr (h.imp (fun ⟨o, h⟩ => ⟨o, by rw [upd_ne (ne_of_none h hA)]; exact h⟩) id)
  | .fn g, _, .fn h e => .fn h e
theorem Reps.enter {A : Addr} {o : HO} (hA : H A = none) : ∀ {ds : List D} {vs : List V}, Reps C ξ ω H vs ds → Reps C (ξD ξ A) ω (upd H A o) vs ds
  | [], _, .nil => .nil
  | d :: ds, _, .cons h q => .cons (Rep.enter hA h) (Reps.enter hA q)
end
mutual
theorem Rep.grow {A : Addr} {xs : List V} {o : HO} (hA : H A = some (.lst xs)) : ∀ {d : D} {v : V}, Rep C (ξD ξ A) ω H v d → Rep C (ξD ξ A) ω (upd H A o) v d
  | .non, _, .non => .non
  | .bl _, _, .bl _ => .bl _
  | .int _, _, .int _ => .int _
  | .str _, _, .str _ => .str _
  | .tup ds, _, .tup h q => .tup (SqT.upd (by rw [hA]; exact fun _ z => nomatch z) (by rw [hA]; exact fun _ _ z => nomatch z) h) (Reps.grow hA q)
  | .lst ds, _, .lst h n x q => .lst (by rw [upd_ne fun e => x (.inr e)]; exact h) n x (Reps.grow hA q)
  | .obj n, _, .obj h => .obj h
  | .scr ns, _, .scr h => .scr (h.imp (fun ⟨o, h⟩ => ⟨o, by rw [upd_ne fun e => by rw [e, hA] at h; cases h]; exact h⟩) id)
  | .fn g, _, .fn h e => .fn h e
theorem Reps.grow {A : Addr} {xs : List V} {o : HO} (hA : H A = some (.lst xs)) : ∀ {ds : List D} {vs : List V}, Reps C (ξD ξ A) ω H vs ds → Reps C (ξD ξ A) ω (upd H A o) vs ds
  | [], _, .nil => .nil
  | d :: ds, _, .cons h q => .cons (Rep.grow hA h) (Reps.grow hA q)
end
mutual
theorem Rep.weak {A : Addr} : ∀ {d : D} {v : V}, Rep C (ξD ξ A) ω H v d → Rep C ξ ω H v d
  | .non, _, .non => .non
  | .bl _, _, .bl _ => .bl _
  | .int _, _, .int _ => .int _
  | .str _, _, .str _ => .str _
  | .tup ds, _, .tup h q => .tup h (Reps.weak q)
  | .lst ds, _, .lst h n x q => .lst h n (fun z => x (.inl z)) (Reps.weak q)
  | .obj n, _, .obj h => .obj h
  | .scr ns, _, .scr h => .scr h
  | .fn g, _, .fn h e => .fn h e
theorem Reps.weak {A : Addr} : ∀ {ds : List D} {vs : List V}, Reps C (ξD ξ A) ω H vs ds → Reps C ξ ω H vs ds
  | [], _, .nil => .nil
  | d :: ds, _, .cons h q => .cons (Rep.weak h) (Reps.weak q)
end
mutual
theorem Rep.move {A : Addr} : ∀ {d : D} {v : V}, Rep C (ξD ξ A) ω H v d → Rep C ξ (ω ++ [A]) H v d
  | .non, _, .non => .non
  | .bl _, _, .bl _ => .bl _
  | .int _, _, .int _ => .int _
  | .str _, _, .str _ => .str _
  | .tup ds, _, .tup h q => .tup h (Reps.move q)
  | .lst ds, _, .lst h n x q => .lst h (fun z => (List.mem_append.mp z).elim n fun e => x (.inr (List.mem_singleton.mp e))) (fun z => x (.inl z)) (Reps.move q)
  | .obj n, _, .obj h => .obj (by rw [List.getElem?_append_left (List.getElem?_eq_some_iff.mp h).1]; exact h)
  | .scr ns, _, .scr h => .scr h
  | .fn g, _, .fn h e => .fn h e
theorem Reps.move {A : Addr} : ∀ {ds : List D} {vs : List V}, Reps C (ξD ξ A) ω H vs ds → Reps C ξ (ω ++ [A]) H vs ds
  | [], _, .nil => .nil
  | d :: ds, _, .cons h q => .cons (Rep.move h) (Reps.move q)
end
/-- an object's relation carried -/
theorem ObRel.map {o : Ob} {a : Addr} (e : H' a = H a) (f : ∀ {ds : List D} {vs : List V}, Reps C ξ ω H vs ds → Reps C ξ' ω' H' vs ds) (h : ObRel C ξ ω H a o) : ObRel C ξ' ω' H' a o := by
  cases o with
  | lst ds => obtain ⟨vs, h1, h2⟩ := h; exact ⟨vs, e.trans h1, f h2⟩
  | ins c fs => obtain ⟨Ca, dx, vfs, h1, h2, h3, h4⟩ := h; exact ⟨Ca, dx, vfs, e.trans h1, h2, h3, f h4⟩
theorem SRel.enter {A : Addr} {o : HO} (sr : SRel C ξ ω H s) (hA : H A = none) : SRel C (ξD ξ A) ω (upd H A o) s := by
  have ne : ∀ a ∈ ω, a ≠ A := fun a ha e => (sr.out hA).1 (e ▸ ha)
  refine ⟨sr.len, sr.nd, fun a ha z => z.elim (sr.nx a ha) (ne a ha), fun a z e => ?_, fun n a u h1 h2 => (sr.ob n a u h1 h2).map (upd_ne (ne a (List.mem_of_getElem? h1))) (Reps.enter hA)⟩
  by_cases q : a = A
  · rw [q, upd_same] at e; cases e
  · rw [upd_ne q] at e
    exact z.elim (fun z => sr.xn a z e) q
theorem SRel.grow {A : Addr} {xs : List V} {o : HO} (sr : SRel C (ξD ξ A) ω H s) (hA : H A = some (.lst xs)) : SRel C (ξD ξ A) ω (upd H A o) s := by
  have ne : ∀ a ∈ ω, a ≠ A := fun a ha e => sr.nx a ha (.inr e)
  refine ⟨sr.len, sr.nd, sr.nx, fun a z e => ?_, fun n a u h1 h2 => (sr.ob n a u h1 h2).map (upd_ne (ne a (List.mem_of_getElem? h1))) (Reps.grow hA)⟩
  by_cases q : a = A
  · rw [q, upd_same] at e; cases e
  · rw [upd_ne q] at e
    exact sr.xn a z e
theorem SRel.weak {A : Addr} (sr : SRel C (ξD ξ A) ω H s) : SRel C ξ ω H s :=
  ⟨sr.len, sr.nd, fun a ha z => sr.nx a ha (.inl z), fun a z e => sr.xn a (.inl z) e, fun n a u h1 h2 => (sr.ob n a u h1 h2).map rfl Reps.weak⟩
theorem SRel.move {A : Addr} {vs : List V} {ds : List D} (sr : SRel C (ξD ξ A) ω H s) (hx : ¬ ξ A) (hA : H A = some (.lst vs)) (q : Reps C (ξD ξ A) ω H vs ds) : SRel C ξ (ω ++ [A]) H (s ++ [.lst ds]) := by
  have na : A ∉ ω := fun h => sr.nx A h (.inr rfl)
  refine ⟨by rw [List.length_append, List.length_append, sr.len]; rfl, List.nodup_append.mpr ⟨sr.nd, by simp, fun a ha b hb => by rw [List.mem_singleton.mp hb]; rintro rfl; exact na ha⟩,
    fun a ha => (List.mem_append.mp ha).elim (fun z w => sr.nx a z (.inl w)) fun z => by rw [List.mem_singleton.mp z]; exact hx, fun a z e => sr.xn a (.inl z) e, fun n a u h1 h2 => ?_⟩
  by_cases hn : n < ω.length
  · rw [List.getElem?_append_left hn] at h1
    rw [List.getElem?_append_left (by rw [sr.len]; exact hn)] at h2
    exact (sr.ob n a u h1 h2).map rfl Reps.move
  · have hn' : n = ω.length := by
      have := (List.getElem?_eq_some_iff.mp h1).1
      rw [List.length_append] at this
      simp at this
      omega
    subst hn'
    rw [List.getElem?_append_right (Nat.le_refl _)] at h1
    rw [← sr.len, List.getElem?_append_right (Nat.le_refl _)] at h2
    simp at h1 h2
    subst h1 h2
    exact ⟨vs, hA, q.move⟩
theorem ERel.enter {A : Addr} {o : HO} (hA : H A = none) (e : ERel C ξ ω H σ ρ) : ERel C (ξD ξ A) ω (upd H A o) σ ρ := ⟨e.len, fun i d h => let ⟨v, a, b⟩ := e.at_ i d h; ⟨v, a, b.enter hA⟩⟩
theorem ERel.grow {A : Addr} {xs : List V} {o : HO} (hA : H A = some (.lst xs)) (e : ERel C (ξD ξ A) ω H σ ρ) : ERel C (ξD ξ A) ω (upd H A o) σ ρ := ⟨e.len, fun i d h => let ⟨v, a, b⟩ := e.at_ i d h; ⟨v, a, b.grow hA⟩⟩
/-- the list is whole -/
theorem whole {A : Addr} {m : Bool} {vs : List V} {ds : List D} {ω0 : List Addr} {H0 : Hp} {Q : VK} (e0 : Ext ω0 H0 ω H) (hx : ¬ ξ A) (sr : SRel C (ξD ξ A) ω H s) (hA : H A = some (.lst vs)) (q : Reps C (ξD ξ A) ω H vs ds) (h0 : H0 A = none)
    (h : PO C ξ ω0 H0 σ W (mkL m ds s) fun d _ ω' H' => ∀ v, Rep C ξ ω' H' v d → Q v H') : Q (.ref A) H := by
  cases m with
  | false => exact h ω H e0 sr.weak _ (.lst hA (fun z => sr.nx A z (.inr rfl)) hx q.weak)
  | true =>
    refine h (ω ++ [A]) H ?_ (sr.move hx hA q) _ (.obj (by rw [List.getElem?_append_right (by rw [sr.len]; exact Nat.le_refl _), sr.len]; simp))
    obtain ⟨δ, rfl, k, f⟩ := e0
    exact ⟨δ ++ [A], List.append_assoc .., k, fun a ha => (List.mem_append.mp ha).elim (f a) fun z => by rw [List.mem_singleton.mp z]; exact h0⟩
end
end BS

/-! Core7: targets, comprehensions, loops -/
namespace BS
open PySem PySem.Spec PyProof.Rows L2

def W0 : WX := fun _ _ _ _ => False
mutual
def tgIn (vs : List Nat) : Tg → Bool
  | .v i => vs.contains i
  | .tup ts => tgsIn vs ts
def tgsIn (vs : List Nat) : List Tg → Bool
  | [] => true
  | t :: ts => tgIn vs t && tgsIn vs ts
end
/-- a target's reading -/
def tTg (C : RC) (t : Tg) : TG := fun v σ H Q => ∃ ξ ω s ρ d ρ', SRel C ξ ω H s ∧ Rep C ξ ω H v d ∧ ERel C ξ ω H σ ρ ∧ asg t d ρ = some ρ' ∧
  ∀ σ', ERel C ξ ω H σ' ρ' → (∀ vs, tgIn vs t = true → wipe σ' vs = wipe σ vs) → Q σ' H
def tTgs (C : RC) (ts : List Tg) : TGs := fun vs σ H Q => ∃ ξ ω s ρ ds ρ', SRel C ξ ω H s ∧ Reps C ξ ω H vs ds ∧ ERel C ξ ω H σ ρ ∧ asgs ts ds ρ = some ρ' ∧
  ∀ σ', ERel C ξ ω H σ' ρ' → (∀ us, tgsIn us ts = true → wipe σ' us = wipe σ us) → Q σ' H
/-- what is wanted of statements -/
def POS (C : RC) (ξ : Addr → Prop) (ω : List Addr) (H : Hp) (W : WX) (o : SO) (D : Ends) : Prop :=
  match o with
  | .fl (.next ρ) s' => ∀ σ' ω' H', Ext ω H ω' H' → SRel C ξ ω' H' s' → ERel C ξ ω' H' σ' ρ → D.nx σ' H'
  | .fl (.brk ρ) s' => ∀ σ' ω' H', Ext ω H ω' H' → SRel C ξ ω' H' s' → ERel C ξ ω' H' σ' ρ → D.bk σ' H'
  | .fl (.cont ρ) s' => ∀ σ' ω' H', Ext ω H ω' H' → SRel C ξ ω' H' s' → ERel C ξ ω' H' σ' ρ → D.ct σ' H'
  | .fl (.ret d) s' => ∀ v ω' H', Ext ω H ω' H' → SRel C ξ ω' H' s' → Rep C ξ ω' H' v d → D.rt v H'
  | .ex x ρ s' => ∀ cls dx σ' ω' H', Ext ω H ω' H' → SRel C ξ ω' H' s' → ERel C ξ ω' H' σ' ρ → ExRel C ξ ω' H' x cls dx → W cls dx σ' H'
  | .no => False
def tS (C : RC) (W : WX) (g : G) (t : S) : TS := fun D σ H => ∃ ξ ω ρ s, ERel C ξ ω H σ ρ ∧ SRel C ξ ω H s ∧ POS C ξ ω H W (evS g t ρ s) D
def tSs (C : RC) (W : WX) (g : G) (ts : List S) : TS := fun D σ H => ∃ ξ ω ρ s, ERel C ξ ω H σ ρ ∧ SRel C ξ ω H s ∧ POS C ξ ω H W (evSs g ts ρ s) D

section
variable {C : RC} {ξ ξ' : Addr → Prop} {ω ω' ω'' : List Addr} {H H' H'' : Hp} {s s' : Sto} {σ σ' : L2.St} {ρ ρ' : Env} {W : WX} {g : G} {X : Cx}
theorem wipe_set {i : Nat} {x : Option V} : ∀ {vs : List Nat} {σ : L2.St}, i ∈ vs → wipe (σ.set i x) vs = wipe σ vs
  | v :: vs, σ, h => by
    unfold wipe
    by_cases e : i ∈ vs
    · rw [wipe_set e]
    · have ev : i = v := (List.mem_cons.mp h).resolve_right e
      subst ev
      have key : ∀ (us : List Nat) (σ : L2.St), i ∉ us → wipe (σ.set i x) us = (wipe σ us).set i x := by
        intro us
        induction us with
        | nil => intro σ _; rfl
        | cons u us ih =>
          intro σ hu
          unfold wipe
          rw [ih σ (fun z => hu (List.mem_cons_of_mem _ z)), List.set_comm _ _ (fun z => hu (by rw [z]; exact List.mem_cons_self))]
      rw [key vs σ e, List.set_set]
theorem wipe_wipe : ∀ (vs : List Nat) (σ : L2.St), wipe (wipe σ vs) vs = wipe σ vs := fun vs σ => by
  have key : ∀ (us : List Nat), (∀ u ∈ us, u ∈ vs) → wipe (wipe σ us) vs = wipe σ vs := by
    intro us
    induction us with
    | nil => intro _; rfl
    | cons u us ih =>
      intro h
      show wipe ((wipe σ us).set u none) vs = _
      rw [wipe_set (h u List.mem_cons_self), ih fun v hv => h v (List.mem_cons_of_mem _ hv)]
  exact key vs fun _ h => h
theorem ERel.set {i : Nat} {v : V} {d : D} (e : ERel C ξ ω H σ ρ) (h : Rep C ξ ω H v d) : ERel C ξ ω H (σ.set i (some v)) (ρ.set i (some d)) := by
  refine ⟨by rw [List.length_set, List.length_set]; exact e.len, fun j x q => ?_⟩
  by_cases hj : i = j
  · subst hj
    by_cases hl : i < ρ.length
    · rw [List.getElem?_set_self hl] at q
      cases q
      exact ⟨v, List.getElem?_set_self (by rw [← e.len]; exact hl), h⟩
    · rw [List.getElem?_eq_none (by rw [List.length_set]; omega)] at q
      cases q
  · rw [List.getElem?_set_ne hj] at q
    rw [List.getElem?_set_ne hj]
    exact e.at_ j x q
theorem ERel.wipe (e : ERel C ξ ω H σ ρ) : ∀ vs : List Nat, ERel C ξ ω H (wipe σ vs) (wipeE ρ vs)
  | [] => e
  | v :: vs => by
    have q := e.wipe vs
    refine ⟨by simp only [L2.wipe, wipeE, List.length_set]; exact q.len, fun j x h => ?_⟩
    simp only [wipeE] at h
    simp only [L2.wipe]
    by_cases hj : v = j
    · subst hj
      by_cases hl : v < (wipeE ρ vs).length
      · rw [List.getElem?_set_self hl] at h; cases h
      · rw [List.getElem?_eq_none (by rw [List.length_set]; omega)] at h; cases h
    · rw [List.getElem?_set_ne hj] at h
      rw [List.getElem?_set_ne hj]
      exact q.at_ j x h
theorem SRel.full' (r : SRel C ξ ω H s) (k : ∀ a u, H a = some u → H' a = some u) (kn : Keep ω H H') : SRel C ξ ω H' s := r.full k kn
theorem Ext.full (kn : Keep ω H H') : Ext ω H ω H' := ⟨[], (List.append_nil _).symm, kn, Fresh.nil⟩
/-! targets -/
theorem tg_name {x : Str} {i : Nat} {pos : Pos} (hN : X.N.Nodup) (hi : X.N[i]? = some x) (hx : Loc X.env.scope x) (hf : X.fn x = true ∨ X.env.scope.names.lookup x = some .local) : PG X (.Name x pos) (tTg C (.v i)) := by
  refine ⟨fun pins sh σ H v u Q I r h => (pg_name hN hi hx hf).run pins sh σ H v u Q I r ?_⟩
  obtain ⟨ξ, ω, s, ρ, d, ρ', sr, hv, er, e, fin⟩ := h
  simp only [asg, Option.some.injEq] at e
  subst e
  exact fin _ (er.set hv) fun vs hvs => wipe_set (by simpa [tgIn] using hvs)
theorem tgs_nil : PGs X [] (tTgs C []) := by
  refine ⟨fun pins sh σ H vs us Q I r h => pgs_nil.run pins sh σ H vs us Q I r ?_⟩
  obtain ⟨ξ, ω, s, ρ, ds, ρ', sr, hv, er, e, fin⟩ := h
  cases hv with
  | nil =>
    simp only [asgs, Option.some.injEq] at e
    subst e
    exact ⟨rfl, fin σ er fun _ _ => rfl⟩
  | cons => simp [asgs] at e
theorem tgs_cons {e : Expr} {es : List Expr} {t : Tg} {ts : List Tg} (h1 : PG X e (tTg C t)) (h2 : PGs X es (tTgs C ts))
    (hs : (assignEach (e :: es) X.env).map (·.2) = assign e X.env :: (assignEach es X.env).map (·.2)) : PGs X (e :: es) (tTgs C (t :: ts)) := by
  refine ⟨fun pins sh σ H vs us Q I r h => (pgs_cons h1 h2 hs).run pins sh σ H vs us Q I r ?_⟩
  obtain ⟨ξ, ω, s, ρ, ds, ρ', sr, hv, er, e, fin⟩ := h
  cases hv with
  | nil => simp [asgs] at e
  | @cons v vs d ds hd q =>
    simp only [asgs] at e
    split at e
    · rename_i ρ1 e1
      refine ⟨v, vs, rfl, ξ, ω, s, ρ, d, ρ1, sr, hd, er, e1, fun σ1 er1 w1 => ?_⟩
      refine ⟨ξ, ω, s, ρ1, ds, ρ', sr, q, er1, e, fun σ2 er2 w2 => fin σ2 er2 fun us hu => ?_⟩
      simp only [tgsIn, Bool.and_eq_true] at hu
      rw [w2 us hu.2, w1 us hu.1]
    · cases e
theorem tg_tup {es : List Expr} {k : Nat} {ts : List Tg} {pos : Pos} (hK : C.K = X.K) (hc : X.calm = true) (h : PGs X es (tTgs C ts)) (hl : (assignEach es X.env).length = ts.length) (hst : (assignEach es X.env).findIdx? (·.1) = none) :
    PG X (.Tuple es k pos) (tTg C (.tup ts)) := by
  refine ⟨fun pins sh σ H v u Q I r hh => (pg_tup (n := ts.length) hc h hl hst).run pins sh σ H v u Q I r ?_⟩
  obtain ⟨ξ, ω, s, ρ, d, ρ', sr, hv, er, e, fin⟩ := hh
  have len : ∀ {ts : List Tg} {ds : List D} {ρ ρ' : Env}, asgs ts ds ρ = some ρ' → ds.length = ts.length := by
    intro ts
    induction ts with
    | nil => intro ds ρ ρ' e; cases ds with
      | nil => rfl
      | cons => simp [asgs] at e
    | cons t ts ih => intro ds ρ ρ' e; cases ds with
      | nil => simp [asgs] at e
      | cons d ds =>
        simp only [asgs] at e
        split at e
        · simp [ih e]
        · cases e
  cases hv with
  | @tup a vs ds h1 h2 =>
    simp only [asg] at e
    refine ⟨a, vs, rfl, by rw [← hK]; exact h1, by rw [h2.length]; exact len e, ξ, ω, s, ρ, ds, ρ', sr, h2, er, e, fun σ' er' w => fin σ' er' fun us hu => w us (by simpa [tgIn] using hu)⟩
  | _ => simp [asg] at e
/-! comprehensions -/
theorem comp_ok {m : Bool} {own : List Nat} {tg : Tg} {it : I} {c : E} {e : E} {Q : VK} (hown : tgIn own tg = true) (h : tD C W g (.comp m own tg it c e) σ H Q) :
    tLc (tI C W g it) (tTg C tg) (tT C W0 g c) (tD C W0 g e) own σ H Q := by
  obtain ⟨ξ, ω, ρ, s, er, sr, h⟩ := h
  simp only [evE] at h
  refine ⟨ξ, ω, ρ, s, er, sr, h.bind.mono fun src s1 ω1 H1 _ e1 sr1 h1 J vs hv jok => ?_⟩
  intro A hA
  have er1 := er.ext sr e1
  generalize hb : compB tg (wipeE ρ own) (fun ρ s => evE g c ρ s) (fun ρ s => evE g e ρ s) = b at h1
  cases ho : compLoop src b (src.most s1) 0 [] s1 with
  | no => rw [ho] at h1; exact False.elim h1
  | ex x s2 =>
    exfalso
    have key : ∀ (k i : Nat) (acc : List D) (s : Sto), compLoop src b k i acc s ≠ .ex x s2 := by
      intro k
      induction k with
      | zero => intro i acc s; simp only [compLoop]; split <;> exact fun z => nomatch z
      | succ k ih =>
        intro i acc s
        simp only [compLoop]
        split
        · exact fun z => nomatch z
        · exact fun z => nomatch z
        · split
          · exact ih _ _ _
          · split
            · exact ih _ _ _
            · exact fun z => nomatch z
          · exact fun z => nomatch z
    exact key _ _ _ _ ho
  | ok ds s2 =>
    rw [ho] at h1
    have hfin : PO C ξ ω1 H1 σ W (mkL m ds s2) fun d _ ω' H' => ∀ v, Rep C ξ ω' H' v d → Q v H' := h1
    have hxA := (sr1.out hA).2
    refine ⟨fun i k H => ∃ ω' s' acc accV, compLoop src b k i acc s' = .ok ds s2 ∧ H A = some (.lst accV) ∧ Ext ω1 H1 ω' H ∧ SRel C (ξD ξ A) ω' H s' ∧ ERel C (ξD ξ A) ω' H (wipe σ own) (wipeE ρ own) ∧ Reps C (ξD ξ A) ω' H vs src.ds ∧ Reps C (ξD ξ A) ω' H accV acc.reverse,
      ⟨src.most s1, ω1, s1, [], [], ho, upd_same, Ext.laid hA, sr1.enter hA, (er1.wipe own).enter hA, hv.enter hA, .nil⟩, ?_⟩
    rintro i k H ⟨ω', s', acc, accV, hl, hHA, ex, sr', er', hv', hacc⟩
    have stop : src.at s' i = .stop → acc.reverse = ds → s' = s2 → J.stop i H ∧ Q (.ref A) H := fun e0 e1 e2 => by
      subst e1 e2
      exact ⟨(jok _ _ _ _ i sr' hv').1 e0, whole ex hxA sr' hHA hacc hA hfin⟩
    cases k with
    | zero =>
      simp only [compLoop] at hl
      split at hl
      · rename_i e0
        injection hl with e1 e2
        exact .inl (stop e0 e1 e2)
      · cases hl
    | succ k =>
      simp only [compLoop] at hl
      split at hl
      · rename_i e0
        injection hl with e1 e2
        exact .inl (stop e0 e1 e2)
      · cases hl
      · rename_i d e0
        obtain ⟨go, yl⟩ := (jok _ _ _ _ i sr' hv').2 d e0
        refine .inr ⟨go, fun H' => ∃ ω' s' acc accV, compLoop src b k (i + 1) acc s' = .ok ds s2 ∧ H' A = some (.lst accV) ∧ Ext ω1 H1 ω' H' ∧ SRel C (ξD ξ A) ω' H' s' ∧ ERel C (ξD ξ A) ω' H' (wipe σ own) (wipeE ρ own) ∧ Reps C (ξD ξ A) ω' H' vs src.ds ∧ Reps C (ξD ξ A) ω' H' accV acc.reverse,
          fun H' hN => ⟨k, Nat.lt_succ_self _, hN⟩, fun x H' hy => ?_⟩
        obtain ⟨fu, kn, hx⟩ := yl x H' hy
        have srH := sr'.full fu kn
        have erH : ERel C (ξD ξ A) ω' H' (wipe σ own) (wipeE ρ own) := er'.ext sr' (Ext.full kn)
        have exH := ex.trans (Ext.full kn)
        have hvH := hv'.ext sr' (Ext.full kn)
        have haH := hacc.ext sr' (Ext.full kn)
        have hHAH := fu _ _ hHA
        rw [← hb] at hl
        simp only [compB] at hl
        rw [hb] at hl
        cases ha : asg tg d (wipeE ρ own) with
        | none => simp only [ha] at hl; cases hl
        | some ρ1 =>
          simp only [ha] at hl
          refine ⟨ξD ξ A, ω', s', wipeE ρ own, d, ρ1, srH, hx, erH, ha, fun σ2 er2 w2 => ⟨(w2 own hown).trans (wipe_wipe own σ), ?_⟩⟩
          -- the element, where it is kept
          have elem : ∀ (ω3 : List Addr) (s3 : Sto) (H3 : Hp), Ext ω' H' ω3 H3 → SRel C (ξD ξ A) ω3 H3 s3 → (match (evE g e ρ1 s3).bind fun y s4 => (.ok (some y) s4 : Out (Option D)) with
                | .ok none s' => compLoop src b k (i + 1) acc s'
                | .ok (some y) s' => if acc.length < sizeLine then compLoop src b k (i + 1) (y :: acc) s' else .no
                | _ => .no) = .ok ds s2 →
              tD C W0 g e σ2 H3 fun y H4 => ∃ acc, H4 A = some (.lst acc) ∧ acc.length < sizeLine ∧ ∃ ω' s' acc' accV, compLoop src b k (i + 1) acc' s' = .ok ds s2 ∧ (upd H4 A (.lst (acc ++ [y]))) A = some (.lst accV) ∧ Ext ω1 H1 ω' (upd H4 A (.lst (acc ++ [y]))) ∧ SRel C (ξD ξ A) ω' (upd H4 A (.lst (acc ++ [y]))) s' ∧ ERel C (ξD ξ A) ω' (upd H4 A (.lst (acc ++ [y]))) (wipe σ own) (wipeE ρ own) ∧ Reps C (ξD ξ A) ω' (upd H4 A (.lst (acc ++ [y]))) vs src.ds ∧ Reps C (ξD ξ A) ω' (upd H4 A (.lst (acc ++ [y]))) accV acc'.reverse := by
            intro ω3 s3 H3 ex3 sr3 hl3
            refine ⟨ξD ξ A, ω3, ρ1, s3, er2.ext srH ex3, sr3, ?_⟩
            cases he : evE g e ρ1 s3 with
            | no => simp only [he, Out.bind] at hl3; cases hl3
            | ex x s4 => simp only [he, Out.bind] at hl3; cases hl3
            | ok y s4 =>
              simp only [he, Out.bind] at hl3
              split at hl3
              · rename_i hz
                intro ω4 H4 ex4 sr4 v hvy
                have ex34 := ex3.trans ex4
                have kA : H4 A = some (.lst accV) := by
                  obtain ⟨δ, rfl, kp, fr⟩ := ex34
                  exact kp.at_ _ _ hHAH (fun z => srH.nx A z (.inr rfl)) fun _ z => nomatch z
                have ha4 := haH.ext srH ex34
                · refine ⟨accV, kA, by rw [haH.length, List.length_reverse]; exact hz, ω4, s4, y :: acc, accV ++ [v], hl3, upd_same, ?_, sr4.grow kA, ((erH.ext srH ex34).grow kA), (hvH.ext srH ex34).grow kA, ?_⟩
                  · obtain ⟨δ, e5, kp, fr⟩ := exH.trans ex34
                    refine ⟨δ, e5, ⟨fun a o q hn ht => ?_, fun a q => ?_⟩, fr⟩
                    · rw [upd_ne (by rintro rfl; rw [hA] at q; cases q)]; exact kp.at_ a o q hn ht
                    · by_cases z : a = A
                      · rw [z]; exact hA
                      · rw [upd_ne z] at q; exact kp.no a q
                  · rw [List.reverse_cons]
                    exact (ha4.app (.cons hvy .nil)).grow kA
              · cases hl3
          refine ⟨ξD ξ A, ω', ρ1, s', er2, srH, ?_⟩
          cases hc : evE g c ρ1 s' with
          | no => simp only [hc, Out.bind] at hl; cases hl
          | ex x s4 => simp only [hc, Out.bind] at hl; cases hl
          | ok bd s3 =>
            simp only [hc, Out.bind] at hl
            intro ω3 H3 ex3 sr3
            cases ht : truD s3 bd with
            | none => simp only [ht] at hl; cases hl
            | some b' =>
              refine ⟨b', rfl, ?_⟩
              cases b' with
              | true =>
                simp only [ht] at hl
                rw [if_pos rfl]
                exact elem ω3 s3 H3 ex3 sr3 hl
              | false =>
                simp only [ht] at hl
                rw [if_neg Bool.false_ne_true]
                have kA : H3 A = some (.lst accV) := by
                  obtain ⟨δ, rfl, kp, fr⟩ := ex3
                  exact kp.at_ _ _ hHAH (fun z => srH.nx A z (.inr rfl)) fun _ z => nomatch z
                exact ⟨ω3, s3, acc, accV, hl, kA, exH.trans ex3, sr3, erH.ext srH ex3, hvH.ext srH ex3, haH.ext srH ex3⟩
end
end BS

/-! Core8: statements -/
namespace BS
open PySem PySem.Spec PyProof.Rows L2

section
variable {C : RC} {ξ ξ' : Addr → Prop} {ω ω' ω'' : List Addr} {H H' H'' : Hp} {s s' : Sto} {σ σ' : L2.St} {ρ ρ' : Env} {W : WX} {g : G} {X : Cx} {D : Ends}
theorem POS.ext (e : Ext ω H ω' H') {o : SO} (h : POS C ξ ω H W o D) : POS C ξ ω' H' W o D := by
  cases o with
  | no => exact h
  | ex x ρ s => exact fun cls dx σ' ω'' H'' e' => h cls dx σ' ω'' H'' (e.trans e')
  | fl f s => cases f with
    | next ρ => exact fun σ' ω'' H'' e' => h σ' ω'' H'' (e.trans e')
    | brk ρ => exact fun σ' ω'' H'' e' => h σ' ω'' H'' (e.trans e')
    | cont ρ => exact fun σ' ω'' H'' e' => h σ' ω'' H'' (e.trans e')
    | ret d => exact fun v ω'' H'' e' => h v ω'' H'' (e.trans e')
theorem POS.so {o : Out BS.D} {f : BS.D → Sto → SO} (sr : SRel C ξ ω H s) (er : ERel C ξ ω H σ ρ) (h : POS C ξ ω H W (o.so ρ f) D) : PO C ξ ω H σ W o fun d s' ω' H' => POS C ξ ω' H' W (f d s') D := by
  cases o with
  | no => exact h
  | ex x s' => exact fun cls dx ω' H' e r z => h cls dx σ ω' H' e r (er.ext sr e) z
  | ok d s' => exact fun ω' H' e r => POS.ext e (o := f d s') h
theorem ex_ok {e : E} (h : tS C W g (.ex e) D σ H) : tDrop (tD C W g e) D σ H := by
  obtain ⟨ξ, ω, ρ, s, er, sr, h⟩ := h
  simp only [evS] at h
  exact tD.go er sr (POS.so sr er h) fun d s' ω' H' v e r er' k _ => k σ ω' H' Ext.refl r er'
theorem ret_ok {e : E} (h : tS C W g (.ret e) D σ H) : tRet (tD C W g e) D σ H := by
  obtain ⟨ξ, ω, ρ, s, er, sr, h⟩ := h
  simp only [evS] at h
  exact tD.go er sr (POS.so sr er h) fun d s' ω' H' v e r er' k rv => k v ω' H' Ext.refl r rv
theorem set_ok {t : Tg} {e : E} (h : tS C W g (.set t e) D σ H) : tAsg (tD C W g e) (tTg C t) D σ H := by
  obtain ⟨ξ, ω, ρ, s, er, sr, h⟩ := h
  simp only [evS] at h
  refine tD.go er sr (POS.so sr er h) fun d s' ω' H' v e r er' k rv => ?_
  split at k
  · rename_i ρ1 ha
    exact ⟨ξ, ω', s', ρ, d, ρ1, r, rv, er', ha, fun σ' e2 _ => k σ' ω' H' Ext.refl r e2⟩
  · exact False.elim k
/-- the same for a name, where the value is stored within the comprehension's frame -/
theorem setN_ok {i : Nat} {e : E} {te : TE} (he : ∀ σ H Q, tD C W g e σ H Q → te σ H Q) (h : tS C W g (.set (.v i) e) D σ H) : tAsg te (gName i) D σ H := by
  obtain ⟨ξ, ω, ρ, s, er, sr, h⟩ := h
  simp only [evS] at h
  refine he _ _ _ (tD.go er sr (POS.so sr er h) fun d s' ω' H' v e r er' k rv => ?_)
  simp only [asg] at k
  exact k _ ω' H' Ext.refl r (er'.set rv)
theorem par_ok {is : List Nat} {es : List E} (h : tS C W g (.par is es) D σ H) : tDs C W g es σ H fun vs H1 => ∃ ξ ω s ds ρ ρ', SRel C ξ ω H1 s ∧ Reps C ξ ω H1 vs ds ∧ ERel C ξ ω H1 σ ρ ∧ asgs (is.map Tg.v) ds ρ = some ρ' ∧ ∀ σ', ERel C ξ ω H1 σ' ρ' → D.nx σ' H1 := by
  obtain ⟨ξ, ω, ρ, s, er, sr, h⟩ := h
  simp only [evS] at h
  refine tDs.mk er sr ?_
  cases ho : evEs g es ρ s with
  | no => rw [ho] at h; exact h
  | ex x s1 => rw [ho] at h; exact fun cls dx ω' H' e r z => h cls dx σ ω' H' e r (er.ext sr e) z
  | ok ds s1 =>
    simp only [ho] at h
    split at h
    · rename_i ρ1 ha
      exact fun ω' H' e r vs rv => ⟨ξ, ω', s1, ds, ρ, ρ1, r, rv, er.ext sr e, ha, fun σ' e2 => h σ' ω' H' e r e2⟩
    · exact False.elim h
theorem setIx_ok {o i e : E} (h : tS C W g (.setIx o i e) D σ H) : tAsg (tD C W g e) (gSub (tD C W g o) (tD C W g i) (rSetP C)) D σ H := by
  obtain ⟨ξ, ω, ρ, s, er, sr, h⟩ := h
  simp only [evS] at h
  refine tD.go er sr (POS.so sr er h) fun d s1 ω1 H1 v e1 r1 er1 k1 rv => ?_
  refine tD.go er1 r1 (POS.so r1 er1 k1) fun x s2 ω2 H2 vx e2 r2 er2 k2 rx => ?_
  refine tD.go er2 r2 (POS.so r2 er2 k2) fun y s3 ω3 H3 vy e3 r3 er3 k3 ry => ?_
  split at k3
  · rename_i s4 hs
    refine ⟨ξ, ω3, s3, x, y, d, s4, r3, rx.ext r2 e3, ry, (rv.ext r1 e2).ext r2 e3, hs, fun H' e4 r4 => k3 σ ω3 H' e4 r4 (er3.ext r3 e4)⟩
  · exact False.elim k3
theorem ite_ok {c : E} {a b : List S} (h : tS C W g (.ite c a b) D σ H) : tIfS (tT C W g c) (tSs C W g a) (tSs C W g b) D σ H := by
  obtain ⟨ξ, ω, ρ, s, er, sr, h⟩ := h
  simp only [evS] at h
  refine ⟨ξ, ω, ρ, s, er, sr, (POS.so sr er h).mono fun d s' ω' H' _ e r k => ?_⟩
  split at k
  · rename_i ht; exact ⟨true, ht, by dsimp only; rw [if_pos rfl]; exact ⟨ξ, ω', ρ, s', er.ext sr e, r, k⟩⟩
  · rename_i ht; exact ⟨false, ht, by dsimp only; rw [if_neg Bool.false_ne_true]; exact ⟨ξ, ω', ρ, s', er.ext sr e, r, k⟩⟩
  · exact False.elim k
theorem seq_ok {t : S} {ts : List S} (h : tSs C W g (t :: ts) D σ H) : tSeq (tS C W g t) (tSs C W g ts) D σ H := by
  obtain ⟨ξ, ω, ρ, s, er, sr, h⟩ := h
  simp only [evSs] at h
  refine ⟨ξ, ω, ρ, s, er, sr, ?_⟩
  cases ho : evS g t ρ s with
  | no => rw [ho] at h; exact h
  | ex x ρ1 s1 => rw [ho] at h; exact h
  | fl f s1 => cases f with
    | next ρ1 => rw [ho] at h; exact fun σ' ω' H' e r er' => ⟨ξ, ω', ρ1, s1, er', r, POS.ext (o := evSs g ts ρ1 s1) e h⟩
    | brk ρ1 => rw [ho] at h; exact h
    | cont ρ1 => rw [ho] at h; exact h
    | ret d => rw [ho] at h; exact h
theorem nil_ok (h : tSs C W g [] D σ H) : tNext D σ H := by
  obtain ⟨ξ, ω, ρ, s, er, sr, h⟩ := h
  exact h σ ω H Ext.refl sr er
theorem one_ok {t : S} (h : tSs C W g [t] D σ H) : tS C W g t D σ H := by
  obtain ⟨ξ, ω, ρ, s, er, sr, h⟩ := h
  simp only [evSs] at h
  refine ⟨ξ, ω, ρ, s, er, sr, ?_⟩
  cases ho : evS g t ρ s with
  | no => rw [ho] at h; exact h
  | ex x ρ1 s1 => rw [ho] at h; exact h
  | fl f s1 => cases f <;> (rw [ho] at h; exact h)
theorem pass_ok (h : tS C W g .pass D σ H) : tNext D σ H := by
  obtain ⟨ξ, ω, ρ, s, er, sr, h⟩ := h
  exact h σ ω H Ext.refl sr er
theorem brk_ok (h : tS C W g .brk D σ H) : tBreak D σ H := by
  obtain ⟨ξ, ω, ρ, s, er, sr, h⟩ := h
  exact h σ ω H Ext.refl sr er
theorem cont_ok (h : tS C W g .cont D σ H) : tCont D σ H := by
  obtain ⟨ξ, ω, ρ, s, er, sr, h⟩ := h
  exact h σ ω H Ext.refl sr er
theorem never_ok (h : tS C W g .never D σ H) : tNever D σ H := by
  obtain ⟨ξ, ω, ρ, s, er, sr, h⟩ := h
  exact h
theorem for_ok {t : Tg} {it : I} {b : List S} (h : tS C W g (.for_ t it b) D σ H) : tFor (tI C W g it) (tTg C t) (tSs C W g b) D σ H := by
  obtain ⟨ξ, ω, ρ, s, er, sr, h⟩ := h
  simp only [evS] at h
  refine ⟨ξ, ω, ρ, s, er, sr, ?_⟩
  cases ho : evI g it ρ s with
  | no => rw [ho] at h; exact h
  | ex x s1 => rw [ho] at h; exact fun cls dx ω' H' e r z => h cls dx σ ω' H' e r (er.ext sr e) z
  | ok src s1 =>
    simp only [ho] at h
    intro ω1 H1 e1 r1 J vs hv jok
    have h := POS.ext e1 h
    have er1 := er.ext sr e1
    generalize hout : forLoop src t (fun ρ s => evSs g b ρ s) (src.most s1) 0 ρ s1 = out at h
    refine ⟨fun i k σ H => ∃ ω' s' ρ', forLoop src t (fun ρ s => evSs g b ρ s) k i ρ' s' = out ∧ Ext ω1 H1 ω' H ∧ SRel C ξ ω' H s' ∧ ERel C ξ ω' H σ ρ' ∧ Reps C ξ ω' H vs src.ds,
      ⟨src.most s1, ω1, s1, ρ, hout, Ext.refl, r1, er1, hv⟩, ?_⟩
    rintro i k σ H ⟨ω', s', ρ', hl, ex, sr', er', hv'⟩
    have stop : src.at s' i = .stop → SO.fl (.next ρ') s' = out → J.stop i H ∧ D.nx σ H := fun e0 e2 => by
      subst e2
      exact ⟨(jok _ _ _ _ i sr' hv').1 e0, h σ ω' H ex sr' er'⟩
    cases k with
    | zero =>
      simp only [forLoop] at hl
      split at hl
      · rename_i e0; exact .inl (stop e0 hl)
      · subst hl; exact False.elim h
    | succ k =>
      simp only [forLoop] at hl
      split at hl
      · rename_i e0; exact .inl (stop e0 hl)
      · subst hl; exact False.elim h
      · rename_i d e0
        obtain ⟨go, yl⟩ := (jok _ _ _ _ i sr' hv').2 d e0
        refine .inr ⟨go, fun σ H => ∃ ω' s' ρ', forLoop src t (fun ρ s => evSs g b ρ s) k (i + 1) ρ' s' = out ∧ Ext ω1 H1 ω' H ∧ SRel C ξ ω' H s' ∧ ERel C ξ ω' H σ ρ' ∧ Reps C ξ ω' H vs src.ds,
          fun σ' H' hN => ⟨k, Nat.lt_succ_self _, hN⟩, fun x H' hy => ?_⟩
        obtain ⟨fu, kn, hx⟩ := yl x H' hy
        have srH := sr'.full fu kn
        have exH := ex.trans (Ext.full kn)
        have hvH := hv'.ext sr' (Ext.full kn)
        split at hl
        · subst hl; exact False.elim h
        · rename_i ρ1 ha
          refine ⟨ξ, ω', s', ρ', d, ρ1, srH, hx, er'.ext sr' (Ext.full kn), ha, fun σ2 er2 _ => ⟨ξ, ω', ρ1, s', er2, srH, ?_⟩⟩
          split at hl
          · rename_i ρ2 s2 hb
            rw [hb]
            exact fun σ' ω3 H3 e3 r3 er3 => ⟨ω3, s2, ρ2, hl, exH.trans e3, r3, er3, hvH.ext srH e3⟩
          · rename_i ρ2 s2 hb
            rw [hb]
            exact fun σ' ω3 H3 e3 r3 er3 => ⟨ω3, s2, ρ2, hl, exH.trans e3, r3, er3, hvH.ext srH e3⟩
          · rename_i ρ2 s2 hb
            rw [hb]
            subst hl
            exact fun σ' ω3 H3 e3 r3 er3 => h σ' ω3 H3 (exH.trans e3) r3 er3
          · rename_i ρ2 s2 hb
            rw [hb]
            subst hl
            exact fun v ω3 H3 e3 r3 rv => h v ω3 H3 (exH.trans e3) r3 rv
          · rename_i x ρ2 s2 hb
            rw [hb]
            subst hl
            exact fun cls dx σ' ω3 H3 e3 r3 er3 z => h cls dx σ' ω3 H3 (exH.trans e3) r3 er3 z
          · subst hl; exact False.elim h
theorem while_ok {c : E} {b : List S} (h : tS C W g (.while_ c b) D σ H) : tWhile (tT C W g c) (tSs C W g b) D σ H := by
  obtain ⟨ξ, ω, ρ, s, er, sr, h⟩ := h
  simp only [evS] at h
  generalize hout : whileLoop (fun ρ s => evE g c ρ s) (fun ρ s => evSs g b ρ s) g.W ρ s = out at h
  refine ⟨fun k σ' H' => ∃ ω' s' ρ', whileLoop (fun ρ s => evE g c ρ s) (fun ρ s => evSs g b ρ s) k ρ' s' = out ∧ Ext ω H ω' H' ∧ SRel C ξ ω' H' s' ∧ ERel C ξ ω' H' σ' ρ', ⟨g.W, ω, s, ρ, hout, Ext.refl, sr, er⟩, ?_⟩
  rintro k σ1 H1 ⟨ω1, s1, ρ1, hl, ex, sr1, er1⟩
  cases k with
  | zero => simp only [whileLoop] at hl; subst hl; exact False.elim h
  | succ k =>
    simp only [whileLoop] at hl
    have h1 : POS C ξ ω1 H1 W out D := POS.ext ex h
    rw [← hl] at h1
    refine ⟨ξ, ω1, ρ1, s1, er1, sr1, ?_⟩
    cases hc : evE g c ρ1 s1 with
    | no => rw [hc] at h1; exact h1
    | ex x s2 => rw [hc] at h1; exact fun cls dx ω' H' e r z => h1 cls dx σ1 ω' H' e r (er1.ext sr1 e) z
    | ok d s2 =>
      simp only [hc, Out.so] at hl h1
      intro ω2 H2 e2 r2
      have er2 := er1.ext sr1 e2
      have ex2 := ex.trans e2
      cases ht : truD s2 d with
      | none => simp only [ht] at h1; exact False.elim h1
      | some q =>
        refine ⟨q, rfl, ?_⟩
        cases q with
        | false =>
          simp only [ht] at h1
          rw [if_neg Bool.false_ne_true]
          exact h1 σ1 ω2 H2 e2 r2 er2
        | true =>
          simp only [ht] at hl
          rw [if_pos rfl]
          refine ⟨fun σ' H' => ∃ ω' s' ρ', whileLoop (fun ρ s => evE g c ρ s) (fun ρ s => evSs g b ρ s) k ρ' s' = out ∧ Ext ω H ω' H' ∧ SRel C ξ ω' H' s' ∧ ERel C ξ ω' H' σ' ρ', fun σ' H' hN => ⟨k, Nat.lt_succ_self _, hN⟩, ξ, ω2, ρ1, s2, er2, r2, ?_⟩
          split at hl
          · rename_i ρ3 s3 hb
            rw [hb]
            exact fun σ' ω3 H3 e3 r3 er3 => ⟨ω3, s3, ρ3, hl, ex2.trans e3, r3, er3⟩
          · rename_i ρ3 s3 hb
            rw [hb]
            exact fun σ' ω3 H3 e3 r3 er3 => ⟨ω3, s3, ρ3, hl, ex2.trans e3, r3, er3⟩
          · rename_i ρ3 s3 hb
            rw [hb]
            subst hl
            exact fun σ' ω3 H3 e3 r3 er3 => h σ' ω3 H3 (ex2.trans e3) r3 er3
          · rename_i ρ3 s3 hb
            rw [hb]
            subst hl
            exact fun v ω3 H3 e3 r3 rv => h v ω3 H3 (ex2.trans e3) r3 rv
          · rename_i x ρ3 s3 hb
            rw [hb]
            subst hl
            exact fun cls dx σ' ω3 H3 e3 r3 er3 z => h cls dx σ' ω3 H3 (ex2.trans e3) r3 er3 z
          · subst hl; exact False.elim h
/-! expressions -/
theorem mono_PE {e : Expr} {t t' : TE} (h : PE X e t) (m : ∀ σ H Q, t' σ H Q → t σ H Q) : PE X e t' := ⟨fun pins s σ H Q I q => h.run pins s σ H Q I (m σ H Q q)⟩
theorem mono_PT {e : Expr} {t t' : TT} (h : PT X e t) (m : ∀ σ H Q, t' σ H Q → t σ H Q) : PT X e t' := ⟨fun pins s σ H Q I q => h.run pins s σ H Q I (m σ H Q q)⟩
theorem mono_PW {e : Expr} {t t' : TT} (h : PW X e t) (m : ∀ σ H Q, t' σ H Q → t σ H Q) : PW X e t' := ⟨fun w pins s σ H Q I q => h.run w pins s σ H Q I (m σ H Q q)⟩
theorem mono_PA {e : List Expr} {t t' : TA} (h : PA X e t) (m : ∀ σ H Q, t' σ H Q → t σ H Q) : PA X e t' := ⟨fun p pins s σ H Q I q => h.run p pins s σ H Q I (m σ H Q q)⟩
theorem mono_PS {e : Stmt} {t t' : TS} (h : PS X e t) (m : ∀ D σ H, t' D σ H → t D σ H) : PS X e t' := ⟨fun pins s σ H D I q => h.run pins s σ H D I (m D σ H q)⟩
theorem mono_PSs {e : List Stmt} {t t' : TS} (h : PSs X e t) (m : ∀ D σ H, t' D σ H → t D σ H) : PSs X e t' := ⟨fun pins s σ H D I q => h.run pins s σ H D I (m D σ H q)⟩
theorem mono_PI {tg e : Expr} {t t' : TI} (h : PI X tg e t) (m : ∀ σ H Q, t' σ H Q → t σ H Q) : PI X tg e t' := ⟨fun pins s σ H Q I q => h.run pins s σ H Q I (m σ H Q q)⟩
theorem lit_ok {l : Lit} {Q : VK} (h : tD C W g (.lit l) σ H Q) (v : V) (hv : ∀ C ξ ω H, Rep C ξ ω H v l.d) : Q v H := by
  obtain ⟨ξ, ω, ρ, s, er, sr, h⟩ := h
  simp only [evE] at h
  exact h.here sr v (hv _ _ _ _)
theorem var_ok {i : Nat} {Q : VK} (h : tD C W g (.v i) σ H Q) : tVar i σ H Q := by
  obtain ⟨ξ, ω, ρ, s, er, sr, h⟩ := h
  simp only [evE] at h
  split at h
  · rename_i d hd
    obtain ⟨v, h1, h2⟩ := er.at_ i d hd
    exact ⟨v, h1, h.here sr v h2⟩
  · exact False.elim h
/-- two operands -/
theorem op2_ok {p : Pr} {a b : E} {Q : VK} (h : tD C W g (.pr p [a, b]) σ H Q) : tOp (rP C p) (tD C W g a) (tD C W g b) σ H Q := by
  obtain ⟨ξ, ω, ρ, s, er, sr, h⟩ := h
  simp only [evE, mapOut_two, bind_assoc] at h
  refine tD.go er sr h.bind fun d s1 ω1 H1 v e1 r1 er1 k1 rv => ?_
  refine tD.go er1 r1 (PO.bind k1) fun d2 s2 ω2 H2 v2 e2 r2 er2 k2 rv2 => ?_
  simp only [Out.bind] at k2
  cases hp : prim s2 p [d, d2] with
  | none => rw [hp] at k2; exact False.elim k2
  | some r =>
    rw [hp] at k2
    exact ⟨ξ, ω2, s2, d, d2, r, r2, rv.ext r1 e2, rv2, hp, fun v ω' H' e r rv => k2 ω' H' e r v rv⟩
theorem op1_ok {p : Pr} {a : E} {Q : VK} (h : tD C W g (.pr p [a]) σ H Q) : tD C W g a σ H fun v H1 => ∃ ξ ω s d r, SRel C ξ ω H1 s ∧ Rep C ξ ω H1 v d ∧ prim s p [d] = some r ∧ Fin C ξ ω H1 s r Q := by
  obtain ⟨ξ, ω, ρ, s, er, sr, h⟩ := h
  simp only [evE, mapOut_one, bind_assoc] at h
  refine tD.go er sr h.bind fun d s1 ω1 H1 v e1 r1 er1 k1 rv => ?_
  simp only [Out.bind] at k1
  cases hp : prim s1 p [d] with
  | none => rw [hp] at k1; exact False.elim k1
  | some r =>
    rw [hp] at k1
    exact ⟨ξ, ω1, s1, d, r, r1, rv, hp, fun v ω' H' e r rv => k1 ω' H' e r v rv⟩
theorem args_ok {p : Pr} {es : List E} {Q : VK} (h : tD C W g (.pr p es) σ H Q) : tCB (rC C p) (tDs C W g es) σ H Q := by
  obtain ⟨ξ, ω, ρ, s, er, sr, h⟩ := h
  simp only [evE] at h
  refine tDs.mk er sr (h.bind.mono fun ds s1 ω1 H1 _ e1 r1 k1 vs rv => ?_)
  cases hp : prim s1 p ds with
  | none => rw [hp] at k1; exact False.elim k1
  | some r =>
    rw [hp] at k1
    exact ⟨ξ, ω1, s1, ds, r, r1, rv, hp, fun v ω' H' e r rv => k1 ω' H' e r v rv⟩
theorem argsL_ok {m : Bool} {p : Pl} {es : List E} {Q : VK} (h : tD C W g (.pl m p es) σ H Q) : tCB (rL C p) (tDs C W g es) σ H Q := by
  obtain ⟨ξ, ω, ρ, s, er, sr, h⟩ := h
  simp only [evE] at h
  refine tDs.mk er sr (h.bind.mono fun ds s1 ω1 H1 _ e1 r1 k1 vs rv => ?_)
  cases hp : primL s1 p ds with
  | none => rw [hp] at k1; exact False.elim k1
  | some r =>
    rw [hp] at k1
    exact ⟨ξ, ω1, s1, ds, r, r1, rv, hp, mkL_fin r1 k1⟩
theorem lmul_ok {m : Bool} {a b : E} {Q : VK} (h : tD C W g (.pl m .mul [a, b]) σ H Q) : tOp (rLmul C) (tD C W g a) (tD C W g b) σ H Q := by
  obtain ⟨ξ, ω, ρ, s, er, sr, h⟩ := h
  simp only [evE, mapOut_two, bind_assoc] at h
  refine tD.go er sr h.bind fun d s1 ω1 H1 v e1 r1 er1 k1 rv => ?_
  refine tD.go er1 r1 (PO.bind k1) fun d2 s2 ω2 H2 v2 e2 r2 er2 k2 rv2 => ?_
  simp only [Out.bind] at k2
  cases hp : primL s2 .mul [d, d2] with
  | none => rw [hp] at k2; exact False.elim k2
  | some r =>
    rw [hp] at k2
    exact ⟨ξ, ω2, s2, d, d2, r, r2, rv.ext r1 e2, rv2, hp, mkL_fin r2 k2⟩
theorem nilA_ok {Q : List V → Hp → Prop} (h : tDs C W g [] σ H Q) : tNil σ H Q := by
  obtain ⟨ξ, ω, ρ, s, er, sr, h⟩ := h
  simp only [evEs] at h
  exact h.here sr [] .nil
theorem consA_ok {a : E} {es : List E} {Q : List V → Hp → Prop} (h : tDs C W g (a :: es) σ H Q) : tCons (tD C W g a) (tDs C W g es) σ H Q := by
  obtain ⟨ξ, ω, ρ, s, er, sr, h⟩ := h
  simp only [evEs] at h
  refine tD.go er sr h.bind fun d s1 ω1 H1 v e1 r1 er1 k1 rv => ?_
  refine tDs.mk er1 r1 ((PO.bind k1).mono fun ds s2 ω2 H2 _ e2 r2 k2 vs rvs => ?_)
  exact k2.here r2 (v :: vs) (.cons (rv.ext r1 e2) rvs)
theorem tup_ok {es : List E} {Q : VK} (h : tD C W g (.tup es) σ H Q) (hz : es.length ≤ sizeLine) : tTup (tDs C W g es) σ H Q := by
  obtain ⟨ξ, ω, ρ, s, er, sr, h⟩ := h
  simp only [evE] at h
  have len : ∀ {es : List E} {s : Sto} {ds : List BS.D} {s1 : Sto}, evEs g es ρ s = .ok ds s1 → ds.length = es.length := by
    intro es
    induction es with
    | nil => intro s ds s1 e; simp only [evEs] at e; cases e; rfl
    | cons a es ih =>
      intro s ds s1 e
      simp only [evEs] at e
      cases ha : evE g a ρ s with
      | no => rw [ha] at e; cases e
      | ex => rw [ha] at e; cases e
      | ok d s2 =>
        simp only [ha, Out.bind] at e
        cases hb : evEs g es ρ s2 with
        | no => rw [hb] at e; cases e
        | ex => rw [hb] at e; cases e
        | ok ds' s3 => rw [hb] at e; cases e; simp [ih hb]
  refine tDs.mk er sr (h.bind.mono fun ds s1 ω1 H1 ho e1 r1 k1 vs rv => ⟨by rw [rv.length, len ho]; exact hz, fun p hp => ?_⟩)
  exact k1 _ _ (Ext.laid hp) (r1.laid hp) _ (new_tup r1 hp rv)
theorem lst_ok {m : Bool} {es : List E} {Q : VK} (h : tD C W g (.lst m es) σ H Q) (hz : es.length ≤ sizeLine) : tLst (tDs C W g es) σ H Q := by
  obtain ⟨ξ, ω, ρ, s, er, sr, h⟩ := h
  simp only [evE] at h
  have len : ∀ {es : List E} {s : Sto} {ds : List BS.D} {s1 : Sto}, evEs g es ρ s = .ok ds s1 → ds.length = es.length := by
    intro es
    induction es with
    | nil => intro s ds s1 e; simp only [evEs] at e; cases e; rfl
    | cons a es ih =>
      intro s ds s1 e
      simp only [evEs] at e
      cases ha : evE g a ρ s with
      | no => rw [ha] at e; cases e
      | ex => rw [ha] at e; cases e
      | ok d s2 =>
        simp only [ha, Out.bind] at e
        cases hb : evEs g es ρ s2 with
        | no => rw [hb] at e; cases e
        | ex => rw [hb] at e; cases e
        | ok ds' s3 => rw [hb] at e; cases e; simp [ih hb]
  refine tDs.mk er sr (h.bind.mono fun ds s1 ω1 H1 ho e1 r1 k1 vs rv => ⟨by rw [rv.length, len ho]; exact hz, fun p hp => mkL_fin r1 k1 p vs hp rv⟩)
end
end BS

/-! Core9: from the text to the small language: expressions -/
namespace BS
open PySem PySem.Spec PyProof.Rows L2

/-- what the text is read with -/
structure Gm where
  N : List Str
  sc : Scope
  blk : Option Scope
  fns : List (Str × FD)
  gls : List (Str × Lit)
  gts : List (Str × List Lit)
  bts : List Str
  self : Option Str
  muts : List (Nat × Nat)
def Gm.inB (Γ : Gm) (scope : Scope) : Gm := { Γ with sc := relS scope Γ.sc, blk := some scope }
def litV : Lit → V | .non => .non | .bl b => .bl b | .int i => .int i | .str x => .str x
def ixOf (x : Str) : List Str → Option Nat
  | [] => none
  | y :: ys => if y = x then some 0 else (ixOf x ys).map (· + 1)
theorem ixOf_ok {x : Str} : ∀ {N : List Str} {i : Nat}, ixOf x N = some i → N[i]? = some x
  | y :: ys, i, h => by
    unfold ixOf at h
    split at h
    · rename_i e; cases h; rw [e]; rfl
    · simp only [Option.map_eq_some_iff] at h
      obtain ⟨j, h1, rfl⟩ := h
      simpa using ixOf_ok h1
def odd (x : Str) : Bool := x == ("__debug__" : Str) || x == ("__classdict__" : Str) || x == ("__name__" : Str)
/-- a def's promise: what the evaluator says of it -/
def spD (C : RC) (m : Nat) (F : List D → Sto → Out D) : Sp := fun vs H Q E => vs.length = m ∧ ∃ ξ ω s ds, Reps C ξ ω H vs ds ∧ SRel C ξ ω H s ∧ PO C ξ ω H [] (fun c d _ H => E c d H) (F ds s) fun d _ ω' H' => ∀ v, Rep C ξ ω' H' v d → Q v H'
/-- the module's function x does what F says -/
def FnIs (C : RC) (X : Cx) (n : Nat) (x : Str) (F : List D → Sto → Out D) : Prop :=
  ∃ (f : Addr) (fd : FuncData) (ps : List Str), X.mg x = some (.ref f) ∧ PySem.W.keepIn X.K (.ref f) = true ∧ Binds X.K fd ps [] ∧ FnOk X.prog X.w X.K X.mg X.base (CX X.prog X.w) n f fd ps (spD C ps.length F) ∧ ∀ ds s, F ds s ≠ .no → ds.length = ps.length
structure XOk (C : RC) (X : Cx) (Γ : Gm) (W : WX) (n : Nat) (g : G) : Prop where
  N : X.N = Γ.N
  nd : Γ.N.Nodup
  sc : X.env.scope = Γ.sc
  fnB : ∀ x, X.fn x = (match Γ.blk with | none => true | some s => s.names.lookup x == some .cell)
  calm : X.calm = true
  hr : Room n X.A
  tk : Takes X W
  K : C.K = X.K
  mg : C.mg = X.mg
  fns : C.fns = Γ.fns
  call : ∀ x fd, (x, fd) ∈ Γ.fns → FnIs C X n x (g.call fd)
  self : ∀ x, Γ.self = some x → FnIs C X n x g.self
  bts : ∀ x, x ∈ Γ.bts → X.mg x = none
  gls : ∀ x l, (x, l) ∈ Γ.gls → ∃ u, X.mg x = some u ∧ RelV (litV l) u
  gts : ∀ x ls, (x, ls) ∈ Γ.gts → ∃ (a : Addr) (o : Obj) (its : Array Value) (k : Nat), X.mg x = some (.ref a) ∧ X.K.lookup a = some o ∧ o.cls = .type "tuple" ∧ o.data = .seq its k ∧ its.size ≤ sizeLine ∧ Vals (ls.map litV) its.toList
  pass : PassesOwn (model X.prog X.w) X.A X.env X.xe
section
variable {C : RC} {ξ ξ' : Addr → Prop} {ω ω' ω'' : List Addr} {H H' H'' : Hp} {s s' : Sto} {σ σ' : L2.St} {ρ ρ' : Env} {W : WX} {g : G} {X : Cx} {Γ : Gm} {n : Nat}
theorem XOk.inB (x : XOk C X Γ W n g) (s : Shared) (H : Hp) (scope : Scope) (Ca : Addr) (cl : List (Str × Addr)) (fp : List Addr) : XOk C (X.blk s H scope (compEnvC scope cl Ca X.env) fp) (Γ.inB scope) W0 n g where
  N := x.N
  nd := x.nd
  sc := by show relS scope X.env.scope = relS scope Γ.sc; rw [x.sc]
  fnB := fun y => rfl
  calm := x.calm
  hr := x.hr
  tk := fun _ _ q => by
    obtain ⟨_, _, _, _, _, _, _, _, _, _, _, _, _, _, _, _, z⟩ := q
    exact z.elim
  K := x.K
  mg := x.mg
  fns := x.fns
  call := x.call
  self := x.self
  bts := x.bts
  gls := x.gls
  gts := x.gts
  pass := PassesOwn.never
theorem XOk.hN (x : XOk C X Γ W n g) : X.N.Nodup := by rw [x.N]; exact x.nd
theorem lookup_mem {α : Type} {x : Str} {a : α} : ∀ {l : List (Str × α)}, l.lookup x = some a → (x, a) ∈ l := fun h => PySem.mem_of_lookup h
def cVar (Γ : Gm) (x : Str) : Option E := (ixOf x Γ.N).map .v
def cName (Γ : Gm) (x : Str) : Option E :=
  if odd x then none else
  match Γ.sc.names.lookup x with
  | some .local => cVar Γ x
  | some .cell => cVar Γ x
  | some .free => cVar Γ x
  | some .globalImplicit => match Γ.gls.lookup x with
    | some l => some (.lit l)
    | none => match Γ.gts.lookup x with
      | some ls => some (.gtup x ls)
      | none => none
  | _ => none
theorem odd_of {x : Str} (h : ¬ odd x = true) : (x == ("__debug__" : Str)) = false ∧ (x == ("__classdict__" : Str)) = false ∧ x ≠ "__name__" := by
  simp only [odd, Bool.or_eq_true, not_or, Bool.not_eq_true] at h
  exact ⟨h.1.1, h.1.2, by simpa using h.2⟩
theorem litV_rep (C : RC) (ξ : Addr → Prop) (ω : List Addr) (H : Hp) : ∀ l : Lit, Rep C ξ ω H (litV l) l.d
  | .non => .non
  | .bl b => .bl b
  | .int i => .int i
  | .str x => .str x
theorem litVs_rep : ∀ ls : List Lit, Reps C ξ ω H (ls.map litV) (ls.map Lit.d)
  | [] => .nil
  | l :: ls => .cons (litV_rep C ξ ω H l) (litVs_rep ls)
theorem name_PE {x : Str} {pos : Pos} {e : E} (o : XOk C X Γ W n g) (h : cName Γ x = some e) : PE X (.Name x pos) (tD C W g e) := by
  unfold cName at h
  split at h
  · cases h
  · rename_i ho
    obtain ⟨h1, h2, h3⟩ := odd_of ho
    have var : ∀ {k}, Γ.sc.names.lookup x = some k → (k = .local ∨ k = .cell ∨ k = .free) → cVar Γ x = some e → PE X (.Name x pos) (tD C W g e) := fun {k} hk hh hv => by
      simp only [cVar, Option.map_eq_some_iff] at hv
      obtain ⟨i, hi, rfl⟩ := hv
      have hi := ixOf_ok hi
      rw [← o.N] at hi
      refine mono_PE (pe_var hi ?_ h1 h2) fun σ H Q q => var_ok q
      show X.env.scope.names.lookup x = _ ∨ X.env.scope.names.lookup x = _ ∨ X.env.scope.names.lookup x = _
      rw [o.sc, hk]
      rcases hh with rfl | rfl | rfl
      · exact .inl rfl
      · exact .inr (.inl rfl)
      · exact .inr (.inr rfl)
    split at h
    · rename_i hk; exact var hk (.inl rfl) h
    · rename_i hk; exact var hk (.inr (.inl rfl)) h
    · rename_i hk; exact var hk (.inr (.inr rfl)) h
    · rename_i hk
      have hg : Gl X x := by show X.env.scope.names.lookup x = _; rw [o.sc]; exact hk
      split at h
      · rename_i l hl
        cases h
        obtain ⟨u, e1, e2⟩ := o.gls x l (lookup_mem hl)
        exact mono_PE (pe_glob hg e1 e2 h1) fun σ H Q q => lit_ok q _ fun C ξ ω H => litV_rep C ξ ω H l
      · split at h
        · rename_i ls hl
          cases h
          obtain ⟨a, ob, its, k, e1, e2, e3, e4, e5, e6⟩ := o.gts x ls (lookup_mem hl)
          refine mono_PE (pe_glob (v := .ref a) hg e1 rfl h1) fun σ H Q q => ?_
          obtain ⟨ξ, ω, ρ, s, er, sr, q⟩ := q
          simp only [evE] at q
          exact q.here sr _ (.tup (.inr ⟨ob, its, k, by rw [o.K]; exact e2, e3, e4, e5, e6⟩) (litVs_rep ls))
        · cases h
    · cases h
/-! shapes of the text -/
def isSt : Expr → Bool
  | .Starred .. => true
  | _ => false
def plainT : Expr → Bool
  | .UnaryOp .Not _ _ => false
  | .BoolOp .. => false
  | .IfExp .. => false
  | .Compare .. => false
  | _ => true
def notSet : Expr → Bool
  | .Set .. => false
  | _ => true
def notSl : Expr → Bool
  | .Slice .. => false
  | _ => true
theorem star_cons {e : Expr} {es : List Expr} {env : PySem.Env} (h : isSt e = false) : starEach (e :: es) env = (false, eval e env) :: starEach es env := by
  cases e <;> first | rfl | cases h
theorem star_any {pos : Pos} {env : PySem.Env} : ∀ {es : List Expr}, es.all (fun e => !isSt e) = true → (backTo pos (starEach es env)).any (·.1) = false
  | [], _ => rfl
  | e :: es, h => by
    simp only [List.all_cons, Bool.and_eq_true, Bool.not_eq_true'] at h
    rw [star_cons h.1]
    show (false || (backTo pos (starEach es env)).any (·.1)) = false
    rw [star_any h.2]
    rfl
theorem plainT_ok {e : Expr} {env : PySem.Env} (h : plainT e = true) : ∀ whole, isTrue e env whole = (do let v ← whole; standAt e.pos; holding [v] (truthy v)) := by
  cases e with
  | UnaryOp op a p => cases op <;> first | (intro whole; rfl) | cases h
  | _ => first | (intro whole; rfl) | cases h
theorem notSet_mark {op : CmpOp} {b : Expr} (h : notSet b = true) : behindInMarks op b = false := by
  cases b <;> first | rfl | cases h
theorem notSet_fold {e : Expr} {env : PySem.Env} (h : notSet e = true) : ∀ x, foldedSetIterable e env x = pure x := by
  cases e <;> first | (intro x; rfl) | cases h
theorem notSl_ix {b : Expr} (h : notSl b = true) : PlainIx b := by
  cases b <;> first | (intro o i; rfl) | cases h
/-- a test by its value -/
theorem PT_of {e : Expr} {e' : E} (o : XOk C X Γ W n g) (h : PE X e (tD C W g e')) (hp : plainT e = true) : PT X e (tT C W g e') := by
  refine mono_PT (pt_truth h (plainT_ok hp)) fun σ H Q q => ?_
  obtain ⟨ξ, ω, ρ, s, er, sr, q⟩ := q
  exact tD.go er sr q fun d s' ω' H' v e r er' k rv => let ⟨b, h1, h2⟩ := k; ⟨b, tru_of o.K r rv h1, h2⟩
/-- one reading for both -/
def Both (C : RC) (X : Cx) (W : WX) (g : G) (e : Expr) (e' : E) : Prop := PE X e (tD C W g e') ∧ PT X e (tT C W g e')
def RecOk (C : RC) (n : Nat) (g : G) (rec : Gm → Expr → Option E) : Prop := ∀ (X : Cx) (Γ : Gm) (W : WX) (e : Expr) (e' : E), XOk C X Γ W n g → rec Γ e = some e' → Both C X W g e e'
variable {rec : Gm → Expr → Option E}
/-! argument lists -/
def cEs (rec : Gm → Expr → Option E) (Γ : Gm) : List Expr → Option (List E)
  | [] => some []
  | e :: es => if isSt e then none else match rec Γ e, cEs rec Γ es with
    | some x, some xs => some (x :: xs)
    | _, _ => none
theorem cEs_ok (R : RecOk C n g rec) (o : XOk C X Γ W n g) : ∀ {es : List Expr} {es' : List E}, cEs rec Γ es = some es' → PA X es (tDs C W g es') ∧ es.all (fun e => !isSt e) = true ∧ es.length = es'.length
  | [], _, h => by cases h; exact ⟨mono_PA pa_nil fun σ H Q q => nilA_ok q, rfl, rfl⟩
  | e :: es, _, h => by
    simp only [cEs] at h
    split at h
    · cases h
    · rename_i hs
      split at h
      · rename_i x xs h1 h2
        cases h
        obtain ⟨p1, p2, p3⟩ := cEs_ok R o h2
        have hs' : isSt e = false := by simpa using hs
        exact ⟨mono_PA (pa_cons (R X Γ W e x o h1).1 p1 (star_cons hs')) fun σ H Q q => consA_ok q, by simp only [List.all_cons, hs', p2]; rfl, by simp [p3]⟩
      · cases h
/-! operators -/
def binPr : Operator → Option Pr
  | .Add => some .add
  | .Sub => some .sub
  | .Mult => some .mul
  | .FloorDiv => some .fdiv
  | .Mod => some .mod
  | .Pow => some .pow
  | _ => none
theorem binPr_ok {op : Operator} {p : Pr} (hK : C.K = X.K) (h : binPr op = some p) : OpR X (binaryOp op) (rP C p) := by
  cases op <;> first | (cases h; done) | cases h
  · exact v_add hK
  · exact v_sub
  · exact v_mul hK
  · exact v_mod
  · exact v_pow
  · exact v_fdiv
def cmpPr : CmpOp → Option Pr
  | .Eq => some .eq
  | .NotEq => some .ne
  | .Lt => some .lt
  | .LtE => some .le
  | .Gt => some .gt
  | .GtE => some .ge
  | .In => some .isin
  | .NotIn => some .notin
  | _ => none
theorem cmpPr_ok {op : CmpOp} {p : Pr} (o : XOk C X Γ W n g) (h : cmpPr op = some p) : OpR X (compareOp op) (rP C p) := by
  have hu := o.hr.un
  cases op <;> first | (cases h; done) | cases h
  · exact v_eq o.K (by omega)
  · exact v_ne o.K (by omega)
  · exact v_lt o.K (by omega)
  · exact v_le
  · exact v_gt
  · exact v_ge
  · exact v_in o.K (by omega)
  · exact v_notin o.K (by omega)
def boolPr : Pr → Bool
  | .eq | .ne | .lt | .le | .gt | .ge | .isin | .notin | .isN | .notN | .isB | .notB => true
  | _ => false
theorem cmpPr_bool {op : CmpOp} {p : Pr} (h : cmpPr op = some p) : boolPr p = true := by
  cases op <;> first | (cases h; done) | (cases h; rfl)
theorem isBl_map {α : Type} {o : Option α} {f : α → Bool} {r : D} (h : (o.map fun a => D.bl (f a)) = some r) : ∃ b, r = .bl b := by
  cases o with
  | none => cases h
  | some a => cases h; exact ⟨_, rfl⟩
theorem cmpI_bl {f : Int → Int → Bool} {x y r : D} (h : cmpI f x y = some r) : ∃ b, r = .bl b := by
  unfold cmpI at h
  split at h
  · cases h; exact ⟨_, rfl⟩
  · cases h
theorem ltD_bl {x y r : D} (h : ltD x y = some r) : ∃ b, r = .bl b := by
  unfold ltD at h
  split at h
  · cases h; exact ⟨_, rfl⟩
  · split at h
    · cases h; exact ⟨_, rfl⟩
    · cases h
  · cases h
theorem boolPr_ok {p : Pr} {ds : List D} {r : D} (hp : boolPr p = true) (h : prim s p ds = some r) : ∃ b, r = .bl b := by
  cases p <;> first | (cases hp; done) | skip
  all_goals
    match ds with
    | [] => simp [prim] at h
    | [x] => first | (simp [prim] at h; done) | (simp only [prim, Option.some.injEq] at h; subst h; exact ⟨_, rfl⟩)
    | [x, y] => first
      | (simp only [prim] at h; exact cmpI_bl h)
      | (simp only [prim] at h; exact ltD_bl h)
      | (simp only [prim] at h; exact isBl_map (f := id) h)
      | (simp only [prim] at h; exact isBl_map (f := not) h)
      | (cases x <;> cases y <;> first | (simp [prim] at h; done) | (cases h; exact ⟨_, rfl⟩))
      | (simp [prim] at h; done)
    | _ :: _ :: _ :: _ => simp [prim] at h
/-- a test whose value is a bool -/
theorem tT_test {p : Pr} {es : List E} {te : TE} {Q : Bool → Hp → Prop} (hp : boolPr p = true) (hm : ∀ σ H Q, tD C W g (.pr p es) σ H Q → te σ H Q) (h : tT C W g (.pr p es) σ H Q) : tTest te σ H Q := by
  obtain ⟨ξ, ω, ρ, s, er, sr, h⟩ := h
  refine hm _ _ _ ⟨ξ, ω, ρ, s, er, sr, h.mono fun d s' ω' H' ho e r k v rv => ?_⟩
  obtain ⟨b, h1, h2⟩ := k
  have hb : ∃ b, d = .bl b := by
    simp only [evE] at ho
    cases he : evEs g es ρ s with
    | no => rw [he] at ho; cases ho
    | ex => rw [he] at ho; cases ho
    | ok ds s1 =>
      simp only [he, Out.bind] at ho
      cases hq : prim s1 p ds with
      | none => rw [hq] at ho; cases ho
      | some r => rw [hq] at ho; cases ho; exact boolPr_ok hp hq
  obtain ⟨c, rfl⟩ := hb
  cases h1
  cases rv
  exact ⟨_, rfl, h2⟩
end
end BS

/-! Core10: calls, targets, walks, comprehensions -/
namespace BS
open PySem PySem.Spec PyProof.Rows L2

section
variable {C : RC} {ξ ξ' : Addr → Prop} {ω ω' ω'' : List Addr} {H H' H'' : Hp} {s s' : Sto} {σ σ' : L2.St} {ρ ρ' : Env} {W : WX} {g : G} {X : Cx} {Γ : Gm} {n : Nat} {rec : Gm → Expr → Option E}
theorem gl_of (o : XOk C X Γ W n g) {x : Str} (h : Γ.sc.names.lookup x = some .globalImplicit) : Gl X x := by
  show X.env.scope.names.lookup x = _
  rw [o.sc]
  exact h
/-! built-ins by their names -/
inductive BK | blt (id : String) | ty (T : String)
def bltOf (x : Str) (n : Nat) : Option (BK × Pr) :=
  if x = "len" ∧ n = 1 then some (.blt "len", .len)
  else if x = "abs" ∧ n = 1 then some (.blt "abs", .abs)
  else if x = "min" ∧ n = 2 then some (.blt "min", .min2)
  else if x = "max" ∧ n = 2 then some (.blt "max", .max2)
  else if x = "sum" ∧ n = 1 then some (.blt "sum", .sum)
  else if x = "any" ∧ n = 1 then some (.blt "any", .any)
  else if x = "all" ∧ n = 1 then some (.blt "all", .all)
  else if x = "tuple" ∧ n = 1 then some (.ty "tuple", .toTup)
  else if x = "int" ∧ n = 1 then some (.ty "int", .toInt)
  else none
def BK.v : BK → Value
  | .blt id => .builtin id
  | .ty T => .type T
theorem bltOf_ok (o : XOk C X Γ W n g) {x : Str} {k : Nat} {b : BK} {p : Pr} (h : bltOf x k = some (b, p)) : bootBuiltins x = some b.v ∧ CallR X b.v (rC C p) := by
  unfold bltOf at h
  split at h
  · rename_i e; cases h; rw [e.1]; exact ⟨PySem.boot_len, c_len o.K⟩
  split at h
  · rename_i e; cases h; rw [e.1]; exact ⟨PyProof.Rows.boot_abs, c_abs⟩
  split at h
  · rename_i e; cases h; rw [e.1]; exact ⟨PyProof.Rows.boot_min, c_min2 o.calm⟩
  split at h
  · rename_i e; cases h; rw [e.1]; exact ⟨PyProof.Rows.boot_max, c_max2 o.calm⟩
  split at h
  · rename_i e; cases h; rw [e.1]; exact ⟨PyProof.Rows.boot_sum, c_sum o.calm o.K⟩
  split at h
  · rename_i e; cases h; rw [e.1]; exact ⟨PyProof.Rows.boot_any, c_any o.calm⟩
  split at h
  · rename_i e; cases h; rw [e.1]; exact ⟨PyProof.Rows.boot_all, c_all o.calm⟩
  split at h
  · rename_i e; cases h; rw [e.1]; exact ⟨by decide +kernel, c_toTup o.K⟩
  split at h
  · rename_i e; cases h; rw [e.1]; exact ⟨by decide +kernel, c_toInt⟩
  · cases h
/-- f(e, ..), f a built-in, by its values -/
theorem blt_call {x : Str} {p pos : Pos} {e : Expr} {es : List Expr} {t : TA} {b : BK} {r : List V → Hp → VK → Prop} (o : XOk C X Γ W n g) (hx : ¬ odd x = true) (hg : Gl X x) (hm : X.mg x = none) (hv : bootBuiltins x = some b.v) (hc : CallR X b.v r) (ha : PA X (e :: es) t)
    (hs : (e :: es).all (fun e => !isSt e) = true) : PE X (.Call (.Name x p) (e :: es) [] pos) (tCB r t) := by
  obtain ⟨h1, h2, h3⟩ := odd_of hx
  simp only [List.all_cons, Bool.and_eq_true, Bool.not_eq_true'] at hs
  cases b with
  | blt id => exact pe_callB hc hg hm hv ha h3 h1 (star_cons hs.1) (star_any hs.2)
  | ty T => exact pe_callTy hc hg hm hv ha h3 h1 (star_cons hs.1) (star_any hs.2)
/-! calls of the module's functions -/
theorem fn_call {F : List D → Sto → Out D} {x : Str} {p pos : Pos} {es : List Expr} {es' : List E} {e' : E} (o : XOk C X Γ W n g) (hx : ¬ odd x = true) (hg : Gl X x) (hF : FnIs C X n x F) (ha : PA X es (tDs C W g es')) (hs : es.all (fun e => !isSt e) = true) (hl0 : es.length = es'.length)
    (he : ∀ ρ s, evE g e' ρ s = (evEs g es' ρ s).bind fun ds s1 => F ds s1) : PE X (.Call (.Name x p) es [] pos) (tD C W g e') := by
  obtain ⟨f, fd, ps, hm, hk, hb, hf, hl⟩ := hF
  obtain ⟨h1, h2, h3⟩ := odd_of hx
  have key : ∀ σ H Q, tD C W g e' σ H Q → tCallSD (spD C ps.length F) [] (WE W) (tDs C W g es') σ H Q := by
    intro σ H Q h
    obtain ⟨ξ, ω, ρ, s, er, sr, h⟩ := h
    rw [he] at h
    refine tDs.mk er sr (h.bind.mono fun ds s1 ω1 H1 _ e1 r1 k1 vs rv => ?_)
    have hne : F ds s1 ≠ .no := fun z => by rw [z] at k1; exact k1
    rw [List.append_nil]
    exact ⟨by rw [rv.length]; exact hl ds s1 hne, ξ, ω1, s1, ds, rv, r1, k1⟩
  cases es with
  | cons e es =>
    simp only [List.all_cons, Bool.and_eq_true, Bool.not_eq_true'] at hs
    exact mono_PE (pe_callSD hf o.hr hg hm hk hb .nil (fun σ => passAt o.tk σ) ha h1 (star_cons hs.1) (star_any hs.2)) key
  | nil =>
    refine mono_PE (t := tCallSD (spD C ps.length F) [] (WE W) (tDs C W g es')) ⟨fun pins s σ H Q I h => ?_⟩ key
    refine wpAny_Call_Name_kw (ld_glob I hg hm ?_ h1)
    refine PySem.W.callWith_K0 I.kIn hk ?_
    have e0 : es' = [] := List.eq_nil_of_length_eq_zero hl0.symm
    subst e0
    exact run_fnSD (us := []) hf o.hr hb .nil (passAt o.tk σ) I .nil (nilA_ok h)
/-! targets -/
def cTg (Γ : Gm) : Nat → Expr → Option Tg
  | 0, _ => none
  | k + 1, .Name x _ => match Γ.sc.names.lookup x with
    | some .local => (ixOf x Γ.N).map .v
    | some .cell => match Γ.blk with
      | none => (ixOf x Γ.N).map .v
      | some s => if s.names.lookup x == some .cell then (ixOf x Γ.N).map .v else none
    | _ => none
  | k + 1, .Tuple es _ _ => (cTgs Γ k es).map .tup
  | _ + 1, _ => none
where cTgs (Γ : Gm) (k : Nat) : List Expr → Option (List Tg)
  | [] => some []
  | e :: es => if isSt e then none else match cTg Γ k e, cTgs Γ k es with
    | some t, some ts => some (t :: ts)
    | _, _ => none
theorem asg_star {e : Expr} {es : List Expr} {env : PySem.Env} (h : isSt e = false) : assignEach (e :: es) env = (false, assign e env) :: assignEach es env := by
  cases e <;> first | rfl | cases h
theorem cTg_ok (o : XOk C X Γ W n g) : ∀ (k : Nat) (e : Expr) (t : Tg), cTg Γ k e = some t → PG X e (tTg C t) := by
  intro k
  induction k with
  | zero => intro e t h; simp [cTg] at h
  | succ k ih =>
    have many : ∀ (es : List Expr) (ts : List Tg), cTg.cTgs Γ k es = some ts → PGs X es (tTgs C ts) ∧ (assignEach es X.env).length = ts.length ∧ (assignEach es X.env).findIdx? (·.1) = none := by
      intro es
      induction es with
      | nil => intro ts h; simp only [cTg.cTgs, Option.some.injEq] at h; subst h; exact ⟨tgs_nil, rfl, rfl⟩
      | cons e es ihs =>
        intro ts h
        simp only [cTg.cTgs] at h
        split at h
        · cases h
        · rename_i hs
          split at h
          · rename_i t ts' h1 h2
            cases h
            obtain ⟨p1, p2, p3⟩ := ihs ts' h2
            have hs' : isSt e = false := by simpa using hs
            refine ⟨tgs_cons (ih e t h1) p1 (by rw [asg_star hs']; rfl), by rw [asg_star hs']; simp [p2], ?_⟩
            rw [asg_star hs', List.findIdx?_cons]
            simp [p3]
          · cases h
    intro e t h
    cases e with
    | Name x pos =>
      simp only [cTg] at h
      have fin : ∀ {k}, Γ.sc.names.lookup x = some k → (k = .local ∨ (k = .cell ∧ X.fn x = true)) → (ixOf x Γ.N).map Tg.v = some t → PG X (.Name x pos) (tTg C t) := fun {k} hk hh hv => by
        simp only [Option.map_eq_some_iff] at hv
        obtain ⟨i, hi, rfl⟩ := hv
        have hi := ixOf_ok hi
        rw [← o.N] at hi
        rw [← o.sc] at hk
        rcases hh with rfl | ⟨rfl, hf⟩
        · exact tg_name o.hN hi (.inl hk) (.inr hk)
        · exact tg_name o.hN hi (.inr hk) (.inl hf)
      split at h
      · rename_i hk; exact fin hk (.inl rfl) h
      · rename_i hk
        split at h
        · rename_i hb; exact fin hk (.inr ⟨rfl, by rw [o.fnB, hb]⟩) h
        · rename_i sc hb
          split at h
          · rename_i hc; exact fin hk (.inr ⟨rfl, by rw [o.fnB, hb]; exact hc⟩) h
          · cases h
      · cases h
    | Tuple es kk pos =>
      simp only [cTg, Option.map_eq_some_iff] at h
      obtain ⟨ts, h1, rfl⟩ := h
      obtain ⟨p1, p2, p3⟩ := many es ts h1
      exact tg_tup o.K o.calm p1 p2 p3
    | _ => simp [cTg] at h
/-! what is walked -/
def isTup : Expr → Bool
  | .Tuple .. => true
  | _ => false
def cI (rec : Gm → Expr → Option E) (Γ : Gm) (tg : Expr) (e : Expr) : Option I :=
  match e with
  | .Call (.Name x _) args [] _ =>
    if odd x || args.any isSt || !(Γ.bts.contains x) || Γ.sc.names.lookup x != some .globalImplicit then (rec Γ e).map .e
    else match args with
      | [a] => if x = "range" then (rec Γ a).map .r1 else if x = "enumerate" ∧ isTup tg = true then (rec Γ a).map .enum else (rec Γ e).map .e
      | [a, b] => if x = "range" then match rec Γ a, rec Γ b with
          | some a', some b' => some (.r2 a' b')
          | _, _ => none
        else if x = "zip" ∧ isTup tg = true then match rec Γ a, rec Γ b with
          | some a', some b' => some (.zip a' b')
          | _, _ => none
        else (rec Γ e).map .e
      | _ => (rec Γ e).map .e
  | e => (rec Γ e).map .e
theorem PI_e {tg e : Expr} {e' : E} (o : XOk C X Γ W n g) (h : PE X e (tD C W g e')) : PI X tg e (tI C W g (.e e')) := by
  refine ⟨fun pins sh σ H R I q => ?_⟩
  obtain ⟨ξ, ω, ρ, s, er, sr, q⟩ := q
  simp only [evI] at q
  cases he : evE g e' ρ s with
  | no => rw [he] at q; exact False.elim q
  | ex x s1 => exact (pi_list (tg := tg) h).run pins sh σ H R I ⟨ξ, ω, ρ, s, er, sr, by rw [he] at q ⊢; exact q⟩
  | ok d s1 =>
    rw [he] at q
    cases hv : vS s1 d with
    | none => simp only [Out.bind, hv] at q; exact False.elim q
    | some ds =>
      simp only [Out.bind, hv] at q
      by_cases ht : ∃ ds, d = .tup ds
      · obtain ⟨es, rfl⟩ := ht
        refine (pi_tup (tg := tg) h).run pins sh σ H R I ⟨ξ, ω, ρ, s, er, sr, ?_⟩
        rw [he]
        intro ω' H' e1 r1 v rv
        cases rv with
        | @tup a vs _ h1 h2 => exact ⟨a, rfl, ⟨vs, by rw [← o.K]; exact h1⟩, by rw [← o.K]; exact q ω' H' e1 r1 _ [.ref a] (.cons (.tup h1 h2) .nil) jok_tup⟩
      · refine (pi_list (tg := tg) h).run pins sh σ H R I ⟨ξ, ω, ρ, s, er, sr, ?_⟩
        rw [he]
        intro ω' H' e1 r1 v rv
        have hl : (∃ ds, d = .lst ds) ∨ ∃ n, d = .obj n := by
          cases d with
          | lst ds => exact .inl ⟨ds, rfl⟩
          | obj k => exact .inr ⟨k, rfl⟩
          | tup ds => exact absurd ⟨ds, rfl⟩ ht
          | _ => cases hv
        have e2 : vL s1 d = some ds := by rcases hl with ⟨es, rfl⟩ | ⟨k, rfl⟩ <;> exact hv
        obtain ⟨a, vs, rfl, h1, h2⟩ := vL_ok r1 rv e2
        exact ⟨a, rfl, ⟨vs, SqL.of h1⟩, by rw [← o.K]; exact q ω' H' e1 r1 _ [.ref a] (.cons rv .nil) (jok_list hl)⟩
theorem PI_r1 {tg a : Expr} {a' : E} {p pos : Pos} (o : XOk C X Γ W n g) (hg : Gl X "range") (hm : X.mg "range" = none) (hs : isSt a = false) (h : PE X a (tD C W g a')) : PI X tg (.Call (.Name "range" p) [a] [] pos) (tI C W g (.r1 a')) := by
  have hA : PA X [a] (tCons (tD C W g a') tNil) := pa_cons h pa_nil (star_cons hs)
  refine mono_PI (pi_range1 hg hm hA (star_cons hs)) fun σ H R q => ?_
  obtain ⟨ξ, ω, ρ, s, er, sr, q⟩ := q
  simp only [evI] at q
  refine tD.go er sr q.bind fun d s1 ω' H' v e1 r1 er1 k rv => ?_
  cases rv with
  | int j =>
    simp only at k
    split at k
    · rename_i hb
      exact ⟨j, rfl, (abs62 hb).1, (abs62 hb).2, k.here r1 _ [] .nil jok_rng⟩
    · exact False.elim k
  | _ => exact False.elim k
theorem PI_r2 {tg a b : Expr} {a' b' : E} {p pos : Pos} (o : XOk C X Γ W n g) (hg : Gl X "range") (hm : X.mg "range" = none) (hs : isSt a = false) (hs2 : isSt b = false) (h : PE X a (tD C W g a')) (h2 : PE X b (tD C W g b')) : PI X tg (.Call (.Name "range" p) [a, b] [] pos) (tI C W g (.r2 a' b')) := by
  have hA : PA X [a, b] (tCons (tD C W g a') (tCons (tD C W g b') tNil)) := pa_cons h (pa_cons h2 pa_nil (star_cons hs2)) (star_cons hs)
  refine mono_PI (pi_range2 hg hm hA (by rw [star_cons hs, star_cons hs2]; rfl) (by rw [star_cons hs2]; rfl)) fun σ H R q => ?_
  obtain ⟨ξ, ω, ρ, s, er, sr, q⟩ := q
  simp only [evI] at q
  refine tD.go er sr q.bind fun d s1 ω1 H1 v e1 r1 er1 k1 rv => ?_
  refine tD.go er1 r1 (PO.bind k1) fun d2 s2 ω2 H2 v2 e2 r2 er2 k2 rv2 => ?_
  cases rv <;> cases rv2 <;> try exact False.elim k2
  rename_i i j
  simp only at k2
  split at k2
  · rename_i hb
    simp only [Bool.and_eq_true] at hb
    exact ⟨i, j, rfl, ⟨(abs62 hb.1).1, (abs62 hb.1).2, (abs62 hb.2).1, (abs62 hb.2).2⟩, k2.here r2 _ [] .nil jok_rng⟩
  · exact False.elim k2
theorem listKind {d : D} {ds : List D} (h : vL s d = some ds) : (∃ ds, d = .lst ds) ∨ ∃ n, d = .obj n := by
  cases d with
  | lst ds => exact .inl ⟨ds, rfl⟩
  | obj k => exact .inr ⟨k, rfl⟩
  | _ => cases h
theorem PI_enum {a : Expr} {elts : List Expr} {kk : Nat} {tpos : Pos} {a' : E} {p pos : Pos} (o : XOk C X Γ W n g) (hg : Gl X "enumerate") (hm : X.mg "enumerate" = none) (hs : isSt a = false) (h : PE X a (tD C W g a')) :
    PI X (.Tuple elts kk tpos) (.Call (.Name "enumerate" p) [a] [] pos) (tI C W g (.enum a')) := by
  have hA : PA X [a] (tCons (tD C W g a') tNil) := pa_cons h pa_nil (star_cons hs)
  refine mono_PI (pi_enumG hg hm hA (star_cons hs)) fun σ H R q => ?_
  obtain ⟨ξ, ω, ρ, s, er, sr, q⟩ := q
  simp only [evI] at q
  refine tD.go er sr q.bind fun d s1 ω' H' v e1 r1 er1 k rv => ?_
  cases hv : vS s1 d with
  | none => simp only [hv] at k; exact False.elim k
  | some ds =>
    simp only [hv] at k
    obtain ⟨b, vs, rfl, h1, h2⟩ := vS_G r1 rv hv
    exact ⟨kindD d, b, vs, rfl, by rw [← o.K]; exact h1, by rw [← o.K]; exact k.here r1 _ [.ref b] (.cons rv .nil) jok_enumG⟩
theorem PI_zip {a b : Expr} {elts : List Expr} {kk : Nat} {tpos : Pos} {a' b' : E} {p pos : Pos} (o : XOk C X Γ W n g) (hg : Gl X "zip") (hm : X.mg "zip" = none) (hs : isSt a = false) (hs2 : isSt b = false) (h : PE X a (tD C W g a')) (h2 : PE X b (tD C W g b')) :
    PI X (.Tuple elts kk tpos) (.Call (.Name "zip" p) [a, b] [] pos) (tI C W g (.zip a' b')) := by
  have hA : PA X [a, b] (tCons (tD C W g a') (tCons (tD C W g b') tNil)) := pa_cons h (pa_cons h2 pa_nil (star_cons hs2)) (star_cons hs)
  refine mono_PI (pi_zipG hg hm hA (star_cons hs) (star_any (by simp [hs2]))) fun σ H R q => ?_
  obtain ⟨ξ, ω, ρ, s, er, sr, q⟩ := q
  simp only [evI] at q
  refine tD.go er sr q.bind fun d s1 ω1 H1 v e1 r1 er1 k1 rv => ?_
  refine tD.go er1 r1 (PO.bind k1) fun d2 s2 ω2 H2 v2 e2 r2 er2 k2 rv2 => ?_
  have rv1 := rv.ext r1 e2
  cases hv : vS s2 d with
  | none => simp only [hv] at k2; exact False.elim k2
  | some ds =>
    cases hw : vS s2 d2 with
    | none => simp only [hv, hw] at k2; exact False.elim k2
    | some es =>
      simp only [hv, hw] at k2
      obtain ⟨c, vs, rfl, h1, h2⟩ := vS_G r2 rv1 hv
      obtain ⟨c2, ws, rfl, h3, h4⟩ := vS_G r2 rv2 hw
      exact ⟨kindD d, kindD d2, c, c2, vs, ws, rfl, by rw [← o.K]; exact h1, by rw [← o.K]; exact h3, by rw [← o.K]; exact k2.here r2 _ [.ref c, .ref c2] (.cons rv1 (.cons rv2 .nil)) jok_zipG⟩
theorem cI_ok {tg e : Expr} {it : I} (R : RecOk C n g rec) (o : XOk C X Γ W n g) (h : cI rec Γ tg e = some it) : PI X tg e (tI C W g it) := by
  have dflt : ∀ e : Expr, (rec Γ e).map I.e = some it → PI X tg e (tI C W g it) := fun e h => by
    simp only [Option.map_eq_some_iff] at h
    obtain ⟨e', h1, rfl⟩ := h
    exact PI_e o (R X Γ W e e' o h1).1
  unfold cI at h
  split at h
  · rename_i x p args pos
    split at h
    · exact dflt _ h
    · rename_i hc
      simp only [Bool.or_eq_true, not_or, Bool.not_eq_true, Bool.not_eq_eq_eq_not, Bool.not_false, bne_iff_ne, ne_eq, Decidable.not_not, bne_eq_false_iff_eq] at hc
      obtain ⟨⟨⟨h1, h2⟩, h3⟩, h4⟩ := hc
      have hg : Gl X x := gl_of o h4
      have hm : X.mg x = none := o.bts x (by simpa using h3)
      split at h
      · rename_i a
        have hs : isSt a = false := by simpa using h2
        split at h
        · rename_i hx
          subst hx
          simp only [Option.map_eq_some_iff] at h
          obtain ⟨a', e1, rfl⟩ := h
          exact PI_r1 o hg hm hs (R X Γ W a a' o e1).1
        · split at h
          · rename_i hx
            obtain ⟨hx, ht⟩ := hx
            subst hx
            simp only [Option.map_eq_some_iff] at h
            obtain ⟨a', e1, rfl⟩ := h
            cases tg with
            | Tuple es k tp => exact PI_enum o hg hm hs (R X Γ W a a' o e1).1
            | _ => cases ht
          · exact dflt _ h
      · rename_i a b
        have hs : isSt a = false ∧ isSt b = false := by simpa using h2
        split at h
        · rename_i hx
          subst hx
          split at h
          · rename_i a' b' e1 e2
            cases h
            exact PI_r2 o hg hm hs.1 hs.2 (R X Γ W a a' o e1).1 (R X Γ W b b' o e2).1
          · cases h
        · split at h
          · rename_i hx
            obtain ⟨hx, ht⟩ := hx
            subst hx
            split at h
            · rename_i a' b' e1 e2
              cases h
              cases tg with
              | Tuple es k tp => exact PI_zip o hg hm hs.1 hs.2 (R X Γ W a a' o e1).1 (R X Γ W b b' o e2).1
              | _ => cases ht
            · cases h
          · exact dflt _ h
      · exact dflt _ h
  · exact dflt _ h
/-! comprehensions -/
def tgNames : Nat → Expr → Option (List Str)
  | 0, _ => none
  | _ + 1, .Name x _ => some [x]
  | k + 1, .Tuple es _ _ => many k es
  | _ + 1, _ => none
where many (k : Nat) : List Expr → Option (List Str)
  | [] => some []
  | e :: es => match tgNames k e, many k es with
    | some xs, some ys => some (xs ++ ys)
    | _, _ => none
def ownOf (N : List Str) : List Str → Option (List (Str × Nat))
  | [] => some []
  | x :: xs => match ixOf x N, ownOf N xs with
    | some i, some r => some ((x, i) :: r)
    | _, _ => none
theorem ownOf_ok {N : List Str} : ∀ {xs : List Str} {own : List (Str × Nat)}, ownOf N xs = some own → ∀ p ∈ own, N[p.2]? = some p.1
  | [], own, h, p, hp => by cases h; cases hp
  | x :: xs, own, h, p, hp => by
    simp only [ownOf] at h
    split at h
    · rename_i i r h1 h2
      cases h
      rcases List.mem_cons.mp hp with rfl | hp
      · exact ixOf_ok h1
      · exact ownOf_ok h2 p hp
    · cases h
def blkB (N : List Str) (sc scope : Scope) (own : List (Str × Nat)) : Bool :=
  decide (scope.kind = .function) && scope.names.all (fun y => decide (scope.names.lookup y.1 = some y.2)) &&
  scope.names.all (fun y => !decide (y.2 = .free) || decide (sc.names.lookup y.1 = some .cell) || decide (sc.names.lookup y.1 = some .free)) &&
  scope.names.all (fun y => !(decide (y.2 = .local) || decide (y.2 = .cell)) || (own.map (·.1)).contains y.1 || !(N.contains y.1))
theorem blkB_ok {N : List Str} {sc scope : Scope} {own : List (Str × Nat)} (ho : ∀ p ∈ own, N[p.2]? = some p.1) (h : blkB N sc scope own = true) : BlkOk N sc scope own := by
  unfold blkB at h
  simp only [Bool.and_eq_true, decide_eq_true_eq, List.all_eq_true, Bool.or_eq_true, Bool.not_eq_true', decide_eq_false_iff_not] at h
  obtain ⟨⟨⟨h1, h2⟩, h3⟩, h4⟩ := h
  refine ⟨h1, h2, ho, fun y hy e => ?_, fun y hy e => ?_⟩
  · rcases h3 y hy with (z | z) | z
    · exact absurd e z
    · exact .inl z
    · exact .inr z
  · rcases h4 y hy with (z | z) | z
    · simp only [Bool.or_eq_false_iff, decide_eq_false_iff_not] at z
      rcases e with e | e
      · exact absurd e z.1
      · exact absurd e z.2
    · exact .inl (by simpa using z)
    · exact .inr (by simpa using z)
def atMut (Γ : Gm) (p : Pos) : Bool := Γ.muts.contains (p.line, p.col)
def cComp (rec : Gm → Expr → Option E) (Γ : Gm) (elt : Expr) (gs : List Comprehension) (scope : Scope) (pos : Pos) : Option E :=
  match gs with
  | [⟨tg, iter, ifs, a⟩] =>
    if a ≠ 0 ∨ notSet iter = false then none else
    match (tgNames 9 tg).bind (ownOf Γ.N), cTg (Γ.inB scope) 9 tg, cI rec Γ tg iter, rec (Γ.inB scope) elt with
    | some own, some t, some it, some e' =>
      if blkB Γ.N Γ.sc scope own && tgIn (own.map (·.2)) t then
        match ifs with
        | [] => some (.comp (atMut Γ pos) (own.map (·.2)) t it (.lit (.bl true)) e')
        | [c] => (rec (Γ.inB scope) c).map fun c' => .comp (atMut Γ pos) (own.map (·.2)) t it c' e'
        | _ => none
      else none
    | _, _, _, _ => none
  | _ => none
/-- what the rules of comprehensions want -/
structure LcOk (C : RC) (X : Cx) (W : WX) (g : G) (elt tg iter : Expr) (ifs : List Expr) (scope : Scope) (own : List (Str × Nat)) (t : Tg) (it : I) (c e : E) : Prop where
  hi : PI X tg iter (tI C W g it)
  ok : BlkOk X.N X.env.scope scope own
  hg : ∀ (s : Shared) (H : Hp) (Ca : Addr) (cl : List (Str × Addr)) (fp : List Addr), PG (X.blk s H scope (compEnvC scope cl Ca X.env) fp) tg (tTg C t)
  ht : ∀ (s : Shared) (H : Hp) (Ca : Addr) (cl : List (Str × Addr)) (fp : List Addr), PTs (X.blk s H scope (compEnvC scope cl Ca X.env) fp) ifs (tT C W0 g c)
  he : ∀ (s : Shared) (H : Hp) (Ca : Addr) (cl : List (Str × Addr)) (fp : List Addr), PE (X.blk s H scope (compEnvC scope cl Ca X.env) fp) elt (tD C W0 g e)
  hs : ∀ x, foldedSetIterable iter X.env x = pure x
  hown : tgIn (own.map (·.2)) t = true
theorem tYes_ok {Q : Bool → Hp → Prop} (h : tT C W g (.lit (.bl true)) σ H Q) : tYes σ H Q := by
  obtain ⟨ξ, ω, ρ, s, er, sr, h⟩ := h
  simp only [evE] at h
  obtain ⟨b, h1, h2⟩ := h.here sr
  cases h1
  exact h2
theorem mono_PTs {X : Cx} {es : List Expr} {t t' : TT} (h : PTs X es t) (m : ∀ σ H Q, t' σ H Q → t σ H Q) : PTs X es t' := ⟨fun pins s σ H Q I q => h.run pins s σ H Q I (m σ H Q q)⟩
theorem cComp_ok {elt : Expr} {gs : List Comprehension} {scope : Scope} {pos : Pos} {e' : E} (R : RecOk C n g rec) (o : XOk C X Γ W n g) (h : cComp rec Γ elt gs scope pos = some e') :
    ∃ tg iter ifs own t it c e m, gs = [⟨tg, iter, ifs, 0⟩] ∧ LcOk C X W g elt tg iter ifs scope own t it c e ∧ e' = .comp m (own.map (·.2)) t it c e := by
  unfold cComp at h
  split at h
  · rename_i tg iter ifs a
    split at h
    · cases h
    · rename_i ha
      have ha0 : a = 0 := Classical.byContradiction fun z => ha (.inl z)
      have hns : notSet iter = true := by
        cases hq : notSet iter with
        | true => rfl
        | false => exact absurd (.inr hq) ha
      subst ha0
      split at h
      · rename_i own t it el h1 h2 h3 h4
        split at h
        · rename_i hb
          simp only [Bool.and_eq_true] at hb
          obtain ⟨xs, _, ho⟩ := Option.bind_eq_some_iff.mp h1
          have base : ∀ c, (∀ (s : Shared) (H : Hp) (Ca : Addr) (cl : List (Str × Addr)) (fp : List Addr), PTs (X.blk s H scope (compEnvC scope cl Ca X.env) fp) ifs (tT C W0 g c)) → LcOk C X W g elt tg iter ifs scope own t it c el := fun c hc =>
            ⟨cI_ok R o h3, by rw [o.N, o.sc]; exact blkB_ok (ownOf_ok ho) hb.1, fun s H Ca cl fp => cTg_ok (o.inB s H scope Ca cl fp) 9 tg t h2, hc, fun s H Ca cl fp => (R _ _ _ elt el (o.inB s H scope Ca cl fp) h4).1, notSet_fold hns, hb.2⟩
          split at h
          · cases h
            exact ⟨tg, iter, [], own, t, it, _, el, _, rfl, base _ fun s H Ca cl fp => mono_PTs pts_nil fun σ H Q q => tYes_ok q, rfl⟩
          · rename_i c
            simp only [Option.map_eq_some_iff] at h
            obtain ⟨c', hc, rfl⟩ := h
            exact ⟨tg, iter, [c], own, t, it, c', el, _, rfl, base _ fun s H Ca cl fp => pts_one (R _ _ _ c c' (o.inB s H scope Ca cl fp) hc).2, rfl⟩
          · cases h
        · cases h
      · cases h
  · cases h
theorem lc_PE {elt tg iter : Expr} {ifs : List Expr} {scope : Scope} {own : List (Str × Nat)} {t : Tg} {it : I} {c e : E} {m : Bool} {pos : Pos} (o : XOk C X Γ W n g) (L : LcOk C X W g elt tg iter ifs scope own t it c e) :
    PE X (.ListComp elt [⟨tg, iter, ifs, 0⟩] scope pos) (tD C W g (.comp m (own.map (·.2)) t it c e)) :=
  mono_PE (pe_lc o.calm o.hN L.hi L.ok L.hg L.ht L.he L.hs) fun σ H Q q => comp_ok L.hown q
end
end BS

/-! Core11: expressions of the text, whole -/
namespace BS
open PySem PySem.Spec PyProof.Rows L2

section
variable {C : RC} {ξ ξ' : Addr → Prop} {ω ω' ω'' : List Addr} {H H' H'' : Hp} {s s' : Sto} {σ σ' : L2.St} {ρ ρ' : Env} {W : WX} {g : G} {X : Cx} {Γ : Gm} {n : Nat} {rec : Gm → Expr → Option E}
theorem PO.ext {α : Type} {o : Out α} {k : α → Sto → List Addr → Hp → Prop} (e : Ext ω H ω' H') (h : PO C ξ ω H σ W o k) : PO C ξ ω' H' σ W o k := by
  cases o with
  | no => exact h
  | ex x s => exact fun cls dx ω'' H'' e' => h cls dx ω'' H'' (e.trans e')
  | ok a s => exact fun ω'' H'' e' => h ω'' H'' (e.trans e')
/-! and, or -/
def cBool (rec : Gm → Expr → Option E) (Γ : Gm) (op : BoolOp) : List Expr → Option E
  | [] => none
  | [a] => rec Γ a
  | a :: b :: r => match rec Γ a, cBool rec Γ op (b :: r) with
    | some x, some y => some (match op with | .And => .and_ x y | .Or => .or_ x y)
    | _, _ => none
theorem and_PE {a b : E} {Q : VK} (hK : C.K = X.K) (h : tD C W g (.and_ a b) σ H Q) : tAndT X.K (tD C W g a) (tD C W g b) σ H Q := by
  obtain ⟨ξ, ω, ρ, s, er, sr, h⟩ := h
  simp only [evE] at h
  refine tD.go er sr h.bind fun d s1 ω1 H1 v e1 r1 er1 k1 rv => ?_
  cases ht : truD s1 d with
  | none => simp only [ht] at k1; exact False.elim k1
  | some q =>
    refine ⟨q, tru_of hK r1 rv ht, ?_⟩
    cases q with
    | true => simp only [ht] at k1; rw [if_pos rfl]; exact tD.mk er1 r1 k1
    | false => simp only [ht] at k1; rw [if_neg Bool.false_ne_true]; exact k1.here r1 v rv
theorem or_PE {a b : E} {Q : VK} (hK : C.K = X.K) (h : tD C W g (.or_ a b) σ H Q) : tOrT X.K (tD C W g a) (tD C W g b) σ H Q := by
  obtain ⟨ξ, ω, ρ, s, er, sr, h⟩ := h
  simp only [evE] at h
  refine tD.go er sr h.bind fun d s1 ω1 H1 v e1 r1 er1 k1 rv => ?_
  cases ht : truD s1 d with
  | none => simp only [ht] at k1; exact False.elim k1
  | some q =>
    refine ⟨q, tru_of hK r1 rv ht, ?_⟩
    cases q with
    | true => simp only [ht] at k1; rw [if_pos rfl]; exact k1.here r1 v rv
    | false => simp only [ht] at k1; rw [if_neg Bool.false_ne_true]; exact tD.mk er1 r1 k1
theorem and_PT {a b : E} {Q : Bool → Hp → Prop} (h : tT C W g (.and_ a b) σ H Q) : tAnd (tT C W g a) (tT C W g b) σ H Q := by
  obtain ⟨ξ, ω, ρ, s, er, sr, h⟩ := h
  simp only [evE] at h
  refine ⟨ξ, ω, ρ, s, er, sr, h.bind.mono fun d s1 ω1 H1 _ e1 r1 k1 => ?_⟩
  cases ht : truD s1 d with
  | none => simp only [ht] at k1; exact False.elim k1
  | some q =>
    refine ⟨q, rfl, ?_⟩
    cases q with
    | true => simp only [ht] at k1; rw [if_pos rfl]; exact ⟨ξ, ω1, ρ, s1, er.ext sr e1, r1, k1⟩
    | false =>
      simp only [ht] at k1; rw [if_neg Bool.false_ne_true]
      obtain ⟨b, h1, h2⟩ := k1.here r1
      rw [ht] at h1; cases h1; exact h2
theorem or_PT {a b : E} {Q : Bool → Hp → Prop} (h : tT C W g (.or_ a b) σ H Q) : tOr (tT C W g a) (tT C W g b) σ H Q := by
  obtain ⟨ξ, ω, ρ, s, er, sr, h⟩ := h
  simp only [evE] at h
  refine ⟨ξ, ω, ρ, s, er, sr, h.bind.mono fun d s1 ω1 H1 _ e1 r1 k1 => ?_⟩
  cases ht : truD s1 d with
  | none => simp only [ht] at k1; exact False.elim k1
  | some q =>
    refine ⟨q, rfl, ?_⟩
    cases q with
    | true =>
      simp only [ht] at k1; rw [if_pos rfl]
      obtain ⟨b, h1, h2⟩ := k1.here r1
      rw [ht] at h1; cases h1; exact h2
    | false => simp only [ht] at k1; rw [if_neg Bool.false_ne_true]; exact ⟨ξ, ω1, ρ, s1, er.ext sr e1, r1, k1⟩
theorem cBool_ok (R : RecOk C n g rec) (o : XOk C X Γ W n g) {op : BoolOp} {pos : Pos} : ∀ {es : List Expr} {e' : E}, cBool rec Γ op es = some e' → PE X (.BoolOp op es pos) (tD C W g e') ∧ PW X (.BoolOp op es pos) (tT C W g e')
  | [], _, h => by cases h
  | [a], e', h => by
    obtain ⟨p1, p2⟩ := R X Γ W a e' o h
    cases op with
    | And => exact ⟨pe_one p1, pw_and1 p2⟩
    | Or => exact ⟨pe_one p1, pw_or1 p2⟩
  | a :: b :: r, e', h => by
    simp only [cBool] at h
    split at h
    · rename_i x y h1 h2
      obtain ⟨p1, p2⟩ := R X Γ W a x o h1
      obtain ⟨q1, q2⟩ := cBool_ok R o h2
      cases op with
      | And => cases h; exact ⟨mono_PE (pe_andT p1 q1) fun σ H Q q => and_PE o.K q, mono_PW (pw_and p2 q2) fun σ H Q q => and_PT q⟩
      | Or => cases h; exact ⟨mono_PE (pe_orT p1 q1) fun σ H Q q => or_PE o.K q, mono_PW (pw_or p2 q2) fun σ H Q q => or_PT q⟩
    · cases h
/-! not, if-else -/
theorem not_PE {a : E} {Q : VK} (hK : C.K = X.K) (h : tD C W g (.not_ a) σ H Q) : tNotT X.K (tD C W g a) σ H Q := by
  obtain ⟨ξ, ω, ρ, s, er, sr, h⟩ := h
  simp only [evE] at h
  refine tD.go er sr h.bind fun d s1 ω1 H1 v e1 r1 er1 k1 rv => ?_
  cases ht : truD s1 d with
  | none => simp only [ht] at k1; exact False.elim k1
  | some q => simp only [ht] at k1; exact ⟨q, tru_of hK r1 rv ht, k1.here r1 _ (.bl _)⟩
theorem not_PT {a : E} {Q : Bool → Hp → Prop} (h : tT C W g (.not_ a) σ H Q) : tNot (tT C W g a) σ H Q := by
  obtain ⟨ξ, ω, ρ, s, er, sr, h⟩ := h
  simp only [evE] at h
  refine ⟨ξ, ω, ρ, s, er, sr, h.bind.mono fun d s1 ω1 H1 _ e1 r1 k1 => ?_⟩
  cases ht : truD s1 d with
  | none => simp only [ht] at k1; exact False.elim k1
  | some q =>
    simp only [ht] at k1
    obtain ⟨b, h1, h2⟩ := k1.here r1
    cases h1
    exact ⟨q, rfl, h2⟩
theorem iteE_PE {c a b : E} {Q : VK} (h : tD C W g (.ite c a b) σ H Q) : tIf (tT C W g c) (tD C W g a) (tD C W g b) σ H Q := by
  obtain ⟨ξ, ω, ρ, s, er, sr, h⟩ := h
  simp only [evE] at h
  refine ⟨ξ, ω, ρ, s, er, sr, h.bind.mono fun d s1 ω1 H1 _ e1 r1 k1 => ?_⟩
  cases ht : truD s1 d with
  | none => simp only [ht] at k1; exact False.elim k1
  | some q =>
    refine ⟨q, rfl, ?_⟩
    cases q with
    | true => simp only [ht] at k1; rw [if_pos rfl]; exact tD.mk (er.ext sr e1) r1 k1
    | false => simp only [ht] at k1; rw [if_neg Bool.false_ne_true]; exact tD.mk (er.ext sr e1) r1 k1
def tIfT (t ta tb : TT) : TT := fun σ H Q => t σ H fun c H1 => if c = true then ta σ H1 Q else tb σ H1 Q
theorem pt_ifExp {c a b : Expr} {pos : Pos} {tc ta tb : TT} (hc : PT X c tc) (ha : PT X a ta) (hb : PT X b tb) : PT X (.IfExp c a b pos) (tIfT tc ta tb) := by
  refine ⟨fun pins s σ H Q I h => ?_⟩
  show wpAny _ _ (PySem.isTrue (.IfExp c a b pos) X.env _) _ _ _
  simp only [PySem.isTrue]
  refine wpAny_bind (thn (hc.run pins s σ H _ I h) fun d s1 ⟨H1, I1, q1⟩ => ?_)
  cases d with
  | true => exact ha.run pins s1 σ H1 Q I1 q1
  | false => exact hb.run pins s1 σ H1 Q I1 q1
theorem iteE_PT {c a b : E} {Q : Bool → Hp → Prop} (h : tT C W g (.ite c a b) σ H Q) : tIfT (tT C W g c) (tT C W g a) (tT C W g b) σ H Q := by
  obtain ⟨ξ, ω, ρ, s, er, sr, h⟩ := h
  simp only [evE] at h
  refine ⟨ξ, ω, ρ, s, er, sr, h.bind.mono fun d s1 ω1 H1 _ e1 r1 k1 => ?_⟩
  cases ht : truD s1 d with
  | none => simp only [ht] at k1; exact False.elim k1
  | some q =>
    refine ⟨q, rfl, ?_⟩
    cases q with
    | true => simp only [ht] at k1; rw [if_pos rfl]; exact ⟨ξ, ω1, ρ, s1, er.ext sr e1, r1, k1⟩
    | false => simp only [ht] at k1; rw [if_neg Bool.false_ne_true]; exact ⟨ξ, ω1, ρ, s1, er.ext sr e1, r1, k1⟩
/-! chains, minus, None -/
theorem chain_PE {p q : Pr} {a b c : E} {Q : VK} (h : tD C W g (.chain p q a b c) σ H Q) : tChain (rP C p) (rP C q) (tD C W g a) (tD C W g b) (tD C W g c) σ H Q := by
  obtain ⟨ξ, ω, ρ, s, er, sr, h⟩ := h
  simp only [evE] at h
  refine tD.go er sr h.bind fun x s1 ω1 H1 v e1 r1 er1 k1 rv => ?_
  refine tD.go er1 r1 (PO.bind k1) fun y s2 ω2 H2 v2 e2 r2 er2 k2 rv2 => ?_
  cases hp : prim s2 p [x, y] with
  | none => simp only [hp] at k2; exact False.elim k2
  | some d =>
    refine ⟨ξ, ω2, s2, x, y, d, r2, rv.ext r1 e2, rv2, hp, fun w ω3 H3 e3 r3 rw' => ?_⟩
    cases rw' with
    | bl t =>
      refine ⟨t, rfl, ?_⟩
      cases t with
      | true =>
        simp only [hp] at k2
        rw [if_pos rfl]
        refine tD.go (er2.ext r2 e3) r3 (PO.ext e3 (PO.bind k2)) fun z s4 ω4 H4 v4 e4 r4 er4 k4 rv4 => ?_
        cases hq : prim s4 q [y, z] with
        | none => rw [hq] at k4; exact False.elim k4
        | some r =>
          rw [hq] at k4
          exact ⟨ξ, ω4, s4, y, z, r, r4, (rv2.ext r2 e3).ext r3 e4, rv4, hq, fun v ω' H' e r rv => k4 ω' H' e r v rv⟩
      | false =>
        simp only [hp] at k2
        rw [if_neg Bool.false_ne_true]
        exact k2 ω3 H3 e3 r3 _ (.bl _)
    | _ => simp only [hp] at k2; exact False.elim k2
theorem chain_bl {p q : Pr} {a b c : E} {d : D} (hq : boolPr q = true) (h : evE g (.chain p q a b c) ρ s = .ok d s') : ∃ t, d = .bl t := by
  simp only [evE] at h
  cases ha : evE g a ρ s with
  | no => rw [ha] at h; cases h
  | ex => rw [ha] at h; cases h
  | ok x s1 =>
    simp only [ha, Out.bind] at h
    cases hb : evE g b ρ s1 with
    | no => rw [hb] at h; cases h
    | ex => rw [hb] at h; cases h
    | ok y s2 =>
      simp only [hb] at h
      split at h
      · cases hc : evE g c ρ s2 with
        | no => rw [hc] at h; cases h
        | ex => rw [hc] at h; cases h
        | ok z s3 =>
          simp only [hc] at h
          cases hr : prim s3 q [y, z] with
          | none => rw [hr] at h; cases h
          | some r => rw [hr] at h; cases h; exact boolPr_ok hq hr
      · cases h; exact ⟨_, rfl⟩
      · cases h
theorem tT_bl {e : E} {te : TE} {Q : Bool → Hp → Prop} (hb : ∀ ρ s d s', evE g e ρ s = .ok d s' → ∃ t, d = .bl t) (hm : ∀ σ H Q, tD C W g e σ H Q → te σ H Q) (h : tT C W g e σ H Q) : tTest te σ H Q := by
  obtain ⟨ξ, ω, ρ, s, er, sr, h⟩ := h
  refine hm _ _ _ ⟨ξ, ω, ρ, s, er, sr, h.mono fun d s' ω' H' ho e r k v rv => ?_⟩
  obtain ⟨b, h1, h2⟩ := k
  obtain ⟨t, rfl⟩ := hb ρ s d s' ho
  cases h1
  cases rv
  exact ⟨_, rfl, h2⟩
theorem neg_PE {a : E} {Q : VK} (h : tD C W g (.pr .neg [a]) σ H Q) : tUn (rU fun i => .int (-i)) (tD C W g a) σ H Q := by
  obtain ⟨ξ, ω, ρ, s, er, sr, h⟩ := op1_ok h
  refine ⟨ξ, ω, ρ, s, er, sr, h.mono fun d s' ω' H' _ e r k v rv => ?_⟩
  obtain ⟨ξ2, ω2, s2, d2, r2, sr2, hr, hp, fin⟩ := k v rv
  cases hr with
  | int i => cases hp; exact ⟨i, rfl, fin.int sr2⟩
  | _ => cases hp
theorem isN_PE {a : E} {Q : VK} {b : Bool} (h : tD C W g (.pr (if b then .isN else .notN) [a]) σ H Q) : tOp (fun x y H Q => y = .non ∧ Q (.bl (if b then decide (x = .non) else !decide (x = .non))) H) (tD C W g a) (tC .non) σ H Q := by
  obtain ⟨ξ, ω, ρ, s, er, sr, h⟩ := op1_ok h
  refine ⟨ξ, ω, ρ, s, er, sr, h.mono fun d s' ω' H' _ e r k v rv => ?_⟩
  obtain ⟨ξ2, ω2, s2, d2, r2, sr2, hr, hp, fin⟩ := k v rv
  refine ⟨rfl, ?_⟩
  have key : ∀ t : Bool, (t = decide (v = .non)) → r2 = .bl (if b then t else !t) → Q (.bl (if b then decide (v = .non) else !decide (v = .non))) H' := fun t e1 e2 => by
    subst e1 e2
    exact fin.bl sr2
  cases b <;> cases hr <;> first
    | (cases hp; exact key true (by simp) rfl)
    | (cases hp; exact key false (by simp) rfl)
end
end BS

/-! Core12: one step of the reading of expressions -/
namespace BS
open PySem PySem.Spec PyProof.Rows L2

section
variable {C : RC} {ξ ξ' : Addr → Prop} {ω ω' ω'' : List Addr} {H H' H'' : Hp} {s s' : Sto} {σ σ' : L2.St} {ρ ρ' : Env} {W : WX} {g : G} {X : Cx} {Γ : Gm} {n : Nat} {rec : Gm → Expr → Option E}
def cConst : Const → Option Lit
  | .none => some .non
  | .bool b => some (.bl b)
  | .int i => some (.int i)
  | .str x => some (.str x)
  | _ => none
theorem const_PE {c : Const} {k : Nat} {pos : Pos} {l : Lit} (h : cConst c = some l) : PE X (.Constant c k pos) (tD C W g (.lit l)) := by
  cases c <;> first | (cases h; done) | cases h
  · exact mono_PE pe_non fun σ H Q q => lit_ok q _ fun _ _ _ _ => .non
  · exact mono_PE pe_bl fun σ H Q q => lit_ok q _ fun _ _ _ _ => .bl _
  · exact mono_PE pe_int fun σ H Q q => lit_ok q _ fun _ _ _ _ => .int _
  · exact mono_PE pe_str fun σ H Q q => lit_ok q _ fun _ _ _ _ => .str _
/-! slices -/
def cPart (rec : Gm → Expr → Option E) (Γ : Gm) : Option Expr → Option (Bool × E)
  | none => some (false, .lit .non)
  | some e => (rec Γ e).map fun x => (true, x)
def tPartB (C : RC) (W : WX) (g : G) : Bool → E → TO
  | false, _ => tNoPart
  | true, e => tPart (tD C W g e)
theorem cPart_ok (R : RecOk C n g rec) (o : XOk C X Γ W n g) {e : Option Expr} {b : Bool} {x : E} (h : cPart rec Γ e = some (b, x)) : L2.PO X e (tPartB C W g b x) ∧ (b = false → x = .lit .non) := by
  cases e with
  | none => cases h; exact ⟨po_none, fun _ => rfl⟩
  | some e =>
    simp only [cPart, Option.map_eq_some_iff] at h
    obtain ⟨a, h1, h2⟩ := h
    cases h2
    exact ⟨po_some (R X Γ W e x o h1).1, fun z => nomatch z⟩
/-- one bound -/
theorem part_go {b : Bool} {e : E} {Q : Option Int → Hp → Prop} {K : D → Sto → List Addr → Hp → Prop} (hb : b = false → e = .lit .non) (er : ERel C ξ ω H σ ρ) (sr : SRel C ξ ω H s)
    (h : PO C ξ ω H σ W ((evE g e ρ s)) K) (need : ∀ d s' ω' H', K d s' ω' H' → ∃ l, bnd b d = some l)
    (m : ∀ d s' ω' H' l, Ext ω H ω' H' → SRel C ξ ω' H' s' → ERel C ξ ω' H' σ ρ → K d s' ω' H' → bnd b d = some l → Q l H') : tPartB C W g b e σ H Q := by
  cases b with
  | false =>
    obtain rfl := hb rfl
    simp only [evE] at h
    have k := h.here sr
    exact m _ _ _ _ none Ext.refl sr er k rfl
  | true =>
    refine tD.go er sr h fun d s1 ω1 H1 v e1 r1 er1 k1 rv => ?_
    obtain ⟨l, hl⟩ := need _ _ _ _ k1
    cases rv with
    | int i => exact ⟨i, rfl, m _ _ _ _ (some i) e1 r1 er1 k1 rfl⟩
    | _ => cases hl
theorem slc_PE {hl hh m : Bool} {a lo hi : E} {Q : VK} (hlo : hl = false → lo = .lit .non) (hhi : hh = false → hi = .lit .non) (h : tD C W g (.slc m hl hh a lo hi) σ H Q) :
    tSl (fun x l u H Q => if m then rSlcL C x l u H Q else rSlcP C x l u H Q) (tD C W g a) (tPartB C W g hl lo) (tPartB C W g hh hi) σ H Q := by
  obtain ⟨ξ, ω, ρ, s, er, sr, h⟩ := h
  simp only [evE] at h
  refine tD.go er sr h.bind fun d s1 ω1 H1 v e1 r1 er1 k1 rv => ?_
  refine part_go hlo er1 r1 (PO.bind k1) (fun d s' ω' H' k => ?_) fun x s2 ω2 H2 l e2 r2 er2 k2 hx => ?_
  · cases hb : bnd hl d with
    | none => simp only [hb] at k; exact False.elim k
    | some l => exact ⟨l, rfl⟩
  simp only [hx] at k2
  refine part_go hhi er2 r2 (PO.bind k2) (fun d s' ω' H' k => ?_) fun y s3 ω3 H3 u e3 r3 er3 k3 hy => ?_
  · cases hb : bnd hh d with
    | none => simp only [hb] at k; exact False.elim k
    | some l => exact ⟨l, rfl⟩
  simp only [hy] at k3
  have rv3 := (rv.ext r1 e2).ext r2 e3
  cases m with
  | true =>
    simp only [if_true] at k3 ⊢
    cases hv : vL s3 d with
    | none => simp only [hv] at k3; exact False.elim k3
    | some ds => simp only [hv] at k3; exact ⟨ξ, ω3, s3, d, ds, r3, rv3, hv, mkL_fin r3 k3⟩
  | false =>
    simp only [Bool.false_eq_true, if_false] at k3 ⊢
    cases hv : slcD s3 l u d with
    | none => rw [hv] at k3; exact False.elim k3
    | some r => rw [hv] at k3; exact ⟨ξ, ω3, s3, d, r, r3, rv3, hv, fun v ω' H' e r rv => k3 ω' H' e r v rv⟩
/-! methods that change a list -/
def notCall0 : Expr → Bool
  | .Call (.Name _ _) [] [] _ => false
  | _ => true
theorem base_of {e : Expr} {f : Str} {env : PySem.Env} (h : notCall0 e = true) : attributeBase e f env (eval e env) = eval e env := by
  unfold notCall0 at h
  split at h
  · cases h
  · rename_i hn
    unfold attributeBase
    split
    · rename_i x p q
      exact absurd rfl (hn x p q)
    · rfl
def rM (C : RC) (W : WX) (σ : L2.St) (p : Pm) : V → List V → Hp → VK → Prop := fun x vs H Q => ∃ ξ ω s d e, SRel C ξ ω H s ∧ Rep C ξ ω H x d ∧ Reps C ξ ω H vs e ∧ PO C ξ ω H σ W (primM s p (d :: e)) fun r _ ω' H' => ∀ v, Rep C ξ ω' H' v r → Q v H'
theorem pm_PE {p : Pm} {a : E} {es : List E} {Q : VK} (h : tD C W g (.pm p a es) σ H Q) : tBM X.K "list" (rM C W σ p) (tD C W g a) (tDs C W g es) σ H Q := by
  obtain ⟨ξ, ω, ρ, s, er, sr, h⟩ := h
  simp only [evE] at h
  refine tD.go er sr h.bind fun d s1 ω1 H1 v e1 r1 er1 k1 rv => ?_
  cases hb : isObjL s1 d with
  | false => simp only [hb] at k1; exact False.elim k1
  | true =>
    simp only [hb] at k1
    have hd : ∃ k ds, d = .obj k ∧ vL s1 (.obj k) = some ds := by
      cases d with
      | obj k => exact ⟨k, _, rfl, (Option.isSome_iff_exists.mp hb).choose_spec⟩
      | _ => cases hb
    obtain ⟨k, ds, rfl, hv⟩ := hd
    obtain ⟨b, vs, rfl, h1, h2⟩ := vL_ok r1 rv hv
    refine ⟨.inl ⟨rfl, vs, SqL.of h1⟩, tDs.mk er1 r1 ((PO.bind k1).mono fun es' s2 ω2 H2 _ e2 r2 k2 ws rw' => ?_)⟩
    exact ⟨ξ, ω2, s2, _, es', r2, rv.ext r1 e2, rw', k2⟩
/-! one step -/
def cCall (rec : Gm → Expr → Option E) (Γ : Gm) (f : Expr) (args : List Expr) (pos : Pos) : Option E :=
  match f with
  | .Name x _ =>
    if odd x then none else
    if Γ.sc.names.lookup x = some .globalImplicit then
      match cEs rec Γ args with
      | none => match args with
        | [a, .Name T _] => if x = "isinstance" ∧ Γ.bts.contains x = true ∧ Γ.bts.contains T = true ∧ Γ.sc.names.lookup T = some .globalImplicit ∧ odd T = false ∧ isSt a = false then
            match tyOf T with
            | some T' => (rec Γ a).map fun a' => .pr (.ist T') [a']
            | none => none
          else none
        | _ => none
      | some es =>
        if Γ.self = some x then some (.self es)
        else match Γ.fns.lookup x with
          | some fd => some (.call fd es)
          | none =>
            if Γ.bts.contains x = true then
              if x = "list" ∧ args.length = 1 then some (.pl (atMut Γ pos) .toL es)
              else if args.isEmpty then none
              else match bltOf x args.length with
                | some (_, p) => some (.pr p es)
                | none => none
            else none
    else none
  | .Attribute o m apos =>
    if notCall0 o && (apos.endLine == pos.line) then
      match rec Γ o, cEs rec Γ args with
      | some o', some es => if m = "append" ∧ args.length = 1 then some (.pm .append o' es) else if m = "pop" ∧ args.length = 0 then some (.pm .pop o' es) else none
      | _, _ => none
    else none
  | _ => none
where tyOf (T : Str) : Option String :=
  if T = "int" then some "int" else if T = "bool" then some "bool" else if T = "tuple" then some "tuple" else if T = "str" then some "str" else if T = "list" then some "list" else none
theorem tyOf_ok {T : Str} {T' : String} (h : cCall.tyOf T = some T') : bootBuiltins T = some (.type T') := by
  unfold cCall.tyOf at h
  split at h
  · rename_i e; cases h; rw [e]; decide +kernel
  split at h
  · rename_i e; cases h; rw [e]; decide +kernel
  split at h
  · rename_i e; cases h; rw [e]; decide +kernel
  split at h
  · rename_i e; cases h; rw [e]; decide +kernel
  split at h
  · rename_i e; cases h; rw [e]; decide +kernel
  · cases h
theorem ist_PE {a : E} {T : String} {Q : VK} (h : tD C W g (.pr (.ist T) [a]) σ H Q) : tCB (rIst C T) (tCons (tD C W g a) (tCons (tC (.ty T)) tNil)) σ H Q := by
  obtain ⟨ξ, ω, ρ, s, er, sr, h⟩ := op1_ok h
  refine ⟨ξ, ω, ρ, s, er, sr, h.mono fun d s' ω' H' _ e r k v rv => ?_⟩
  obtain ⟨ξ2, ω2, s2, d2, r2, sr2, hr, hp, fin⟩ := k v rv
  exact ⟨ξ2, ω2, s2, v, d2, r2, rfl, sr2, hr, hp, fin⟩
theorem cCall_ok {f : Expr} {args : List Expr} {pos : Pos} {e' : E} (R : RecOk C n g rec) (o : XOk C X Γ W n g) (h : cCall rec Γ f args pos = some e') : PE X (.Call f args [] pos) (tD C W g e') := by
  unfold cCall at h
  split at h
  · rename_i x p
    split at h
    · cases h
    rename_i hx
    split at h
    · rename_i hk
      have hg : Gl X x := gl_of o hk
      split at h
      · split at h
        · rename_i a T q hq
          split at h
          · rename_i hc
            obtain ⟨c1, c2, c3, c4, c5, c6⟩ := hc
            subst c1
            split at h
            · rename_i T' hT
              simp only [Option.map_eq_some_iff] at h
              obtain ⟨a', h1, rfl⟩ := h
              have hx5 : ¬ odd T = true := by rw [c5]; exact Bool.false_ne_true
              obtain ⟨d1, d2, d3⟩ := odd_of hx5
              have pT : PE X (.Name T q) (tC (.ty T')) := pe_bltn (v := .ty T') (gl_of o c4) (o.bts T (by simpa using c3)) (tyOf_ok hT) rfl d3 d1
              have pA : PA X [a, .Name T q] (tCons (tD C W g a') (tCons (tC (.ty T')) tNil)) := pa_cons (R X Γ W a a' o h1).1 (pa_cons pT pa_nil (star_cons rfl)) (star_cons c6)
              exact mono_PE (blt_call (b := .blt "isinstance") o hx hg (o.bts _ (by simpa using c2)) PyProof.Rows.boot_isinstance (c_ist o.K) pA (by simp only [List.all_cons, c6]; rfl)) fun σ H Q q => ist_PE q
            · cases h
          · cases h
        · cases h
      · rename_i es hes
        obtain ⟨pA, st, hl⟩ := cEs_ok R o hes
        split at h
        · rename_i hs
          cases h
          exact fn_call o hx hg (o.self x hs) pA st hl fun ρ s => rfl
        · split at h
          · rename_i fd hf
            cases h
            exact fn_call o hx hg (o.call x fd (lookup_mem hf)) pA st hl fun ρ s => rfl
          · split at h
            · rename_i hb
              have hm : X.mg x = none := o.bts x (by simpa using hb)
              split at h
              · rename_i hc
                obtain ⟨c1, c2⟩ := hc
                cases h
                cases args with
                | nil => cases c2
                | cons a as => exact mono_PE (blt_call (b := .ty "list") o hx hg hm (by rw [c1]; decide +kernel) (c_toL o.K) pA st) fun σ H Q q => argsL_ok q
              · split at h
                · cases h
                · rename_i hne
                  split at h
                  · rename_i b pr hbl
                    cases h
                    obtain ⟨b1, b2⟩ := bltOf_ok o hbl
                    cases args with
                    | nil => exact absurd rfl hne
                    | cons a as => exact mono_PE (blt_call o hx hg hm b1 b2 pA st) fun σ H Q q => args_ok q
                  · cases h
            · cases h
    · cases h
  · rename_i ob m apos
    split at h
    · rename_i hc
      simp only [Bool.and_eq_true] at hc
      split at h
      · rename_i o' es h1 h2
        obtain ⟨pA, st, hl⟩ := cEs_ok R o h2
        have pO := (R X Γ W ob o' o h1).1
        split at h
        · rename_i hm
          obtain ⟨m1, m2⟩ := hm
          subst m1
          cases h
          match args, m2 with
          | [a], _ =>
            have hsa : isSt a = false := by simpa using st
            refine ⟨fun pins sh σ H Q I q => (pe_bm PySem.F.plainAttrs_list PySem.F.slot_list_append PySem.F.type_list_append (r := rM C W σ .append) m_append pO pA (base_of hc.1) ?_ hc.2 (star_cons hsa) rfl).run pins sh σ H Q I (pm_PE q)⟩
            rw [star_cons hsa]
            rfl
        · split at h
          · rename_i hm
            obtain ⟨m1, m2⟩ := hm
            subst m1
            cases h
            match args, m2 with
            | [], _ =>
              have e0 : es = [] := List.eq_nil_of_length_eq_zero hl.symm
              subst e0
              refine ⟨fun pins sh σ H Q I q => (pe_bm0 PySem.F.plainAttrs_list PySem.F.slot_list_pop PySem.F.type_list_pop (r := rM C W σ .pop) m_pop pO (base_of hc.1) hc.2).run pins sh σ H Q I ?_⟩
              obtain ⟨ξ, ω, ρ, s, er, sr, q⟩ := pm_PE (X := X) q
              exact ⟨ξ, ω, ρ, s, er, sr, q.mono fun d s' ω' H' _ e r k v rv => ⟨(k v rv).1, nilA_ok (k v rv).2⟩⟩
          · cases h
      · cases h
    · cases h
  · cases h
def cStep (rec : Gm → Expr → Option E) (Γ : Gm) : Expr → Option E
  | .Constant c _ _ => (cConst c).map .lit
  | .Name x _ => cName Γ x
  | .BinOp a op b pos =>
    if atMut Γ pos then match op, rec Γ a, rec Γ b with
      | .Mult, some a', some b' => some (.pl true .mul [a', b'])
      | _, _, _ => none
    else match binPr op, rec Γ a, rec Γ b with
      | some p, some a', some b' => some (.pr p [a', b'])
      | _, _, _ => none
  | .UnaryOp .USub a _ => (rec Γ a).map fun a' => .pr .neg [a']
  | .UnaryOp .Not a _ => (rec Γ a).map .not_
  | .BoolOp op es _ => cBool rec Γ op es
  | .IfExp c a b _ => match rec Γ c, rec Γ a, rec Γ b with
    | some c', some a', some b' => some (.ite c' a' b')
    | _, _, _ => none
  | .Compare a [op] [b] _ => match op, b with
    | .Is, .Constant .none _ _ => (rec Γ a).map fun a' => .pr .isN [a']
    | .IsNot, .Constant .none _ _ => (rec Γ a).map fun a' => .pr .notN [a']
    | op, b => if notSet b then match isPr op, rec Γ a, rec Γ b with
        | some p, some a', some b' => some (.pr p [a', b'])
        | _, _, _ => none
      else none
  | .Compare a [op, op'] [b, c] _ => if notSet c then match cmpPr op, cmpPr op', rec Γ a, rec Γ b, rec Γ c with
      | some p, some q, some a', some b', some c' => some (.chain p q a' b' c')
      | _, _, _, _, _ => none
    else none
  | .Tuple es _ _ => if es.length ≤ 16777216 then (cEs rec Γ es).map .tup else none
  | .List es pos => if es.length ≤ 16777216 then (cEs rec Γ es).map (.lst (atMut Γ pos)) else none
  | .Subscript a (.Slice lo hi none _) pos => match rec Γ a, cPart rec Γ lo, cPart rec Γ hi with
    | some a', some (hl, l), some (hh, h) => some (.slc (atMut Γ pos) hl hh a' l h)
    | _, _, _ => none
  | .Subscript a i _ => if notSl i then match rec Γ a, rec Γ i with
      | some a', some i' => some (.pr .ix [a', i'])
      | _, _ => none
    else none
  | .ListComp elt gs scope pos => cComp rec Γ elt gs scope pos
  | .Call f args [] pos => cCall rec Γ f args pos
  | _ => none
where isPr (op : CmpOp) : Option Pr := match op with
  | .Is => some .isB
  | .IsNot => some .notB
  | op => cmpPr op
theorem isPr_ok {op : CmpOp} {p : Pr} (o : XOk C X Γ W n g) (h : cStep.isPr op = some p) : OpR X (compareOp op) (rP C p) ∧ boolPr p = true := by
  cases op <;> first
    | (cases h; exact ⟨v_isB, rfl⟩)
    | (cases h; exact ⟨v_notB, rfl⟩)
    | (have h' := h; simp only [cStep.isPr] at h'; exact ⟨cmpPr_ok o h', cmpPr_bool h'⟩)
theorem cStep_ok (R : RecOk C n g rec) : RecOk C n g (cStep rec) := by
  intro X Γ W e e' o h
  have pl : plainT e = true → PE X e (tD C W g e') → Both C X W g e e' := fun hp h => ⟨h, PT_of o h hp⟩
  unfold cStep at h
  split at h
  · -- constants
    simp only [Option.map_eq_some_iff] at h
    obtain ⟨l, h1, rfl⟩ := h
    exact pl rfl (const_PE h1)
  · exact pl rfl (name_PE o h)
  · -- a op b
    rename_i a op b pos
    split at h
    · split at h
      · rename_i a' b' h1 h2
        cases h
        exact pl rfl (mono_PE (pe_op v_lmul (R X Γ W a a' o h1).1 (R X Γ W b b' o h2).1) fun σ H Q q => lmul_ok q)
      · cases h
    · split at h
      · rename_i p a' b' h0 h1 h2
        cases h
        exact pl rfl (mono_PE (pe_op (binPr_ok o.K h0) (R X Γ W a a' o h1).1 (R X Γ W b b' o h2).1) fun σ H Q q => op2_ok q)
      · cases h
  · simp only [Option.map_eq_some_iff] at h
    obtain ⟨a', h1, rfl⟩ := h
    exact pl rfl (mono_PE (pe_un un_neg (R X Γ W _ a' o h1).1) fun σ H Q q => neg_PE q)
  · simp only [Option.map_eq_some_iff] at h
    obtain ⟨a', h1, rfl⟩ := h
    obtain ⟨p1, p2⟩ := R X Γ W _ a' o h1
    exact ⟨mono_PE (pe_notT p1) fun σ H Q q => not_PE o.K q, mono_PT (pt_not p2) fun σ H Q q => not_PT q⟩
  · obtain ⟨p1, p2⟩ := cBool_ok R o h
    exact ⟨p1, p2.pt⟩
  · split at h
    · rename_i c' a' b' h1 h2 h3
      cases h
      obtain ⟨c1, c2⟩ := R X Γ W _ c' o h1
      obtain ⟨a1, a2⟩ := R X Γ W _ a' o h2
      obtain ⟨b1, b2⟩ := R X Γ W _ b' o h3
      exact ⟨mono_PE (pe_ifExp c2 a1 b1) fun σ H Q q => iteE_PE q, mono_PT (pt_ifExp c2 a2 b2) fun σ H Q q => iteE_PT q⟩
    · cases h
  · -- a comparison
    rename_i a op b pos
    split at h
    · simp only [Option.map_eq_some_iff] at h
      obtain ⟨a', h1, rfl⟩ := h
      have p1 := (R X Γ W _ a' o h1).1
      exact ⟨mono_PE (pe_cmpR op_isN p1 pe_non rfl) fun σ H Q q => isN_PE (b := true) q, mono_PT (pt_cmpR op_isN p1 pe_non rfl) fun σ H Q q => tT_test rfl (fun σ H Q q => isN_PE (b := true) q) q⟩
    · simp only [Option.map_eq_some_iff] at h
      obtain ⟨a', h1, rfl⟩ := h
      have p1 := (R X Γ W _ a' o h1).1
      exact ⟨mono_PE (pe_cmpR op_notN p1 pe_non rfl) fun σ H Q q => isN_PE (b := false) q, mono_PT (pt_cmpR op_notN p1 pe_non rfl) fun σ H Q q => tT_test rfl (fun σ H Q q => isN_PE (b := false) q) q⟩
    · split at h
      · rename_i hs
        split at h
        · rename_i p a' b' h0 h1 h2
          cases h
          obtain ⟨o1, o2⟩ := isPr_ok o h0
          exact ⟨mono_PE (pe_cmpR o1 (R X Γ W _ a' o h1).1 (R X Γ W _ b' o h2).1 (notSet_mark hs)) fun σ H Q q => op2_ok q,
            mono_PT (pt_cmpR o1 (R X Γ W _ a' o h1).1 (R X Γ W _ b' o h2).1 (notSet_mark hs)) fun σ H Q q => tT_test o2 (fun σ H Q q => op2_ok q) q⟩
        · cases h
      · cases h
  · -- a chain
    split at h
    · rename_i hs
      split at h
      · rename_i p q a' b' c' h1 h2 h3 h4 h5
        cases h
        have a1 := (R X Γ W _ a' o h3).1
        have b1 := (R X Γ W _ b' o h4).1
        have c1 := (R X Γ W _ c' o h5).1
        exact ⟨mono_PE (pe_chain (cmpPr_ok o h1) (cmpPr_ok o h2) a1 b1 c1 (notSet_mark hs)) fun σ H Q q => chain_PE q,
          mono_PT (pt_chain (cmpPr_ok o h1) (cmpPr_ok o h2) a1 b1 c1 (notSet_mark hs)) fun σ H Q q => tT_bl (fun ρ s d s' => chain_bl (cmpPr_bool h2)) (fun σ H Q q => chain_PE q) q⟩
      · cases h
    · cases h
  · split at h
    · rename_i hz
      simp only [Option.map_eq_some_iff] at h
      obtain ⟨es, h1, rfl⟩ := h
      obtain ⟨pA, st, hl⟩ := cEs_ok R o h1
      exact pl rfl (mono_PE (pe_tup pA) fun σ H Q q => tup_ok q (by rw [← hl, sizeLine_eq]; exact hz))
    · cases h
  · split at h
    · rename_i hz
      simp only [Option.map_eq_some_iff] at h
      obtain ⟨es, h1, rfl⟩ := h
      obtain ⟨pA, st, hl⟩ := cEs_ok R o h1
      exact pl rfl (mono_PE (pe_lst pA) fun σ H Q q => lst_ok q (by rw [← hl, sizeLine_eq]; exact hz))
    · cases h
  · split at h
    · rename_i a' hl l hh hx h1 h2 h3
      cases h
      obtain ⟨l1, l2⟩ := cPart_ok R o h2
      obtain ⟨u1, u2⟩ := cPart_ok R o h3
      have sl : ∀ m : Bool, SlR X (fun x l u H Q => if m then rSlcL C x l u H Q else rSlcP C x l u H Q) := by
        intro m
        cases m with
        | true => exact sl_L
        | false => exact sl_P o.K
      exact pl rfl (mono_PE (pe_slice (sl _) (R X Γ W _ a' o h1).1 l1 u1) fun σ H Q q => slc_PE l2 u2 q)
    · cases h
  · split at h
    · rename_i hs
      split at h
      · rename_i a' i' h1 h2
        cases h
        exact pl rfl (mono_PE (pe_ix (v_ix o.K) (R X Γ W _ a' o h1).1 (R X Γ W _ i' o h2).1 (notSl_ix hs)) fun σ H Q q => op2_ok q)
      · cases h
    · cases h
  · obtain ⟨tg, iter, ifs, own, t, it, c, el, m, rfl, L, rfl⟩ := cComp_ok R o h
    exact pl rfl (lc_PE o L)
  · exact pl rfl (cCall_ok R o h)
  · cases h
def cE : Nat → Gm → Expr → Option E
  | 0 => fun _ _ => none
  | k + 1 => cStep (cE k)
theorem cE_ok : ∀ k : Nat, RecOk C n g (cE k)
  | 0 => fun _ _ _ _ _ _ h => nomatch h
  | k + 1 => cStep_ok (cE_ok k)
end
end BS

/-! Core13: statements of the text -/
namespace BS
open PySem PySem.Spec PyProof.Rows L2

/-! small facts about stores -/
def notComp : Expr → Bool
  | .ListComp .. | .SetComp .. | .DictComp .. => false
  | _ => true
def isName : Expr → Bool
  | .Name .. => true
  | _ => false
theorem sw_plain {e : Expr} {t : Option Expr} {l : Nat} {env : PySem.Env} (h : notComp e = true) : swapsWith e t l env = pure false := by
  cases e <;> first | rfl | cases h
theorem sw_other {e t : Expr} {l : Nat} {env : PySem.Env} (h : isName t = false) : swapsWith e (some t) l env = pure false := by
  cases e <;> first | rfl | (cases t <;> first | rfl | cases h)
theorem sws_plain {e t : Expr} {l : Nat} {env : PySem.Env} (h : notComp e = true) : swapsWithSole [t] e l env = pure false := sw_plain h
theorem sws_other {e t : Expr} {l : Nat} {env : PySem.Env} (h : isName t = false) : swapsWithSole [t] e l env = pure false := sw_other h
theorem ss_plain {t e : Expr} {env : PySem.Env} (h : isTup e = false) : swappedStores [t] e env = pure none := by
  unfold swappedStores
  split
  · rename_i ts vs hm
    exfalso
    split at hm
    · cases h
    · cases h
    · cases hm
  · rfl
theorem ss_sub {o i e : Expr} {p : Pos} {env : PySem.Env} : swappedStores [.Subscript o i p] e env = pure none := by
  cases e <;> rfl
theorem ae_one {t : Expr} {env : PySem.Env} (h : isSt t = false) : (assignEach [t] env).map (·.2) = [assign t env] := by
  rw [asg_star h]; rfl
def parB (es : List Expr) : Bool := !(es.any isSt) && !(es.all (foldedForSure 8)) && !(es.all (constantsAlone 8))
theorem st_any {es : List Expr} : (es.any fun | .Starred .. => true | _ => false) = es.any isSt := by
  induction es with
  | nil => rfl
  | cons e es ih => cases e <;> simp [isSt, ih]
def nameAt (env : PySem.Env) (line : Nat) : Expr → Option Str
  | .Name id pos => if env.kindOf id == some NameKind.local && pos.line == line then some id else none
  | _ => none
theorem ss_gen {ts vs : List Expr} {names : List Str} {kt k2 : Nat} {pt pt2 : Pos} {env : PySem.Env} (c1 : (!(ts.length == 2 || ts.length == 3) || vs.length != ts.length || env.blockKind != .function) = false) (hp : parB vs = true)
    (hn : ts.filterMap (nameAt env ((ts.head?.map (·.pos.line)).getD 0)) = names) (c3 : (names.length != ts.length || names.eraseDups.length != names.length) = false) :
    swappedStores [.Tuple ts kt pt] (.Tuple vs k2 pt2) env = pure (some names) := by
  simp only [parB, Bool.and_eq_true, Bool.not_eq_true'] at hp
  obtain ⟨⟨h1, h2⟩, h3⟩ := hp
  unfold swappedStores
  dsimp only
  refine (if_neg (by rw [c1]; exact Bool.false_ne_true)).trans ?_
  refine (if_neg ?_).trans ?_
  · rw [show (vs.any _) = vs.any isSt from congrArg (fun f => vs.any f) (funext fun e => by cases e <;> rfl), h1]
    exact Bool.false_ne_true
  generalize hm : List.filterMap _ ts = ns
  have e : ns = names := by
    rw [← hm, ← hn]
    exact congrArg (fun f => List.filterMap f ts) (funext fun e => by cases e <;> rfl)
  subst e
  refine (if_neg (by rw [c3]; exact Bool.false_ne_true)).trans ?_
  refine (if_neg (by rw [h2]; exact Bool.false_ne_true)).trans ?_
  exact if_neg (by rw [h3]; exact Bool.false_ne_true)
theorem dups2 {x y : Str} (h : x ≠ y) : [x, y].eraseDups = [x, y] := by
  have e : (y == x) = false := by simpa using Ne.symm h
  have one : [y].eraseDups = [y] := by rw [List.eraseDups_cons]; rfl
  rw [List.eraseDups_cons]
  simp [e, Ne.symm h, one]
theorem dups3 {x y z : Str} (h : x ≠ y) (h2 : x ≠ z) (h3 : y ≠ z) : [x, y, z].eraseDups = [x, y, z] := by
  rw [List.eraseDups_cons]
  have : List.filter (fun b => !b == x) [y, z] = [y, z] := by simp [Ne.symm h, Ne.symm h2]
  rw [this, dups2 h3]
theorem nameAt_ok {env : PySem.Env} {l : Nat} {x : Str} {p : Pos} (h : env.scope.names.lookup x = some .local) (hl : (p.line == l) = true) : nameAt env l (.Name x p) = some x := by
  have k : env.kindOf x = some .local := h
  unfold nameAt
  simp only
  rw [k, hl]
  rfl
theorem ss_two {x y : Str} {px py pt : Pos} {a b : Expr} {kt k2 : Nat} {pt2 : Pos} {env : PySem.Env} (hk : env.scope.kind = .function) (hx : env.scope.names.lookup x = some .local) (hy : env.scope.names.lookup y = some .local)
    (hl : (py.line == px.line) = true) (hxy : x ≠ y) (hp : parB [a, b] = true) :
    swappedStores [.Tuple [.Name x px, .Name y py] kt pt] (.Tuple [a, b] k2 pt2) env = pure (some [x, y]) := by
  have hb : env.blockKind = .function := by unfold Env.blockKind; rw [hk]; rfl
  refine ss_gen (by rw [hb]; rfl) hp ?_ (by rw [dups2 hxy]; rfl)
  show List.filterMap (nameAt env px.line) _ = _
  rw [List.filterMap_cons_some (nameAt_ok hx (beq_self_eq_true _)), List.filterMap_cons_some (nameAt_ok hy hl)]
  rfl
theorem ss_three {x y z : Str} {px py pz pt : Pos} {a b c : Expr} {kt k2 : Nat} {pt2 : Pos} {env : PySem.Env} (hk : env.scope.kind = .function) (hx : env.scope.names.lookup x = some .local) (hy : env.scope.names.lookup y = some .local) (hz : env.scope.names.lookup z = some .local)
    (hl : (py.line == px.line) = true) (hl2 : (pz.line == px.line) = true) (hxy : x ≠ y) (hxz : x ≠ z) (hyz : y ≠ z) (hp : parB [a, b, c] = true) :
    swappedStores [.Tuple [.Name x px, .Name y py, .Name z pz] kt pt] (.Tuple [a, b, c] k2 pt2) env = pure (some [x, y, z]) := by
  have hb : env.blockKind = .function := by unfold Env.blockKind; rw [hk]; rfl
  refine ss_gen (by rw [hb]; rfl) hp ?_ (by rw [dups3 hxy hxz hyz]; rfl)
  show List.filterMap (nameAt env px.line) _ = _
  rw [List.filterMap_cons_some (nameAt_ok hx (beq_self_eq_true _)), List.filterMap_cons_some (nameAt_ok hy hl), List.filterMap_cons_some (nameAt_ok hz hl2)]
  rfl
theorem ss_folded {ts es : List Expr} {kt k2 : Nat} {pt pt2 : Pos} {env : PySem.Env} (hf : es.all (foldedForSure 8) = true) : swappedStores [.Tuple ts kt pt] (.Tuple es k2 pt2) env = pure none := by
  unfold swappedStores
  dsimp only
  split
  · rfl
  · split
    · rfl
    · split
      · rfl
      · rfl
section
variable {C : RC} {W : WX} {g : G} {X : Cx} {Γ : Gm} {n : Nat} {rec : Gm → Expr → Option E}
/-! assignments -/
def locIx (Γ : Gm) (x : Str) : Option Nat := if Γ.sc.names.lookup x = some .local then ixOf x Γ.N else none
theorem locIx_ok {x : Str} {i : Nat} (o : XOk C X Γ W n g) (h : locIx Γ x = some i) : X.N[i]? = some x ∧ X.env.scope.names.lookup x = some .local := by
  unfold locIx at h
  split at h
  · rename_i hk
    exact ⟨by rw [o.N]; exact ixOf_ok h, by rw [o.sc]; exact hk⟩
  · cases h
theorem ix_ne {N : List Str} {i j : Nat} {x y : Str} (hi : N[i]? = some x) (hj : N[j]? = some y) (h : x ≠ y) : i ≠ j := fun e => by
  subst e
  rw [hi] at hj
  exact h (Option.some.inj hj)
/-- any target that is no name, any value that is no tuple; a name, a value that is no comprehension -/
def cAsg (rec : Gm → Expr → Option E) (Γ : Gm) (t e : Expr) (pos : Pos) : Option S :=
  match t with
  | .Name y py => match e with
    | .ListComp elt gs scope cpos =>
      if (py.line == cpos.line) && !(scope.names.any fun (n, k) => n == y && (k == .local || k == .cell)) && (Γ.sc.kind == .function) then
        match locIx Γ y, cComp rec Γ elt gs scope cpos with
        | some i, some e' => some (.set (.v i) e')
        | _, _ => none
      else none
    | e => if notComp e then match cTg Γ 1 t, rec Γ e with
        | some t', some e' => some (.set t' e')
        | _, _ => none
      else none
  | .Tuple ts _ _ => match e with
    | .Tuple es _ _ =>
      if parB es && (Γ.sc.kind == .function) then
        match ts, es with
        | [.Name x px, .Name y py], [_, _] => if (py.line == px.line) && (x != y) then match locIx Γ x, locIx Γ y, cEs rec Γ es with
            | some i, some j, some es' => some (.par [i, j] es')
            | _, _, _ => none
          else none
        | [.Name x px, .Name y py, .Name z pz], [_, _, _] => if (py.line == px.line) && (pz.line == px.line) && (x != y) && (x != z) && (y != z) then match locIx Γ x, locIx Γ y, locIx Γ z, cEs rec Γ es with
            | some i, some j, some l, some es' => some (.par [i, j, l] es')
            | _, _, _, _ => none
          else none
        | _, _ => none
      else if es.all (foldedForSure 8) then match cTg Γ 6 t, rec Γ e with
        | some t', some e' => some (.set t' e')
        | _, _ => none
      else none
    | e => if notComp e then match cTg Γ 6 t, rec Γ e with
        | some t', some e' => some (.set t' e')
        | _, _ => none
      else none
  | .Subscript o i _ => if notSl i && notComp e then match rec Γ o, rec Γ i, rec Γ e with
      | some o', some i', some e' => some (.setIx o' i' e')
      | _, _, _ => none
    else none
  | _ => none
theorem sk_of {Γ : Gm} (o : XOk C X Γ W n g) (h : (Γ.sc.kind == ScopeKind.function) = true) : X.env.scope.kind = .function := by
  rw [o.sc]; simpa using h
theorem two_ok {i j : Nat} {es : List E} {D : Ends} {σ : L2.St} {H : Hp} (h : tS C W g (.par [i, j] es) D σ H) : tPar i j (tDs C W g es) D σ H := by
  have key : ∀ (vs : List V) (H1 : Hp), (∃ ξ ω s ds ρ ρ', SRel C ξ ω H1 s ∧ Reps C ξ ω H1 vs ds ∧ ERel C ξ ω H1 σ ρ ∧ asgs ([i, j].map Tg.v) ds ρ = some ρ' ∧ ∀ σ', ERel C ξ ω H1 σ' ρ' → D.nx σ' H1) → ∃ v w, vs = [v, w] ∧ D.nx ((σ.set i (some v)).set j (some w)) H1 := by
    rintro vs H1 ⟨ξ, ω, s, ds, ρ, ρ', sr, rv, er, ha, q⟩
    match ds, ha with
    | [d, e], ha =>
      simp only [List.map, asgs, asg, Option.some.injEq] at ha
      subst ha
      obtain ⟨v, w, rfl, h1, h2⟩ := rv.two
      exact ⟨v, w, rfl, q _ ((er.set h1).set h2)⟩
    | [], ha => simp [asgs] at ha
    | [_], ha => simp [asgs, asg] at ha
    | _ :: _ :: _ :: _, ha => simp [asgs, asg] at ha
  obtain ⟨ξ, ω, ρ, s, er, sr, h⟩ := par_ok h
  exact ⟨ξ, ω, ρ, s, er, sr, h.mono fun ds s' ω' H' _ e r k vs rv => key vs H' (k vs rv)⟩
theorem Reps.three {ξ : Addr → Prop} {ω : List Addr} {H : Hp} {vs : List V} {d e f : D} (h : Reps C ξ ω H vs [d, e, f]) : ∃ v w u, vs = [v, w, u] ∧ Rep C ξ ω H v d ∧ Rep C ξ ω H w e ∧ Rep C ξ ω H u f := by
  cases h with
  | cons h q =>
    obtain ⟨w, u, rfl, h1, h2⟩ := q.two
    exact ⟨_, w, u, rfl, h, h1, h2⟩
theorem three_ok {i j l : Nat} {es : List E} {D : Ends} {σ : L2.St} {H : Hp} (h : tS C W g (.par [i, j, l] es) D σ H) : tPar3 i j l (tDs C W g es) D σ H := by
  have key : ∀ (vs : List V) (H1 : Hp), (∃ ξ ω s ds ρ ρ', SRel C ξ ω H1 s ∧ Reps C ξ ω H1 vs ds ∧ ERel C ξ ω H1 σ ρ ∧ asgs ([i, j, l].map Tg.v) ds ρ = some ρ' ∧ ∀ σ', ERel C ξ ω H1 σ' ρ' → D.nx σ' H1) → ∃ u v w, vs = [u, v, w] ∧ D.nx (((σ.set i (some u)).set j (some v)).set l (some w)) H1 := by
    rintro vs H1 ⟨ξ, ω, s, ds, ρ, ρ', sr, rv, er, ha, q⟩
    match ds, ha with
    | [d, e, f], ha =>
      simp only [List.map, asgs, asg, Option.some.injEq] at ha
      subst ha
      obtain ⟨v, w, u, rfl, h1, h2, h3⟩ := rv.three
      exact ⟨v, w, u, rfl, q _ (((er.set h1).set h2).set h3)⟩
    | [], ha => simp [asgs] at ha
    | [_], ha => simp [asgs, asg] at ha
    | [_, _], ha => simp [asgs, asg] at ha
    | _ :: _ :: _ :: _ :: _, ha => simp [asgs, asg] at ha
  obtain ⟨ξ, ω, ρ, s, er, sr, h⟩ := par_ok h
  exact ⟨ξ, ω, ρ, s, er, sr, h.mono fun ds s' ω' H' _ e r k vs rv => key vs H' (k vs rv)⟩
theorem cAsg_ok {t e : Expr} {pos : Pos} {s : S} (R : RecOk C n g rec) (o : XOk C X Γ W n g) (h : cAsg rec Γ t e pos = some s) : PS X (.Assign [t] e pos) (tS C W g s) := by
  have plain : ∀ {k t' e'}, isTup e = false → notComp e = true → isSt t = false → cTg Γ k t = some t' → rec Γ e = some e' → PS X (.Assign [t] e pos) (tS C W g (.set t' e')) := fun {k t' e'} h1 h2 h3 h4 h5 =>
    mono_PS (ps_asg (R X Γ W e e' o h5).1 (cTg_ok o k t t' h4) (sws_plain h2) (ss_plain h1) (ae_one h3)) fun D σ H q => set_ok q
  unfold cAsg at h
  split at h
  · rename_i y py
    split at h
    · rename_i elt gs scope cpos
      split at h
      · rename_i hc
        simp only [Bool.and_eq_true, Bool.not_eq_true'] at hc
        split at h
        · rename_i i e' h1 h2
          cases h
          obtain ⟨l1, l2⟩ := locIx_ok o h1
          obtain ⟨tg, iter, ifs, own, t', it, c, el, m, rfl, L, rfl⟩ := cComp_ok R o h2
          exact mono_PS (ps_setLc o.calm o.hN l1 l2 (sw_true (sk_of o hc.2) l2 hc.1.1 hc.1.2) L.hi L.ok L.hg L.ht L.he L.hs) fun D σ H q => setN_ok (fun σ H Q q => comp_ok L.hown q) q
        · cases h
      · cases h
    · split at h
      · rename_i hc
        split at h
        · rename_i t' e' h1 h2
          cases h
          have p := cTg_ok o 1 _ t' h1
          refine mono_PS (t := tAsg (tD C W g e') (tTg C t')) ⟨fun pins s σ H D I q => ?_⟩ fun D σ H q => set_ok q
          refine wpAny_Assign_stores (thn ((R X Γ W e e' o h2).1.run pins s σ H _ I q) fun v s1 ⟨x, H1, I1, r1, q1⟩ => ?_) (sws_plain hc) (by cases e <;> rfl)
          rw [ae_one rfl]
          exact thn (p.run pins s1 σ H1 x v _ I1 r1 q1) fun _ s2 q => q
        · cases h
      · cases h
  · rename_i ts kt pt
    split at h
    · rename_i es k2 pt2
      split at h
      · rename_i hc
        simp only [Bool.and_eq_true] at hc
        have hk := sk_of o hc.2
        split at h
        · rename_i x px y py a b
          split at h
          · rename_i hl
            simp only [Bool.and_eq_true, bne_iff_ne, ne_eq] at hl
            split at h
            · rename_i i j es' h1 h2 h3
              cases h
              obtain ⟨i1, i2⟩ := locIx_ok o h1
              obtain ⟨j1, j2⟩ := locIx_ok o h2
              exact mono_PS (ps_par o.calm o.hN i1 j1 (ix_ne i1 j1 hl.2) i2 j2 (cEs_ok R o h3).1 (ss_two hk i2 j2 hl.1 hl.2 hc.1) (sws_other rfl)) fun D σ H q => two_ok q
            · cases h
          · cases h
        · rename_i x px y py z pz a b c
          split at h
          · rename_i hl
            simp only [Bool.and_eq_true, bne_iff_ne, ne_eq] at hl
            obtain ⟨⟨⟨⟨l1, l2⟩, l3⟩, l4⟩, l5⟩ := hl
            split at h
            · rename_i i j l es' h1 h2 h2' h3
              cases h
              obtain ⟨i1, i2⟩ := locIx_ok o h1
              obtain ⟨j1, j2⟩ := locIx_ok o h2
              obtain ⟨z1, z2⟩ := locIx_ok o h2'
              exact mono_PS (ps_par3 o.calm o.hN i1 j1 z1 (ix_ne i1 j1 l3) (ix_ne i1 z1 l4) (ix_ne j1 z1 l5) i2 j2 z2 (cEs_ok R o h3).1 (ss_three hk i2 j2 z2 l1 l2 l3 l4 l5 hc.1) (sws_other rfl)) fun D σ H q => three_ok q
            · cases h
          · cases h
        · cases h
      · split at h
        · rename_i hf
          split at h
          · rename_i t' e' h1 h2
            cases h
            exact mono_PS (ps_asg (R X Γ W _ e' o h2).1 (cTg_ok o 6 _ t' h1) (sws_other rfl) (ss_folded hf) (ae_one rfl)) fun D σ H q => set_ok q
          · cases h
        · cases h
    · rename_i hne
      split at h
      · rename_i hc
        split at h
        · rename_i t' e' h1 h2
          cases h
          have ht : isTup e = false := by cases e <;> first | rfl | exact absurd rfl (hne _ _ _)
          exact plain ht hc rfl h1 h2
        · cases h
      · cases h
  · rename_i ob i p
    split at h
    · rename_i hc
      simp only [Bool.and_eq_true] at hc
      split at h
      · rename_i o' i' e' h1 h2 h3
        cases h
        have ha : ∀ v, assign (.Subscript ob i p) X.env v = (do
            let ov ← holding [v] (eval ob X.env)
            let iv ← holding [v, ov] (eval i X.env)
            standAt p
            holding [v, ov, iv] (setItem ov iv v)
            release [v, ov, iv] []) := by
          have hi := hc.1
          cases i <;> first | (intro v; rfl) | cases hi
        exact mono_PS (ps_asg (R X Γ W e e' o h3).1 (pg_sub (R X Γ W ob o' o h1).1 (R X Γ W i i' o h2).1 set_P ha) (sws_plain hc.2) ss_sub (ae_one rfl)) fun D σ H q => setIx_ok q
      · cases h
    · cases h
  · cases h
/-! statements -/
def cS (rec : Gm → Expr → Option E) (Γ : Gm) : Nat → Stmt → Option S
  | 0, _ => none
  | _ + 1, .Pass _ => some .pass
  | _ + 1, .Break _ => some .brk
  | _ + 1, .Continue _ => some .cont
  | _ + 1, .Raise _ _ _ => some .never
  | _ + 1, .Expr e _ => if notComp e then (rec Γ e).map .ex else none
  | _ + 1, .Return none _ => some (.ret (.lit .non))
  | _ + 1, .Return (some e) _ => (rec Γ e).map .ret
  | _ + 1, .Assign [t] e pos => cAsg rec Γ t e pos
  | k + 1, .If c a b _ => match rec Γ c, cSs k a, cSs k b with
    | some c', some a', some b' => some (.ite c' a' b')
    | _, _, _ => none
  | k + 1, .For tg it b [] _ => match cTg Γ 6 tg, cI rec Γ tg it, cSs k b with
    | some t', some it', some b' => if notSet it then some (.for_ t' it' b') else none
    | _, _, _ => none
  | k + 1, .While c b [] _ => match rec Γ c, cSs k b with
    | some c', some b' => some (.while_ c' b')
    | _, _ => none
  | _ + 1, _ => none
where cSs (k : Nat) : List Stmt → Option (List S)
  | [] => some []
  | t :: ts => match cS rec Γ k t, cSs k ts with
    | some t', some ts' => some (t' :: ts')
    | _, _ => none
theorem cS_ok (R : RecOk C n g rec) (o : XOk C X Γ W n g) : ∀ (k : Nat), (∀ (t : Stmt) (t' : S), cS rec Γ k t = some t' → PS X t (tS C W g t')) ∧ (∀ (ts : List Stmt) (ts' : List S), cS.cSs rec Γ k ts = some ts' → PSs X ts (tSs C W g ts')) := by
  intro k
  induction k with
  | zero =>
    refine ⟨fun t t' h => by simp [cS] at h, fun ts ts' h => ?_⟩
    cases ts with
    | nil => simp only [cS.cSs, Option.some.injEq] at h; subst h; exact mono_PSs pss_nil fun D σ H q => nil_ok q
    | cons t ts => simp [cS.cSs, cS] at h
  | succ k ih =>
    have one : ∀ (t : Stmt) (t' : S), cS rec Γ (k + 1) t = some t' → PS X t (tS C W g t') := by
      intro t t' h
      unfold cS at h
      split at h
      · rename_i e; exact absurd e (Nat.succ_ne_zero k)
      · cases h; exact mono_PS ps_pass fun D σ H q => pass_ok q
      · cases h; exact mono_PS ps_break fun D σ H q => brk_ok q
      · cases h; exact mono_PS ps_continue fun D σ H q => cont_ok q
      · cases h; exact mono_PS ps_never fun D σ H q => never_ok q
      · split at h
        · rename_i e pos hc
          simp only [Option.map_eq_some_iff] at h
          obtain ⟨e', h1, rfl⟩ := h
          exact mono_PS (ps_expr (R X Γ W _ e' o h1).1 (sw_plain hc)) fun D σ H q => ex_ok q
        · cases h
      · cases h
        refine mono_PS ps_retN fun D σ H q => ?_
        obtain ⟨ξ, ω, ρ, s, er, sr, q⟩ := q
        exact q .non ω H Ext.refl sr .non
      · simp only [Option.map_eq_some_iff] at h
        obtain ⟨e', h1, rfl⟩ := h
        exact mono_PS (ps_ret (R X Γ W _ e' o h1).1) fun D σ H q => ret_ok q
      · exact cAsg_ok R o h
      · split at h
        · rename_i k' c a b pos hk o1 o2 o3 e' a' b' h1 h2 h3
          cases h
          cases hk
          exact mono_PS (ps_if (R X Γ W _ _ o h1).2 (ih.2 _ _ h2) (ih.2 _ _ h3)) fun D σ H q => ite_ok q
        · cases h
      · split at h
        · rename_i k' tg it b pos hk o1 o2 o3 t' it' b' h1 h2 h3
          cases hk
          split at h
          · rename_i hs
            cases h
            exact mono_PS (ps_for o.pass o.calm (cI_ok R o h2) (cTg_ok o 6 _ _ h1) (ih.2 _ _ h3) (notSet_fold hs)) fun D σ H q => for_ok q
          · cases h
        · cases h
      · split at h
        · rename_i k' c b pos hk o1 o2 c' b' h1 h2
          cases hk
          cases h
          exact mono_PS (ps_while o.pass (R X Γ W _ _ o h1).2 (ih.2 _ _ h2)) fun D σ H q => while_ok q
        · cases h
      · cases h
    refine ⟨one, fun ts => ?_⟩
    induction ts with
    | nil => intro ts' h; simp only [cS.cSs, Option.some.injEq] at h; subst h; exact mono_PSs pss_nil fun D σ H q => nil_ok q
    | cons t ts iht =>
      intro ts' h
      simp only [cS.cSs] at h
      split at h
      · rename_i t' ts1 h1 h2
        cases h
        exact mono_PSs (pss_cons (one t t' h1) (iht ts1 h2)) fun D σ H q => seq_ok q
      · cases h
end
end BS

/-! Core14: functions, the whole module -/
namespace BS
open PySem PySem.Spec PyProof.Rows L2

/-- one function of the text: its name, its def, its parameters, all its names, what it is in the small language -/
structure Ent where
  x : Str
  st : Stmt
  ps : List Str
  N : List Str
  fd : FD
structure Md where
  ents : List Ent
  gls : List (Str × Lit)
  gts : List (Str × List Lit)
  bts : List Str
  muts : List (Nat × Nat)
def Md.fns (M : Md) : List (Str × FD) := M.ents.map fun e => (e.x, e.fd)
def Md.gm (M : Md) (e : Ent) : Gm := ⟨e.N, defScope e.st, none, M.fns, M.gls, M.gts, M.bts, some e.x, M.muts⟩
def compB2 (M : Md) (e : Ent) : Option FD := (cS.cSs (cE 40) (M.gm e) 60 (defBody e.st)).map (FD.mk e.x e.ps.length e.N.length)
structure EntOk (M : Md) (e : Ent) : Prop where
  sc : FnScope e.N e.ps (defScope e.st)
  bd : ∀ (kV doc pm : Value) (an : Option Addr) (cdv ct : Value) (us : List Value), us.length = e.ps.length → bindArgs (PySem.W.fnOf e.x e.x (defArgs e.st) (defBody e.st) (defScope e.st) .none kV doc pm an cdv ct) ⟨us, []⟩ = pure (e.ps.zip us)
  co : compB2 M e = some e.fd
def FnAt (C : RC) (P : Program) (w : World) (base : Heap) (n : Nat) (x : Str) (F : List D → Sto → Out D) : Prop :=
  ∃ (f : Addr) (fd : FuncData) (ps : List Str), C.mg x = some (.ref f) ∧ PySem.W.keepIn C.K (.ref f) = true ∧ Binds C.K fd ps [] ∧ FnOk P w C.K C.mg base (CX P w) n f fd ps (spD C ps.length F) ∧ ∀ ds s, F ds s ≠ .no → ds.length = ps.length
structure MdOk (C : RC) (M : Md) : Prop where
  fns : C.fns = M.fns
  fn : ∀ e ∈ M.ents, ∃ (f : Addr) (fd : FuncData), C.mg e.x = some (.ref f) ∧ FunD C.K e.x e.x (defArgs e.st) (defBody e.st) (defScope e.st) [] [] f fd
  bts : ∀ x ∈ M.bts, C.mg x = none
  gls : ∀ x l, (x, l) ∈ M.gls → ∃ u, C.mg x = some u ∧ RelV (litV l) u
  gts : ∀ x ls, (x, ls) ∈ M.gts → ∃ (a : Addr) (o : Obj) (its : Array Value) (k : Nat), C.mg x = some (.ref a) ∧ C.K.lookup a = some o ∧ o.cls = .type "tuple" ∧ o.data = .seq its k ∧ its.size ≤ sizeLine ∧ Vals (ls.map litV) its.toList
theorem PO.no_ {C : RC} {ξ : Addr → Prop} {ω : List Addr} {H : Hp} {σ : L2.St} {W : WX} {K : D → Sto → List Addr → Hp → Prop} (h : PO C ξ ω H σ W .no K) : False := h
def FD.np : FD → Nat
  | .mk _ np _ _ => np
theorem callN_len {W n : Nat} {fd : FD} {ds : List D} {s : Sto} (h : callN W n fd ds s ≠ .no) : ds.length = fd.np := by
  cases n with
  | zero => exact absurd (by cases fd; rfl) h
  | succ n =>
    cases fd with
    | mk x np ns body =>
      simp only [callN] at h
      split at h
      · assumption
      · exact absurd rfl h
theorem start_rel {C : RC} {ξ : Addr → Prop} {ω : List Addr} {H : Hp} {vs : List V} {ds : List D} {N : List Str} (h : Reps C ξ ω H vs ds) : ERel C ξ ω H (L2.start N vs) (ds.map some ++ List.replicate (N.length - ds.length) none) := by
  have hl := h.length
  refine ⟨by unfold L2.start; simp [hl], fun i d e => ?_⟩
  unfold L2.start
  by_cases hi : i < ds.length
  · rw [List.getElem?_append_left (by simpa using hi), List.getElem?_map] at e
    cases q : ds[i]? with
    | none => rw [q] at e; cases e
    | some d' =>
      rw [q] at e
      cases e
      obtain ⟨v, h1, h2⟩ := h.get q
      refine ⟨v, ?_, h2⟩
      rw [List.getElem?_append_left (by simp [hl]; exact hi), List.getElem?_map, h1]
      rfl
  · rw [List.getElem?_append_right (by simpa using hi)] at e
    have := List.mem_of_getElem? e
    rw [List.mem_replicate] at this
    cases this.2
section
variable {C : RC} {M : Md} {P : Program} {w : World} {base : Heap} {W : Nat}
/-- as fn_all, for the def's own object -/
theorem fnOk_at_ (hM : MdOk C M) (hE : ∀ e ∈ M.ents, EntOk M e) (n : Nat) (ih : ∀ e ∈ M.ents, FnAt C P w base n e.x (callN W n e.fd)) {e : Ent} (he : e ∈ M.ents) {f : Addr} {fd : FuncData} (F : FunD C.K e.x e.x (defArgs e.st) (defBody e.st) (defScope e.st) [] [] f fd) :
    FnOk P w C.K C.mg base (L2.CX P w) (n + 1) f fd e.ps (spD C e.ps.length (callN W (n + 1) e.fd)) := by
  obtain ⟨S, bd, co⟩ := hE e he
  unfold compB2 at co
  simp only [Option.map_eq_some_iff] at co
  obtain ⟨body, hbody, hfd⟩ := co
  refine FunD.ok F S (fun vs H Q E h => h.1) fun cdv A outer s H vs Q E hr h => ?_
  refine ⟨tSs C (fun cls d _ H => E cls d H) ⟨callN W n, callN W n e.fd, W⟩ body, ?_, ?_⟩
  · refine (cS_ok (Γ := M.gm e) (n := n) (cE_ok 40) ?_ 60).2 _ _ hbody
    exact {
      N := rfl
      nd := S.nd
      sc := rfl
      fnB := fun _ => rfl
      calm := rfl
      hr := hr
      tk := takes_of (E₁ := fun e' s'' => L2.CX P w outer H s E e' s'') rfl rfl rfl rfl
      K := rfl
      mg := rfl
      fns := hM.fns
      call := fun x fd hx => by
        obtain ⟨e', he', q⟩ := List.mem_map.mp hx
        cases q
        exact ih e' he'
      self := fun x hx => by
        cases hx
        exact ih e he
      bts := hM.bts
      gls := hM.gls
      gts := hM.gts
      pass := passes_of (K := fun e s'' => L2.CX P w outer H s E e s'') (E₁ := fun e' s'' => L2.CX P w outer H s E e' s'') rfl }
  · obtain ⟨hl, ξ, ω, s', ds, hv, sr, q⟩ := h
    refine ⟨ξ, ω, _, s', start_rel hv, sr, ?_⟩
    rw [← hfd] at q ⊢
    simp only [callN] at q
    have hd : ds.length = e.ps.length := by rw [← hv.length]; exact hl
    rw [if_pos hd] at q
    cases ho : evSs ⟨callN W n, callN W n (.mk e.x e.ps.length e.N.length body), W⟩ body (ds.map some ++ List.replicate (e.N.length - e.ps.length) none) s' with
    | no => rw [ho] at q; exact q.elim
    | ex x ρ s1 =>
      rw [hd, ho]
      rw [ho] at q
      exact fun cls dx σ' ω' H' e r er z => q cls dx ω' H' e r z
    | fl fl s1 =>
      rw [hd, ho]
      rw [ho] at q
      cases fl with
      | next ρ => exact fun σ' ω' H' e r er => q ω' H' e r _ .non
      | ret d => exact fun v ω' H' e r rv => q ω' H' e r v rv
      | brk ρ => exact q.elim
      | cont ρ => exact q.elim
theorem fn_all (hM : MdOk C M) (hE : ∀ e ∈ M.ents, EntOk M e) : ∀ (n : Nat), ∀ e ∈ M.ents, FnAt C P w base n e.x (callN W n e.fd) := by
  intro n
  induction n with
  | zero =>
    intro e he
    obtain ⟨f, fd, h1, F⟩ := hM.fn e he
    refine ⟨f, fd, e.ps, h1, F.kp, FunD.bindsN F (hE e he).bd, ⟨fun vs H Q E h => h.1, fun A outer s H args us vs Q E hr h0 hb hv h => ?_⟩, fun ds s h => absurd (by cases e.fd; rfl) h⟩
    obtain ⟨_, ξ, ω, s', ds, _, _, q⟩ := h
    have e0 : callN W 0 e.fd ds s' = .no := by cases e.fd; rfl
    rw [e0] at q
    exact q.elim
  | succ n ih =>
    intro e he
    obtain ⟨f, fd, h1, F⟩ := hM.fn e he
    obtain ⟨S, bd, co⟩ := hE e he
    unfold compB2 at co
    simp only [Option.map_eq_some_iff] at co
    obtain ⟨body, hbody, hfd⟩ := co
    have hlen : ∀ ds s, callN W (n + 1) e.fd ds s ≠ .no → ds.length = e.ps.length := fun ds s h => by
      have := callN_len h
      rw [← hfd] at this
      exact this
    exact ⟨f, fd, e.ps, h1, F.kp, FunD.bindsN F bd, fnOk_at_ hM hE n ih he F, hlen⟩
theorem fnOk_at (hM : MdOk C M) (hE : ∀ e ∈ M.ents, EntOk M e) {e : Ent} {f : Addr} {fd : FuncData} (F : FunD C.K e.x e.x (defArgs e.st) (defBody e.st) (defScope e.st) [] [] f fd) (n : Nat) (he : e ∈ M.ents) :
    FnOk P w C.K C.mg base (L2.CX P w) n f fd e.ps (spD C e.ps.length (callN W n e.fd)) := by
  cases n with
  | zero =>
    refine ⟨fun vs H Q E h => h.1, fun A outer s H args us vs Q E hr h0 hb hv h => ?_⟩
    obtain ⟨_, ξ, ω, s', ds, _, _, q⟩ := h
    have e0 : callN W 0 e.fd ds s' = .no := by cases e.fd; rfl
    rw [e0] at q
    exact q.elim
  | succ n => exact fnOk_at_ hM hE n (fn_all hM hE n) he F
end
end BS

/-! Core15: from the head's facts to the module; the law's end -/
namespace BS
open PySem PySem.Spec PyProof.Rows L2

def litDv : Lit → He.Dv | .non => .non | .bl b => .bl b | .int i => .int i | .str x => .str x
theorem litDv_v {K : PySem.W.Frag} : ∀ l : Lit, (litDv l).v K = litV l
  | .non => rfl
  | .bl _ => rfl
  | .int _ => rfl
  | .str _ => rfl
def glFa : Str × Lit → He.Fa
  | (x, .int i) => .int x i
  | (x, .str z) => .str x z
  | (x, _) => .glo x
def litIS : Lit → Bool
  | .int _ => true
  | .str _ => true
  | _ => false
def Ent.dd (e : Ent) : He.DefD := ⟨(e.x, none), e.x, e.x, defArgs e.st, defBody e.st, defScope e.st, [], []⟩
def Md.fa (M : Md) : List He.Fa := M.ents.map (fun e => .glo e.x) ++ (M.bts.map .free ++ (M.gls.map glFa ++ M.gts.map fun p => .glo p.1))
def Md.dds (M : Md) : List He.DefD := M.ents.map Ent.dd
def Md.ex (M : Md) (K : PySem.W.Frag) : Bool := M.gts.all fun p => He.tupB K p.1 (p.2.map litDv)
theorem md_ok {M : Md} {K : PySem.W.Frag} {h : Heap} {w : World} {mg : Str → Option Value} (X : K.In h) (G : h.Ns mainGlobals mg) (c : He.SaysX M.fa M.dds [] [] M.ex w h K) (hl : M.gls.all (fun p => litIS p.2) = true) :
    MdOk ⟨K, mg, M.fns, fun _ => none⟩ M where
  fns := rfl
  fn := fun e he => by
    have cd : He.SaysD M.fa M.dds K := congrArg (fun z : He.AlT => z.1) c.t
    obtain ⟨fd, F⟩ := He.SaysD.defs cd (d := e.dd) (List.mem_map_of_mem he)
    have hf := He.SaysD.facts cd (f := .glo e.x) (List.mem_append_left _ (List.mem_map.mpr ⟨e, he, rfl⟩))
    exact ⟨_, fd, He.glo_ok X G hf, F⟩
  bts := fun x hx => by
    have cd : He.SaysD M.fa M.dds K := congrArg (fun z : He.AlT => z.1) c.t
    exact He.free_ok X G (He.SaysD.facts cd (f := .free x) (List.mem_append_right _ (List.mem_append_left _ (List.mem_map.mpr ⟨x, hx, rfl⟩))))
  gls := fun x l hx => by
    have cd : He.SaysD M.fa M.dds K := congrArg (fun z : He.AlT => z.1) c.t
    have hf := He.SaysD.facts cd (f := glFa (x, l)) (List.mem_append_right _ (List.mem_append_right _ (List.mem_append_left _ (List.mem_map.mpr ⟨_, hx, rfl⟩))))
    have hi := List.all_eq_true.mp hl _ hx
    cases l with
    | int i =>
      obtain ⟨t, e⟩ := He.int_ok X G hf
      exact ⟨_, e, t, rfl⟩
    | str z =>
      obtain ⟨t, e⟩ := He.str_ok X G hf
      exact ⟨_, e, t, rfl⟩
    | _ => cases hi
  gts := fun x ls hx => by
    have cd : He.SaysD M.fa M.dds K := congrArg (fun z : He.AlT => z.1) c.t
    have hf := He.SaysD.facts cd (f := .glo x) (List.mem_append_right _ (List.mem_append_right _ (List.mem_append_right _ (List.mem_map.mpr ⟨_, hx, rfl⟩))))
    have ht := List.all_eq_true.mp c.more _ hx
    have e : (ls.map litDv).map (He.Dv.v K) = ls.map litV := by rw [List.map_map]; exact List.map_congr_left fun l _ => litDv_v l
    have q := He.tupB_ok ht fun _ => none
    rw [e] at q
    rcases q with q | ⟨o, its, n, h1, h2, h3, h4, h5⟩
    · rcases q with q | ⟨o, q⟩ <;> cases q
    · exact ⟨_, o, its, n, He.glo_ok X G hf, h1, h2, h3, h4, h5⟩
theorem sp_law {C : RC} {n k W : Nat} {fd : FD} (hlaw : ∀ ns : List Int, ns.length ≤ n → ∃ s', callN W k fd [.scr ns] [] = .ok (.bl true) s') (H : Hp) (a : Addr) (ns : List Int) (hl : ns.length ≤ n) (hO : Only H) (hS : SqL C.K H a (ns.map V.int)) :
    spD C 1 (callN W k fd) [.ref a] H (fun v _ => v = .bl true) fun _ _ _ => False := by
  refine ⟨rfl, fun _ => False, [], [], [.scr ns], .cons (.scr ?_) .nil, ⟨rfl, List.nodup_nil, (fun _ h => nomatch h), (fun _ h => False.elim h), (fun n a o h => by simp at h)⟩, ?_⟩
  · rcases hS with (h | ⟨o, h⟩) | h
    · rcases hO a with q | ⟨o, xs, q⟩
      · rw [q] at h; cases h
      · rw [q] at h; cases h
    · exact .inl ⟨o, h⟩
    · exact .inr h
  · obtain ⟨s', e⟩ := hlaw ns hl
    rw [e]
    intro ω' H' _ _ v rv
    cases rv
    rfl
/-- the law's def, from the head's facts -/
theorem law_fn {M : Md} {K : PySem.W.Frag} {h : Heap} {P : Program} {w : World} {mg : Str → Option Value} {f : Addr} {e : Ent} {x : Str} {n k W : Nat} (X : K.In h) (G : h.Ns mainGlobals mg) (c : He.SaysX M.fa M.dds [] [] M.ex w h K) (hl : M.gls.all (fun p => litIS p.2) = true)
    (hE : ∀ e ∈ M.ents, EntOk M e) (he : e ∈ M.ents) (hps : e.ps = [x]) (hf : mg e.x = some (.ref f)) (hlaw : ∀ ns : List Int, ns.length ≤ n → ∃ s', callN W k e.fd [.scr ns] [] = .ok (.bl true) s') :
    ∃ (K : PySem.W.Frag) (fd : FuncData) (sp : Sp), K.In h ∧ (∀ (s : Shared) (u : Value), BindsTo s fd ⟨[u], []⟩ [(x, u)]) ∧
        (∀ (H : Hp) (a : Addr) (ns : List Int), ns.length ≤ n → Only H → SqL K H a (ns.map V.int) → sp [.ref a] H (fun v _ => v = .bl true) fun _ _ _ => False) ∧
        ∀ base : Heap, K.In base → base.Ns mainGlobals mg → FnOk P w K mg base (L2.CX P w) k f fd [x] sp := by
  have hM := md_ok X G c hl
  obtain ⟨f', fd, h1, F⟩ := hM.fn e he
  have ef : f' = f := by
    have q : (some (Value.ref f') : Option Value) = some (.ref f) := h1.symm.trans hf
    cases q
    rfl
  subst ef
  refine ⟨K, fd, spD ⟨K, mg, M.fns, fun _ => none⟩ 1 (callN W k e.fd), X, fun s u => ?_, fun H a ns q hO hS => sp_law hlaw H a ns q hO hS, fun base _ _ => ?_⟩
  · have b := FunD.bindsA F (ps := e.ps) (hE e he).bd s [u] (by rw [hps]; rfl)
    rw [hps] at b
    exact b
  · -- the promise, over any base
    have key : ∀ k', FnOk P w K mg base (L2.CX P w) k' f' fd e.ps (spD ⟨K, mg, M.fns, fun _ => none⟩ e.ps.length (callN W k' e.fd)) := fun k' => fnOk_at hM hE F k' he
    have := key k
    rw [hps] at this
    exact this
/-- the law's end; exceptions as the layer has them -/
theorem walk_own {l : PySem.W.OpenLaw} {n k : Nat} {q : Program} {loose : List Str} {XP : (Str → Option Value) → Heap → Prop} {YP : World → Heap → Prop} {d : DefRec} {x : Str} (hn : l.most = some n) (hsz : n ≤ sizeLine) (nodef : d.params.defaults = []) (room : Room k callerA)
    (F : ∀ (w : World) (mg : Str → Option Value) (f : Addr) (h : Heap), YP w h → h.Ns mainGlobals mg → mg d.name = some (.ref f) → ∃ (K : PySem.W.Frag) (fd : FuncData) (sp : Sp), K.In h ∧ (∀ (s : Shared) (u : Value), BindsTo s fd ⟨[u], []⟩ [(x, u)]) ∧
        (∀ (H : Hp) (a : Addr) (ns : List Int), ns.length ≤ n → Only H → SqL K H a (ns.map V.int) → sp [.ref a] H (fun v _ => v = .bl true) fun _ _ _ => False) ∧
        ∀ base : Heap, K.In base → base.Ns mainGlobals mg → FnOk l.prog w K mg base (L2.CX l.prog w) k f fd [x] sp) : PySem.W.WalkO q loose XP YP l.row.toRowW d [] (fun f vs => PySem.call f vs) :=
  Att.attach_call hn nodef fun w s₀ s₁ mg mb f o pm cd doc a vs ns G Y ho hd hcd hmg hobj hints hlen hg => by
    obtain ⟨K, fd, sp, KX, hb, hsp, hF⟩ := F w mg f _ Y G.T.g hmg
    refine law_call KX G.T.g G.T.b G.T.builtins G.T.nolimit hg hobj hints (Nat.le_trans hlen hsz) room hF hb (fun H hO hS => hsp H a ns hlen hO hS) fun H e s' hc => ?_
    obtain ⟨_, _, _, _, _, _, _, _, _, _, _, _, z⟩ := hc
    exact z.elim
end BS

/-! Ev1: reckoning with the evaluator -/
namespace BS
open PySem
section
variable {α β : Type}
def Out.sat (o : Out α) (P : α → Sto → Prop) : Prop := match o with
  | .ok a s => P a s
  | _ => False
@[simp] theorem sat_ok {a : α} {s : Sto} {P : α → Sto → Prop} : (Out.ok a s).sat P = P a s := rfl
@[simp] theorem sat_no {P : α → Sto → Prop} : (Out.no : Out α).sat P = False := rfl
@[simp] theorem sat_ex {x : Exn} {s : Sto} {P : α → Sto → Prop} : (Out.ex x s : Out α).sat P = False := rfl
@[simp] theorem bind_ok {a : α} {s : Sto} {f : α → Sto → Out β} : (Out.ok a s).bind f = f a s := rfl
@[simp] theorem bind_no {f : α → Sto → Out β} : (Out.no : Out α).bind f = .no := rfl
@[simp] theorem bind_if {c : Prop} [Decidable c] {a b : Out α} {f : α → Sto → Out β} : (if c then a else b).bind f = if c then a.bind f else b.bind f := by split <;> rfl
theorem sat_bind {o : Out α} {f : α → Sto → Out β} {P : β → Sto → Prop} : (o.bind f).sat P = o.sat fun a s => (f a s).sat P := by cases o <;> rfl
theorem Out.sat.mono {o : Out α} {P Q : α → Sto → Prop} (h : o.sat P) (m : ∀ a s, P a s → Q a s) : o.sat Q := by
  cases o with
  | ok a s => exact m a s h
  | _ => exact h
theorem Out.sat.bind {o : Out α} {f : α → Sto → Out β} {P : α → Sto → Prop} {Q : β → Sto → Prop} (h : o.sat P) (m : ∀ a s, P a s → (f a s).sat Q) : (o.bind f).sat Q := by
  rw [sat_bind]
  exact h.mono m
theorem Out.sat.get {o : Out α} {P : α → Sto → Prop} (h : o.sat P) : ∃ a s, o = .ok a s ∧ P a s := by
  cases o with
  | ok a s => exact ⟨a, s, rfl, h⟩
  | _ => exact h.elim
def tst (o : Option Bool) (n a b : α) : α := match o with
  | some true => a
  | some false => b
  | none => n
/-- a choice by a bool, kept from simp's own ways -/
def ifB (c : Bool) (a b : α) : α := match c with
  | true => a
  | false => b
@[simp] theorem ifB_true {a b : α} : ifB true a b = a := rfl
@[simp] theorem ifB_false {a b : α} : ifB false a b = b := rfl
@[simp] theorem ifB_same {c : Bool} {a : α} : ifB c a a = a := by cases c <;> rfl
@[simp] theorem ifB_not {c : Bool} {a b : α} : ifB (!c) a b = ifB c b a := by cases c <;> rfl
@[simp] theorem bind_ifB {c : Bool} {a b : Out α} {f : α → Sto → Out β} : (ifB c a b).bind f = ifB c (a.bind f) (b.bind f) := by cases c <;> rfl
theorem sat_ifB {c : Bool} {a b : Out α} {P : α → Sto → Prop} : (ifB c a b).sat P = ifB c (a.sat P) (b.sat P) := by cases c <;> rfl
@[simp] theorem tst_some {c : Bool} {n a b : α} : tst (some c) n a b = ifB c a b := by cases c <;> rfl
def tstD (o : Option D) (n a b : α) : α := match o with
  | some (.bl true) => a
  | some (.bl false) => b
  | _ => n
@[simp] theorem tstD_some {c : Bool} {n a b : α} : tstD (some (.bl c)) n a b = ifB c a b := by cases c <;> rfl
@[simp] theorem ofO_some {a : α} {s : Sto} : ofO s (some a) = .ok a s := rfl
end
def SO.sat (o : SO) (Q : Flow → Sto → Prop) : Prop := match o with
  | .fl f s => Q f s
  | _ => False
@[simp] theorem ssat_fl {f : Flow} {s : Sto} {Q : Flow → Sto → Prop} : (SO.fl f s).sat Q = Q f s := rfl
theorem SO.sat.mono {o : SO} {P Q : Flow → Sto → Prop} (h : o.sat P) (m : ∀ a s, P a s → Q a s) : o.sat Q := by
  cases o with
  | fl a s => exact m a s h
  | _ => exact h
@[simp] theorem so_ok {ρ : Env} {d : D} {s : Sto} {f : D → Sto → SO} : (Out.ok d s).so ρ f = f d s := rfl
@[simp] theorem so_if {ρ : Env} {c : Prop} [Decidable c] {a b : Out D} {f : D → Sto → SO} : (if c then a else b).so ρ f = if c then a.so ρ f else b.so ρ f := by split <;> rfl
@[simp] theorem so_ifB {ρ : Env} {c : Bool} {a b : Out D} {f : D → Sto → SO} : (ifB c a b).so ρ f = ifB c (a.so ρ f) (b.so ρ f) := by cases c <;> rfl
theorem so_bind {ρ : Env} {α : Type} {o : Out α} {f : α → Sto → Out D} {k : D → Sto → SO} : (o.bind f).so ρ k = match o with | .ok a s => (f a s).so ρ k | .ex x s => .ex x ρ s | .no => .no := by cases o <;> rfl
theorem so_sat {ρ : Env} {o : Out D} {f : D → Sto → SO} {Q : Flow → Sto → Prop} : (o.so ρ f).sat Q = o.sat fun d s => (f d s).sat Q := by cases o <;> rfl
theorem Out.sat.so {ρ : Env} {o : Out D} {f : D → Sto → SO} {P : D → Sto → Prop} {Q : Flow → Sto → Prop} (h : o.sat P) (m : ∀ a s, P a s → (f a s).sat Q) : (o.so ρ f).sat Q := by
  rw [so_sat]
  exact h.mono m
def SO.seq (o : SO) (f : Env → Sto → SO) : SO := match o with
  | .fl (.next ρ) s => f ρ s
  | o => o
@[simp] theorem seq_next {ρ : Env} {s : Sto} {f : Env → Sto → SO} : (SO.fl (.next ρ) s).seq f = f ρ s := rfl
@[simp] theorem seq_ret {d : D} {s : Sto} {f : Env → Sto → SO} : (SO.fl (.ret d) s).seq f = .fl (.ret d) s := rfl
@[simp] theorem seq_brk {ρ : Env} {s : Sto} {f : Env → Sto → SO} : (SO.fl (.brk ρ) s).seq f = .fl (.brk ρ) s := rfl
@[simp] theorem seq_cont {ρ : Env} {s : Sto} {f : Env → Sto → SO} : (SO.fl (.cont ρ) s).seq f = .fl (.cont ρ) s := rfl
@[simp] theorem seq_if {c : Prop} [Decidable c] {a b : SO} {f : Env → Sto → SO} : (if c then a else b).seq f = if c then a.seq f else b.seq f := by split <;> rfl
@[simp] theorem seq_ifB {c : Bool} {a b : SO} {f : Env → Sto → SO} : (ifB c a b).seq f = ifB c (a.seq f) (b.seq f) := by cases c <;> rfl
theorem seq_so {ρ : Env} {o : Out D} {k : D → Sto → SO} {f : Env → Sto → SO} : (o.so ρ k).seq f = o.so ρ fun d s => (k d s).seq f := by cases o <;> rfl
theorem seq_sat {o : SO} {f : Env → Sto → SO} {Q : Flow → Sto → Prop} : (o.seq f).sat Q = o.sat fun fl s => match fl with | .next ρ => (f ρ s).sat Q | x => Q x s := by
  cases o with
  | fl fl s => cases fl <;> rfl
  | _ => rfl
/-- a body's end -/
def fin (o : SO) : Out D := match o with
  | .fl (.next _) s => .ok .non s
  | .fl (.ret d) s => .ok d s
  | .fl _ _ => .no
  | .ex x _ s => .ex x s
  | .no => .no
@[simp] theorem fin_next {ρ : Env} {s : Sto} : fin (.fl (.next ρ) s) = .ok .non s := rfl
@[simp] theorem fin_ret {d : D} {s : Sto} : fin (.fl (.ret d) s) = .ok d s := rfl
@[simp] theorem fin_if {c : Prop} [Decidable c] {a b : SO} : fin (if c then a else b) = if c then fin a else fin b := by split <;> rfl
@[simp] theorem fin_ifB {c : Bool} {a b : SO} : fin (ifB c a b) = ifB c (fin a) (fin b) := by cases c <;> rfl
theorem fin_so {ρ : Env} {o : Out D} {k : D → Sto → SO} : fin (o.so ρ k) = o.bind fun d s => fin (k d s) := by cases o <;> rfl
theorem fin_sat {o : SO} {P : D → Sto → Prop} : (fin o).sat P = o.sat fun fl s => match fl with | .next _ => P .non s | .ret d => P d s | _ => False := by
  cases o with
  | fl fl s => cases fl <;> rfl
  | _ => rfl
def gOf (W n : Nat) (fd : FD) : G := ⟨callN W n, callN W n fd, W⟩
@[simp] theorem gOf_call {W n : Nat} {fd : FD} : (gOf W n fd).call = callN W n := rfl
@[simp] theorem gOf_self {W n : Nat} {fd : FD} : (gOf W n fd).self = callN W n fd := rfl
@[simp] theorem gOf_W {W n : Nat} {fd : FD} : (gOf W n fd).W = W := rfl
theorem call1 {W n np ns : Nat} {fd : FD} {x : Str} {body : List S} {ds : List D} {s : Sto} (h : fd = .mk x np ns body) (hl : ds.length = np) :
    callN W (n + 1) fd ds s = fin (evSs (gOf W n fd) body (ds.map some ++ List.replicate (ns - np) none) s) := by
  subst h
  simp only [callN]
  rw [if_pos hl, ← hl]
  show _ = fin (evSs ⟨callN W n, callN W n _, W⟩ body (ds.map some ++ List.replicate (ns - ds.length) none) s)
  unfold fin
  rfl
/-- a bound of a range -/
def rngOk (j : Int) : Bool := Nat.blt j.natAbs (2 ^ 62)
/-! expressions, told for simp -/
section
variable {g : G} {ρ : Env} {s : Sto}
@[simp] theorem evE_lit {l : Lit} : evE g (.lit l) ρ s = .ok l.d s := rfl
@[simp] theorem evE_gtup {x : Str} {ls : List Lit} : evE g (.gtup x ls) ρ s = .ok (.tup (ls.map Lit.d)) s := rfl
@[simp] theorem evE_v {i : Nat} : evE g (.v i) ρ s = match ρ[i]? with | some (some d) => .ok d s | _ => .no := rfl
@[simp] theorem evE_pr {p : Pr} {es : List E} : evE g (.pr p es) ρ s = (evEs g es ρ s).bind fun ds s1 => ofO s1 (prim s1 p ds) := rfl
@[simp] theorem evE_pl {m : Bool} {p : Pl} {es : List E} : evE g (.pl m p es) ρ s = (evEs g es ρ s).bind fun ds s1 => match primL s1 p ds with | some r => mkL m r s1 | none => .no := rfl
@[simp] theorem evE_pm {p : Pm} {a : E} {es : List E} : evE g (.pm p a es) ρ s = (evE g a ρ s).bind fun d s1 => match isObjL s1 d with | true => (evEs g es ρ s1).bind fun ds s2 => primM s2 p (d :: ds) | false => .no := rfl
@[simp] theorem evE_and {a b : E} : evE g (.and_ a b) ρ s = (evE g a ρ s).bind fun d s1 => tst (truD s1 d) .no (evE g b ρ s1) (.ok d s1) := by
  rfl
@[simp] theorem evE_or {a b : E} : evE g (.or_ a b) ρ s = (evE g a ρ s).bind fun d s1 => tst (truD s1 d) .no (.ok d s1) (evE g b ρ s1) := by
  rfl
@[simp] theorem evE_not {a : E} : evE g (.not_ a) ρ s = (evE g a ρ s).bind fun d s1 => match truD s1 d with | some b => .ok (.bl (!b)) s1 | none => .no := rfl
@[simp] theorem evE_ite {c a b : E} : evE g (.ite c a b) ρ s = (evE g c ρ s).bind fun d s1 => tst (truD s1 d) .no (evE g a ρ s1) (evE g b ρ s1) := by
  rfl
@[simp] theorem evE_chain {p q : Pr} {a b c : E} : evE g (.chain p q a b c) ρ s = (evE g a ρ s).bind fun x s1 => (evE g b ρ s1).bind fun y s2 => tstD (prim s2 p [x, y]) .no ((evE g c ρ s2).bind fun z s3 => ofO s3 (prim s3 q [y, z])) (.ok (.bl false) s2) := by
  rfl
@[simp] theorem evE_slc {m hl hh : Bool} {a lo hi : E} : evE g (.slc m hl hh a lo hi) ρ s = (evE g a ρ s).bind fun d s1 => (evE g lo ρ s1).bind fun x s2 => match bnd hl x with
    | none => .no
    | some l => (evE g hi ρ s2).bind fun y s3 => match bnd hh y with
      | none => .no
      | some h => if m = true then (match vL s3 d with | some ds => mkL true (cutD ds l h) s3 | none => .no) else ofO s3 (slcD s3 l h d) := rfl
@[simp] theorem evE_tup {es : List E} : evE g (.tup es) ρ s = (evEs g es ρ s).bind fun ds s1 => .ok (.tup ds) s1 := rfl
@[simp] theorem evE_lst {m : Bool} {es : List E} : evE g (.lst m es) ρ s = (evEs g es ρ s).bind fun ds s1 => mkL m ds s1 := rfl
@[simp] theorem evE_call {f : FD} {es : List E} : evE g (.call f es) ρ s = (evEs g es ρ s).bind fun ds s1 => g.call f ds s1 := rfl
@[simp] theorem evE_self {es : List E} : evE g (.self es) ρ s = (evEs g es ρ s).bind fun ds s1 => g.self ds s1 := rfl
@[simp] theorem evEs_nil : evEs g [] ρ s = .ok [] s := rfl
@[simp] theorem evEs_cons {e : E} {es : List E} : evEs g (e :: es) ρ s = (evE g e ρ s).bind fun d s1 => (evEs g es ρ s1).bind fun ds s2 => .ok (d :: ds) s2 := rfl
@[simp] theorem evI_e {a : E} : evI g (.e a) ρ s = (evE g a ρ s).bind fun d s1 => match vS s1 d with | some _ => .ok (.seq d) s1 | none => .no := rfl
theorem evI_r1 {a : E} : evI g (.r1 a) ρ s = (evE g a ρ s).bind fun d s1 => match d with
    | .int j => if rngOk j = true then .ok (.rng 0 j.toNat) s1 else .no
    | _ => .no := rfl
theorem evI_r2 {a b : E} : evI g (.r2 a b) ρ s = (evE g a ρ s).bind fun d s1 => (evE g b ρ s1).bind fun d2 s2 => match d, d2 with
    | .int i, .int j => if (rngOk i && rngOk j) = true then .ok (.rng i (j - i).toNat) s2 else .no
    | _, _ => .no := rfl
@[simp] theorem evI_enum {a : E} : evI g (.enum a) ρ s = (evE g a ρ s).bind fun d s1 => match vS s1 d with | some _ => .ok (.enum d) s1 | none => .no := rfl
@[simp] theorem evI_zip {a b : E} : evI g (.zip a b) ρ s = (evE g a ρ s).bind fun d s1 => (evE g b ρ s1).bind fun d2 s2 => match vS s2 d, vS s2 d2 with | some _, some _ => .ok (.zip d d2) s2 | _, _ => .no := rfl
/-! statements -/
@[simp] theorem evS_ex {e : E} : evS g (.ex e) ρ s = (evE g e ρ s).so ρ fun _ s1 => .fl (.next ρ) s1 := rfl
@[simp] theorem evS_ret {e : E} : evS g (.ret e) ρ s = (evE g e ρ s).so ρ fun d s1 => .fl (.ret d) s1 := rfl
@[simp] theorem evS_setv {i : Nat} {e : E} : evS g (.set (.v i) e) ρ s = (evE g e ρ s).so ρ fun d s1 => .fl (.next (ρ.set i (some d))) s1 := rfl
@[simp] theorem evS_sett {ts : List Tg} {e : E} : evS g (.set (.tup ts) e) ρ s = (evE g e ρ s).so ρ fun d s1 => match asg (.tup ts) d ρ with | some ρ1 => .fl (.next ρ1) s1 | none => .no := rfl
@[simp] theorem evS_par {ts : List Nat} {es : List E} : evS g (.par ts es) ρ s = match evEs g es ρ s with
    | .ok ds s1 => (match asgs (ts.map Tg.v) ds ρ with | some ρ1 => .fl (.next ρ1) s1 | none => .no)
    | .ex x s1 => .ex x ρ s1
    | .no => .no := rfl
@[simp] theorem evS_setIx {o i e : E} : evS g (.setIx o i e) ρ s = (evE g e ρ s).so ρ fun d s1 => (evE g o ρ s1).so ρ fun x s2 => (evE g i ρ s2).so ρ fun y s3 => match setIx s3 x y d with | some s4 => .fl (.next ρ) s4 | none => .no := rfl
@[simp] theorem evS_ite {c : E} {a b : List S} : evS g (.ite c a b) ρ s = (evE g c ρ s).so ρ fun d s1 => tst (truD s1 d) .no (evSs g a ρ s1) (evSs g b ρ s1) := by
  rfl
@[simp] theorem evS_pass : evS g .pass ρ s = .fl (.next ρ) s := rfl
@[simp] theorem evS_brk : evS g .brk ρ s = .fl (.brk ρ) s := rfl
@[simp] theorem evS_cont : evS g .cont ρ s = .fl (.cont ρ) s := rfl
@[simp] theorem evSs_nil : evSs g [] ρ s = .fl (.next ρ) s := rfl
@[simp] theorem evSs_cons {t : S} {ts : List S} : evSs g (t :: ts) ρ s = (evS g t ρ s).seq fun ρ1 s1 => evSs g ts ρ1 s1 := by
  show (match evS g t ρ s with | .fl (.next ρ1) s1 => evSs g ts ρ1 s1 | o => o) = _
  cases evS g t ρ s with
  | fl f s1 => cases f <;> rfl
  | _ => rfl
@[simp] theorem evS_while {c : E} {b : List S} : evS g (.while_ c b) ρ s = whileLoop (fun ρ s => evE g c ρ s) (fun ρ s => evSs g b ρ s) g.W ρ s := rfl
/-! what is walked, where the store plays no part -/
def itemsOf : Src → Option (List D)
  | .seq (.tup ds) => some ds
  | .seq (.lst ds) => some ds
  | .rng lo n => some ((List.range n).map fun i => D.int (lo + (i : Nat)))
  | .enum (.tup ds) => some (enumD 0 ds)
  | .enum (.lst ds) => some (enumD 0 ds)
  | .zip (.tup a) (.tup b) => some (List.zipWith (fun x y => D.tup [x, y]) a b)
  | .zip (.tup a) (.lst b) => some (List.zipWith (fun x y => D.tup [x, y]) a b)
  | .zip (.lst a) (.tup b) => some (List.zipWith (fun x y => D.tup [x, y]) a b)
  | .zip (.lst a) (.lst b) => some (List.zipWith (fun x y => D.tup [x, y]) a b)
  | _ => none
theorem enumD_get : ∀ (ds : List D) (k i : Nat), (enumD k ds)[i]? = ds[i]?.map fun x => D.tup [.int ((k + i : Nat) : Int), x]
  | [], k, i => by simp [enumD]
  | d :: ds, k, 0 => by simp [enumD]
  | d :: ds, k, i + 1 => by
    simp only [enumD, List.getElem?_cons_succ]
    rw [enumD_get ds (k + 1) i]
    have e : k + 1 + i = k + (i + 1) := by omega
    rw [e]
@[simp] theorem enumD_len : ∀ (ds : List D) (k : Nat), (enumD k ds).length = ds.length
  | [], _ => rfl
  | d :: ds, k => by simp [enumD, enumD_len ds]
def trnOf : Option D → Trn
  | some x => .it x
  | none => .stop
theorem at_items {src : Src} {xs : List D} (h : itemsOf src = some xs) (i : Nat) (hi : i ≤ xs.length) : src.at s i = trnOf xs[i]? := by
  have zp : ∀ a b : List D, xs = List.zipWith (fun x y => D.tup [x, y]) a b → (match a[i]?, b[i]? with | some x, some y => Trn.it (.tup [x, y]) | _, _ => if (decide (i ≤ a.length) && decide (i ≤ b.length)) = true then .stop else .no) = trnOf xs[i]? := by
    rintro a b rfl
    rw [List.length_zipWith] at hi
    rw [List.getElem?_zipWith]
    cases ha : a[i]? with
    | none => cases hb : b[i]? with
      | none => simp [trnOf]; omega
      | some y => simp [trnOf]; omega
    | some x => cases hb : b[i]? with
      | none => simp [trnOf]; omega
      | some y => rfl
  have en : ∀ ds : List D, xs = enumD 0 ds → (match ds[i]? with | some x => Trn.it (.tup [.int i, x]) | none => if i = ds.length then .stop else .no) = trnOf xs[i]? := by
    rintro ds rfl
    rw [enumD_len] at hi
    rw [enumD_get]
    cases hd : ds[i]? with
    | none =>
      have := List.getElem?_eq_none_iff.mp hd
      simp only [Option.map_none, trnOf]
      rw [if_pos (by omega)]
    | some x => simp [trnOf]
  match src, h with
  | .seq (.tup ds), h => cases h; simp only [Src.at, vS]; cases xs[i]? <;> rfl
  | .seq (.lst ds), h => cases h; simp only [Src.at, vS]; cases xs[i]? <;> rfl
  | .rng lo n, h =>
    cases h
    simp only [Src.at, List.getElem?_map, List.getElem?_range']
    by_cases hn : i < n
    · rw [if_pos hn, List.getElem?_range hn]; rfl
    · rw [if_neg hn, List.getElem?_eq_none (by simpa using hn)]; rfl
  | .enum (.tup ds), h => cases h; exact en ds rfl
  | .enum (.lst ds), h => cases h; exact en ds rfl
  | .zip (.tup a) (.tup b), h => cases h; exact zp a b rfl
  | .zip (.tup a) (.lst b), h => cases h; exact zp a b rfl
  | .zip (.lst a) (.tup b), h => cases h; exact zp a b rfl
  | .zip (.lst a) (.lst b), h => cases h; exact zp a b rfl
theorem most_items {src : Src} {xs : List D} (h : itemsOf src = some xs) : xs.length ≤ src.most s := by
  match src, h with
  | .seq (.tup ds), h => cases h; exact Nat.le_refl _
  | .seq (.lst ds), h => cases h; exact Nat.le_refl _
  | .rng lo n, h => cases h; simp [Src.most]
  | .enum (.tup ds), h => cases h; simp [Src.most, vS]
  | .enum (.lst ds), h => cases h; simp [Src.most, vS]
  | .zip (.tup a) (.tup b), h => cases h; simp [Src.most, vS]; omega
  | .zip (.tup a) (.lst b), h => cases h; simp [Src.most, vS]; omega
  | .zip (.lst a) (.tup b), h => cases h; simp [Src.most, vS]; omega
  | .zip (.lst a) (.lst b), h => cases h; simp [Src.most, vS]; omega
/-- a for over items -/
def forItems (tg : Tg) (b : Env → Sto → SO) : List D → Env → Sto → SO
  | [], ρ, s => .fl (.next ρ) s
  | d :: ds, ρ, s => match asg tg d ρ with
    | none => .no
    | some ρ1 => match b ρ1 s with
      | .fl (.next ρ') s' => forItems tg b ds ρ' s'
      | .fl (.cont ρ') s' => forItems tg b ds ρ' s'
      | .fl (.brk ρ') s' => .fl (.next ρ') s'
      | .fl (.ret d) s' => .fl (.ret d) s'
      | .ex x ρ' s' => .ex x ρ' s'
      | .no => .no
theorem for_items {src : Src} {xs : List D} {tg : Tg} {b : Env → Sto → SO} (h : itemsOf src = some xs) : ∀ (k i : Nat) (ρ : Env) (s : Sto), xs.length ≤ i + k → i ≤ xs.length → forLoop src tg b k i ρ s = forItems tg b (xs.drop i) ρ s := by
  intro k
  induction k with
  | zero =>
    intro i ρ s h1 h2
    have e : i = xs.length := by omega
    subst e
    unfold forLoop
    rw [at_items h _ (Nat.le_refl _), List.getElem?_eq_none (Nat.le_refl _), List.drop_length]
    rfl
  | succ k ih =>
    intro i ρ s h1 h2
    unfold forLoop
    rw [at_items h i h2]
    cases hx : xs[i]? with
    | none =>
      have e := List.getElem?_eq_none_iff.mp hx
      rw [List.drop_eq_nil_of_le e]
      rfl
    | some x =>
      have hi : i < xs.length := (List.getElem?_eq_some_iff.mp hx).1
      have e : xs.drop i = x :: xs.drop (i + 1) := by
        rw [List.drop_eq_getElem_cons hi]
        congr 1
        exact (List.getElem?_eq_some_iff.mp hx).2
      rw [e]
      simp only [trnOf, forItems]
      cases asg tg x ρ with
      | none => rfl
      | some ρ1 =>
        dsimp only
        cases b ρ1 s with
        | fl f s' =>
          cases f with
          | next ρ' => exact ih (i + 1) ρ' s' (by omega) hi
          | cont ρ' => exact ih (i + 1) ρ' s' (by omega) hi
          | _ => rfl
        | _ => rfl
def forSrc (src : Src) (tg : Tg) (b : Env → Sto → SO) (ρ : Env) (s : Sto) : SO := forLoop src tg b (src.most s) 0 ρ s
theorem forSrc_items {src : Src} {xs : List D} {tg : Tg} {b : Env → Sto → SO} (h : itemsOf src = some xs) : forSrc src tg b ρ s = forItems tg b xs ρ s := for_items h _ 0 ρ s (by rw [Nat.zero_add]; exact most_items h) (Nat.zero_le _)
theorem evS_for {t : Tg} {it : I} {b : List S} : evS g (.for_ t it b) ρ s = match evI g it ρ s with
    | .ok src s1 => forSrc src t (fun ρ s => evSs g b ρ s) ρ s1
    | .ex x s1 => .ex x ρ s1
    | .no => .no := rfl
theorem for_inv {tg : Tg} {b : Env → Sto → SO} {Q : Flow → Sto → Prop} {xs : List D} (I : Nat → Env → Sto → Prop) (h0 : I 0 ρ s)
    (step : ∀ (i : Nat) (x : D) (ρ : Env) (s : Sto), xs[i]? = some x → I i ρ s → ∃ ρ1, asg tg x ρ = some ρ1 ∧ (b ρ1 s).sat fun fl s' => match fl with
      | .next ρ' => I (i + 1) ρ' s'
      | .cont ρ' => I (i + 1) ρ' s'
      | .brk ρ' => Q (.next ρ') s'
      | .ret d => Q (.ret d) s')
    (hend : ∀ ρ s, I xs.length ρ s → Q (.next ρ) s) : (forItems tg b xs ρ s).sat Q := by
  have key : ∀ (ys : List D) (i : Nat) (ρ : Env) (s : Sto), xs.drop i = ys → i ≤ xs.length → I i ρ s → (forItems tg b ys ρ s).sat Q := by
    intro ys
    induction ys with
    | nil =>
      intro i ρ s e hi h
      have : i = xs.length := by have := List.drop_eq_nil_iff.mp e; omega
      subst this
      exact hend ρ s h
    | cons y ys ih =>
      intro i ρ s e hi h
      have hx : xs[i]? = some y := by
        have q : (xs.drop i)[0]? = some y := by rw [e]; rfl
        rwa [List.getElem?_drop, Nat.add_zero] at q
      have hl : i < xs.length := (List.getElem?_eq_some_iff.mp hx).1
      obtain ⟨ρ1, e1, h1⟩ := step i y ρ s hx h
      have e2 : xs.drop (i + 1) = ys := by rw [← List.drop_drop, e]; rfl
      simp only [forItems, e1]
      cases hb : b ρ1 s with
      | fl f s' =>
        rw [hb] at h1
        cases f with
        | next ρ' => exact ih (i + 1) ρ' s' e2 hl h1
        | cont ρ' => exact ih (i + 1) ρ' s' e2 hl h1
        | brk ρ' => exact h1
        | ret d => exact h1
      | _ => rw [hb] at h1; exact h1.elim
  exact key xs 0 ρ s rfl (Nat.zero_le _) h0
/-- a comprehension over items -/
def compItems (b : D → Sto → Out (Option D)) : List D → List D → Sto → Out (List D)
  | [], acc, s => .ok acc.reverse s
  | d :: ds, acc, s => match b d s with
    | .ok none s' => compItems b ds acc s'
    | .ok (some y) s' => if acc.length < sizeLine then compItems b ds (y :: acc) s' else .no
    | _ => .no
def compSrc (src : Src) (b : Nat → D → Sto → Out (Option D)) (s : Sto) : Out (List D) := compLoop src b (src.most s) 0 [] s
theorem comp_items {src : Src} {xs : List D} {b : D → Sto → Out (Option D)} (h : itemsOf src = some xs) : ∀ (k i : Nat) (acc : List D) (s : Sto), xs.length ≤ i + k → i ≤ xs.length → compLoop src (fun _ => b) k i acc s = compItems b (xs.drop i) acc s := by
  intro k
  induction k with
  | zero =>
    intro i acc s h1 h2
    have e : i = xs.length := by omega
    subst e
    unfold compLoop
    rw [at_items h _ (Nat.le_refl _), List.getElem?_eq_none (Nat.le_refl _), List.drop_length]
    rfl
  | succ k ih =>
    intro i acc s h1 h2
    unfold compLoop
    rw [at_items h i h2]
    cases hx : xs[i]? with
    | none =>
      have e := List.getElem?_eq_none_iff.mp hx
      rw [List.drop_eq_nil_of_le e]
      rfl
    | some x =>
      have hi : i < xs.length := (List.getElem?_eq_some_iff.mp hx).1
      have e : xs.drop i = x :: xs.drop (i + 1) := by
        rw [List.drop_eq_getElem_cons hi]
        congr 1
        exact (List.getElem?_eq_some_iff.mp hx).2
      rw [e]
      simp only [trnOf, compItems]
      cases b x s with
      | ok o s' =>
        cases o with
        | none => exact ih (i + 1) acc s' (by omega) hi
        | some y =>
          dsimp only
          split
          · exact ih (i + 1) (y :: acc) s' (by omega) hi
          · rfl
      | _ => rfl
theorem compSrc_items {src : Src} {xs : List D} {b : D → Sto → Out (Option D)} (h : itemsOf src = some xs) : compSrc src (fun _ => b) s = compItems b xs [] s := comp_items h _ 0 [] s (by rw [Nat.zero_add]; exact most_items h) (Nat.zero_le _)
/-- where the body changes nothing -/
theorem compItems_pure {b : D → Sto → Out (Option D)} {f : D → Option D} : ∀ (xs acc : List D), (∀ x ∈ xs, b x s = .ok (f x) s) → acc.length + xs.length ≤ sizeLine → compItems b xs acc s = .ok (acc.reverse ++ xs.filterMap f) s
  | [], acc, _, _ => by simp [compItems]
  | x :: xs, acc, h, hl => by
    have h1 := h x List.mem_cons_self
    have hl' : acc.length + xs.length + 1 ≤ sizeLine := by simpa [Nat.add_assoc] using hl
    simp only [compItems, h1]
    cases hf : f x with
    | none =>
      dsimp only
      rw [compItems_pure xs acc (fun y hy => h y (List.mem_cons_of_mem _ hy)) (by omega)]
      simp [hf]
    | some y =>
      dsimp only
      rw [if_pos (by omega), compItems_pure xs (y :: acc) (fun z hz => h z (List.mem_cons_of_mem _ hz)) (by simp; omega)]
      simp [hf]
theorem evE_comp {m : Bool} {own : List Nat} {tg : Tg} {it : I} {c e : E} : evE g (.comp m own tg it c e) ρ s = (evI g it ρ s).bind fun src s1 =>
    (compSrc src (fun i => compB tg (wipeE ρ own) (fun ρ s => evE g c ρ s) (fun ρ s => evE g e ρ s) i) s1).bind fun ds s2 => mkL m ds s2 := rfl
end
end BS

/-! Ev2: operations on data, told for simp -/
namespace BS
open PySem
section
variable {s : Sto}
/-- not an object of the store, not the script -/
def pl : D → Bool
  | .obj _ | .scr _ | .fn _ => false
  | _ => true
@[simp] theorem pl_non : pl .non = true := rfl
@[simp] theorem pl_bl {b : Bool} : pl (.bl b) = true := rfl
@[simp] theorem pl_int {i : Int} : pl (.int i) = true := rfl
@[simp] theorem pl_str {x : Str} : pl (.str x) = true := rfl
@[simp] theorem pl_tup {ds : List D} : pl (.tup ds) = true := rfl
@[simp] theorem pl_lst {ds : List D} : pl (.lst ds) = true := rfl
def isI : D → Bool | .int _ | .bl _ => true | _ => false
def isB : D → Bool | .bl _ => true | _ => false
def isT : D → Bool | .tup _ => true | _ => false
def isSt_ : D → Bool | .str _ => true | _ => false
def isLs : D → Bool | .lst _ => true | _ => false
theorem ist_int {v : D} (h : pl v = true) : prim s (.ist "int") [v] = some (.bl (isI v)) := by
  have k : istD s "int" v = some (isI v) := by
    cases v <;> first | (cases h; done) | (simp only [istD, isI]; decide +kernel)
  show (istD s "int" v).map D.bl = _
  rw [k]
  rfl
theorem ist_bool {v : D} (h : pl v = true) : prim s (.ist "bool") [v] = some (.bl (isB v)) := by
  have k : istD s "bool" v = some (isB v) := by
    cases v <;> first | (cases h; done) | (simp only [istD, isB]; decide +kernel)
  show (istD s "bool" v).map D.bl = _
  rw [k]
  rfl
theorem ist_tuple {v : D} (h : pl v = true) : prim s (.ist "tuple") [v] = some (.bl (isT v)) := by
  have k : istD s "tuple" v = some (isT v) := by
    cases v <;> first | (cases h; done) | (simp only [istD, isT]; decide +kernel)
  show (istD s "tuple" v).map D.bl = _
  rw [k]
  rfl
theorem ist_str {v : D} (h : pl v = true) : prim s (.ist "str") [v] = some (.bl (isSt_ v)) := by
  have k : istD s "str" v = some (isSt_ v) := by
    cases v <;> first | (cases h; done) | (simp only [istD, isSt_]; decide +kernel)
  show (istD s "str" v).map D.bl = _
  rw [k]
  rfl
@[simp] theorem ist_int_non : prim s (.ist "int") [.non] = some (.bl false) := ist_int rfl
@[simp] theorem ist_int_bl {b : Bool} : prim s (.ist "int") [.bl b] = some (.bl true) := ist_int rfl
@[simp] theorem ist_int_int {b : Int} : prim s (.ist "int") [.int b] = some (.bl true) := ist_int rfl
@[simp] theorem ist_int_str {b : Str} : prim s (.ist "int") [.str b] = some (.bl false) := ist_int rfl
@[simp] theorem ist_int_tup {b : List D} : prim s (.ist "int") [.tup b] = some (.bl false) := ist_int rfl
@[simp] theorem ist_int_lst {b : List D} : prim s (.ist "int") [.lst b] = some (.bl false) := ist_int rfl
@[simp] theorem ist_bool_non : prim s (.ist "bool") [.non] = some (.bl false) := ist_bool rfl
@[simp] theorem ist_bool_bl {b : Bool} : prim s (.ist "bool") [.bl b] = some (.bl true) := ist_bool rfl
@[simp] theorem ist_bool_int {b : Int} : prim s (.ist "bool") [.int b] = some (.bl false) := ist_bool rfl
@[simp] theorem ist_bool_str {b : Str} : prim s (.ist "bool") [.str b] = some (.bl false) := ist_bool rfl
@[simp] theorem ist_bool_tup {b : List D} : prim s (.ist "bool") [.tup b] = some (.bl false) := ist_bool rfl
@[simp] theorem ist_bool_lst {b : List D} : prim s (.ist "bool") [.lst b] = some (.bl false) := ist_bool rfl
@[simp] theorem ist_tuple_non : prim s (.ist "tuple") [.non] = some (.bl false) := ist_tuple rfl
@[simp] theorem ist_tuple_bl {b : Bool} : prim s (.ist "tuple") [.bl b] = some (.bl false) := ist_tuple rfl
@[simp] theorem ist_tuple_int {b : Int} : prim s (.ist "tuple") [.int b] = some (.bl false) := ist_tuple rfl
@[simp] theorem ist_tuple_str {b : Str} : prim s (.ist "tuple") [.str b] = some (.bl false) := ist_tuple rfl
@[simp] theorem ist_tuple_tup {b : List D} : prim s (.ist "tuple") [.tup b] = some (.bl true) := ist_tuple rfl
@[simp] theorem ist_tuple_lst {b : List D} : prim s (.ist "tuple") [.lst b] = some (.bl false) := ist_tuple rfl
@[simp] theorem ist_str_non : prim s (.ist "str") [.non] = some (.bl false) := ist_str rfl
@[simp] theorem ist_str_bl {b : Bool} : prim s (.ist "str") [.bl b] = some (.bl false) := ist_str rfl
@[simp] theorem ist_str_int {b : Int} : prim s (.ist "str") [.int b] = some (.bl false) := ist_str rfl
@[simp] theorem ist_str_str {b : Str} : prim s (.ist "str") [.str b] = some (.bl true) := ist_str rfl
@[simp] theorem ist_str_tup {b : List D} : prim s (.ist "str") [.tup b] = some (.bl false) := ist_str rfl
@[simp] theorem ist_str_lst {b : List D} : prim s (.ist "str") [.lst b] = some (.bl false) := ist_str rfl
@[simp] theorem p_add_int {a b : Int} : prim s .add [.int a, .int b] = some (.int (a + b)) := rfl
@[simp] theorem p_add_tup {a b : List D} : prim s .add [.tup a, .tup b] = if a.length + b.length ≤ sizeLine then some (.tup (a ++ b)) else none := rfl
@[simp] theorem p_sub_int {a b : Int} : prim s .sub [.int a, .int b] = some (.int (a - b)) := rfl
@[simp] theorem p_neg_int {a : Int} : prim s .neg [.int a] = some (.int (-a)) := rfl
@[simp] theorem p_abs_int {a : Int} : prim s .abs [.int a] = some (.int (if a < 0 then -a else a)) := rfl
@[simp] theorem p_toInt_int {a : Int} : prim s .toInt [.int a] = some (.int a) := rfl
@[simp] theorem p_toInt_bl {a : Bool} : prim s .toInt [.bl a] = some (.int (if a = true then 1 else 0)) := rfl
theorem p_mul_int {a b : Int} (h : mulOk a b = true) : prim s .mul [.int a, .int b] = some (.int (a * b)) := by
  show mulD s (.int a) (.int b) = _
  simp only [mulD]
  rw [if_pos h]
theorem p_mod_int {a b : Int} (h : 0 < b) : prim s .mod [.int a, .int b] = some (.int (a % b)) := by
  show (if 0 < b then some (a % b) else none).map D.int = _
  rw [if_pos h]
  rfl
theorem p_div_int {a b : Int} (h : 0 < b) (h2 : b.natAbs.log2 < 9000) : prim s .fdiv [.int a, .int b] = some (.int (a / b)) := by
  show (if (decide (0 < b) && decide (b.natAbs.log2 < 9000)) = true then some (a / b) else none).map D.int = _
  rw [if_pos (by simp [h, h2])]
  rfl
@[simp] theorem p_le_int {a b : Int} : prim s .le [.int a, .int b] = some (.bl (decide (a ≤ b))) := rfl
@[simp] theorem p_lt_int {a b : Int} : prim s .lt [.int a, .int b] = some (.bl (decide (a < b))) := rfl
@[simp] theorem p_gt_int {a b : Int} : prim s .gt [.int a, .int b] = some (.bl (decide (b < a))) := rfl
@[simp] theorem p_ge_int {a b : Int} : prim s .ge [.int a, .int b] = some (.bl (decide (b ≤ a))) := rfl
@[simp] theorem p_eq {x y : D} : prim s .eq [x, y] = (eqv s x y).map .bl := rfl
@[simp] theorem p_ne {x y : D} : prim s .ne [x, y] = (eqv s x y).map fun b => .bl (!b) := rfl
@[simp] theorem p_isin {x y : D} : prim s .isin [x, y] = (inD s x y).map .bl := rfl
@[simp] theorem p_notin {x y : D} : prim s .notin [x, y] = (inD s x y).map fun b => .bl (!b) := rfl
@[simp] theorem p_isN {x : D} : prim s .isN [x] = some (.bl (match x with | .non => true | _ => false)) := rfl
@[simp] theorem p_notN {x : D} : prim s .notN [x] = some (.bl (match x with | .non => false | _ => true)) := rfl
@[simp] theorem p_len_tup {ds : List D} : prim s .len [.tup ds] = some (.int ds.length) := rfl
@[simp] theorem p_len_lst {ds : List D} : prim s .len [.lst ds] = some (.int ds.length) := rfl
@[simp] theorem p_len_scr {ns : List Int} : prim s .len [.scr ns] = some (.int ns.length) := rfl
@[simp] theorem p_ix_tup {ds : List D} {i : Int} : prim s .ix [.tup ds, .int i] = L2.atI ds i := rfl
@[simp] theorem p_ix_lst {ds : List D} {i : Int} : prim s .ix [.lst ds, .int i] = L2.atI ds i := rfl
@[simp] theorem p_ix_scr {ns : List Int} {i : Int} : prim s .ix [.scr ns, .int i] = (L2.atI ns i).map .int := rfl
@[simp] theorem p_min {a b : Int} : prim s .min2 [.int a, .int b] = some (.int (if b < a then b else a)) := rfl
@[simp] theorem p_max {a b : Int} : prim s .max2 [.int a, .int b] = some (.int (if b > a then b else a)) := rfl
@[simp] theorem p_toTup_lst {ds : List D} : prim s .toTup [.lst ds] = some (.tup ds) := rfl
@[simp] theorem p_toTup_tup {ds : List D} : prim s .toTup [.tup ds] = some (.tup ds) := rfl
@[simp] theorem truD_bl {b : Bool} : truD s (.bl b) = some b := rfl
@[simp] theorem mkL_false {ds : List D} : mkL false ds s = .ok (.lst ds) s := rfl
@[simp] theorem litd_int {i : Int} : (Lit.int i).d = .int i := rfl
@[simp] theorem litd_str {i : Str} : (Lit.str i).d = .str i := rfl
@[simp] theorem litd_bl {i : Bool} : (Lit.bl i).d = .bl i := rfl
@[simp] theorem litd_non : (Lit.non).d = .non := rfl
theorem atI_nat {α : Type} {xs : List α} (k : Nat) : L2.atI xs (k : Int) = xs[k]? := by
  unfold L2.atI L2.ixN
  rw [if_pos (Int.natCast_nonneg k)]
  by_cases h : k < xs.length
  · rw [if_pos (by omega)]; rfl
  · rw [if_neg (by omega), List.getElem?_eq_none (by omega)]; rfl
@[simp] theorem atI_0 {α : Type} {xs : List α} : L2.atI xs 0 = xs[0]? := atI_nat 0
@[simp] theorem atI_1 {α : Type} {xs : List α} : L2.atI xs 1 = xs[1]? := atI_nat 1
@[simp] theorem atI_2 {α : Type} {xs : List α} : L2.atI xs 2 = xs[2]? := atI_nat 2
@[simp] theorem atI_3 {α : Type} {xs : List α} : L2.atI xs 3 = xs[3]? := atI_nat 3
@[simp] theorem and_bl {p q : Bool} : ifB p (Out.ok (D.bl q) s) (.ok (.bl p) s) = .ok (.bl (p && q)) s := by cases p <;> rfl
@[simp] theorem and_bl2 {p q : Bool} : ifB p (Out.ok (D.bl q) s) (.ok (.bl false) s) = .ok (.bl (p && q)) s := by cases p <;> rfl
@[simp] theorem or_bl {p q : Bool} : ifB p (Out.ok (D.bl p) s) (.ok (.bl q) s) = .ok (.bl (p || q)) s := by cases p <;> rfl
@[simp] theorem or_bl2 {p q : Bool} : ifB p (Out.ok (D.bl true) s) (.ok (.bl q) s) = .ok (.bl (p || q)) s := by cases p <;> rfl
@[simp] theorem asg_v {i : Nat} {d : D} {ρ : Env} : asg (.v i) d ρ = some (ρ.set i (some d)) := rfl
@[simp] theorem asg_t {ts : List Tg} {ds : List D} {ρ : Env} : asg (.tup ts) (.tup ds) ρ = asgs ts ds ρ := rfl
@[simp] theorem asgs_nil {ρ : Env} : asgs [] [] ρ = some ρ := rfl
@[simp] theorem asgs_cons {i : Nat} {ts : List Tg} {d : D} {ds : List D} {ρ : Env} : asgs (.v i :: ts) (d :: ds) ρ = asgs ts ds (ρ.set i (some d)) := rfl
end
end BS

/-! Ev3: well-made data; comprehensions -/
namespace BS
open PySem
def okD (L : Nat) : Nat → D → Bool
  | 0 => fun d => match d with
    | .non => true
    | .bl _ => true
    | .int _ => true
    | .str x => PyData.strOk x
    | _ => false
  | k + 1 => fun d => match d with
    | .non => true
    | .bl _ => true
    | .int _ => true
    | .str x => PyData.strOk x
    | .tup ds => decide (ds.length ≤ L) && ds.all (okD L k)
    | .lst ds => decide (ds.length ≤ L) && ds.all (okD L k)
    | _ => false
theorem okD_pl {L k : Nat} {d : D} (h : okD L k d = true) : pl d = true := by
  cases k <;> cases d <;> first | rfl | (simp [okD] at h)
theorem okD_succ {L : Nat} : ∀ {k : Nat} {d : D}, okD L k d = true → okD L (k + 1) d = true
  | 0, d, h => by cases d <;> first | rfl | exact h | (simp [okD] at h)
  | k + 1, d, h => by
    cases d with
    | tup ds =>
      simp only [okD, Bool.and_eq_true, List.all_eq_true] at h ⊢
      exact ⟨h.1, fun x hx => okD_succ (h.2 x hx)⟩
    | lst ds =>
      simp only [okD, Bool.and_eq_true, List.all_eq_true] at h ⊢
      exact ⟨h.1, fun x hx => okD_succ (h.2 x hx)⟩
    | _ => first | rfl | exact h | (simp [okD] at h)
theorem okD_le {L k j : Nat} {d : D} (h : okD L k d = true) (hk : k ≤ j) : okD L j d = true := by
  induction hk with
  | refl => exact h
  | step _ ih => exact okD_succ ih
theorem okD_L {L L' : Nat} (hL : L ≤ L') : ∀ {k : Nat} {d : D}, okD L k d = true → okD L' k d = true
  | 0, d, h => by cases d <;> first | rfl | exact h | (simp [okD] at h)
  | k + 1, d, h => by
    cases d with
    | tup ds =>
      simp only [okD, Bool.and_eq_true, List.all_eq_true, decide_eq_true_eq] at h ⊢
      exact ⟨Nat.le_trans h.1 hL, fun x hx => okD_L hL (h.2 x hx)⟩
    | lst ds =>
      simp only [okD, Bool.and_eq_true, List.all_eq_true, decide_eq_true_eq] at h ⊢
      exact ⟨Nat.le_trans h.1 hL, fun x hx => okD_L hL (h.2 x hx)⟩
    | _ => first | rfl | exact h | (simp [okD] at h)
theorem okD_tup {L k : Nat} {ds : List D} (h : okD L k (.tup ds) = true) : ds.length ≤ L ∧ ∀ x ∈ ds, okD L (k - 1) x = true := by
  cases k with
  | zero => simp [okD] at h
  | succ k =>
    simp only [okD, Bool.and_eq_true, List.all_eq_true, decide_eq_true_eq] at h
    exact h
theorem okD_tupI {L k : Nat} {ds : List D} (h1 : ds.length ≤ L) (h2 : ∀ x ∈ ds, okD L k x = true) : okD L (k + 1) (.tup ds) = true := by
  simp only [okD, Bool.and_eq_true, List.all_eq_true, decide_eq_true_eq]
  exact ⟨h1, h2⟩
theorem okD_lstI {L k : Nat} {ds : List D} (h1 : ds.length ≤ L) (h2 : ∀ x ∈ ds, okD L k x = true) : okD L (k + 1) (.lst ds) = true := by
  simp only [okD, Bool.and_eq_true, List.all_eq_true, decide_eq_true_eq]
  exact ⟨h1, h2⟩
theorem pysOk {k : Nat} {ds : List D} (h : ∀ x ∈ ds, ∃ p, pyD x = some p ∧ p.canLay0 = true ∧ p.depth ≤ k) : ∃ ps, pyDs ds = some ps ∧ PyData.canLayAll0 ps = true ∧ PyData.depthAll ps ≤ k ∧ ps.length = ds.length := by
  induction ds with
  | nil => exact ⟨[], rfl, rfl, Nat.zero_le _, rfl⟩
  | cons d ds ih =>
    obtain ⟨p, h1, h2, h3⟩ := h d List.mem_cons_self
    obtain ⟨ps, h4, h5, h6, h7⟩ := ih fun x hx => h x (List.mem_cons_of_mem _ hx)
    refine ⟨p :: ps, by simp only [pyDs, h1, h4], by simp only [PyData.canLayAll0, h2, h5]; rfl, ?_, by simp [h7]⟩
    simp only [PyData.depthAll]
    omega
theorem okD_py {L : Nat} : ∀ {k : Nat} {d : D}, okD L k d = true → ∃ p, pyD d = some p ∧ p.canLay0 = true ∧ p.depth ≤ k
  | 0, d, h => by
    cases d with
    | non => exact ⟨_, rfl, rfl, Nat.zero_le _⟩
    | bl b => exact ⟨_, rfl, rfl, Nat.zero_le _⟩
    | int i => exact ⟨_, rfl, rfl, Nat.zero_le _⟩
    | str x => exact ⟨_, rfl, h, Nat.zero_le _⟩
    | _ => simp [okD] at h
  | k + 1, d, h => by
    cases d with
    | non => exact ⟨_, rfl, rfl, Nat.zero_le _⟩
    | bl b => exact ⟨_, rfl, rfl, Nat.zero_le _⟩
    | int i => exact ⟨_, rfl, rfl, Nat.zero_le _⟩
    | str x => exact ⟨_, rfl, h, Nat.zero_le _⟩
    | tup ds =>
      simp only [okD, Bool.and_eq_true, List.all_eq_true] at h
      obtain ⟨ps, h1, h2, h3, _⟩ := pysOk fun x hx => okD_py (h.2 x hx)
      exact ⟨.tuple ps, by simp only [pyD, h1]; rfl, h2, by simp only [PyData.depth]; omega⟩
    | lst ds =>
      simp only [okD, Bool.and_eq_true, List.all_eq_true] at h
      obtain ⟨ps, h1, h2, h3, _⟩ := pysOk fun x hx => okD_py (h.2 x hx)
      exact ⟨.list ps, by simp only [pyD, h1]; rfl, h2, by simp only [PyData.depth]; omega⟩
    | _ => simp [okD] at h
theorem okD_shp {L k : Nat} {d : D} (h : okD L k d = true) (hk : k ≤ 64) : ∃ p, pyD d = some p ∧ shp d = some p := by
  obtain ⟨p, h1, h2, h3⟩ := okD_py h
  refine ⟨p, h1, ?_⟩
  unfold shp
  rw [h1]
  have : SeqAt.shaped p = true := by
    unfold SeqAt.shaped
    rw [h2]
    simp; omega
  simp [this]
theorem und_pl {s : Sto} {d : D} (h : pl d = true) : und s d = d := by cases d <;> first | rfl | cases h
theorem eqvOk {s : Sto} {L k : Nat} {x y : D} {p q : PyData} (hx : okD L k x = true) (hy : okD L k y = true) (hk : k ≤ 64) (ep : pyD x = some p) (eq : pyD y = some q) : eqv s x y = some (PyData.eqv p q) := by
  obtain ⟨p', e1, e2⟩ := okD_shp hx hk
  obtain ⟨q', e3, e4⟩ := okD_shp hy hk
  rw [ep] at e1; cases e1
  rw [eq] at e3; cases e3
  unfold eqv
  rw [und_pl (okD_pl hx), und_pl (okD_pl hy), e2, e4]
@[simp] theorem eqv_int {s : Sto} {a b : Int} : eqv s (.int a) (.int b) = some (a == b) := rfl
@[simp] theorem eqv_bl {s : Sto} {a b : Bool} : eqv s (.bl a) (.bl b) = some (a == b) := rfl
theorem eqv_str {s : Sto} {a b : Str} (ha : PyData.strOk a = true) (hb : PyData.strOk b = true) : eqv s (.str a) (.str b) = some (a == b) :=
  eqvOk (L := 0) (k := 0) (x := .str a) (y := .str b) ha hb (by decide) rfl rfl
/-- against the empty list, the empty tuple -/
theorem eqv_nilL {s : Sto} {L k : Nat} {ds : List D} (h : okD L k (.lst ds) = true) (hk : k ≤ 64) : eqv s (.lst ds) (.lst []) = some ds.isEmpty := by
  obtain ⟨p, e1, _⟩ := okD_shp h hk
  have hn : okD L k (.lst []) = true := by cases k with | zero => simp [okD] at h | succ k => exact okD_lstI (Nat.zero_le _) fun _ z => nomatch z
  rw [eqvOk h hn hk e1 rfl]
  cases ds with
  | nil => cases e1; rfl
  | cons d ds =>
    simp only [pyD, pyDs] at e1
    split at e1
    · cases e1; rfl
    · cases e1
theorem eqv_nilT {s : Sto} {L k : Nat} {ds : List D} (h : okD L k (.tup ds) = true) (hk : k ≤ 64) : eqv s (.tup ds) (.tup []) = some ds.isEmpty := by
  obtain ⟨p, e1, _⟩ := okD_shp h hk
  have hn : okD L k (.tup []) = true := by cases k with | zero => simp [okD] at h | succ k => exact okD_tupI (Nat.zero_le _) fun _ z => nomatch z
  rw [eqvOk h hn hk e1 rfl]
  cases ds with
  | nil => cases e1; rfl
  | cons d ds =>
    simp only [pyD, pyDs] at e1
    split at e1
    · cases e1; rfl
    · cases e1
theorem eqv_any {ds : List D} {f : D → PyData} {p : PyData} : (ds.map f).any (fun z => PyData.eqv z p) = ds.any fun d => PyData.eqv (f d) p := by
  rw [List.any_map]; rfl
/-- a word among words -/
theorem in_strs {s : Sto} {x : Str} {ws : List Str} (hx : PyData.strOk x = true) (hw : ws.all PyData.strOk = true) : inD s (.str x) (.tup (ws.map D.str)) = some (ws.any (· == x)) := by
  unfold inD
  obtain ⟨p, e1, e2⟩ := okD_shp (L := 0) (k := 0) (d := .str x) hx (by decide)
  cases e1
  have e3 : pyDs (ws.map D.str) = some (ws.map PyData.str) := by
    clear hw
    induction ws with
    | nil => rfl
    | cons w ws ih => simp only [List.map, pyDs, pyD, ih]
  have e4 : SeqAt.shaped (.list (ws.map PyData.str)) = true := by
    have h0 : okD ws.length 1 (.lst (ws.map D.str)) = true := okD_lstI (by simp) fun d hd => by
      obtain ⟨w, h1, rfl⟩ := List.mem_map.mp hd
      exact List.all_eq_true.mp hw w h1
    obtain ⟨q, h1, h2⟩ := okD_shp h0 (by decide)
    simp only [pyD, e3, Option.map] at h1
    cases h1
    unfold shp at h2
    simp only [pyD, e3, Option.map] at h2
    split at h2
    · assumption
    · cases h2
  simp only [und, e2, vS, e3, e4, if_true]
  congr 1
  rw [List.any_map]
  rfl
/-- a number among numbers -/
theorem in_ints {s : Sto} {x : Int} {ns : List Int} : inD s (.int x) (.tup (ns.map D.int)) = some (ns.any (· == x)) := by
  unfold inD
  have e3 : pyDs (ns.map D.int) = some (ns.map PyData.int) := by
    induction ns with
    | nil => rfl
    | cons w ws ih => simp only [List.map, pyDs, pyD, ih]
  have e4 : SeqAt.shaped (.list (ns.map PyData.int)) = true := by
    have h0 : okD ns.length 1 (.lst (ns.map D.int)) = true := okD_lstI (by simp) fun d hd => by
      obtain ⟨w, h1, rfl⟩ := List.mem_map.mp hd
      rfl
    obtain ⟨q, h1, h2⟩ := okD_shp h0 (by decide)
    simp only [pyD, e3, Option.map] at h1
    cases h1
    unfold shp at h2
    simp only [pyD, e3, Option.map] at h2
    split at h2
    · assumption
    · cases h2
  have e2 : shp (.int x) = some (.int x) := rfl
  simp only [und, e2, vS, e3, e4, if_true]
  congr 1
  rw [List.any_map]
  rfl
/-! comprehensions -/
section
variable {g : G} {ρ : Env} {s : Sto}
/-- what an iterable gives -/
def Gives (g : G) (it : I) (ρ : Env) (s : Sto) (xs : List D) : Prop := ∃ src, evI g it ρ s = .ok src s ∧ itemsOf src = some xs
theorem gv_tup {a : E} {xs : List D} (h : evE g a ρ s = .ok (.tup xs) s) : Gives g (.e a) ρ s xs := ⟨.seq (.tup xs), by rw [evI_e, h]; rfl, rfl⟩
theorem gv_lst {a : E} {xs : List D} (h : evE g a ρ s = .ok (.lst xs) s) : Gives g (.e a) ρ s xs := ⟨.seq (.lst xs), by rw [evI_e, h]; rfl, rfl⟩
theorem rng_fits {k : Nat} (hk : k ≤ 16777216) : rngOk (k : Int) = true := by
  unfold rngOk
  rw [Int.natAbs_natCast]
  exact Nat.ble_eq_true_of_le (Nat.le_trans (Nat.succ_le_succ hk) (by decide))
theorem gv_r1 {a : E} {k : Nat} (h : evE g a ρ s = .ok (.int (k : Int)) s) (hk : k ≤ 16777216) : Gives g (.r1 a) ρ s ((List.range k).map fun i => D.int (i : Nat)) := by
  refine ⟨.rng 0 k, ?_, ?_⟩
  · rw [evI_r1, h]
    simp only [bind_ok]
    rw [if_pos (rng_fits hk), Int.toNat_natCast]
  · simp [itemsOf]
def seqD (k : Bool) (xs : List D) : D := if k = true then .lst xs else .tup xs
theorem gv_zip {a b : E} {xs ys : List D} {k l : Bool} (h1 : evE g a ρ s = .ok (seqD k xs) s) (h2 : evE g b ρ s = .ok (seqD l ys) s) : Gives g (.zip a b) ρ s (List.zipWith (fun x y => D.tup [x, y]) xs ys) := by
  refine ⟨.zip (seqD k xs) (seqD l ys), ?_, ?_⟩
  · rw [evI_zip, h1]
    simp only [bind_ok, h2]
    cases k <;> cases l <;> rfl
  · cases k <;> cases l <;> rfl
theorem gv_enum {a : E} {xs : List D} {k : Bool} (h : evE g a ρ s = .ok (seqD k xs) s) : Gives g (.enum a) ρ s (enumD 0 xs) := by
  refine ⟨.enum (seqD k xs), ?_, ?_⟩
  · rw [evI_enum, h]
    cases k <;> rfl
  · cases k <;> rfl
theorem comp_pure {m : Bool} {own : List Nat} {tg : Tg} {it : I} {c e : E} {xs : List D} {f : D → Option D} (hI : Gives g it ρ s xs) (hl : xs.length ≤ sizeLine)
    (hb : ∀ x ∈ xs, ∃ ρ1, asg tg x (wipeE ρ own) = some ρ1 ∧ ((evE g c ρ1 s).bind fun b s' => match truD s' b with
      | some true => (evE g e ρ1 s').bind fun y s'' => .ok (some y) s''
      | some false => .ok none s'
      | none => .no) = .ok (f x) s) : evE g (.comp m own tg it c e) ρ s = mkL m (xs.filterMap f) s := by
  obtain ⟨src, h1, h2⟩ := hI
  rw [evE_comp, h1]
  simp only [bind_ok]
  have e : (fun (i : Nat) => compB tg (wipeE ρ own) (fun ρ s => evE g c ρ s) (fun ρ s => evE g e ρ s) i) = fun (_ : Nat) => compB tg (wipeE ρ own) (fun ρ s => evE g c ρ s) (fun ρ s => evE g e ρ s) 0 := rfl
  rw [e, compSrc_items h2, compItems_pure (f := f) xs [] (fun x hx => ?_) (by simpa using hl)]
  · rfl
  · obtain ⟨ρ1, a1, a2⟩ := hb x hx
    unfold compB
    rw [a1]
    exact a2
theorem comp_map {m : Bool} {own : List Nat} {tg : Tg} {it : I} {e : E} {xs : List D} (f : D → D) (hI : Gives g it ρ s xs) (hl : xs.length ≤ sizeLine)
    (hb : ∀ x ∈ xs, ∃ ρ1, asg tg x (wipeE ρ own) = some ρ1 ∧ evE g e ρ1 s = .ok (f x) s) : evE g (.comp m own tg it (.lit (.bl true)) e) ρ s = mkL m (xs.map f) s := by
  rw [comp_pure (f := fun x => some (f x)) hI hl fun x hx => ?_]
  · congr 1
    induction xs with
    | nil => rfl
    | cons x xs ih => simp
  · obtain ⟨ρ1, a1, a2⟩ := hb x hx
    exact ⟨ρ1, a1, by simp [a2]⟩
theorem comp_filter {m : Bool} {own : List Nat} {tg : Tg} {it : I} {c e : E} {xs : List D} (p : D → Bool) (f : D → D) (hI : Gives g it ρ s xs) (hl : xs.length ≤ sizeLine)
    (hb : ∀ x ∈ xs, ∃ ρ1, asg tg x (wipeE ρ own) = some ρ1 ∧ evE g c ρ1 s = .ok (.bl (p x)) s ∧ (p x = true → evE g e ρ1 s = .ok (f x) s)) : evE g (.comp m own tg it c e) ρ s = mkL m ((xs.filter p).map f) s := by
  rw [comp_pure (f := fun x => if p x = true then some (f x) else none) hI hl fun x hx => ?_]
  · congr 1
    clear hb hI hl
    induction xs with
    | nil => rfl
    | cons x xs ih => by_cases h : p x = true <;> simp [h, ih]
  · obtain ⟨ρ1, a1, a2, a3⟩ := hb x hx
    refine ⟨ρ1, a1, ?_⟩
    rw [a2]
    cases hp : p x with
    | true => simp [a3 hp]
    | false => simp
theorem all_map {xs : List D} {p : D → Bool} : prim s .all [.lst (xs.map fun x => D.bl (p x))] = some (.bl (xs.all p)) := by
  have e0 : ∀ zs : List D, prim s .all [.lst zs] = (boolsD zs).map fun bs => D.bl (bs.all id) := fun _ => rfl
  rw [e0]
  have : boolsD (xs.map fun x => D.bl (p x)) = some (xs.map p) := by
    induction xs with
    | nil => rfl
    | cons x xs ih => simp only [List.map, boolsD, ih]; rfl
  rw [this]
  simp
theorem any_map {xs : List D} {p : D → Bool} : prim s .any [.lst (xs.map fun x => D.bl (p x))] = some (.bl (xs.any p)) := by
  have e0 : ∀ zs : List D, prim s .any [.lst zs] = (boolsD zs).map fun bs => D.bl (bs.any id) := fun _ => rfl
  rw [e0]
  have : boolsD (xs.map fun x => D.bl (p x)) = some (xs.map p) := by
    induction xs with
    | nil => rfl
    | cons x xs ih => simp only [List.map, boolsD, ih]; rfl
  rw [this]
  simp
theorem sum_ints {ns : List Int} : prim s .sum [.lst (ns.map D.int)] = some (.int ns.sum) := by
  have e0 : ∀ zs : List D, prim s .sum [.lst zs] = (intsD zs).map fun ms => D.int ms.sum := fun _ => rfl
  rw [e0]
  have : intsD (ns.map D.int) = some ns := by
    induction ns with
    | nil => rfl
    | cons x xs ih => simp only [List.map, intsD, ih]; rfl
  rw [this]
  rfl
/-- kept from simp's own ways with lists -/
def mapBl (p : D → Bool) (xs : List D) : List D := xs.map fun x => D.bl (p x)
def allB (p : D → Bool) (xs : List D) : Bool := xs.all p
def anyB (p : D → Bool) (xs : List D) : Bool := xs.any p
def pairs (xs ys : List D) : List D := List.zipWith (fun x y => D.tup [x, y]) xs ys
theorem allB_iff {p : D → Bool} {xs : List D} : allB p xs = true ↔ ∀ x ∈ xs, p x = true := List.all_eq_true
theorem allB_false {p : D → Bool} {xs : List D} : allB p xs = false ↔ ∃ x ∈ xs, p x = false := by
  unfold allB; simp
@[simp] theorem allB_nil {p : D → Bool} : allB p [] = true := rfl
theorem allB_cons {p : D → Bool} {x : D} {xs : List D} : allB p (x :: xs) = (p x && allB p xs) := rfl
@[simp] theorem all_bl {p : D → Bool} {xs : List D} : prim s .all [.lst (mapBl p xs)] = some (.bl (allB p xs)) := all_map
@[simp] theorem any_bl {p : D → Bool} {xs : List D} : prim s .any [.lst (mapBl p xs)] = some (.bl (anyB p xs)) := any_map
theorem comp_bl {m : Bool} {own : List Nat} {tg : Tg} {it : I} {e : E} {xs : List D} (p : D → Bool) (hI : Gives g it ρ s xs) (hl : xs.length ≤ sizeLine)
    (hb : ∀ x ∈ xs, ∃ ρ1, asg tg x (wipeE ρ own) = some ρ1 ∧ evE g e ρ1 s = .ok (.bl (p x)) s) : evE g (.comp m own tg it (.lit (.bl true)) e) ρ s = mkL m (mapBl p xs) s := comp_map _ hI hl hb
theorem mem_pairs {x : D} : ∀ {as bs : List D}, x ∈ pairs as bs → ∃ a b, x = .tup [a, b] ∧ a ∈ as ∧ b ∈ bs
  | a :: as, b :: bs, h => by
    have h : x ∈ D.tup [a, b] :: pairs as bs := h
    rcases List.mem_cons.mp h with rfl | h
    · exact ⟨a, b, rfl, List.mem_cons_self, List.mem_cons_self⟩
    · obtain ⟨c, d, e, h1, h2⟩ := mem_pairs h
      exact ⟨c, d, e, List.mem_cons_of_mem _ h1, List.mem_cons_of_mem _ h2⟩
  | [], _, h => nomatch h
  | _ :: _, [], h => nomatch h
theorem pairs_len {as bs : List D} : (pairs as bs).length ≤ as.length := by unfold pairs; rw [List.length_zipWith]; omega
theorem gv_pairs {a b : E} {xs ys : List D} (k l : Bool) (h1 : evE g a ρ s = .ok (seqD k xs) s) (h2 : evE g b ρ s = .ok (seqD l ys) s) : Gives g (.zip a b) ρ s (pairs xs ys) := gv_zip h1 h2
theorem cut_from {xs : List D} (m : Nat) : cutD xs (some (m : Int)) none = xs.drop m := by
  unfold cutD
  rw [HT.sIx_nat, HT.sIx_none]
  by_cases h : m ≤ xs.length
  · rw [Nat.min_eq_left h, List.take_of_length_le (by simp)]
  · rw [Nat.min_eq_right (by omega), List.drop_eq_nil_of_le (Nat.le_refl _), List.drop_eq_nil_of_le (by omega)]
    simp
theorem cut_to {xs : List D} (m : Nat) : cutD xs none (some (m : Int)) = xs.take m := by
  unfold cutD
  rw [HT.sIx_nat, HT.sIx_none]
  by_cases h : m ≤ xs.length
  · rw [Nat.min_eq_left h]; simp
  · rw [Nat.min_eq_right (by omega), List.take_of_length_le (by simp), List.take_of_length_le (by omega)]; simp
/-! the same over typed things -/
section
variable {α : Type}
theorem compItems_T {b : D → Sto → Out (Option D)} {f : α → Option D} {enc : α → D} : ∀ (ts : List α) (acc : List D), (∀ t ∈ ts, b (enc t) s = .ok (f t) s) → acc.length + ts.length ≤ sizeLine → compItems b (ts.map enc) acc s = .ok (acc.reverse ++ ts.filterMap f) s
  | [], acc, _, _ => by simp [compItems]
  | x :: xs, acc, h, hl => by
    have h1 := h x List.mem_cons_self
    have hl' : acc.length + xs.length + 1 ≤ sizeLine := by simpa [Nat.add_assoc] using hl
    simp only [List.map, compItems, h1]
    cases hf : f x with
    | none =>
      dsimp only
      rw [compItems_T xs acc (fun y hy => h y (List.mem_cons_of_mem _ hy)) (by omega)]
      simp [hf]
    | some y =>
      dsimp only
      rw [if_pos (by omega), compItems_T xs (y :: acc) (fun z hz => h z (List.mem_cons_of_mem _ hz)) (by simp; omega)]
      simp [hf]
def mapT (f : α → D) (ts : List α) : List D := ts.map f
def allT (p : α → Bool) (ts : List α) : Bool := ts.all p
def mapBlT (p : α → Bool) (ts : List α) : List D := ts.map fun t => D.bl (p t)
theorem comp_T {m : Bool} {own : List Nat} {tg : Tg} {it : I} {e : E} {ts : List α} (enc : α → D) (f : α → D) (hI : Gives g it ρ s (mapT enc ts)) (hl : ts.length ≤ sizeLine)
    (hb : ∀ t ∈ ts, ∃ ρ1, asg tg (enc t) (wipeE ρ own) = some ρ1 ∧ evE g e ρ1 s = .ok (f t) s) : evE g (.comp m own tg it (.lit (.bl true)) e) ρ s = mkL m (mapT f ts) s := by
  obtain ⟨src, h1, h2⟩ := hI
  rw [evE_comp, h1]
  simp only [bind_ok]
  have e0 : (fun (i : Nat) => compB tg (wipeE ρ own) (fun ρ s => evE g (.lit (.bl true)) ρ s) (fun ρ s => evE g e ρ s) i) = fun (_ : Nat) => compB tg (wipeE ρ own) (fun ρ s => evE g (.lit (.bl true)) ρ s) (fun ρ s => evE g e ρ s) 0 := rfl
  rw [e0, compSrc_items h2]
  unfold mapT
  rw [compItems_T (f := fun t => some (f t)) ts [] (fun t ht => ?_) (by simpa using hl)]
  · simp
  · obtain ⟨ρ1, a1, a2⟩ := hb t ht
    unfold compB
    rw [a1]
    simp [a2]
theorem comp_blT {m : Bool} {own : List Nat} {tg : Tg} {it : I} {e : E} {ts : List α} (enc : α → D) (p : α → Bool) (hI : Gives g it ρ s (mapT enc ts)) (hl : ts.length ≤ sizeLine)
    (hb : ∀ t ∈ ts, ∃ ρ1, asg tg (enc t) (wipeE ρ own) = some ρ1 ∧ evE g e ρ1 s = .ok (.bl (p t)) s) : evE g (.comp m own tg it (.lit (.bl true)) e) ρ s = mkL m (mapBlT p ts) s := comp_T enc _ hI hl hb
@[simp] theorem all_blT {p : α → Bool} {ts : List α} : prim s .all [.lst (mapBlT p ts)] = some (.bl (allT p ts)) := by
  have e0 : ∀ zs : List D, prim s .all [.lst zs] = (boolsD zs).map fun bs => D.bl (bs.all id) := fun _ => rfl
  rw [e0]
  have : boolsD (mapBlT p ts) = some (ts.map p) := by
    unfold mapBlT
    induction ts with
    | nil => rfl
    | cons x xs ih => simp only [List.map, boolsD, ih]; rfl
  rw [this]
  simp [allT]
def intL (ns : List Int) : List D := ns.map D.int
@[simp] theorem sum_intL {ns : List Int} : prim s .sum [.lst (intL ns)] = some (.int ns.sum) := sum_ints
theorem in_intL {x : Int} {ns : List Int} : inD s (.int x) (.tup (intL ns)) = some (ns.any (· == x)) := in_ints
@[simp] theorem intL_len {ns : List Int} : (intL ns).length = ns.length := List.length_map ..
theorem mapT_int {f : α → Int} {ts : List α} : mapT (fun t => D.int (f t)) ts = intL (ts.map f) := by unfold mapT intL; rw [List.map_map]; rfl
end
theorem evS_forG {t : Tg} {it : I} {b : List S} {xs : List D} (h : Gives g it ρ s xs) : evS g (.for_ t it b) ρ s = forItems t (fun ρ s => evSs g b ρ s) xs ρ s := by
  obtain ⟨src, h1, h2⟩ := h
  rw [evS_for, h1]
  exact forSrc_items h2
/-- a loop that ends with False at the first item that is not so -/
theorem for_allR {tg : Tg} {b : Env → Sto → SO} {p : D → Bool} (R : Env → Prop) : ∀ (xs : List D) (ρ : Env), R ρ → (∀ x ∈ xs, ∀ ρ, R ρ → ∃ ρ1 ρ', asg tg x ρ = some ρ1 ∧ R ρ' ∧ b ρ1 s = ifB (p x) (.fl (.next ρ') s) (.fl (.ret (.bl false)) s)) →
    ∃ ρ', R ρ' ∧ forItems tg b xs ρ s = ifB (allB p xs) (.fl (.next ρ') s) (.fl (.ret (.bl false)) s)
  | [], ρ, h0, _ => ⟨ρ, h0, rfl⟩
  | x :: xs, ρ, h0, hb => by
    obtain ⟨ρ1, ρ', e1, r1, e2⟩ := hb x List.mem_cons_self ρ h0
    simp only [forItems, e1, e2, allB_cons]
    cases p x with
    | false => exact ⟨ρ', r1, rfl⟩
    | true => exact for_allR R xs ρ' r1 fun y hy => hb y (List.mem_cons_of_mem _ hy)
end
end BS

/-! Ev4: statement by statement -/
namespace BS
open PySem
/-- what is left of a block, not yet opened -/
def rest (g : G) (ts : List S) (ρ : Env) (s : Sto) : SO := evSs g ts ρ s
theorem evSs_step {g : G} {t : S} {ts : List S} {ρ : Env} {s : Sto} : evSs g (t :: ts) ρ s = (evS g t ρ s).seq (rest g ts) := evSs_cons
theorem rest_cons {g : G} {t : S} {ts : List S} {ρ : Env} {s : Sto} : rest g (t :: ts) ρ s = (evS g t ρ s).seq (rest g ts) := evSs_cons
@[simp] theorem rest_nil {g : G} {ρ : Env} {s : Sto} : rest g [] ρ s = .fl (.next ρ) s := rfl
theorem rest_eq {g : G} {ts : List S} {ρ : Env} {s : Sto} : rest g ts ρ s = evSs g ts ρ s := rfl
end BS

namespace BS
open PySem
-- LOOSE (["BoardError", "InvalidRack", "InvalidFacts", "InvalidNumbers", "FACT_WORDS", "LARGEST", "is_number", "is_tuple", "is_word", "is_board", "is_good_rack", "wide_of", "is_lot", "is_fact", "are_good_facts", "are_good_numbers", "is_put", "is_deed", "is_good_script", "fact_line", "summed", "is_so", "keeps_all", "need_rack", "need_facts", "need_numbers", "need_asked", "is_rack", "are_facts", "are_numbers"] : List PySem.Str) ++ (["is_script", "keeps", "_law_source", "_law_draw", "_law_of", "_law_sum", "_law_holds", "_law_wide", "_law_rack", "_law_fact_line", "_law_numbers", "_law_lot", "_law_fact", "_law_facts", "_law_keeps", "_law_script", "_law_is_int", "_law_is_rack", "_law_is_lot", "_law_are_facts", "_law_is_deed", "_law_told_right", "_law_odd", "_law_spoilt"] : List PySem.Str)
def f_is_number : FD := .mk "is_number" 3 3 [
  .ret (.and_ (.pr (.ist "int") [.v 0]) (.and_ (.not_ (.pr (.ist "bool") [.v 0])) (.chain .le .le (.v 1) (.v 0) (.v 2))))]
def f_is_tuple : FD := .mk "is_tuple" 3 3 [
  .ret (.and_ (.pr (.ist "tuple") [.v 0]) (.chain .le .le (.v 1) (.pr .len [.v 0]) (.v 2)))]
def f_is_word : FD := .mk "is_word" 2 2 [
  .ret (.and_ (.pr (.ist "str") [.v 0]) (.pr .isin [.v 0, .v 1]))]
def c_is_board_1 : E := .comp false [1] (.v 1) (.e (.v 0)) (.lit (.bl true)) (.call f_is_number [.v 1, .lit (.int 0), .lit (.int 12)])
def f_is_board : FD := .mk "is_board" 1 2 [
  .ite (.or_ (.not_ (.call f_is_tuple [.v 0, .lit (.int 2), .lit (.int 2)])) (.not_ (.pr .all [c_is_board_1]))) [
    .ret (.lit (.bl false))] [],
  .ret (.pr .lt [.pr .ix [.v 0, .lit (.int 0)], .pr .ix [.v 0, .lit (.int 1)]])]
def c_is_good_rack_1 : E := .comp false [1] (.v 1) (.e (.pr .ix [.v 0, .lit (.int 1)])) (.lit (.bl true)) (.call f_is_board [.v 1])
def f_is_good_rack : FD := .mk "is_good_rack" 1 2 [
  .ite (.or_ (.not_ (.call f_is_tuple [.v 0, .lit (.int 2), .lit (.int 2)])) (.or_ (.not_ (.call f_is_number [.pr .ix [.v 0, .lit (.int 0)], .lit (.int 1), .lit (.int 4)])) (.not_ (.call f_is_tuple [.pr .ix [.v 0, .lit (.int 1)], .lit (.int 1), .lit (.int 3)])))) [
    .ret (.lit (.bl false))] [],
  .ret (.pr .all [c_is_good_rack_1])]
def f_wide_of : FD := .mk "wide_of" 1 1 [
  .ret (.pr .add [.pr .ix [.v 0, .lit (.int 0)], .pr .len [.pr .ix [.v 0, .lit (.int 1)]]])]
def c_is_lot_1 : E := .comp false [3] (.v 3) (.e (.v 1)) (.lit (.bl true)) (.call f_is_number [.v 3, .lit (.int 0), .pr .sub [.v 2, .lit (.int 1)]])
def c_is_lot_2 : E := .comp false [3, 4] (.tup [.v 3, .v 4]) (.zip (.v 1) (.slc false true false (.v 1) (.lit (.int 1)) (.lit (.non)))) (.lit (.bl true)) (.pr .lt [.v 3, .v 4])
def f_is_lot : FD := .mk "is_lot" 2 5 [
  .set (.v 2) (.call f_wide_of [.v 0]),
  .ite (.or_ (.not_ (.call f_is_tuple [.v 1, .lit (.int 0), .v 2])) (.not_ (.pr .all [c_is_lot_1]))) [
    .ret (.lit (.bl false))] [],
  .ret (.pr .all [c_is_lot_2])]
def f_is_fact : FD := .mk "is_fact" 2 2 [
  .ite (.or_ (.not_ (.call f_is_tuple [.v 1, .lit (.int 3), .lit (.int 3)])) (.not_ (.call f_is_word [.pr .ix [.v 1, .lit (.int 0)], .gtup "FACT_WORDS" [.str "more", .str "atleast", .str "same"]]))) [
    .ret (.lit (.bl false))] [],
  .ret (.and_ (.call f_is_lot [.v 0, .pr .ix [.v 1, .lit (.int 1)]]) (.call f_is_lot [.v 0, .pr .ix [.v 1, .lit (.int 2)]]))]
def c_are_good_facts_1 : E := .comp false [3] (.v 3) (.e (.v 1)) (.lit (.bl true)) (.call f_is_fact [.v 0, .v 3])
def f_are_good_facts : FD := .mk "are_good_facts" 3 4 [
  .ret (.and_ (.call f_is_tuple [.v 1, .lit (.int 0), .v 2]) (.pr .all [c_are_good_facts_1]))]
def c_are_good_numbers_1 : E := .comp false [2] (.v 2) (.e (.v 1)) (.lit (.bl true)) (.call f_is_number [.v 2, .lit (.int 1), .lit (.int 1000000000000)])
def f_are_good_numbers : FD := .mk "are_good_numbers" 2 3 [
  .ret (.and_ (.call f_is_tuple [.v 1, .call f_wide_of [.v 0], .call f_wide_of [.v 0]]) (.pr .all [c_are_good_numbers_1]))]
def f_is_put : FD := .mk "is_put" 2 4 [
  .ite (.or_ (.pr .ne [.pr .len [.v 1], .lit (.int 4)]) (.or_ (.not_ (.call f_is_number [.pr .ix [.v 1, .lit (.int 1)], .lit (.int 0), .pr .sub [.pr .ix [.v 0, .lit (.int 0)], .lit (.int 1)]])) (.not_ (.call f_is_number [.pr .ix [.v 1, .lit (.int 2)], .lit (.int 0), .pr .sub [.pr .len [.pr .ix [.v 0, .lit (.int 1)]], .lit (.int 1)]])))) [
    .ret (.lit (.bl false))] [],
  .set (.tup [.v 2, .v 3]) (.pr .ix [.pr .ix [.v 0, .lit (.int 1)], .pr .ix [.v 1, .lit (.int 2)]]),
  .ret (.call f_is_number [.pr .ix [.v 1, .lit (.int 3)], .v 2, .v 3])]
def f_is_deed : FD := .mk "is_deed" 2 2 [
  .ite (.or_ (.not_ (.call f_is_tuple [.v 1, .lit (.int 2), .lit (.int 4)])) (.not_ (.pr (.ist "str") [.pr .ix [.v 1, .lit (.int 0)]]))) [
    .ret (.lit (.bl false))] [],
  .ite (.pr .eq [.pr .ix [.v 1, .lit (.int 0)], .lit (.str "put")]) [
    .ret (.call f_is_put [.v 0, .v 1])] [],
  .ite (.pr .eq [.pr .ix [.v 1, .lit (.int 0)], .lit (.str "off")]) [
    .ret (.and_ (.pr .eq [.pr .len [.v 1], .lit (.int 2)]) (.call f_is_number [.pr .ix [.v 1, .lit (.int 1)], .lit (.int 0), .pr .sub [.pr .ix [.v 0, .lit (.int 0)], .lit (.int 1)]]))] [],
  .ret (.and_ (.pr .isin [.pr .ix [.v 1, .lit (.int 0)], .tup [.lit (.str "prop"), .lit (.str "bare"), .lit (.str "hang")]]) (.and_ (.pr .eq [.pr .len [.v 1], .lit (.int 2)]) (.call f_is_number [.pr .ix [.v 1, .lit (.int 1)], .lit (.int 0), .pr .sub [.pr .len [.pr .ix [.v 0, .lit (.int 1)]], .lit (.int 1)]])))]
def c_is_good_script_1 : E := .comp false [2] (.v 2) (.e (.v 1)) (.lit (.bl true)) (.call f_is_deed [.v 0, .v 2])
def f_is_good_script : FD := .mk "is_good_script" 2 3 [
  .ret (.and_ (.call f_is_tuple [.v 1, .lit (.int 0), .lit (.int 6)]) (.pr .all [c_is_good_script_1]))]
def c_fact_line_1 : E := .comp false [2] (.v 2) (.r1 (.call f_wide_of [.v 0])) (.lit (.bl true)) (.pr .sub [.ite (.pr .isin [.v 2, .pr .ix [.v 1, .lit (.int 1)]]) (.lit (.int 1)) (.lit (.int 0)), .ite (.pr .isin [.v 2, .pr .ix [.v 1, .lit (.int 2)]]) (.lit (.int 1)) (.lit (.int 0))])
def f_fact_line : FD := .mk "fact_line" 2 3 [
  .ret (.pr .toTup [c_fact_line_1])]
def c_summed_1 : E := .comp false [2, 3] (.tup [.v 2, .v 3]) (.zip (.v 0) (.v 1)) (.lit (.bl true)) (.pr .mul [.v 2, .v 3])
def f_summed : FD := .mk "summed" 2 4 [
  .ret (.pr .sum [c_summed_1])]
def f_is_so : FD := .mk "is_so" 2 2 [
  .ite (.pr .eq [.v 0, .lit (.str "same")]) [
    .ret (.pr .eq [.v 1, .lit (.int 0)])] [],
  .ret (.ite (.pr .eq [.v 0, .lit (.str "more")]) (.pr .gt [.v 1, .lit (.int 0)]) (.pr .ge [.v 1, .lit (.int 0)]))]
def c_keeps_all_1 : E := .comp false [3] (.v 3) (.e (.v 1)) (.lit (.bl true)) (.call f_is_so [.pr .ix [.v 3, .lit (.int 0)], .call f_summed [.call f_fact_line [.v 0, .v 3], .v 2]])
def f_keeps_all : FD := .mk "keeps_all" 3 4 [
  .ret (.pr .all [c_keeps_all_1])]
def f_need_rack : FD := .mk "need_rack" 1 1 [
  .ite (.not_ (.call f_is_good_rack [.v 0])) [
    .never] []]
def f_need_facts : FD := .mk "need_facts" 2 2 [
  .ite (.not_ (.call f_are_good_facts [.v 0, .v 1, .lit (.int 6)])) [
    .never] []]
def f_need_numbers : FD := .mk "need_numbers" 2 2 [
  .ite (.not_ (.call f_are_good_numbers [.v 0, .v 1])) [
    .never] []]
def f_need_asked : FD := .mk "need_asked" 2 2 [
  .ex (.call f_need_rack [.v 0]),
  .ex (.call f_need_facts [.v 0, .v 1])]
def f_is_rack : FD := .mk "is_rack" 1 1 [
  .ret (.call f_is_good_rack [.v 0])]
def f_are_facts : FD := .mk "are_facts" 2 2 [
  .ex (.call f_need_rack [.v 0]),
  .ret (.call f_are_good_facts [.v 0, .v 1, .lit (.int 6)])]
def f_are_numbers : FD := .mk "are_numbers" 2 2 [
  .ex (.call f_need_rack [.v 0]),
  .ret (.call f_are_good_numbers [.v 0, .v 1])]
def f_is_script : FD := .mk "is_script" 2 2 [
  .ex (.call f_need_rack [.v 0]),
  .ret (.call f_is_good_script [.v 0, .v 1])]
def f_keeps : FD := .mk "keeps" 3 3 [
  .ex (.call f_need_asked [.v 0, .v 1]),
  .ex (.call f_need_numbers [.v 0, .v 2]),
  .ret (.call f_keeps_all [.v 0, .v 1, .v 2])]
def f__law_source : FD := .mk "_law_source" 2 3 [
  .set (.v 2) (.lit (.int 0)),
  .ite (.pr .lt [.v 1, .pr .len [.v 0]]) [
    .set (.v 2) (.pr .abs [.pr .toInt [.pr .ix [.v 0, .v 1]]])] [],
  .ite (.pr .lt [.v 2, .pr .pow [.lit (.int 10), .lit (.int 18)]]) [
    .ret (.lst true [.lit (.int 0), .pr .add [.lit (.int 1), .pr .mod [.pr .toInt [.pr .add [.pr .mul [.v 2, .lit (.int 7919)], .pr .mul [.lit (.int 104729), .v 1]]], .lit (.int 2147483646)]]])] [],
  .ret (.lst true [.v 2, .pr .add [.lit (.int 1), .pr .mod [.pr .toInt [.pr .add [.v 2, .v 1]], .lit (.int 2147483646)]]])]
def f__law_draw : FD := .mk "_law_draw" 2 3 [
  .ite (.pr .gt [.pr .ix [.v 0, .lit (.int 0)], .lit (.int 0)]) [
    .set (.v 2) (.pr .mod [.pr .toInt [.pr .ix [.v 0, .lit (.int 0)]], .v 1]),
    .setIx (.v 0) (.lit (.int 0)) (.pr .fdiv [.pr .ix [.v 0, .lit (.int 0)], .v 1]),
    .ret (.v 2)] [],
  .setIx (.v 0) (.lit (.int 1)) (.pr .mod [.pr .toInt [.pr .mul [.pr .ix [.v 0, .lit (.int 1)], .lit (.int 48271)]], .lit (.int 2147483647)]),
  .ret (.pr .mod [.pr .toInt [.pr .fdiv [.pr .mod [.pr .toInt [.pr .mul [.pr .ix [.v 0, .lit (.int 1)], .pr .ix [.v 0, .lit (.int 1)]]], .lit (.int 2147483629)], .lit (.int 64)]], .v 1])]
def f__law_of : FD := .mk "_law_of" 2 2 [
  .ret (.pr .ix [.v 1, .call f__law_draw [.v 0, .pr .len [.v 1]]])]
def c__law_sum_1 : E := .comp false [2, 3] (.tup [.v 2, .v 3]) (.zip (.v 0) (.v 1)) (.lit (.bl true)) (.pr .mul [.v 2, .v 3])
def f__law_sum : FD := .mk "_law_sum" 2 4 [
  .ret (.pr .sum [c__law_sum_1])]
def f__law_holds : FD := .mk "_law_holds" 2 2 [
  .ite (.pr .eq [.v 0, .lit (.str "same")]) [
    .ret (.pr .eq [.v 1, .lit (.int 0)])] [],
  .ret (.or_ (.pr .gt [.v 1, .lit (.int 0)]) (.and_ (.pr .eq [.v 1, .lit (.int 0)]) (.pr .eq [.v 0, .lit (.str "atleast")])))]
def f__law_wide : FD := .mk "_law_wide" 1 1 [
  .ret (.pr .add [.pr .ix [.v 0, .lit (.int 0)], .pr .len [.pr .ix [.v 0, .lit (.int 1)]]])]
def b__law_rack_1 : List S := [
  .set (.v 5) (.call f__law_draw [.v 0, .lit (.int 4)]),
  .set (.v 3) (.pr .add [.v 3, .tup [.tup [.v 5, .pr .add [.pr .add [.v 5, .lit (.int 1)], .call f__law_draw [.v 0, .lit (.int 5)]]]]])]
def f__law_rack : FD := .mk "_law_rack" 3 6 [
  .set (.v 3) (.tup []),
  .for_ (.v 4) (.r1 (.pr .add [.lit (.int 1), .call f__law_draw [.v 0, .v 2]])) b__law_rack_1,
  .ret (.tup [.pr .add [.lit (.int 1), .call f__law_draw [.v 0, .v 1]], .v 3])]
def c__law_fact_line_1 : E := .comp false [5] (.v 5) (.r1 (.call f__law_wide [.v 0])) (.lit (.bl true)) (.pr .sub [.pr .toInt [.pr .isin [.v 5, .v 3]], .pr .toInt [.pr .isin [.v 5, .v 4]]])
def f__law_fact_line : FD := .mk "_law_fact_line" 2 6 [
  .set (.tup [.v 2, .v 3, .v 4]) (.v 1),
  .ret (c__law_fact_line_1)]
def b__law_numbers_1 : List S := [
  .set (.v 2) (.pr .add [.v 2, .tup [.call f__law_of [.v 0, .lst false [.lit (.int 1), .lit (.int 2), .lit (.int 2), .lit (.int 3), .lit (.int 4), .pr .add [.lit (.int 1), .call f__law_draw [.v 0, .lit (.int 9)]]]]]])]
def f__law_numbers : FD := .mk "_law_numbers" 2 4 [
  .set (.v 2) (.tup []),
  .for_ (.v 3) (.r1 (.call f__law_wide [.v 1])) b__law_numbers_1,
  .ret (.v 2)]
def b__law_lot_1 : List S := [
  .set (.v 3) (.pr .add [.v 3, .ite (.pr .eq [.call f__law_draw [.v 0, .v 2], .lit (.int 0)]) (.tup [.v 4]) (.tup [])])]
def f__law_lot : FD := .mk "_law_lot" 3 5 [
  .set (.v 3) (.tup []),
  .for_ (.v 4) (.r1 (.call f__law_wide [.v 1])) b__law_lot_1,
  .ret (.v 3)]
def f__law_fact : FD := .mk "_law_fact" 3 8 [
  .par [3, 4] [.call f__law_lot [.v 0, .v 1, .lit (.int 4)], .call f__law_lot [.v 0, .v 1, .lit (.int 4)]],
  .ite (.pr .eq [.call f__law_draw [.v 0, .lit (.int 2)], .lit (.int 0)]) [
    .set (.v 3) (.tup [.pr .add [.pr .ix [.v 1, .lit (.int 0)], .call f__law_draw [.v 0, .pr .len [.pr .ix [.v 1, .lit (.int 1)]]]]]),
    .set (.v 4) (.tup [.call f__law_draw [.v 0, .pr .ix [.v 1, .lit (.int 0)]]])] [],
  .set (.v 5) (.call f__law_of [.v 0, .lst false [.lit (.str "more"), .lit (.str "atleast"), .lit (.str "same")]]),
  .ite (.pr .eq [.call f__law_draw [.v 0, .lit (.int 10)], .lit (.int 0)]) [
    .ret (.tup [.v 5, .v 3, .v 4])] [],
  .set (.v 6) (.call f__law_sum [.call f__law_fact_line [.v 1, .tup [.v 5, .v 3, .v 4]], .v 2]),
  .ite (.pr .lt [.v 6, .lit (.int 0)]) [
    .par [3, 4] [.v 4, .v 3]] [],
  .set (.v 7) (.ite (.pr .eq [.v 6, .lit (.int 0)]) (.lst false [.lit (.str "same"), .lit (.str "atleast")]) (.lst false [.lit (.str "more"), .lit (.str "atleast")])),
  .ret (.tup [.call f__law_of [.v 0, .v 7], .v 3, .v 4])]
def b__law_facts_1 : List S := [
  .set (.v 4) (.pr .add [.v 4, .tup [.call f__law_fact [.v 0, .v 1, .v 3]]])]
def f__law_facts : FD := .mk "_law_facts" 3 6 [
  .par [3, 4] [.call f__law_numbers [.v 0, .v 1], .tup []],
  .for_ (.v 5) (.r1 (.call f__law_draw [.v 0, .pr .add [.v 2, .lit (.int 1)]])) b__law_facts_1,
  .ret (.v 4)]
def b__law_keeps_1 : List S := [
  .set (.v 4) (.call f__law_sum [.call f__law_fact_line [.v 0, .v 3], .v 2]),
  .ite (.not_ (.call f__law_holds [.pr .ix [.v 3, .lit (.int 0)], .v 4])) [
    .ret (.lit (.bl false))] []]
def f__law_keeps : FD := .mk "_law_keeps" 3 5 [
  .for_ (.v 3) (.e (.v 1)) b__law_keeps_1,
  .ret (.lit (.bl true))]
def b__law_script_1 : List S := [
  .set (.v 5) (.call f__law_draw [.v 0, .pr .len [.pr .ix [.v 1, .lit (.int 1)]]]),
  .set (.v 6) (.call f__law_draw [.v 0, .pr .ix [.v 1, .lit (.int 0)]]),
  .set (.tup [.v 7, .v 8]) (.pr .ix [.pr .ix [.v 1, .lit (.int 1)], .v 5]),
  .set (.v 9) (.pr .add [.v 7, .call f__law_draw [.v 0, .pr .add [.pr .sub [.v 8, .v 7], .lit (.int 1)]]]),
  .set (.v 10) (.call f__law_of [.v 0, .lst false [.lit (.str "put"), .lit (.str "put"), .lit (.str "put"), .lit (.str "put"), .lit (.str "off"), .lit (.str "prop"), .lit (.str "bare"), .lit (.str "hang")]]),
  .set (.v 11) (.ite (.pr .eq [.v 10, .lit (.str "off")]) (.tup [.v 10, .v 6]) (.tup [.v 10, .v 5])),
  .set (.v 11) (.ite (.pr .eq [.v 10, .lit (.str "put")]) (.tup [.v 10, .v 6, .v 5, .v 9]) (.v 11)),
  .set (.v 3) (.pr .add [.v 3, .tup [.v 11]])]
def f__law_script : FD := .mk "_law_script" 3 12 [
  .set (.v 3) (.tup []),
  .for_ (.v 4) (.r1 (.call f__law_draw [.v 0, .pr .add [.v 2, .lit (.int 1)]])) b__law_script_1,
  .ret (.v 3)]
def f__law_is_int : FD := .mk "_law_is_int" 3 3 [
  .ret (.and_ (.pr (.ist "int") [.v 0]) (.and_ (.not_ (.pr (.ist "bool") [.v 0])) (.chain .le .le (.v 1) (.v 0) (.v 2))))]
def b__law_is_rack_1 : List S := [
  .ite (.or_ (.not_ (.pr (.ist "tuple") [.v 1])) (.pr .ne [.pr .len [.v 1], .lit (.int 2)])) [
    .ret (.lit (.bl false))] [],
  .ite (.or_ (.not_ (.call f__law_is_int [.pr .ix [.v 1, .lit (.int 0)], .lit (.int 0), .lit (.int 12)])) (.not_ (.call f__law_is_int [.pr .ix [.v 1, .lit (.int 1)], .lit (.int 0), .lit (.int 12)]))) [
    .ret (.lit (.bl false))] [],
  .ite (.pr .ge [.pr .ix [.v 1, .lit (.int 0)], .pr .ix [.v 1, .lit (.int 1)]]) [
    .ret (.lit (.bl false))] []]
def f__law_is_rack : FD := .mk "_law_is_rack" 1 2 [
  .ite (.or_ (.not_ (.pr (.ist "tuple") [.v 0])) (.or_ (.pr .ne [.pr .len [.v 0], .lit (.int 2)]) (.not_ (.call f__law_is_int [.pr .ix [.v 0, .lit (.int 0)], .lit (.int 1), .lit (.int 4)])))) [
    .ret (.lit (.bl false))] [],
  .ite (.or_ (.not_ (.pr (.ist "tuple") [.pr .ix [.v 0, .lit (.int 1)]])) (.not_ (.chain .le .le (.lit (.int 1)) (.pr .len [.pr .ix [.v 0, .lit (.int 1)]]) (.lit (.int 3))))) [
    .ret (.lit (.bl false))] [],
  .for_ (.v 1) (.e (.pr .ix [.v 0, .lit (.int 1)])) b__law_is_rack_1,
  .ret (.lit (.bl true))]
def c__law_is_lot_1 : E := .comp false [2] (.v 2) (.e (.v 1)) (.not_ (.call f__law_is_int [.v 2, .lit (.int 0), .pr .sub [.call f__law_wide [.v 0], .lit (.int 1)]])) (.v 2)
def c__law_is_lot_2 : E := .comp false [2, 3] (.tup [.v 2, .v 3]) (.zip (.v 1) (.slc false true false (.v 1) (.lit (.int 1)) (.lit (.non)))) (.pr .ge [.v 2, .v 3]) (.lit (.int 1))
def f__law_is_lot : FD := .mk "_law_is_lot" 2 4 [
  .ite (.not_ (.pr (.ist "tuple") [.v 1])) [
    .ret (.lit (.bl false))] [],
  .ite (.pr .ne [c__law_is_lot_1, .lst false []]) [
    .ret (.lit (.bl false))] [],
  .ret (.pr .eq [c__law_is_lot_2, .lst false []])]
def b__law_are_facts_1 : List S := [
  .ite (.or_ (.not_ (.pr (.ist "tuple") [.v 2])) (.or_ (.pr .ne [.pr .len [.v 2], .lit (.int 3)]) (.not_ (.pr (.ist "str") [.pr .ix [.v 2, .lit (.int 0)]])))) [
    .ret (.lit (.bl false))] [],
  .ite (.pr .notin [.pr .ix [.v 2, .lit (.int 0)], .tup [.lit (.str "more"), .lit (.str "atleast"), .lit (.str "same")]]) [
    .ret (.lit (.bl false))] [],
  .ite (.or_ (.not_ (.call f__law_is_lot [.v 0, .pr .ix [.v 2, .lit (.int 1)]])) (.not_ (.call f__law_is_lot [.v 0, .pr .ix [.v 2, .lit (.int 2)]]))) [
    .ret (.lit (.bl false))] []]
def f__law_are_facts : FD := .mk "_law_are_facts" 2 3 [
  .ite (.or_ (.not_ (.pr (.ist "tuple") [.v 1])) (.pr .gt [.pr .len [.v 1], .lit (.int 6)])) [
    .ret (.lit (.bl false))] [],
  .for_ (.v 2) (.e (.v 1)) b__law_are_facts_1,
  .ret (.lit (.bl true))]
def f__law_is_deed : FD := .mk "_law_is_deed" 2 2 [
  .ite (.or_ (.not_ (.pr (.ist "tuple") [.v 1])) (.or_ (.pr .notin [.pr .len [.v 1], .tup [.lit (.int 2), .lit (.int 4)]]) (.not_ (.pr (.ist "str") [.pr .ix [.v 1, .lit (.int 0)]])))) [
    .ret (.lit (.bl false))] [],
  .ite (.and_ (.pr .eq [.pr .len [.v 1], .lit (.int 2)]) (.pr .eq [.pr .ix [.v 1, .lit (.int 0)], .lit (.str "off")])) [
    .ret (.call f__law_is_int [.pr .ix [.v 1, .lit (.int 1)], .lit (.int 0), .pr .sub [.pr .ix [.v 0, .lit (.int 0)], .lit (.int 1)]])] [],
  .ite (.pr .eq [.pr .len [.v 1], .lit (.int 2)]) [
    .ret (.and_ (.pr .isin [.pr .ix [.v 1, .lit (.int 0)], .tup [.lit (.str "prop"), .lit (.str "bare"), .lit (.str "hang")]]) (.call f__law_is_int [.pr .ix [.v 1, .lit (.int 1)], .lit (.int 0), .pr .sub [.pr .len [.pr .ix [.v 0, .lit (.int 1)]], .lit (.int 1)]]))] [],
  .ite (.or_ (.pr .ne [.pr .ix [.v 1, .lit (.int 0)], .lit (.str "put")]) (.not_ (.call f__law_is_int [.pr .ix [.v 1, .lit (.int 1)], .lit (.int 0), .pr .sub [.pr .ix [.v 0, .lit (.int 0)], .lit (.int 1)]]))) [
    .ret (.lit (.bl false))] [],
  .ite (.not_ (.call f__law_is_int [.pr .ix [.v 1, .lit (.int 2)], .lit (.int 0), .pr .sub [.pr .len [.pr .ix [.v 0, .lit (.int 1)]], .lit (.int 1)]])) [
    .ret (.lit (.bl false))] [],
  .ret (.call f__law_is_int [.pr .ix [.v 1, .lit (.int 3)], .pr .ix [.pr .ix [.pr .ix [.v 0, .lit (.int 1)], .pr .ix [.v 1, .lit (.int 2)]], .lit (.int 0)], .pr .ix [.pr .ix [.pr .ix [.v 0, .lit (.int 1)], .pr .ix [.v 1, .lit (.int 2)]], .lit (.int 1)]])]
def c__law_told_right_1 : E := .comp false [4] (.v 4) (.e (.v 1)) (.not_ (.call f__law_is_int [.v 4, .lit (.int 1), .pr .pow [.lit (.int 10), .lit (.int 12)]])) (.v 4)
def c__law_told_right_2 : E := .comp false [5] (.v 5) (.e (.v 1)) (.not_ (.call f__law_is_deed [.v 0, .v 5])) (.v 5)
def f__law_told_right : FD := .mk "_law_told_right" 2 6 [
  .set (.v 2) (.and_ (.pr (.ist "tuple") [.v 1]) (.pr .eq [.pr .len [.v 1], .call f__law_wide [.v 0]])),
  .ite (.v 2) [
    .set (.v 2) (.pr .eq [c__law_told_right_1, .lst false []])] [],
  .ite (.or_ (.pr .ne [.call f_is_rack [.v 1], .call f__law_is_rack [.v 1]]) (.pr .ne [.call f_are_numbers [.v 0, .v 1], .v 2])) [
    .ret (.lit (.bl false))] [],
  .set (.v 3) (.and_ (.pr (.ist "tuple") [.v 1]) (.pr .le [.pr .len [.v 1], .lit (.int 6)])),
  .ite (.v 3) [
    .set (.v 3) (.pr .eq [c__law_told_right_2, .lst false []])] [],
  .ite (.pr .ne [.call f_are_facts [.v 0, .v 1], .call f__law_are_facts [.v 0, .v 1]]) [
    .ret (.lit (.bl false))] [],
  .ret (.pr .eq [.call f_is_script [.v 0, .v 1], .v 3])]
def f__law_odd : FD := .mk "_law_odd" 1 2 [
  .set (.v 1) (.lst false [.lit (.non), .lit (.bl true), .lit (.bl false), .lit (.int 0), .lit (.int 1), .lit (.int 3), .lit (.int 4), .lit (.int 12), .lit (.int 13), .pr .neg [.lit (.int 1)], .lit (.str ""), .lit (.str "more"), .lit (.str "put"), .lit (.str "prop"), .lit (.str "off"), .tup [], .lst false [], .tup [.lit (.int 0)], .tup [.lit (.int 1), .lit (.int 0)]]),
  .ret (.call f__law_of [.v 0, .pr .add [.v 1, .lst false [.tup [.lit (.int 0), .lit (.int 1)], .tup [.lit (.int 2), .lit (.int 2)], .tup [.lit (.str "off"), .lit (.int 0)], .tup [.lit (.str "hang"), .lit (.bl true)], .pr .pow [.lit (.int 10), .lit (.int 13)], .lit (.str "atleast")]]])]
def f__law_spoilt : FD := .mk "_law_spoilt" 2 4 [
  .ite (.or_ (.not_ (.pr (.ist "tuple") [.v 1])) (.or_ (.pr .eq [.v 1, .tup []]) (.pr .eq [.call f__law_draw [.v 0, .lit (.int 6)], .lit (.int 0)]))) [
    .ret (.call f__law_odd [.v 0])] [],
  .par [2, 3] [.call f__law_draw [.v 0, .pr .len [.v 1]], .call f__law_draw [.v 0, .lit (.int 9)]],
  .ite (.pr .eq [.v 3, .lit (.int 0)]) [
    .ret (.pr .add [.slc false false true (.v 1) (.lit (.non)) (.v 2), .slc false true false (.v 1) (.pr .add [.v 2, .lit (.int 1)]) (.lit (.non))])] [],
  .ite (.pr .eq [.v 3, .lit (.int 1)]) [
    .ret (.pr .add [.slc false false true (.v 1) (.lit (.non)) (.pr .add [.v 2, .lit (.int 1)]), .slc false true false (.v 1) (.v 2) (.lit (.non))])] [],
  .ite (.pr .eq [.v 3, .lit (.int 2)]) [
    .ret (.pr .add [.pr .add [.slc false false true (.v 1) (.lit (.non)) (.v 2), .tup [.call f__law_odd [.v 0]]], .slc false true false (.v 1) (.v 2) (.lit (.non))])] [],
  .ite (.pr .eq [.v 3, .lit (.int 3)]) [
    .ret (.pl false .toL [.v 1])] [],
  .ite (.and_ (.pr (.ist "int") [.pr .ix [.v 1, .v 2]]) (.pr .lt [.v 3, .lit (.int 6)])) [
    .ret (.pr .add [.pr .add [.slc false false true (.v 1) (.lit (.non)) (.v 2), .tup [.pr .sub [.pr .add [.pr .ix [.v 1, .v 2], .call f__law_draw [.v 0, .lit (.int 3)]], .lit (.int 1)]]], .slc false true false (.v 1) (.pr .add [.v 2, .lit (.int 1)]) (.lit (.non))])] [],
  .ret (.pr .add [.pr .add [.slc false false true (.v 1) (.lit (.non)) (.v 2), .tup [.self [.v 0, .pr .ix [.v 1, .v 2]]]], .slc false true false (.v 1) (.pr .add [.v 2, .lit (.int 1)]) (.lit (.non))])]
def b_law_1 : List S := [
  .ite (.not_ (.call f__law_told_right [.v 3, .v 6])) [
    .ret (.lit (.bl false))] [],
  .set (.v 6) (.call f__law_spoilt [.v 2, .v 6])]
def b_law_2 : List S := [
  .for_ (.v 7) (.r1 (.lit (.int 5))) b_law_1]
def b_law_3 : List S := [
  .set (.v 2) (.call f__law_source [.v 0, .v 1]),
  .set (.v 3) (.call f__law_rack [.v 2, .lit (.int 4), .lit (.int 3)]),
  .par [4, 5] [.call f__law_facts [.v 2, .v 3, .lit (.int 6)], .call f__law_numbers [.v 2, .v 3]],
  .ite (.pr .ne [.call f_keeps [.v 3, .v 4, .v 5], .call f__law_keeps [.v 3, .v 4, .v 5]]) [
    .ret (.lit (.bl false))] [],
  .for_ (.v 6) (.e (.lst false [.v 3, .v 4, .v 5, .call f__law_script [.v 2, .v 3, .lit (.int 6)]])) b_law_2]
def f_law : FD := .mk "law" 1 8 [
  .for_ (.v 1) (.r1 (.pr .add [.lit (.int 1), .pr .min2 [.pr .len [.v 0], .lit (.int 10)]])) b_law_3,
  .set (.v 3) (.tup [.lit (.int 2), .tup [.tup [.lit (.int 0), .lit (.int 4)], .tup [.lit (.int 1), .lit (.int 3)]]]),
  .ite (.or_ (.call f_is_script [.v 3, .tup [.tup [.lit (.str "put"), .lit (.int 0), .lit (.int 1), .lit (.int 0)]]]) (.not_ (.call f_is_script [.v 3, .tup [.tup [.lit (.str "put"), .lit (.int 0), .lit (.int 1), .lit (.int 1)]]]))) [
    .ret (.lit (.bl false))] [],
  .ite (.call f_keeps [.v 3, .tup [.tup [.lit (.str "more"), .tup [.lit (.int 2)], .tup [.lit (.int 0)]]], .tup [.lit (.int 2), .lit (.int 9), .lit (.int 2), .lit (.int 2)]]) [
    .ret (.lit (.bl false))] [],
  .ret (.call f_keeps [.v 3, .tup [.tup [.lit (.str "atleast"), .tup [.lit (.int 2)], .tup [.lit (.int 0)]]], .tup [.lit (.int 2), .lit (.int 9), .lit (.int 2), .lit (.int 2)]])]

end BS

/-! P1: what racks.py's functions answer -/
namespace BS
open PySem
variable {W n : Nat} {s : Sto} {L k : Nat}
theorem call1' {W n np ns : Nat} {fd : FD} {x : Str} {body : List S} {ds : List D} {s : Sto} (h : fd = .mk x np ns body) (hl : ds.length = np) {ρ : Env} (hρ : ds.map some ++ List.replicate (ns - np) none = ρ) :
    callN W (n + 1) fd ds s = fin (evSs (gOf W n fd) body ρ s) := by rw [call1 h hl, hρ]
def isNum (v : D) (a b : Int) : Bool := match v with
  | .int i => decide (a ≤ i) && decide (i ≤ b)
  | _ => false
def isTupL (v : D) (a b : Int) : Bool := match v with
  | .tup ds => decide (a ≤ ds.length) && decide (ds.length ≤ b)
  | _ => false
def isWord (v : D) (ws : List Str) : Bool := match v with
  | .str x => ws.any (· == x)
  | _ => false
theorem s_is_number {v : D} {a b : Int} (h : pl v = true) : callN W (n + 1) f_is_number [v, .int a, .int b] s = .ok (.bl (isNum v a b)) s := by
  rw [call1 (fd := f_is_number) rfl rfl]
  cases v <;> first | (cases h; done) | simp [ist_int, ist_bool, h, isI, isB, isNum]
theorem s_is_tuple {v : D} {a b : Int} (h : pl v = true) : callN W (n + 1) f_is_tuple [v, .int a, .int b] s = .ok (.bl (isTupL v a b)) s := by
  rw [call1 (fd := f_is_tuple) rfl rfl]
  cases v <;> first | (cases h; done) | simp [ist_tuple, h, isT, isTupL]
theorem s_is_word {v : D} {ws : List Str} (h : okD L k v = true) (hw : ws.all PyData.strOk = true) : callN W (n + 1) f_is_word [v, .tup (ws.map D.str)] s = .ok (.bl (isWord v ws)) s := by
  rw [call1 (fd := f_is_word) rfl rfl]
  have hp := okD_pl h
  cases v <;> first | (cases hp; done) | (simp [ist_str, hp, isSt_, isWord]; done) | skip
  rename_i x
  have hx : PyData.strOk x = true := by cases k <;> exact h
  simp [ist_str, hp, isSt_, isWord, in_strs hx hw]
def ltD2 (x y : D) : Bool := match x, y with
  | .int a, .int b => decide (a < b)
  | _, _ => false
def gBoard : D → Bool
  | .tup [x, y] => isNum x 0 12 && isNum y 0 12 && ltD2 x y
  | _ => false
theorem isTup2 {v : D} (h : isTupL v 2 2 = true) : ∃ x y, v = .tup [x, y] := by
  cases v <;> first | (cases h; done) | skip
  rename_i ds
  simp only [isTupL, Bool.and_eq_true, decide_eq_true_eq] at h
  match ds, h with
  | [x, y], _ => exact ⟨x, y, rfl⟩
  | [], h => simp at h
  | [_], h => simp at h
  | _ :: _ :: _ :: _, h => simp at h; omega
theorem isNum_int {v : D} {a b : Int} (h : isNum v a b = true) : ∃ i, v = .int i ∧ a ≤ i ∧ i ≤ b := by
  cases v <;> first | (cases h; done) | skip
  simp only [isNum, Bool.and_eq_true, decide_eq_true_eq] at h
  exact ⟨_, rfl, h.1, h.2⟩
theorem p_all2 {a b : Bool} : prim s .all [.lst [.bl a, .bl b]] = some (.bl (a && b)) := by cases a <;> cases b <;> rfl
theorem s_is_board {v : D} (h : okD L k v = true) (hL : L ≤ sizeLine) : callN W (n + 2) f_is_board [v] s = .ok (.bl (gBoard v)) s := by
  rw [call1 (fd := f_is_board) rfl rfl]
  cases ht : isTupL v 2 2 with
  | false =>
    have e : gBoard v = false := by
      cases v <;> first | rfl | skip
      rename_i ds
      match ds, ht with
      | [x, y], ht => simp [isTupL] at ht
      | [], _ => rfl
      | [_], _ => rfl
      | _ :: _ :: _ :: _, _ => rfl
    simp [s_is_tuple (okD_pl h), ht, e]
  | true =>
    obtain ⟨x, y, rfl⟩ := isTup2 ht
    have hx := okD_tup h
    have hc : ∀ ρ0, evE (gOf W (n + 1) f_is_board) c_is_board_1 [some (.tup [x, y]), ρ0] s = .ok (.lst [D.bl (isNum x 0 12), D.bl (isNum y 0 12)]) s := fun ρ0 =>
      comp_map (xs := [x, y]) (fun x => D.bl (isNum x 0 12)) (gv_tup rfl) (by simp [sizeLine_eq]) fun z hz => ⟨_, rfl, by simp [wipeE, s_is_number (okD_pl (hx.2 z hz))]⟩
    simp [s_is_tuple (okD_pl h), ht, hc, p_all2]
    cases h1 : isNum x 0 12
    · simp [gBoard, h1]
    cases h2 : isNum y 0 12
    · simp [gBoard, h1, h2]
    obtain ⟨a, rfl, _⟩ := isNum_int h1
    obtain ⟨b, rfl, _⟩ := isNum_int h2
    simp [gBoard, h1, h2, ltD2]
end BS

namespace BS
open PySem
variable {W n : Nat} {s : Sto} {L k : Nat}
def gRack : D → Bool
  | .tup [t, .tup bs] => isNum t 1 4 && (decide (1 ≤ bs.length) && decide (bs.length ≤ 3)) && allB gBoard bs
  | _ => false
theorem s_is_good_rack {v : D} (h : okD L k v = true) (hL : L ≤ sizeLine) : callN W (n + 3) f_is_good_rack [v] s = .ok (.bl (gRack v)) s := by
  rw [call1 (fd := f_is_good_rack) rfl rfl]
  cases ht : isTupL v 2 2 with
  | false =>
    have e : gRack v = false := by
      cases v <;> first | rfl | skip
      rename_i ds
      match ds, ht with
      | [x, y], ht => simp [isTupL] at ht
      | [], _ => rfl
      | [_], _ => rfl
      | _ :: b :: _ :: _, _ => cases b <;> simp [gRack]
    simp [s_is_tuple (okD_pl h), ht, e]
  | true =>
    obtain ⟨x, y, rfl⟩ := isTup2 ht
    have hx := okD_tup h
    have ox := hx.2 x (by simp)
    have oy := hx.2 y (by simp)
    simp [s_is_tuple (okD_pl h), ht, s_is_number (okD_pl ox), s_is_tuple (okD_pl oy)]
    cases h1 : isNum x 1 4 with
    | false => simp; cases y <;> simp [gRack, h1]
    | true =>
      cases h2 : isTupL y 1 3 with
      | false =>
        simp
        cases y <;> first | rfl | skip
        rename_i bs
        simp only [gRack, h1]
        simp [isTupL] at h2
        cases bs with
        | nil => rfl
        | cons b bs => simp at h2 ⊢; intro h3; have := h2 (by omega); omega
      | true =>
        cases y <;> first | (cases h2; done) | skip
        rename_i bs
        have hb := okD_tup oy
        have hc : ∀ ρ0, evE (gOf W (n + 2) f_is_good_rack) c_is_good_rack_1 [some (.tup [x, .tup bs]), ρ0] s = .ok (.lst (mapBl gBoard bs)) s := fun ρ0 =>
          comp_bl (xs := bs) gBoard (gv_tup (by simp)) (by have := hb.1; omega) fun z hz => ⟨_, rfl, by simp [wipeE, s_is_board (hb.2 z hz) hL]⟩
        simp [hc, gRack, h1]
        simp [isTupL] at h2
        intro _
        exact ⟨by omega, by omega⟩
end BS

namespace BS
open PySem
variable {W n : Nat} {s : Sto} {L k : Nat}
theorem isTupL_tup {ds : List D} {a b : Int} : isTupL (.tup ds) a b = (decide (a ≤ ds.length) && decide (ds.length ≤ b)) := rfl
theorem isTupL_no {v : D} {a b : Int} (h : isTupL v a b = true) : ∃ ds, v = .tup ds ∧ a ≤ ds.length ∧ ds.length ≤ b := by
  cases v <;> first | (cases h; done) | skip
  rename_i ds
  simp only [isTupL, Bool.and_eq_true, decide_eq_true_eq] at h
  exact ⟨ds, rfl, h.1, h.2⟩
def ltP : D → Bool
  | .tup [x, y] => ltD2 x y
  | _ => false
/-- rising -/
def incr (ds : List D) : Bool := allB ltP (pairs ds (ds.drop 1))
def gLot (w : Int) : D → Bool
  | .tup ds => allB (fun x => isNum x 0 (w - 1)) ds && incr ds
  | _ => false
theorem incr_cons {x y : D} {ds : List D} : incr (x :: y :: ds) = (ltD2 x y && incr (y :: ds)) := rfl
theorem allN_up {w : Int} : ∀ (es : List D) (lo j : Int), allB (fun x => isNum x lo (w - 1)) (.int j :: es) = true → incr (.int j :: es) = true → allB (fun x => isNum x j (w - 1)) (.int j :: es) = true
  | [], lo, j, h, _ => by
    simp only [allB_cons, isNum, Bool.and_eq_true, decide_eq_true_eq] at h ⊢
    exact ⟨⟨Int.le_refl _, h.1.2⟩, rfl⟩
  | e :: es, lo, j, h, hi => by
    rw [allB_cons, Bool.and_eq_true] at h
    obtain ⟨h1, h2⟩ := h
    have h3 := h2
    rw [allB_cons, Bool.and_eq_true] at h3
    obtain ⟨m, rfl, h5, h6⟩ := isNum_int h3.1
    rw [incr_cons, Bool.and_eq_true] at hi
    have hjm : j < m := of_decide_eq_true hi.1
    have q := allN_up es lo m h2 hi.2
    rw [allB_iff] at q ⊢
    intro x hx
    rcases List.mem_cons.mp hx with rfl | hx
    · simp [isNum]; omega
    · obtain ⟨c, rfl, c1, c2⟩ := isNum_int (q x hx)
      simp [isNum]; omega
/-- rising numbers below w are w at most -/
theorem incr_len : ∀ (ds : List D) (lo w : Int), allB (fun x => isNum x lo (w - 1)) ds = true → incr ds = true → (ds.length : Int) ≤ max (w - lo) 0
  | [], lo, w, _, _ => by simp; omega
  | [x], lo, w, h, _ => by
    rw [allB_cons, Bool.and_eq_true] at h
    obtain ⟨i, _, h1, h2⟩ := isNum_int h.1
    simp; omega
  | x :: y :: ds, lo, w, h, hi => by
    rw [allB_cons, Bool.and_eq_true] at h
    obtain ⟨i, rfl, h1, h2⟩ := isNum_int h.1
    have h3 := h.2
    rw [allB_cons, Bool.and_eq_true] at h3
    obtain ⟨j, rfl, h4, h5⟩ := isNum_int h3.1
    rw [incr_cons, Bool.and_eq_true] at hi
    have hij : i < j := of_decide_eq_true hi.1
    have := incr_len (.int j :: ds) j w (allN_up ds lo j h.2 hi.2) hi.2
    simp at this ⊢
    omega
theorem s_wide_of {t : Int} {bs : List D} : callN W (n + 1) f_wide_of [.tup [.int t, .tup bs]] s = .ok (.int (t + bs.length)) s := by
  rw [call1 (fd := f_wide_of) rfl rfl]
  simp
theorem s_law_wide {t : Int} {bs : List D} : callN W (n + 1) f__law_wide [.tup [.int t, .tup bs]] s = .ok (.int (t + bs.length)) s := by
  rw [call1 (fd := f__law_wide) rfl rfl]
  simp
theorem s_is_lot {t : Int} {bs : List D} {v : D} (ht : 0 ≤ t) (h : okD L k v = true) (hL : L ≤ sizeLine) : callN W (n + 2) f_is_lot [.tup [.int t, .tup bs], v] s = .ok (.bl (gLot (t + bs.length) v)) s := by
  rw [call1 (fd := f_is_lot) rfl rfl]
  simp [s_wide_of, s_is_tuple (okD_pl h)]
  cases v <;> first | (simp [isTupL, gLot]; done) | skip
  rename_i ds
  have hx := okD_tup h
  have hlen : ds.length ≤ sizeLine := by have := hx.1; omega
  have hc : ∀ ρ1 ρ2, evE (gOf W (n + 1) f_is_lot) c_is_lot_1 [some (.tup [.int t, .tup bs]), some (.tup ds), some (.int (t + bs.length)), ρ1, ρ2] s = .ok (.lst (mapBl (fun x => isNum x 0 (t + bs.length - 1)) ds)) s := fun ρ1 ρ2 =>
    comp_bl (xs := ds) (fun x => isNum x 0 (t + bs.length - 1)) (gv_tup rfl) hlen fun z hz => ⟨_, rfl, by simp [wipeE, s_is_number (okD_pl (hx.2 z hz))]⟩
  simp [hc]
  cases h2 : allB (fun x => isNum x 0 (t + bs.length - 1)) ds with
  | false => simp [gLot, h2]; cases isTupL (.tup ds) 0 (t + bs.length) <;> rfl
  | true =>
    cases h1 : isTupL (.tup ds) 0 (t + bs.length) with
    | false =>
      have h4 : incr ds = false := by
        cases h4 : incr ds with
        | false => rfl
        | true =>
          have := incr_len ds 0 (t + bs.length) h2 h4
          simp [isTupL] at h1
          omega
      simp [gLot, h4]
    | true =>
      have hc2 : ∀ ρ1 ρ2, evE (gOf W (n + 1) f_is_lot) c_is_lot_2 [some (.tup [.int t, .tup bs]), some (.tup ds), some (.int (t + bs.length)), ρ1, ρ2] s = .ok (.lst (mapBl ltP (pairs ds (ds.drop 1)))) s := fun ρ1 ρ2 =>
        comp_bl (xs := pairs ds (ds.drop 1)) ltP (gv_pairs false false rfl (by simp [bnd, slcD, seqD]; exact (cut_from 1).trans (by simp))) (Nat.le_trans pairs_len hlen) fun z hz => by
          obtain ⟨a, b, rfl, ha, hb⟩ := mem_pairs hz
          rw [allB_iff] at h2
          obtain ⟨i, rfl, _⟩ := isNum_int (h2 a ha)
          obtain ⟨j, rfl, _⟩ := isNum_int (h2 b (List.mem_of_mem_drop hb))
          exact ⟨_, rfl, by simp [wipeE, ltP, ltD2]⟩
      simp [hc2, gLot, incr, h2]
end BS

namespace BS
open PySem
variable {W n : Nat} {s : Sto} {L k : Nat}
def fw : List Str := ["more", "atleast", "same"]
theorem fw_ok : fw.all PyData.strOk = true := by decide +kernel
def gFact (w : Int) : D → Bool
  | .tup [a, b, c] => isWord a fw && (gLot w b && gLot w c)
  | _ => false
theorem isTup3 {v : D} (h : isTupL v 3 3 = true) : ∃ x y z, v = .tup [x, y, z] := by
  obtain ⟨ds, rfl, h1, h2⟩ := isTupL_no h
  match ds, h1, h2 with
  | [x, y, z], _, _ => exact ⟨x, y, z, rfl⟩
  | [], h1, _ => simp at h1
  | [_], h1, _ => simp at h1
  | [_, _], h1, _ => simp at h1
  | _ :: _ :: _ :: _ :: _, _, h2 => simp at h2; omega
theorem gFact_no {w : Int} {v : D} (h : isTupL v 3 3 = false) : gFact w v = false := by
  cases v <;> first | rfl | skip
  rename_i ds
  match ds, h with
  | [x, y, z], h => simp [isTupL] at h
  | [], _ => rfl
  | [_], _ => rfl
  | [_, _], _ => rfl
  | _ :: _ :: _ :: _ :: _, _ => rfl
theorem s_is_fact {t : Int} {bs : List D} {v : D} (ht : 0 ≤ t) (h : okD L k v = true) (hL : L ≤ sizeLine) : callN W (n + 3) f_is_fact [.tup [.int t, .tup bs], v] s = .ok (.bl (gFact (t + bs.length) v)) s := by
  rw [call1 (fd := f_is_fact) rfl rfl]
  cases h1 : isTupL v 3 3 with
  | false => simp [s_is_tuple (okD_pl h), h1, gFact_no h1]
  | true =>
    obtain ⟨x, y, z, rfl⟩ := isTup3 h1
    have hx := okD_tup h
    have ox := hx.2 x (by simp)
    have oy := hx.2 y (by simp)
    have oz := hx.2 z (by simp)
    have hw : callN W (n + 2) f_is_word [x, .tup [.str "more", .str "atleast", .str "same"]] s = .ok (.bl (isWord x fw)) s := s_is_word ox fw_ok
    simp [s_is_tuple (okD_pl h), h1, hw, s_is_lot ht oy hL, s_is_lot ht oz hL]
    cases h2 : isWord x fw <;> simp [gFact, h2]
def gFacts (w : Int) (m : Int) : D → Bool
  | .tup fs => decide ((fs.length : Int) ≤ m) && allB (gFact w) fs
  | _ => false
theorem s_are_good_facts {t m : Int} {bs : List D} {v : D} (ht : 0 ≤ t) (h : okD L k v = true) (hL : L ≤ sizeLine) : callN W (n + 4) f_are_good_facts [.tup [.int t, .tup bs], v, .int m] s = .ok (.bl (gFacts (t + bs.length) m v)) s := by
  rw [call1 (fd := f_are_good_facts) rfl rfl]
  simp [s_is_tuple (okD_pl h)]
  cases v <;> first | (simp [isTupL, gFacts]; done) | skip
  rename_i ds
  have hx := okD_tup h
  have hlen : ds.length ≤ sizeLine := by have := hx.1; omega
  have hc : ∀ ρ1 ρ2, evE (gOf W (n + 3) f_are_good_facts) c_are_good_facts_1 [some (.tup [.int t, .tup bs]), some (.tup ds), ρ1, ρ2] s = .ok (.lst (mapBl (gFact (t + bs.length)) ds)) s := fun ρ1 ρ2 =>
    comp_bl (xs := ds) _ (gv_tup rfl) hlen fun z hz => ⟨_, rfl, by simp [wipeE, s_is_fact ht (hx.2 z hz) hL]⟩
  simp [hc, gFacts, isTupL]
def gNums (w : Int) : D → Bool
  | .tup ds => decide ((ds.length : Int) = w) && allB (fun x => isNum x 1 1000000000000) ds
  | _ => false
theorem s_are_good_numbers {t : Int} {bs : List D} {v : D} (h : okD L k v = true) (hL : L ≤ sizeLine) : callN W (n + 4) f_are_good_numbers [.tup [.int t, .tup bs], v] s = .ok (.bl (gNums (t + bs.length) v)) s := by
  rw [call1 (fd := f_are_good_numbers) rfl rfl]
  simp [s_is_tuple (okD_pl h), s_wide_of]
  cases v <;> first | (simp [isTupL, gNums]; done) | skip
  rename_i ds
  have hx := okD_tup h
  have hlen : ds.length ≤ sizeLine := by have := hx.1; omega
  have hc : ∀ ρ2, evE (gOf W (n + 3) f_are_good_numbers) c_are_good_numbers_1 [some (.tup [.int t, .tup bs]), some (.tup ds), ρ2] s = .ok (.lst (mapBl (fun x => isNum x 1 1000000000000) ds)) s := fun ρ2 =>
    comp_bl (xs := ds) _ (gv_tup rfl) hlen fun z hz => ⟨_, rfl, by simp [wipeE, s_is_number (okD_pl (hx.2 z hz))]⟩
  simp [hc, gNums, isTupL]
  congr 1
  rw [Bool.eq_iff_iff]
  simp
  omega
/-- a rack's boards -/
def bdD (bd : Int × Int) : D := .tup [.int bd.1, .int bd.2]
structure Rk where
  t : Nat
  bs : List (Int × Int)
def Rk.d (r : Rk) : D := .tup [.int r.t, .tup (r.bs.map bdD)]
def Rk.w (r : Rk) : Nat := r.t + r.bs.length
structure Rk.ok (r : Rk) : Prop where
  t1 : 1 ≤ r.t
  t4 : r.t ≤ 4
  b1 : 1 ≤ r.bs.length
  b3 : r.bs.length ≤ 3
  bd : ∀ b ∈ r.bs, 0 ≤ b.1 ∧ b.1 < b.2 ∧ b.2 ≤ 12
def gPut (r : Rk) : D → Bool
  | .tup [_, b, c, d] => isNum b 0 (r.t - 1) && (match c with
    | .int i => match (if 0 ≤ i then r.bs[i.toNat]? else none) with
      | some bd => isNum d bd.1 bd.2
      | none => false
    | _ => false)
  | _ => false
theorem len_ne_int {ds : List D} {m : Nat} : eqv s (.int ds.length) (.int (m : Int)) = some (decide (ds.length = m)) := by
  rw [eqv_int]
  congr 1
  rw [Bool.eq_iff_iff]
  simp
  omega
theorem s_is_put {r : Rk} {ds : List D} (hr : r.ok) (h : okD L k (.tup ds) = true) : callN W (n + 2) f_is_put [r.d, .tup ds] s = .ok (.bl (gPut r (.tup ds))) s := by
  rw [call1 (fd := f_is_put) rfl rfl]
  have e4 : eqv s (.int ds.length) (.int 4) = some (decide (ds.length = 4)) := len_ne_int (m := 4)
  by_cases h4 : ds.length = 4
  · match ds, h4 with
    | [a, b, c, d], _ =>
      have hx := okD_tup h
      have ob := hx.2 b (by simp)
      have oc := hx.2 c (by simp)
      have od := hx.2 d (by simp)
      simp [Rk.d, s_is_number (okD_pl ob), s_is_number (okD_pl oc)]
      cases h1 : isNum b 0 (r.t - 1) with
      | false => simp [gPut, h1]
      | true =>
        cases h2 : isNum c 0 (r.bs.length - 1) with
        | false =>
          simp [gPut, h1]
          cases c <;> first | rfl | skip
          rename_i i _
          simp [isNum] at h2
          by_cases h0 : 0 ≤ i
          · have := h2 h0
            have e : r.bs[i.toNat]? = none := List.getElem?_eq_none (by omega)
            simp [h0, e]
          · simp [h0]
        | true =>
          obtain ⟨i, rfl, i0, i1⟩ := isNum_int h2
          obtain ⟨m, rfl⟩ := Int.eq_ofNat_of_zero_le i0
          have hm : m < r.bs.length := by omega
          have e : r.bs[m]? = some r.bs[m] := List.getElem?_eq_getElem hm
          simp [gPut, h1, atI_nat, e, bdD, s_is_number (okD_pl od)]
  · have e : gPut r (.tup ds) = false := by
      match ds, h4 with
      | [], _ => rfl
      | [_], _ => rfl
      | [_, _], _ => rfl
      | [_, _, _], _ => rfl
      | [_, _, _, _], h => simp at h
      | _ :: _ :: _ :: _ :: _ :: _, _ => rfl
    simp [e4, h4, e]
end BS

namespace BS
open PySem
variable {W n : Nat} {s : Sto} {L k : Nat}
def sw : List Str := ["prop", "bare", "hang"]
theorem sw_ok : sw.all PyData.strOk = true := by decide +kernel
theorem sOk_put : PyData.strOk "put" = true := by decide +kernel
theorem sOk_off : PyData.strOk "off" = true := by decide +kernel
def gDeed (r : Rk) : D → Bool
  | .tup [.str w, b] => ifB (w == ("off" : Str)) (isNum b 0 (r.t - 1)) (sw.any (· == w) && isNum b 0 (r.bs.length - 1))
  | .tup [.str w, b, c, d] => (w == ("put" : Str)) && gPut r (.tup [.str w, b, c, d])
  | _ => false
theorem okD_str {x : Str} (h : okD L k (.str x) = true) : PyData.strOk x = true := by cases k <;> exact h
theorem isSt_ex {x : D} (h : isSt_ x = true) : ∃ w, x = .str w := by
  cases x <;> first | (cases h; done) | exact ⟨_, rfl⟩
theorem put_not_off {w : Str} (h : (w == ("put" : Str)) = true) : (w == ("off" : Str)) = false ∧ sw.any (· == w) = false := by
  have e : w = "put" := by simpa using h
  subst e
  exact ⟨by decide +kernel, by decide +kernel⟩
theorem s_is_deed {r : Rk} {v : D} (hr : r.ok) (h : okD L k v = true) : callN W (n + 3) f_is_deed [r.d, v] s = .ok (.bl (gDeed r v)) s := by
  rw [call1 (fd := f_is_deed) rfl rfl]
  cases h1 : isTupL v 2 4 with
  | false =>
    have e : gDeed r v = false := by
      cases v <;> first | rfl | skip
      rename_i ds
      match ds, h1 with
      | [], _ => rfl
      | [_], _ => simp [gDeed]
      | [_, _], h => simp [isTupL] at h
      | [_, _, _], h => simp [isTupL] at h
      | [_, _, _, _], h => simp [isTupL] at h
      | _ :: _ :: _ :: _ :: _ :: _, _ => simp [gDeed]
    simp [s_is_tuple (okD_pl h), h1, e]
  | true =>
    obtain ⟨ds, rfl, l1, l2⟩ := isTupL_no h1
    obtain ⟨a, b, rest, rfl⟩ : ∃ a b rest, ds = a :: b :: rest := by
      match ds, l1 with
      | a :: b :: rest, _ => exact ⟨a, b, rest, rfl⟩
      | [], l1 => simp at l1
      | [_], l1 => simp at l1
    have hx := okD_tup h
    have o0 := hx.2 a (by simp)
    have o1 := okD_pl (hx.2 b (by simp))
    have lr : rest.length ≤ 2 := by simp at l2; omega
    cases h2 : isSt_ a with
    | false =>
      have e : gDeed r (.tup (a :: b :: rest)) = false := by
        match rest, lr with
        | [], _ => cases a <;> first | rfl | (cases h2; done)
        | [c], _ => cases a <;> rfl
        | [c, d], _ => cases a <;> first | rfl | (cases h2; done)
      simp [s_is_tuple (okD_pl h), h1, ist_str (okD_pl o0), h2, e]
    | true =>
      obtain ⟨w, rfl⟩ := isSt_ex h2
      have ow : PyData.strOk w = true := okD_str o0
      have q1 : eqv s (.str w) (.str "put") = some (w == ("put" : Str)) := eqv_str ow sOk_put
      have q2 : eqv s (.str w) (.str "off") = some (w == ("off" : Str)) := eqv_str ow sOk_off
      have q3 : inD s (.str w) (.tup [.str "prop", .str "bare", .str "hang"]) = some (sw.any (· == w)) := in_strs (ws := sw) ow sw_ok
      have hp := s_is_put (W := W) (n := n) (s := s) hr h
      match rest, lr with
      | [], _ =>
        simp [s_is_tuple (okD_pl h), h1, ist_str, isSt_, q1, q2, q3, hp]
        simp [Rk.d, s_is_number o1]
        cases a1 : (w == ("put" : Str)) with
        | true =>
          obtain ⟨b1, b2⟩ := put_not_off a1
          simp [gDeed, gPut, b1, b2]
        | false => cases a2 : (w == ("off" : Str)) <;> simp [gDeed, a2]
      | [c], _ =>
        simp [s_is_tuple (okD_pl h), h1, ist_str, isSt_, q1, q2, q3, hp]
        cases a1 : (w == ("put" : Str)) <;> cases a2 : (w == ("off" : Str)) <;> simp [gDeed, gPut]
      | [c, d], _ =>
        simp [s_is_tuple (okD_pl h), h1, ist_str, isSt_, q1, q2, q3, hp]
        cases a1 : (w == ("put" : Str)) <;> cases a2 : (w == ("off" : Str)) <;> simp [gDeed, a1]
def gScript (r : Rk) : D → Bool
  | .tup ds => decide (ds.length ≤ 6) && allB (gDeed r) ds
  | _ => false
theorem s_is_good_script {r : Rk} {v : D} (hr : r.ok) (h : okD L k v = true) (hL : L ≤ sizeLine) : callN W (n + 4) f_is_good_script [r.d, v] s = .ok (.bl (gScript r v)) s := by
  rw [call1 (fd := f_is_good_script) rfl rfl]
  simp [s_is_tuple (okD_pl h)]
  cases v <;> first | (simp [isTupL, gScript]; done) | skip
  rename_i ds
  have hx := okD_tup h
  have hlen : ds.length ≤ sizeLine := by have := hx.1; omega
  have hc : ∀ ρ2, evE (gOf W (n + 3) f_is_good_script) c_is_good_script_1 [some r.d, some (.tup ds), ρ2] s = .ok (.lst (mapBl (gDeed r) ds)) s := fun ρ2 =>
    comp_bl (xs := ds) _ (gv_tup rfl) hlen fun z hz => ⟨_, rfl, by simp [wipeE, s_is_deed hr (hx.2 z hz)]⟩
  simp [hc, gScript, isTupL]
  congr 1
  rw [Bool.eq_iff_iff]
  simp
  omega
/-! what is asked of the outside -/
theorem gBoard_bd {b : Int × Int} (h : 0 ≤ b.1 ∧ b.1 < b.2 ∧ b.2 ≤ 12) : gBoard (bdD b) = true := by
  simp [gBoard, bdD, isNum, ltD2]; omega
theorem gRack_rk {r : Rk} (hr : r.ok) : gRack r.d = true := by
  simp only [gRack, Rk.d, Bool.and_eq_true, allB_iff]
  refine ⟨⟨?_, ?_⟩, fun x hx => ?_⟩
  · have := hr.t1; have := hr.t4; simp [isNum]; omega
  · have := hr.b1; have := hr.b3; simp; omega
  · obtain ⟨b, hb, rfl⟩ := List.mem_map.mp hx
    exact gBoard_bd (hr.bd b hb)
theorem rk_ok {r : Rk} (hr : r.ok) : okD 6 3 r.d = true := by
  refine okD_tupI (by simp) fun x hx => ?_
  simp at hx
  rcases hx with rfl | rfl
  · rfl
  · refine okD_tupI (by have := hr.b3; simp; omega) fun x hx => ?_
    obtain ⟨b, hb, rfl⟩ := List.mem_map.mp hx
    refine okD_tupI (by simp) fun x hx => ?_
    simp at hx
    rcases hx with rfl | rfl <;> rfl
theorem s_need_rack {r : Rk} (hr : r.ok) : callN W (n + 4) f_need_rack [r.d] s = .ok .non s := by
  rw [call1 (fd := f_need_rack) rfl rfl]
  simp [s_is_good_rack (rk_ok hr) (by simp [sizeLine_eq]), gRack_rk hr]
theorem s_is_rack {v : D} (h : okD L k v = true) (hL : L ≤ sizeLine) : callN W (n + 4) f_is_rack [v] s = .ok (.bl (gRack v)) s := by
  rw [call1 (fd := f_is_rack) rfl rfl]
  simp [s_is_good_rack h hL]
theorem s_are_facts {r : Rk} {v : D} (hr : r.ok) (h : okD L k v = true) (hL : L ≤ sizeLine) : callN W (n + 5) f_are_facts [r.d, v] s = .ok (.bl (gFacts r.w 6 v)) s := by
  rw [call1 (fd := f_are_facts) rfl rfl]
  have q : callN W (n + 4) f_are_good_facts [r.d, v, .int 6] s = .ok (.bl (gFacts r.w 6 v)) s := by
    have := s_are_good_facts (W := W) (n := n) (s := s) (t := r.t) (m := 6) (bs := r.bs.map bdD) (by omega) h hL
    rw [List.length_map] at this
    exact this
  simp [s_need_rack hr, q]
theorem s_are_numbers {r : Rk} {v : D} (hr : r.ok) (h : okD L k v = true) (hL : L ≤ sizeLine) : callN W (n + 5) f_are_numbers [r.d, v] s = .ok (.bl (gNums r.w v)) s := by
  rw [call1 (fd := f_are_numbers) rfl rfl]
  have q : callN W (n + 4) f_are_good_numbers [r.d, v] s = .ok (.bl (gNums r.w v)) s := by
    have := s_are_good_numbers (W := W) (n := n) (s := s) (t := r.t) (bs := r.bs.map bdD) h hL
    rw [List.length_map] at this
    exact this
  simp [s_need_rack hr, q]
theorem s_is_script {r : Rk} {v : D} (hr : r.ok) (h : okD L k v = true) (hL : L ≤ sizeLine) : callN W (n + 5) f_is_script [r.d, v] s = .ok (.bl (gScript r v)) s := by
  rw [call1 (fd := f_is_script) rfl rfl]
  simp [s_need_rack hr, s_is_good_script hr h hL]
end BS

namespace BS
open PySem
variable {W n : Nat} {s : Sto} {L k : Nat}
structure Fc where
  w : Str
  a : List Int
  b : List Int
def fcD (f : Fc) : D := .tup [.str f.w, .tup (intL f.a), .tup (intL f.b)]
def cf (f : Fc) (i : Int) : Int := (if f.a.any (· == i) = true then 1 else 0) - (if f.b.any (· == i) = true then 1 else 0)
def lineOf (r : Rk) (f : Fc) : List Int := (List.range r.w).map fun i => cf f (i : Nat)
def dot (xs ys : List Int) : Int := (List.zipWith (· * ·) xs ys).sum
def isSo (w : Str) (far : Int) : Bool := ifB (w == ("same" : Str)) (far == 0) (ifB (w == ("more" : Str)) (decide (0 < far)) (decide (0 ≤ far)))
theorem wide_rk {r : Rk} : callN W (n + 1) f_wide_of [r.d] s = .ok (.int (r.w : Nat)) s := by
  have := s_wide_of (W := W) (n := n) (s := s) (t := r.t) (bs := r.bs.map bdD)
  rw [List.length_map] at this
  exact this
theorem law_wide_rk {r : Rk} : callN W (n + 1) f__law_wide [r.d] s = .ok (.int (r.w : Nat)) s := by
  have := s_law_wide (W := W) (n := n) (s := s) (t := r.t) (bs := r.bs.map bdD)
  rw [List.length_map] at this
  exact this
theorem Rk.ok.w7 {r : Rk} (h : r.ok) : r.w ≤ 7 := by have := h.t4; have := h.b3; unfold Rk.w; omega
def rngL (m : Nat) : List D := mapT (fun i : Nat => D.int (i : Nat)) (List.range m)
theorem ofB_int {b : Bool} : ifB b (Out.ok (D.int 1) s) (.ok (.int 0) s) = .ok (.int (if b = true then 1 else 0)) s := by cases b <;> rfl
theorem s_fact_line {r : Rk} {f : Fc} (hr : r.ok) : callN W (n + 2) f_fact_line [r.d, fcD f] s = .ok (.tup (intL (lineOf r f))) s := by
  rw [call1 (fd := f_fact_line) rfl rfl]
  have hc : ∀ ρ0, evE (gOf W (n + 1) f_fact_line) c_fact_line_1 [some r.d, some (fcD f), ρ0] s = .ok (.lst (intL (lineOf r f))) s := fun ρ0 => by
    have := comp_T (g := gOf W (n + 1) f_fact_line) (ρ := [some r.d, some (fcD f), ρ0]) (s := s) (m := false) (own := [2]) (tg := .v 2) (it := .r1 (.call f_wide_of [.v 0]))
      (e := .pr .sub [.ite (.pr .isin [.v 2, .pr .ix [.v 1, .lit (.int 1)]]) (.lit (.int 1)) (.lit (.int 0)), .ite (.pr .isin [.v 2, .pr .ix [.v 1, .lit (.int 2)]]) (.lit (.int 1)) (.lit (.int 0))])
      (ts := List.range r.w) (fun i : Nat => D.int (i : Nat)) (fun i : Nat => D.int (cf f (i : Nat))) (gv_r1 (by simp [wide_rk]) (by have := hr.w7; omega)) (by have := hr.w7; simp [sizeLine_eq]; omega)
      fun i hi => ⟨_, rfl, by simp [wipeE, fcD, in_intL, ofB_int, cf]⟩
    rw [mapT_int] at this
    exact this
  simp [hc]
theorem dot_z {xs ys : List Int} : List.zipWith (fun x y => D.tup [x, y]) (intL xs) (intL ys) = mapT (fun p : Int × Int => D.tup [.int p.1, .int p.2]) (xs.zip ys) := by
  unfold intL mapT
  rw [List.zip, List.map_zipWith, List.zipWith_map]
theorem s_sum_line {fd : FD} {c : E} {xs ys : List Int} {ρ1 ρ2 : Option D} {k : Bool} (hc : c = .comp false [2, 3] (.tup [.v 2, .v 3]) (.zip (.v 0) (.v 1)) (.lit (.bl true)) (.pr .mul [.v 2, .v 3]))
    (hx : ∀ x ∈ xs, x.natAbs < 2 ^ 64) (hl : xs.length ≤ sizeLine) : evE (gOf W n fd) c [some (seqD k (intL xs)), some (.tup (intL ys)), ρ1, ρ2] s = .ok (.lst (intL (List.zipWith (· * ·) xs ys))) s := by
  subst hc
  have := comp_T (g := gOf W n fd) (ρ := [some (seqD k (intL xs)), some (.tup (intL ys)), ρ1, ρ2]) (s := s) (m := false) (own := [2, 3]) (tg := .tup [.v 2, .v 3]) (it := .zip (.v 0) (.v 1)) (e := .pr .mul [.v 2, .v 3])
      (ts := xs.zip ys) (fun p : Int × Int => D.tup [.int p.1, .int p.2]) (fun p : Int × Int => D.int (p.1 * p.2)) (by rw [← dot_z]; exact gv_zip (k := k) (l := false) rfl rfl) (by simp [List.length_zip]; omega)
      fun p hp => ⟨_, rfl, by
        have h1 := hx p.1 (List.of_mem_zip hp).1
        have h2 : mulOk p.1 p.2 = true := by unfold mulOk; simp [h1]
        simp [wipeE, p_mul_int h2]⟩
  rw [mapT_int] at this
  rw [this, List.zip, List.map_zipWith]
  rfl
theorem s_summed {xs ys : List Int} (hx : ∀ x ∈ xs, x.natAbs < 2 ^ 64) (hl : xs.length ≤ sizeLine) : callN W (n + 1) f_summed [.tup (intL xs), .tup (intL ys)] s = .ok (.int (dot xs ys)) s := by
  rw [call1 (fd := f_summed) rfl rfl]
  have hc := fun ρ1 ρ2 => s_sum_line (W := W) (n := n) (s := s) (fd := f_summed) (c := c_summed_1) (ρ1 := ρ1) (ρ2 := ρ2) (k := false) (ys := ys) rfl hx hl
  simp only [seqD, Bool.false_eq_true, if_false] at hc
  simp [hc, dot]
theorem sOk_same : PyData.strOk "same" = true := by decide +kernel
theorem sOk_more : PyData.strOk "more" = true := by decide +kernel
theorem sOk_atl : PyData.strOk "atleast" = true := by decide +kernel
theorem s_is_so {w : Str} {far : Int} (hw : PyData.strOk w = true) : callN W (n + 1) f_is_so [.str w, .int far] s = .ok (.bl (isSo w far)) s := by
  rw [call1 (fd := f_is_so) rfl rfl]
  have q1 : eqv s (.str w) (.str "same") = some (w == ("same" : Str)) := eqv_str hw sOk_same
  have q2 : eqv s (.str w) (.str "more") = some (w == ("more" : Str)) := eqv_str hw sOk_more
  simp [q1, q2]
  cases h1 : (w == ("same" : Str)) <;> cases h2 : (w == ("more" : Str)) <;> simp [isSo, h1, h2]
def keepsB (r : Rk) (fs : List Fc) (ns : List Int) : Bool := allT (fun f => isSo f.w (dot (lineOf r f) ns)) fs
theorem cf_small {f : Fc} {i : Int} : (cf f i).natAbs < 2 ^ 64 := by
  unfold cf
  split <;> split <;> decide
theorem line_small {r : Rk} {f : Fc} : ∀ x ∈ lineOf r f, x.natAbs < 2 ^ 64 := by
  intro x hx
  obtain ⟨i, _, rfl⟩ := List.mem_map.mp hx
  exact cf_small
theorem line_len {r : Rk} {f : Fc} : (lineOf r f).length = r.w := by simp [lineOf]
theorem s_keeps_all {r : Rk} {fs : List Fc} {ns : List Int} (hr : r.ok) (hf : ∀ f ∈ fs, PyData.strOk f.w = true) (hl : fs.length ≤ sizeLine) : callN W (n + 3) f_keeps_all [r.d, .tup (mapT fcD fs), .tup (intL ns)] s = .ok (.bl (keepsB r fs ns)) s := by
  rw [call1 (fd := f_keeps_all) rfl rfl]
  have hc : ∀ ρ0, evE (gOf W (n + 2) f_keeps_all) c_keeps_all_1 [some r.d, some (.tup (mapT fcD fs)), some (.tup (intL ns)), ρ0] s = .ok (.lst (mapBlT (fun f => isSo f.w (dot (lineOf r f) ns)) fs)) s := fun ρ0 =>
    comp_blT (ts := fs) fcD _ (gv_tup rfl) hl fun f hf' => ⟨_, rfl, by
      have h1 := s_summed (W := W) (n := n + 1) (s := s) (ys := ns) (line_small (r := r) (f := f)) (by rw [line_len]; have := hr.w7; simp [sizeLine_eq]; omega)
      have h2 := s_fact_line (W := W) (n := n) (s := s) (f := f) hr
      have h3 := s_is_so (W := W) (n := n + 1) (s := s) (far := dot (lineOf r f) ns) (hf f hf')
      have e : prim s .ix [fcD f, .int 0] = some (.str f.w) := rfl
      simp [wipeE, e, h2, h1, h3]⟩
  simp [hc, keepsB]
end BS

namespace BS
open PySem
variable {W n : Nat} {s : Sto} {L k : Nat}
/-! the outer functions at good things; the law's own -/
theorem fcD_ok {f : Fc} {m : Nat} (hw : PyData.strOk f.w = true) (h3 : 3 ≤ m) (ha : f.a.length ≤ m) (hb : f.b.length ≤ m) : okD m 2 (fcD f) = true := by
  refine okD_tupI h3 fun x hx => ?_
  simp at hx
  rcases hx with rfl | rfl | rfl
  · exact hw
  · refine okD_tupI (by simpa using ha) fun x hx => ?_
    obtain ⟨i, _, rfl⟩ := List.mem_map.mp hx
    rfl
  · refine okD_tupI (by simpa using hb) fun x hx => ?_
    obtain ⟨i, _, rfl⟩ := List.mem_map.mp hx
    rfl
/-- well-made facts for a rack -/
structure Fc.ok (w : Nat) (f : Fc) : Prop where
  wd : fw.any (· == f.w) = true
  a : gLot w (.tup (intL f.a)) = true
  b : gLot w (.tup (intL f.b)) = true
theorem gLot_len {w : Nat} {ns : List Int} (h : gLot w (.tup (intL ns)) = true) : ns.length ≤ w := by
  simp only [gLot, Bool.and_eq_true] at h
  have := incr_len (intL ns) 0 w h.1 h.2
  simp at this
  omega
theorem fw_str {x : Str} (h : fw.any (· == x) = true) : PyData.strOk x = true := by
  obtain ⟨y, hy, e⟩ := List.any_eq_true.mp h
  have e : y = x := by simpa using e
  subst e
  exact List.all_eq_true.mp fw_ok y hy
theorem Fc.ok.okD {w : Nat} {f : Fc} (h : f.ok w) (hw : w ≤ 7) : okD 7 2 (fcD f) = true :=
  fcD_ok (fw_str h.wd) (by omega) (by have := gLot_len h.a; omega) (by have := gLot_len h.b; omega)
theorem gFact_fc {w : Nat} {f : Fc} (h : f.ok w) : gFact w (fcD f) = true := by
  simp only [fcD, gFact, isWord, h.wd, h.a, h.b]; rfl
theorem facts_ok {w : Nat} {fs : List Fc} (hw : w ≤ 7) (h : ∀ f ∈ fs, f.ok w) (hl : fs.length ≤ 6) : okD 7 3 (.tup (mapT fcD fs)) = true := by
  refine okD_tupI (by unfold mapT; simp; omega) fun x hx => ?_
  obtain ⟨f, hf, rfl⟩ := List.mem_map.mp hx
  exact (h f hf).okD hw
theorem gFacts_fc {w : Nat} {fs : List Fc} (h : ∀ f ∈ fs, f.ok w) (hl : fs.length ≤ 6) : gFacts w 6 (.tup (mapT fcD fs)) = true := by
  simp only [gFacts, Bool.and_eq_true, decide_eq_true_eq]
  refine ⟨by unfold mapT; simp; omega, allB_iff.mpr fun x hx => ?_⟩
  obtain ⟨f, hf, rfl⟩ := List.mem_map.mp hx
  exact gFact_fc (h f hf)
structure NumsOk (w : Nat) (ns : List Int) : Prop where
  len : ns.length = w
  bd : ∀ i ∈ ns, 1 ≤ i ∧ i ≤ 1000000000000
theorem nums_ok {w : Nat} {ns : List Int} (hw : w ≤ 7) (h : NumsOk w ns) : okD 7 1 (.tup (intL ns)) = true := by
  refine okD_tupI (by simp [h.len, hw]) fun x hx => ?_
  obtain ⟨i, _, rfl⟩ := List.mem_map.mp hx
  rfl
theorem gNums_ns {w : Nat} {ns : List Int} (h : NumsOk w ns) : gNums w (.tup (intL ns)) = true := by
  simp only [gNums, Bool.and_eq_true, decide_eq_true_eq]
  refine ⟨by simp [h.len], allB_iff.mpr fun x hx => ?_⟩
  obtain ⟨i, hi, rfl⟩ := List.mem_map.mp hx
  have := h.bd i hi
  simp [isNum]; omega
theorem s7 : 7 ≤ sizeLine := by rw [sizeLine_eq]; decide
theorem gF_rk {r : Rk} {v : D} (h : okD L k v = true) (hL : L ≤ sizeLine) : callN W (n + 4) f_are_good_facts [r.d, v, .int 6] s = .ok (.bl (gFacts r.w 6 v)) s := by
  have := s_are_good_facts (W := W) (n := n) (s := s) (t := r.t) (m := 6) (bs := r.bs.map bdD) (by omega) h hL
  rw [List.length_map] at this
  exact this
theorem gN_rk {r : Rk} {v : D} (h : okD L k v = true) (hL : L ≤ sizeLine) : callN W (n + 4) f_are_good_numbers [r.d, v] s = .ok (.bl (gNums r.w v)) s := by
  have := s_are_good_numbers (W := W) (n := n) (s := s) (t := r.t) (bs := r.bs.map bdD) h hL
  rw [List.length_map] at this
  exact this
theorem s_keeps {r : Rk} {fs : List Fc} {ns : List Int} (hr : r.ok) (hf : ∀ f ∈ fs, f.ok r.w) (hl : fs.length ≤ 6) (hn : NumsOk r.w ns) : callN W (n + 7) f_keeps [r.d, .tup (mapT fcD fs), .tup (intL ns)] s = .ok (.bl (keepsB r fs ns)) s := by
  rw [call1 (fd := f_keeps) rfl rfl]
  have a1 : callN W (n + 6) f_need_asked [r.d, .tup (mapT fcD fs)] s = .ok .non s := by
    rw [call1 (fd := f_need_asked) rfl rfl]
    have : callN W (n + 5) f_need_facts [r.d, .tup (mapT fcD fs)] s = .ok .non s := by
      rw [call1 (fd := f_need_facts) rfl rfl]
      simp [gF_rk (facts_ok hr.w7 hf hl) s7, gFacts_fc hf hl]
    simp [s_need_rack hr, this]
  have a2 : callN W (n + 6) f_need_numbers [r.d, .tup (intL ns)] s = .ok .non s := by
    rw [call1 (fd := f_need_numbers) rfl rfl]
    simp [gN_rk (nums_ok hr.w7 hn) s7, gNums_ns hn]
  have a3 := s_keeps_all (W := W) (n := n + 3) (s := s) (fs := fs) (ns := ns) hr (fun f h => fw_str (hf f h).wd) (by rw [sizeLine_eq]; omega)
  simp [a1, a2, a3]
end BS

namespace BS
open PySem
variable {W n : Nat} {s : Sto} {L k : Nat}
theorem l_is_int {v : D} {a b : Int} (h : pl v = true) : callN W (n + 1) f__law_is_int [v, .int a, .int b] s = .ok (.bl (isNum v a b)) s := by
  rw [call1 (fd := f__law_is_int) rfl rfl]
  cases v <;> first | (cases h; done) | simp [ist_int, ist_bool, h, isI, isB, isNum]
theorem len2 {ds : List D} (h : ds.length = 2) : ∃ x y, ds = [x, y] := by
  match ds, h with
  | [x, y], _ => exact ⟨x, y, rfl⟩
theorem len3 {ds : List D} (h : ds.length = 3) : ∃ x y z, ds = [x, y, z] := by
  match ds, h with
  | [x, y, z], _ => exact ⟨x, y, z, rfl⟩
theorem gBoard_ne {ds : List D} (h : ds.length ≠ 2) : gBoard (.tup ds) = false := by
  match ds, h with
  | [], _ => rfl
  | [_], _ => rfl
  | [_, _], h => simp at h
  | _ :: _ :: _ :: _, _ => rfl
theorem gRack_ne {ds : List D} (h : ds.length ≠ 2) : gRack (.tup ds) = false := by
  match ds, h with
  | [], _ => rfl
  | [_], _ => rfl
  | [_, _], h => simp at h
  | _ :: b :: _ :: _, _ => cases b <;> simp [gRack]
theorem l_is_rack {v : D} (h : okD L k v = true) (hL : L ≤ sizeLine) : callN W (n + 2) f__law_is_rack [v] s = .ok (.bl (gRack v)) s := by
  rw [call1 (fd := f__law_is_rack) rfl rfl]
  cases v <;> first | (simp [gRack]; done) | (cases okD_pl h; done) | skip
  rename_i ds
  have hl2 : eqv s (.int ds.length) (.int 2) = some (decide (ds.length = 2)) := len_ne_int (m := 2)
  by_cases h2 : ds.length = 2
  · obtain ⟨x, y, rfl⟩ := len2 h2
    have hx := okD_tup h
    have ox := hx.2 x (by simp)
    have oy := hx.2 y (by simp)
    simp [l_is_int (okD_pl ox)]
    cases h1 : isNum x 1 4 with
    | false => simp; cases y <;> simp [gRack, h1]
    | true =>
      simp
      cases y <;> first | (simp [gRack]; done) | (cases okD_pl oy; done) | skip
      rename_i bs
      have hb := okD_tup oy
      have hlp := for_allR (s := s) (tg := .v 1) (b := fun ρ s => evSs (gOf W (n + 1) f__law_is_rack) b__law_is_rack_1 ρ s) (p := gBoard) (fun ρ => ∃ o, ρ = [some (.tup [x, .tup bs]), o]) bs [some (.tup [x, .tup bs]), none] ⟨_, rfl⟩ (by
        rintro z hz ρ ⟨o, rfl⟩
        refine ⟨_, [some (.tup [x, .tup bs]), some z], rfl, ⟨_, rfl⟩, ?_⟩
        have oz := hb.2 z hz
        unfold b__law_is_rack_1
        cases z <;> first | (simp [gBoard]; done) | (cases okD_pl oz; done) | skip
        rename_i es
        have hl2 : eqv s (.int es.length) (.int 2) = some (decide (es.length = 2)) := len_ne_int (m := 2)
        by_cases h3 : es.length = 2
        · obtain ⟨a, b, rfl⟩ := len2 h3
          have he := okD_tup oz
          have oa := he.2 a (by simp)
          have ob := he.2 b (by simp)
          simp [l_is_int (okD_pl oa), l_is_int (okD_pl ob)]
          cases q1 : isNum a 0 12 with
          | false => simp [gBoard, q1]
          | true =>
            cases q2 : isNum b 0 12 with
            | false => simp [gBoard, q1, q2]
            | true =>
              obtain ⟨i, rfl, _⟩ := isNum_int q1
              obtain ⟨j, rfl, _⟩ := isNum_int q2
              simp [gBoard, q1, q2, ltD2]
              by_cases hij : i < j
              · have : ¬ j ≤ i := by omega
                simp [hij, this]
              · have : j ≤ i := by omega
                simp [hij, this]
        · have hq : ((es.length : Int) == 2) = false := by simp <;> omega
          simp [hq, gBoard_ne h3])
      obtain ⟨ρ', ⟨o, rfl⟩, hfor⟩ := hlp
      have hg : Gives (gOf W (n + 1) f__law_is_rack) (.e (.pr .ix [.v 0, .lit (.int 1)])) [some (.tup [x, .tup bs]), none] s bs := gv_tup (by simp)
      simp [evS_forG hg, hfor, gRack, h1]
      by_cases c1 : 1 ≤ bs.length
      · by_cases c2 : bs.length ≤ 3
        · have c1' : (1 : Int) ≤ bs.length := by omega
          have c2' : (bs.length : Int) ≤ 3 := by omega
          cases allB gBoard bs <;> simp [c1, c2, c1', c2']
        · have c2' : ¬ (bs.length : Int) ≤ 3 := by omega
          simp [c2, c2']
      · have c1' : ¬ (1 : Int) ≤ bs.length := by omega
        simp [c1, c1']
  · have hq : ((ds.length : Int) == 2) = false := by simp <;> omega
    simp [hq, gRack_ne h2]
end BS

namespace BS
open PySem
variable {W n : Nat} {s : Sto} {L k : Nat}
theorem filter_empty {p : D → Bool} {xs : List D} : (xs.filter fun x => !p x).isEmpty = allB p xs := by
  unfold allB
  induction xs with
  | nil => rfl
  | cons x xs ih => cases h : p x <;> simp [h, ih]
theorem okD_filter {L k : Nat} {p : D → Bool} {xs : List D} (h : okD L (k + 1) (.tup xs) = true) : okD L (k + 1) (.lst (xs.filter p)) = true := by
  have hx := okD_tup h
  exact okD_lstI (Nat.le_trans (List.length_filter_le ..) hx.1) fun x hx' => hx.2 x (List.mem_filter.mp hx').1
/-- [x for x in value if not p(x)] against [] -/
theorem eqv_filter {p : D → Bool} {xs : List D} (h : okD L k (.tup xs) = true) (hk : k ≤ 64) : eqv s (.lst (xs.filter fun x => !p x)) (.lst []) = some (allB p xs) := by
  cases k with
  | zero => simp [okD] at h
  | succ k => rw [eqv_nilL (okD_filter h) hk, filter_empty]
def fltN (p : D → Bool) (xs : List D) : List D := xs.filter fun x => !p x
theorem comp_flt {g : G} {ρ : Env} {m : Bool} {own : List Nat} {tg : Tg} {it : I} {c e : E} {xs : List D} (p : D → Bool) (hI : Gives g it ρ s xs) (hl : xs.length ≤ sizeLine)
    (hb : ∀ x ∈ xs, ∃ ρ1, asg tg x (wipeE ρ own) = some ρ1 ∧ evE g c ρ1 s = .ok (.bl (!p x)) s ∧ evE g e ρ1 s = .ok x s) : evE g (.comp m own tg it c e) ρ s = mkL m (fltN p xs) s := by
  rw [comp_filter (fun x => !p x) id hI hl fun x hx => ?_]
  · rw [List.map_id]; rfl
  · obtain ⟨ρ1, h1, h2, h3⟩ := hb x hx
    exact ⟨ρ1, h1, h2, fun _ => h3⟩
theorem eqv_flt {p : D → Bool} {xs : List D} (h : okD L k (.tup xs) = true) (hk : k ≤ 64) : eqv s (.lst (fltN p xs)) (.lst []) = some (allB p xs) := eqv_filter h hk
/-- [1 for one, other in zip(value, value[1:]) if one >= other] against [] -/
theorem comp_ones {g : G} {ρ : Env} {own : List Nat} {tg : Tg} {it : I} {c : E} {xs : List D} (p : D → Bool) (hI : Gives g it ρ s xs) (hl : xs.length ≤ sizeLine)
    (hb : ∀ x ∈ xs, ∃ ρ1, asg tg x (wipeE ρ own) = some ρ1 ∧ evE g c ρ1 s = .ok (.bl (!p x)) s) : evE g (.comp false own tg it c (.lit (.int 1))) ρ s = .ok (.lst ((fltN p xs).map fun _ => .int 1)) s := by
  rw [comp_filter (fun x => !p x) (fun _ => .int 1) hI hl fun x hx => ?_]
  · rfl
  · obtain ⟨ρ1, h1, h2⟩ := hb x hx
    exact ⟨ρ1, h1, h2, fun _ => rfl⟩
def ones (xs : List D) : List D := xs.map fun _ => .int 1
theorem eqv_ones {p : D → Bool} {xs : List D} : eqv s (.lst (ones (fltN p xs))) (.lst []) = some (allB p xs) := by
  have h : okD (ones (fltN p xs)).length 1 (.lst (ones (fltN p xs))) = true := okD_lstI (Nat.le_refl _) fun x hx => by
    obtain ⟨_, _, rfl⟩ := List.mem_map.mp hx
    rfl
  rw [eqv_nilL h (by decide)]
  congr 1
  unfold ones
  rw [List.isEmpty_map]
  exact filter_empty
theorem l_is_lot {t : Int} {bs : List D} {v : D} (h : okD L k v = true) (hk : k ≤ 64) (hL : L ≤ sizeLine) : callN W (n + 2) f__law_is_lot [.tup [.int t, .tup bs], v] s = .ok (.bl (gLot (t + bs.length) v)) s := by
  rw [call1 (fd := f__law_is_lot) rfl rfl]
  cases v <;> first | (simp [gLot]; done) | (cases okD_pl h; done) | skip
  rename_i ds
  have hx := okD_tup h
  have hlen : ds.length ≤ sizeLine := by have := hx.1; omega
  have hc : ∀ ρ1 ρ2, evE (gOf W (n + 1) f__law_is_lot) c__law_is_lot_1 [some (.tup [.int t, .tup bs]), some (.tup ds), ρ1, ρ2] s = .ok (.lst (fltN (fun x => isNum x 0 (t + bs.length - 1)) ds)) s := fun ρ1 ρ2 =>
    comp_flt (m := false) (xs := ds) (fun x => isNum x 0 (t + bs.length - 1)) (gv_tup rfl) hlen fun z hz => ⟨_, rfl, by simp [wipeE, s_law_wide, l_is_int (okD_pl (hx.2 z hz))], by simp [wipeE]⟩
  have he := eqv_flt (s := s) (p := fun x => isNum x 0 (t + bs.length - 1)) h hk
  simp [hc, he]
  cases h2 : allB (fun x => isNum x 0 (t + bs.length - 1)) ds with
  | false => simp [gLot, h2]
  | true =>
    have hc2 : ∀ ρ1 ρ2, evE (gOf W (n + 1) f__law_is_lot) c__law_is_lot_2 [some (.tup [.int t, .tup bs]), some (.tup ds), ρ1, ρ2] s = .ok (.lst (ones (fltN ltP (pairs ds (ds.drop 1))))) s := fun ρ1 ρ2 =>
      comp_ones (xs := pairs ds (ds.drop 1)) ltP (gv_pairs false false rfl (by simp [bnd, slcD, seqD]; exact (cut_from 1).trans (by simp))) (Nat.le_trans pairs_len hlen) fun z hz => by
        obtain ⟨a, b, rfl, ha, hb⟩ := mem_pairs hz
        rw [allB_iff] at h2
        obtain ⟨i, rfl, _⟩ := isNum_int (h2 a ha)
        obtain ⟨j, rfl, _⟩ := isNum_int (h2 b (List.mem_of_mem_drop hb))
        have e : decide (j ≤ i) = !decide (i < j) := by by_cases q : i < j <;> simp [q] <;> omega
        exact ⟨_, rfl, by simp [wipeE, ltP, ltD2, e]⟩
    have he2 := eqv_ones (s := s) (p := ltP) (xs := pairs ds (ds.drop 1))
    simp [hc2, gLot, incr, h2] at he2 ⊢
    simp [he2]
theorem l_are_facts {t : Int} {bs : List D} {v : D} (h : okD L k v = true) (hk : k ≤ 64) (hL : L ≤ sizeLine) : callN W (n + 3) f__law_are_facts [.tup [.int t, .tup bs], v] s = .ok (.bl (gFacts (t + bs.length) 6 v)) s := by
  rw [call1 (fd := f__law_are_facts) rfl rfl]
  cases v <;> first | (simp [gFacts]; done) | (cases okD_pl h; done) | skip
  rename_i ds
  have hx := okD_tup h
  have hlp := for_allR (s := s) (tg := .v 2) (b := fun ρ s => evSs (gOf W (n + 2) f__law_are_facts) b__law_are_facts_1 ρ s) (p := gFact (t + bs.length)) (fun ρ => ∃ o, ρ = [some (.tup [.int t, .tup bs]), some (.tup ds), o]) ds [some (.tup [.int t, .tup bs]), some (.tup ds), none] ⟨_, rfl⟩ (by
    rintro z hz ρ ⟨o, rfl⟩
    refine ⟨_, [some (.tup [.int t, .tup bs]), some (.tup ds), some z], rfl, ⟨_, rfl⟩, ?_⟩
    have oz := hx.2 z hz
    unfold b__law_are_facts_1
    cases z <;> first | (simp [gFact]; done) | (cases okD_pl oz; done) | skip
    rename_i es
    by_cases h3 : es.length = 3
    · obtain ⟨a, b, c, rfl⟩ := len3 h3
      have he := okD_tup oz
      have oa := he.2 a (by simp)
      have ob := he.2 b (by simp)
      have oc := he.2 c (by simp)
      have kb : k - 1 - 1 ≤ 64 := by omega
      cases a <;> first | (simp [gFact, isWord]; done) | (cases okD_pl oa; done) | skip
      rename_i w
      have q : inD s (.str w) (.tup [.str "more", .str "atleast", .str "same"]) = some (fw.any (· == w)) := in_strs (ws := fw) (okD_str oa) fw_ok
      simp [q, l_is_lot ob kb hL, l_is_lot oc kb hL]
      cases q1 : fw.any (· == w) with
      | false => simp [gFact, isWord, q1]
      | true =>
        cases q2 : gLot (t + bs.length) b <;> cases q3 : gLot (t + bs.length) c <;> simp [gFact, isWord, q1, q2, q3]
    · have hq : ((es.length : Int) == 3) = false := by simp <;> omega
      have e : gFact (t + bs.length) (.tup es) = false := by
        match es, h3 with
        | [], _ => rfl
        | [_], _ => rfl
        | [_, _], _ => rfl
        | [_, _, _], h => simp at h
        | _ :: _ :: _ :: _ :: _, _ => rfl
      simp [hq, e])
  obtain ⟨ρ', ⟨o, rfl⟩, hfor⟩ := hlp
  have hg : Gives (gOf W (n + 2) f__law_are_facts) (.e (.v 1)) [some (.tup [.int t, .tup bs]), some (.tup ds), none] s ds := gv_tup rfl
  simp [evS_forG hg, hfor, gFacts]
  by_cases c1 : (ds.length : Int) ≤ 6
  · have c2 : ¬ (6 : Int) < ds.length := by omega
    cases allB (gFact (t + bs.length)) ds <;> simp [c1, c2]
  · have c2 : (6 : Int) < ds.length := by omega
    simp [c1, c2]
end BS

namespace BS
open PySem
variable {W n : Nat} {s : Sto} {L k : Nat}
theorem in_24 {m : Nat} : inD s (.int (m : Int)) (.tup [.int 2, .int 4]) = some (decide (m = 2) || decide (m = 4)) := by
  have := in_ints (s := s) (x := m) (ns := [2, 4])
  simp only [List.map] at this
  rw [this]
  congr 1
  rw [Bool.eq_iff_iff]
  simp
  omega
theorem gDeed_len {r : Rk} {ds : List D} (h2 : ds.length ≠ 2) (h4 : ds.length ≠ 4) : gDeed r (.tup ds) = false := by
  match ds, h2, h4 with
  | [], _, _ => rfl
  | [_], _, _ => simp [gDeed]
  | [_, _], h, _ => simp at h
  | [_, _, _], _, _ => simp [gDeed]
  | [_, _, _, _], _, h => simp at h
  | _ :: _ :: _ :: _ :: _ :: _, _, _ => simp [gDeed]
theorem l_is_deed {r : Rk} {v : D} (hr : r.ok) (h : okD L k v = true) : callN W (n + 2) f__law_is_deed [r.d, v] s = .ok (.bl (gDeed r v)) s := by
  rw [call1 (fd := f__law_is_deed) rfl rfl]
  cases v <;> first | (simp [gDeed]; done) | (cases okD_pl h; done) | skip
  rename_i ds
  have hx := okD_tup h
  by_cases h2 : ds.length = 2
  · obtain ⟨a, b, rfl⟩ := len2 h2
    have oa := hx.2 a (by simp)
    have ob := okD_pl (hx.2 b (by simp))
    have q0 : inD s (.int 2) (.tup [.int 2, .int 4]) = some true := in_24 (m := 2)
    cases a <;> first | (simp [q0, gDeed]; done) | (cases okD_pl oa; done) | skip
    rename_i w
    have ow := okD_str oa
    have q2 : eqv s (.str w) (.str "off") = some (w == ("off" : Str)) := eqv_str ow sOk_off
    have q3 : inD s (.str w) (.tup [.str "prop", .str "bare", .str "hang"]) = some (sw.any (· == w)) := in_strs (ws := sw) ow sw_ok
    simp [q0, q2, q3, Rk.d, l_is_int ob]
    cases a2 : (w == ("off" : Str)) <;> simp [gDeed, a2]
  · by_cases h4 : ds.length = 4
    · have q0 : inD s (.int 4) (.tup [.int 2, .int 4]) = some true := in_24 (m := 4)
      match ds, h4 with
      | [a, b, c, d], _ =>
        have oa := hx.2 a (by simp)
        have ob := okD_pl (hx.2 b (by simp))
        have oc := okD_pl (hx.2 c (by simp))
        have od := okD_pl (hx.2 d (by simp))
        cases a <;> first | (simp [q0, gDeed]; done) | (cases okD_pl oa; done) | skip
        rename_i w _
        have ow := okD_str oa
        have q1 : eqv s (.str w) (.str "put") = some (w == ("put" : Str)) := eqv_str ow sOk_put
        have q2 : eqv s (.str w) (.str "off") = some (w == ("off" : Str)) := eqv_str ow sOk_off
        simp [q0, q1, q2, Rk.d, l_is_int ob, l_is_int oc]
        cases a1 : (w == ("put" : Str)) with
        | false => simp [gDeed, a1]
        | true =>
          simp [gDeed, a1]
          cases h1 : isNum b 0 (r.t - 1) with
          | false => simp [gPut, h1]
          | true =>
            cases h2 : isNum c 0 (r.bs.length - 1) with
            | false =>
              simp [gPut, h1]
              cases c <;> first | rfl | skip
              rename_i i _ _
              simp [isNum] at h2
              by_cases h0 : 0 ≤ i
              · have := h2 h0
                have e : r.bs[i.toNat]? = none := List.getElem?_eq_none (by omega)
                simp [h0, e]
              · simp [h0]
            | true =>
              obtain ⟨i, rfl, i0, i1⟩ := isNum_int h2
              obtain ⟨m, rfl⟩ := Int.eq_ofNat_of_zero_le i0
              have hm : m < r.bs.length := by omega
              have e : r.bs[m]? = some r.bs[m] := List.getElem?_eq_getElem hm
              simp [gPut, h1, atI_nat, e, bdD, l_is_int od]
    · have q0 : inD s (.int ds.length) (.tup [.int 2, .int 4]) = some false := by rw [in_24]; simp [h2, h4]
      simp [q0, gDeed_len h2 h4]
theorem l_told_right {r : Rk} {v : D} (hr : r.ok) (h : okD L k v = true) (hk : k ≤ 64) (hL : L ≤ sizeLine) : callN W (n + 6) f__law_told_right [r.d, v] s = .ok (.bl true) s := by
  rw [call1 (fd := f__law_told_right) rfl rfl]
  have f1 := s_is_rack (W := W) (n := n + 1) (s := s) h hL
  have f2 := l_is_rack (W := W) (n := n + 3) (s := s) h hL
  have f3 := s_are_numbers (W := W) (n := n) (s := s) hr h hL
  have f4 := s_are_facts (W := W) (n := n) (s := s) hr h hL
  have f5 : callN W (n + 5) f__law_are_facts [r.d, v] s = .ok (.bl (gFacts r.w 6 v)) s := by
    have := l_are_facts (W := W) (n := n + 2) (s := s) (t := r.t) (bs := r.bs.map bdD) h hk hL
    rw [List.length_map] at this
    exact this
  have f6 := s_is_script (W := W) (n := n) (s := s) hr h hL
  have f7 := law_wide_rk (W := W) (n := n + 4) (s := s) (r := r)
  have bb : ∀ b : Bool, eqv s (.bl b) (.bl b) = some true := fun b => by simp
  cases v <;> first | (simp [f1, f2, f3, f4, f5, f6, f7, gNums, gScript, gFacts]; done) | (cases okD_pl h; done) | skip
  rename_i ds
  have hx := okD_tup h
  have hlen : ds.length ≤ sizeLine := by have := hx.1; omega
  have hc1 : ∀ ρ1 ρ2 ρ3 ρ4, evE (gOf W (n + 5) f__law_told_right) c__law_told_right_1 [some r.d, some (.tup ds), ρ1, ρ2, ρ3, ρ4] s = .ok (.lst (fltN (fun x => isNum x 1 1000000000000) ds)) s := fun ρ1 ρ2 ρ3 ρ4 =>
    comp_flt (m := false) (xs := ds) (fun x => isNum x 1 1000000000000) (gv_tup rfl) hlen fun z hz => ⟨_, rfl, by
      have e : prim s .pow [.int 10, .int 12] = some (.int 1000000000000) := rfl
      simp [wipeE, e, l_is_int (okD_pl (hx.2 z hz))], by simp [wipeE]⟩
  have hc2 : ∀ ρ1 ρ2 ρ3 ρ4, evE (gOf W (n + 5) f__law_told_right) c__law_told_right_2 [some r.d, some (.tup ds), ρ1, ρ2, ρ3, ρ4] s = .ok (.lst (fltN (gDeed r) ds)) s := fun ρ1 ρ2 ρ3 ρ4 =>
    comp_flt (m := false) (xs := ds) (gDeed r) (gv_tup rfl) hlen fun z hz => ⟨_, rfl, by simp [wipeE, l_is_deed hr (hx.2 z hz)], by simp [wipeE]⟩
  have he1 := eqv_flt (s := s) (p := fun x => isNum x 1 1000000000000) h hk
  have he2 := eqv_flt (s := s) (p := gDeed r) h hk
  have hq : ((ds.length : Int) == (r.w : Nat)) = decide (ds.length = r.w) := by rw [Bool.eq_iff_iff]; simp; omega
  have hq2 : decide ((ds.length : Int) = (r.w : Nat)) = decide (ds.length = r.w) := by rw [Bool.eq_iff_iff]; simp; omega
  have hq3 : decide ((ds.length : Int) ≤ 6) = decide (ds.length ≤ 6) := by rw [Bool.eq_iff_iff]; simp; omega
  simp [f1, f2, f3, f4, f5, f6, f7, hc1, hc2, he1, he2, hq, hq3]
  simp only [gNums, gScript, hq2]
  generalize decide (ds.length = r.w) = b1
  generalize decide (ds.length ≤ 6) = b2
  generalize allB (fun x => isNum x 1 1000000000000) ds = b3
  generalize allB (gDeed r) ds = b4
  cases b1 <;> cases b2 <;> cases b3 <;> cases b4 <;> rfl
end BS

namespace BS
open PySem
variable {W n : Nat} {s : Sto} {L k : Nat}
/-- the source stands: two numbers -/
def Srce (s : Sto) (m : Nat) : Prop := ∃ a b : Int, s[m]? = some (Ob.lst [.int a, .int b]) ∧ 0 ≤ a ∧ 0 ≤ b ∧ b < 4294967296
theorem p_ix_obj {m : Nat} {ds : List D} {i : Int} (h : s[m]? = some (Ob.lst ds)) : prim s .ix [.obj m, .int i] = L2.atI ds i := by
  show ((vL s (.obj m)).bind fun ds => L2.atI ds i) = _
  simp only [vL, h]
  rfl
theorem setIx_0 {m : Nat} {a b d : D} (h : s[m]? = some (Ob.lst [a, b])) : setIx s (.obj m) (.int 0) d = some (s.set m (.lst [d, b])) := by
  simp only [setIx, h]
  rfl
theorem setIx_1 {m : Nat} {a b d : D} (h : s[m]? = some (Ob.lst [a, b])) : setIx s (.obj m) (.int 1) d = some (s.set m (.lst [a, d])) := by
  simp only [setIx, h]
  rfl
theorem get_set {m : Nat} {o o' : Ob} (h : s[m]? = some o) : (s.set m o')[m]? = some o' := by
  rw [List.getElem?_set_self (List.getElem?_eq_some_iff.mp h).1]
theorem mulOk_l {a b : Int} (h : a.natAbs < 2 ^ 64) : mulOk a b = true := by unfold mulOk; simp [h]
theorem mulOk_r {a b : Int} (h : b.natAbs < 2 ^ 64) : mulOk a b = true := by unfold mulOk; simp [h]
theorem log_small {b : Int} (h : b.natAbs < 2 ^ 64) : b.natAbs.log2 < 9000 := by
  by_cases h0 : b.natAbs = 0
  · rw [h0]; decide
  · have := (Nat.log2_lt h0).mpr h
    omega
theorem draw_sat {m : Nat} {many : Int} (hs : Srce s m) (h0 : 0 < many) (h1 : many < 4294967296) :
    (callN W (n + 1) f__law_draw [.obj m, .int many] s).sat fun d s' => ∃ r : Nat, d = .int r ∧ (r : Int) < many ∧ Srce s' m := by
  obtain ⟨a, b, hm, ha, hb, hb2⟩ := hs
  rw [call1 (fd := f__law_draw) rfl rfl]
  have hl := log_small (b := many) (by omega)
  simp [p_ix_obj hm]
  by_cases hp : 0 < a
  · simp [hp, p_mod_int h0, p_ix_obj hm, p_div_int h0 hl, setIx_0 hm]
    refine ⟨(a % many).toNat, ?_, ?_, a / many, b, get_set hm, Int.ediv_nonneg ha (by omega), hb, hb2⟩
    · rw [Int.toNat_of_nonneg (Int.emod_nonneg _ (by omega))]
    · rw [Int.toNat_of_nonneg (Int.emod_nonneg _ (by omega))]; exact Int.emod_lt_of_pos _ h0
  · have hb' : b.natAbs < 2 ^ 64 := by omega
    simp [hp, p_mul_int (mulOk_l hb'), p_mod_int (a := b * 48271) (b := 2147483647) (by decide), setIx_1 hm]
    have n1 := Int.emod_nonneg (b * 48271) (b := 2147483647) (by decide)
    have n2 := Int.emod_lt_of_pos (b * 48271) (b := 2147483647) (by decide)
    generalize b * 48271 % 2147483647 = c at n1 n2
    have hc : c.natAbs < 2 ^ 64 := by omega
    have hm2 := get_set (o' := Ob.lst [.int a, .int c]) hm
    simp [p_ix_obj hm2, p_mul_int (mulOk_l hc), p_mod_int (a := c * c) (b := 2147483629) (by decide), p_div_int (a := c * c % 2147483629) (b := 64) (by decide) (by decide), p_mod_int h0]
    refine ⟨(c * c % 2147483629 / 64 % many).toNat, ?_, ?_, a, c, hm2, ha, n1, by omega⟩
    · rw [Int.toNat_of_nonneg (Int.emod_nonneg _ (by omega))]
    · rw [Int.toNat_of_nonneg (Int.emod_nonneg _ (by omega))]; exact Int.emod_lt_of_pos _ h0
end BS

namespace BS
open PySem
variable {W n : Nat} {s : Sto} {L k : Nat}
section
variable {g : G} {ρ : Env}
theorem for_sat {t : Tg} {it : I} {b : List S} {Q : Flow → Sto → Prop} (h : (evI g it ρ s).sat fun src s1 => ∃ xs, itemsOf src = some xs ∧ (forItems t (fun ρ s => evSs g b ρ s) xs ρ s1).sat Q) : (evS g (.for_ t it b) ρ s).sat Q := by
  obtain ⟨src, s1, e, xs, h1, h2⟩ := h.get
  rw [evS_for, e]
  show (forSrc src t _ ρ s1).sat Q
  rw [forSrc_items h1]
  exact h2
theorem r1_sat {e : E} {P : Src → Sto → Prop} (h : (evE g e ρ s).sat fun d s1 => ∃ m : Nat, d = .int (m : Nat) ∧ m ≤ 16777216 ∧ P (.rng 0 m) s1) : (evI g (.r1 e) ρ s).sat P := by
  rw [evI_r1]
  refine h.bind fun d s1 hd => ?_
  obtain ⟨m, rfl, hm, hp⟩ := hd
  simp only
  rw [if_pos (rng_fits hm), Int.toNat_natCast]
  exact hp
end
theorem source_sat {ns : List Int} {k : Nat} (hk : k ≤ 100) : (callN W (n + 1) f__law_source [.scr ns, .int (k : Nat)] s).sat fun d s' => d = .obj s.length ∧ Srce s' s.length := by
  rw [call1 (fd := f__law_source) rfl rfl]
  have key : ∀ c : Int, 0 ≤ c → (fin (evSs (gOf W n f__law_source) [
  .ite (.pr .lt [.v 2, .pr .pow [.lit (.int 10), .lit (.int 18)]]) [
    .ret (.lst true [.lit (.int 0), .pr .add [.lit (.int 1), .pr .mod [.pr .toInt [.pr .add [.pr .mul [.v 2, .lit (.int 7919)], .pr .mul [.lit (.int 104729), .v 1]]], .lit (.int 2147483646)]]])] [],
  .ret (.lst true [.v 2, .pr .add [.lit (.int 1), .pr .mod [.pr .toInt [.pr .add [.v 2, .v 1]], .lit (.int 2147483646)]]])] [some (.scr ns), some (.int (k : Nat)), some (.int c)] s)).sat fun d s' => d = .obj s.length ∧ Srce s' s.length := by
    intro c hc
    have e : prim s .pow [.int 10, .int 18] = some (.int 1000000000000000000) := rfl
    have n1 := fun z : Int => Int.emod_nonneg z (b := 2147483646) (by decide)
    have n2 := fun z : Int => Int.emod_lt_of_pos z (b := 2147483646) (by decide)
    have last : ∀ a b : Int, (s ++ [Ob.lst [.int a, .int b]])[s.length]? = some (Ob.lst [.int a, .int b]) := fun a b => by simp
    simp [e, p_mul_int (a := c) (b := 7919) (mulOk_r (by decide)), p_mul_int (a := 104729) (mulOk_l (by decide)), p_mod_int (b := 2147483646) (by decide), mkL]
    cases h : decide (c < 1000000000000000000) with
    | true =>
      simp
      refine ⟨0, _, last _ _, by decide, ?_, ?_⟩
      · have := n1 (c * 7919 + 104729 * k); omega
      · have := n2 (c * 7919 + 104729 * k); omega
    | false =>
      simp
      refine ⟨c, _, last _ _, hc, ?_, ?_⟩
      · have := n1 (c + k); omega
      · have := n2 (c + k); omega
  by_cases h : k < ns.length
  · have e : L2.atI ns (k : Int) = some ns[k] := by rw [atI_nat]; exact List.getElem?_eq_getElem h
    have h' : (k : Int) < ns.length := by omega
    have q := key (if ns[k] < 0 then -ns[k] else ns[k]) (by split <;> omega)
    simp [h', e]
    simpa using q
  · have h' : ¬ (k : Int) < ns.length := by omega
    have q := key 0 (by decide)
    simp [h']
    simpa using q
theorem of_sat {m : Nat} {ds : List D} (hs : Srce s m) (h0 : 0 < ds.length) (h1 : ds.length < 4294967296) : (callN W (n + 2) f__law_of [.obj m, .lst ds] s).sat fun d s' => d ∈ ds ∧ Srce s' m := by
  rw [call1 (fd := f__law_of) rfl rfl]
  simp only [fin_sat]
  simp [so_sat, sat_bind, seq_so]
  refine (draw_sat (many := ds.length) hs (by omega) (by omega)).mono fun d s1 h => ?_
  obtain ⟨r, rfl, hr, hs1⟩ := h
  have hr' : r < ds.length := by omega
  simp [atI_nat, List.getElem?_eq_getElem hr']
  exact hs1
end BS

namespace BS
open PySem
variable {W n : Nat} {s : Sto} {L k : Nat}
theorem rack_sat {m : Nat} (hs : Srce s m) : (callN W (n + 2) f__law_rack [.obj m, .int 4, .int 3] s).sat fun d s' => ∃ r : Rk, d = r.d ∧ r.ok ∧ Srce s' m := by
  rw [call1 (fd := f__law_rack) rfl rfl, fin_sat]
  simp [seq_sat]
  refine for_sat (r1_sat ?_)
  simp [sat_bind]
  refine (draw_sat (many := 3) hs (by decide) (by decide)).mono fun d s1 h => ?_
  obtain ⟨r, rfl, hr, hs1⟩ := h
  simp
  refine ⟨1 + r, by omega, by omega, _, rfl, ?_⟩
  refine for_inv (fun i ρ s => ∃ (bs : List (Int × Int)) (o1 o2 : Option D), ρ = [some (.obj m), some (.int 4), some (.int 3), some (.tup (bs.map bdD)), o1, o2] ∧ bs.length = i ∧ (∀ b ∈ bs, 0 ≤ b.1 ∧ b.1 < b.2 ∧ b.2 ≤ 12) ∧ Srce s m) ⟨[], none, none, rfl, rfl, (fun _ h => nomatch h), hs1⟩ ?_ ?_
  · rintro i x ρ s hx ⟨bs, o1, o2, rfl, hb, hbd, hs⟩
    have hi : i < 1 + r := by
      have := (List.getElem?_eq_some_iff.mp hx).1
      simpa using this
    refine ⟨_, rfl, ?_⟩
    unfold b__law_rack_1
    simp [seq_sat, so_sat, sat_bind]
    refine (draw_sat (many := 4) hs (by decide) (by decide)).mono fun d s1 h => ?_
    obtain ⟨l, rfl, hl, hs1⟩ := h
    simp [sat_bind, so_sat]
    refine (draw_sat (many := 5) hs1 (by decide) (by decide)).mono fun d s2 h => ?_
    obtain ⟨q, rfl, hq, hs2⟩ := h
    have hsz : bs.length + 1 ≤ sizeLine := by rw [sizeLine_eq]; omega
    simp [hsz]
    refine ⟨bs ++ [((l : Int), (l : Int) + 1 + q)], by simp [bdD], by simp [hb], fun a b hab => ?_, hs2⟩
    simp at hab
    rcases hab with h | ⟨rfl, rfl⟩
    · exact hbd _ h
    · omega
  · rintro ρ s ⟨bs, o1, o2, rfl, hb, hbd, hs⟩
    simp [so_sat, sat_bind]
    refine (draw_sat (many := 4) hs (by decide) (by decide)).mono fun d s1 h => ?_
    obtain ⟨t, rfl, ht, hs1⟩ := h
    simp at hb
    simp
    exact ⟨⟨1 + t, bs⟩, by simp [Rk.d], ⟨by simp, by simp; omega, by simp; omega, by simp; omega, hbd⟩, hs1⟩
end BS

namespace BS
open PySem
variable {W n : Nat} {s : Sto} {L k : Nat}
theorem numbers_sat {m : Nat} {r : Rk} (hr : r.ok) (hs : Srce s m) : (callN W (n + 3) f__law_numbers [.obj m, r.d] s).sat fun d s' => ∃ ns : List Int, d = .tup (intL ns) ∧ NumsOk r.w ns ∧ Srce s' m := by
  rw [call1 (fd := f__law_numbers) rfl rfl, fin_sat]
  simp [seq_sat]
  refine for_sat (r1_sat ?_)
  simp [law_wide_rk]
  have hw := hr.w7
  refine ⟨r.w, by simp, by omega, _, rfl, ?_⟩
  refine for_inv (fun i ρ s => ∃ (ns : List Int) (o : Option D), ρ = [some (.obj m), some r.d, some (.tup (intL ns)), o] ∧ ns.length = i ∧ (∀ i ∈ ns, 1 ≤ i ∧ i ≤ 1000000000000) ∧ Srce s m) ⟨[], none, rfl, rfl, (fun _ h => nomatch h), hs⟩ ?_ ?_
  · rintro i x ρ s hx ⟨ns, o, rfl, hb, hbd, hs⟩
    have hi : i < r.w := by
      have := (List.getElem?_eq_some_iff.mp hx).1
      simpa using this
    refine ⟨_, rfl, ?_⟩
    unfold b__law_numbers_1
    simp [seq_sat, so_sat, sat_bind]
    refine (draw_sat (many := 9) hs (by decide) (by decide)).mono fun d s1 h => ?_
    obtain ⟨q, rfl, hq, hs1⟩ := h
    simp [sat_bind, so_sat]
    refine (of_sat hs1 (by simp) (by simp)).mono fun d s2 h => ?_
    obtain ⟨hd, hs2⟩ := h
    have hsz : ns.length + 1 ≤ sizeLine := by rw [sizeLine_eq]; omega
    obtain ⟨j, rfl, j1, j2⟩ : ∃ j : Int, d = .int j ∧ 1 ≤ j ∧ j ≤ 1000000000000 := by
      simp at hd
      rcases hd with rfl | rfl | rfl | rfl | rfl <;> exact ⟨_, rfl, by omega, by omega⟩
    simp [hsz]
    refine ⟨ns ++ [j], by simp [intL], by simp [hb], fun a hab => ?_, hs2⟩
    simp at hab
    rcases hab with h | rfl
    · exact hbd _ h
    · exact ⟨j1, j2⟩
  · rintro ρ s ⟨ns, o, rfl, hb, hbd, hs⟩
    simp at hb
    simp
    exact ⟨ns, rfl, ⟨hb, hbd⟩, hs⟩
theorem incr_snoc : ∀ {ns : List Int} {j : Int}, incr (intL ns) = true → (∀ i ∈ ns, i < j) → incr (intL (ns ++ [j])) = true
  | [], j, _, _ => rfl
  | [a], j, _, h => by
    have := h a (by simp)
    show (ltD2 (.int a) (.int j) && incr [.int j]) = true
    simp [ltD2, this]; rfl
  | a :: b :: ns, j, h, hl => by
    have h : (ltD2 (.int a) (.int b) && incr (intL (b :: ns))) = true := h
    rw [Bool.and_eq_true] at h
    show (ltD2 (.int a) (.int b) && incr (intL ((b :: ns) ++ [j]))) = true
    rw [Bool.and_eq_true]
    exact ⟨h.1, incr_snoc h.2 fun i hi => hl i (List.mem_cons_of_mem _ hi)⟩
/-- rising numbers below w -/
structure LotOk (w : Nat) (ns : List Int) : Prop where
  up : incr (intL ns) = true
  bd : ∀ i ∈ ns, 0 ≤ i ∧ i < w
theorem LotOk.g {w : Nat} {ns : List Int} (h : LotOk w ns) : gLot w (.tup (intL ns)) = true := by
  simp only [gLot, Bool.and_eq_true, h.up, and_true]
  refine allB_iff.mpr fun x hx => ?_
  obtain ⟨i, hi, rfl⟩ := List.mem_map.mp hx
  have := h.bd i hi
  simp [isNum]; omega
theorem lot_sat {m : Nat} {r : Rk} (hr : r.ok) (hs : Srce s m) : (callN W (n + 2) f__law_lot [.obj m, r.d, .int 4] s).sat fun d s' => ∃ ns : List Int, d = .tup (intL ns) ∧ LotOk r.w ns ∧ Srce s' m := by
  rw [call1 (fd := f__law_lot) rfl rfl, fin_sat]
  simp [seq_sat]
  refine for_sat (r1_sat ?_)
  simp [law_wide_rk]
  have hw := hr.w7
  refine ⟨r.w, by simp, by omega, _, rfl, ?_⟩
  refine for_inv (fun i ρ s => ∃ (ns : List Int) (o : Option D), ρ = [some (.obj m), some r.d, some (.int 4), some (.tup (intL ns)), o] ∧ ns.length ≤ i ∧ incr (intL ns) = true ∧ (∀ j ∈ ns, 0 ≤ j ∧ j < i) ∧ Srce s m) ⟨[], none, rfl, Nat.le_refl _, rfl, (fun _ h => nomatch h), hs⟩ ?_ ?_
  · rintro i x ρ s hx ⟨ns, o, rfl, hb, hup, hbd, hs⟩
    have hi : i < r.w := by
      have := (List.getElem?_eq_some_iff.mp hx).1
      simpa using this
    have ex : x = .int (i : Nat) := by
      simp [itemsOf] at hx
      obtain ⟨_, q, rfl⟩ := hx
      simp [List.getElem?_range hi] at q
      simp [q]
    subst ex
    refine ⟨_, rfl, ?_⟩
    unfold b__law_lot_1
    simp [seq_sat, so_sat, sat_bind]
    refine (draw_sat (many := 4) hs (by decide) (by decide)).mono fun d s1 h => ?_
    obtain ⟨q, rfl, hq, hs1⟩ := h
    have hsz : ns.length + 1 ≤ sizeLine := by rw [sizeLine_eq]; omega
    have hsz2 : ns.length ≤ sizeLine := by omega
    simp
    cases q0 : ((q : Int) == 0) with
    | true =>
      simp [hsz]
      refine ⟨ns ++ [(i : Int)], by simp [intL], by simp; omega, incr_snoc hup fun j hj => (hbd j hj).2, fun a hab => ?_, hs1⟩
      simp at hab
      rcases hab with h | rfl
      · have := hbd _ h; omega
      · omega
    | false =>
      simp [hsz2]
      refine ⟨ns, rfl, by omega, hup, fun a hab => ?_, hs1⟩
      have := hbd _ hab; omega
  · rintro ρ s ⟨ns, o, rfl, hb, hup, hbd, hs⟩
    simp at hbd
    simp
    exact ⟨ns, rfl, ⟨hup, hbd⟩, hs⟩
end BS

namespace BS
open PySem
variable {W n : Nat} {s : Sto} {L k : Nat}
theorem l_fact_line {r : Rk} {f : Fc} (hr : r.ok) : callN W (n + 2) f__law_fact_line [r.d, fcD f] s = .ok (.lst (intL (lineOf r f))) s := by
  rw [call1 (fd := f__law_fact_line) rfl rfl]
  have hc : ∀ ρ0, evE (gOf W (n + 1) f__law_fact_line) c__law_fact_line_1 [some r.d, some (fcD f), some (.str f.w), some (.tup (intL f.a)), some (.tup (intL f.b)), ρ0] s = .ok (.lst (intL (lineOf r f))) s := fun ρ0 => by
    have := comp_T (g := gOf W (n + 1) f__law_fact_line) (ρ := [some r.d, some (fcD f), some (.str f.w), some (.tup (intL f.a)), some (.tup (intL f.b)), ρ0]) (s := s) (m := false) (own := [5]) (tg := .v 5) (it := .r1 (.call f__law_wide [.v 0]))
      (e := .pr .sub [.pr .toInt [.pr .isin [.v 5, .v 3]], .pr .toInt [.pr .isin [.v 5, .v 4]]])
      (ts := List.range r.w) (fun i : Nat => D.int (i : Nat)) (fun i : Nat => D.int (cf f (i : Nat))) (gv_r1 (by simp [law_wide_rk]) (by have := hr.w7; omega)) (by have := hr.w7; simp [sizeLine_eq]; omega)
      fun i hi => ⟨_, rfl, by simp [wipeE, in_intL, cf]⟩
    rw [mapT_int] at this
    exact this
  have e : evE (gOf W (n + 1) f__law_fact_line) (.v 1) [some r.d, some (fcD f), none, none, none, none] s = .ok (.tup [.str f.w, .tup (intL f.a), .tup (intL f.b)]) s := rfl
  simp [fcD] at hc ⊢
  simp [hc]
theorem l_sum {xs ys : List Int} (hx : ∀ x ∈ xs, x.natAbs < 2 ^ 64) (hl : xs.length ≤ sizeLine) : callN W (n + 1) f__law_sum [.lst (intL xs), .tup (intL ys)] s = .ok (.int (dot xs ys)) s := by
  rw [call1 (fd := f__law_sum) rfl rfl]
  have hc := fun ρ1 ρ2 => s_sum_line (W := W) (n := n) (s := s) (fd := f__law_sum) (c := c__law_sum_1) (ρ1 := ρ1) (ρ2 := ρ2) (k := true) (ys := ys) rfl hx hl
  simp only [seqD, if_true] at hc
  simp [hc, dot]
theorem l_holds {w : Str} {far : Int} (hw : fw.any (· == w) = true) : callN W (n + 1) f__law_holds [.str w, .int far] s = .ok (.bl (isSo w far)) s := by
  rw [call1 (fd := f__law_holds) rfl rfl]
  have ow := fw_str hw
  have q1 : eqv s (.str w) (.str "same") = some (w == ("same" : Str)) := eqv_str ow sOk_same
  have q2 : eqv s (.str w) (.str "atleast") = some (w == ("atleast" : Str)) := eqv_str ow sOk_atl
  simp [q1, q2]
  have hw3 : w = "more" ∨ w = "atleast" ∨ w = "same" := by
    simp [fw] at hw
    rcases hw with h | h | h
    · exact .inl h.symm
    · exact .inr (.inl h.symm)
    · exact .inr (.inr h.symm)
  have e1 : (("more" : Str) == ("same" : Str)) = false := by decide +kernel
  have e2 : (("more" : Str) == ("atleast" : Str)) = false := by decide +kernel
  have e3 : (("atleast" : Str) == ("same" : Str)) = false := by decide +kernel
  have e4 : (("atleast" : Str) == ("more" : Str)) = false := by decide +kernel
  have e5 : (("same" : Str) == ("same" : Str)) = true := by decide +kernel
  have e6 : (("more" : Str) == ("more" : Str)) = true := by decide +kernel
  have e7 : (("atleast" : Str) == ("atleast" : Str)) = true := by decide +kernel
  rcases hw3 with rfl | rfl | rfl
  · simp [isSo, e1, e2, e6]
  · simp [isSo, e3, e4, e7]
    by_cases a : 0 < far
    · have : far ≠ 0 := by omega
      have : 0 ≤ far := by omega
      simp [*]
    · by_cases b : far = 0
      · subst b; simp
      · have : ¬ 0 ≤ far := by omega
        simp [*]
  · simp [isSo, e5]
theorem l_keeps {r : Rk} {fs : List Fc} {ns : List Int} (hr : r.ok) (hf : ∀ f ∈ fs, f.ok r.w) : callN W (n + 3) f__law_keeps [r.d, .tup (mapT fcD fs), .tup (intL ns)] s = .ok (.bl (keepsB r fs ns)) s := by
  rw [call1 (fd := f__law_keeps) rfl rfl]
  have key : ∀ (gs : List Fc) (ρ : Env), (∀ f ∈ gs, f.ok r.w) → (∃ o1 o2, ρ = [some r.d, some (.tup (mapT fcD fs)), some (.tup (intL ns)), o1, o2]) →
      ∃ ρ', forItems (.v 3) (fun ρ s => evSs (gOf W (n + 2) f__law_keeps) b__law_keeps_1 ρ s) (mapT fcD gs) ρ s = ifB (allT (fun f => isSo f.w (dot (lineOf r f) ns)) gs) (.fl (.next ρ') s) (.fl (.ret (.bl false)) s) := by
    intro gs
    induction gs with
    | nil => intro ρ _ _; exact ⟨ρ, rfl⟩
    | cons f gs ih =>
      rintro ρ hg ⟨o1, o2, rfl⟩
      have h1 := l_sum (W := W) (n := n + 1) (s := s) (ys := ns) (line_small (r := r) (f := f)) (by rw [line_len]; have := hr.w7; simp [sizeLine_eq]; omega)
      have h2 := l_fact_line (W := W) (n := n) (s := s) (f := f) hr
      have h3 := l_holds (W := W) (n := n + 1) (s := s) (far := dot (lineOf r f) ns) (hg f List.mem_cons_self).wd
      have e : prim s .ix [fcD f, .int 0] = some (.str f.w) := rfl
      have hbody : evSs (gOf W (n + 2) f__law_keeps) b__law_keeps_1 [some r.d, some (.tup (mapT fcD fs)), some (.tup (intL ns)), some (fcD f), o2] s =
          ifB (isSo f.w (dot (lineOf r f) ns)) (.fl (.next [some r.d, some (.tup (mapT fcD fs)), some (.tup (intL ns)), some (fcD f), some (.int (dot (lineOf r f) ns))]) s) (.fl (.ret (.bl false)) s) := by
        unfold b__law_keeps_1
        simp [h1, h2, h3, e]
      have ea : allT (fun f => isSo f.w (dot (lineOf r f) ns)) (f :: gs) = (isSo f.w (dot (lineOf r f) ns) && allT (fun f => isSo f.w (dot (lineOf r f) ns)) gs) := rfl
      show ∃ ρ', forItems (.v 3) _ (fcD f :: mapT fcD gs) _ s = _
      simp only [forItems, asg_v, List.set_cons_succ, List.set_cons_zero, hbody, ea]
      cases isSo f.w (dot (lineOf r f) ns) with
      | false => exact ⟨[], rfl⟩
      | true => exact ih _ (fun f hf => hg f (List.mem_cons_of_mem _ hf)) ⟨_, _, rfl⟩
  obtain ⟨ρ', hfor⟩ := key fs [some r.d, some (.tup (mapT fcD fs)), some (.tup (intL ns)), none, none] hf ⟨_, _, rfl⟩
  have hg : Gives (gOf W (n + 2) f__law_keeps) (.e (.v 1)) [some r.d, some (.tup (mapT fcD fs)), some (.tup (intL ns)), none, none] s (mapT fcD fs) := gv_tup rfl
  simp [evS_forG hg, hfor, keepsB]
end BS

namespace BS
open PySem
variable {W n : Nat} {s : Sto} {L k : Nat}
theorem lot_one {w : Nat} {i : Int} (h0 : 0 ≤ i) (h1 : i < w) : LotOk w [i] := ⟨rfl, fun j hj => by simp at hj; omega⟩
theorem fact_end {m : Nat} {r : Rk} {a b : List Int} {w : Str} (ha : LotOk r.w a) (hb : LotOk r.w b) (hw : fw.any (· == w) = true) : (⟨w, a, b⟩ : Fc).ok r.w := ⟨hw, ha.g, hb.g⟩
theorem fact_sat {m : Nat} {r : Rk} {ns : List Int} (hr : r.ok) (hs : Srce s m) : (callN W (n + 3) f__law_fact [.obj m, r.d, .tup (intL ns)] s).sat fun d s' => ∃ f : Fc, d = fcD f ∧ f.ok r.w ∧ Srce s' m := by
  rw [call1 (fd := f__law_fact) rfl rfl, fin_sat]
  obtain ⟨d1, s1, e1, a1, rfl, ha1, hs1⟩ := (lot_sat (W := W) (n := n) hr hs).get
  obtain ⟨d2, s2, e2, b1, rfl, hb1, hs2⟩ := (lot_sat (W := W) (n := n) hr hs1).get
  simp [seq_sat, e1, e2, so_sat, sat_bind]
  refine (draw_sat (many := 2) hs2 (by decide) (by decide)).mono fun d s3 h => ?_
  obtain ⟨q, rfl, hq, hs3⟩ := h
  simp
  -- what follows the two lots
  have rest : ∀ (a b : List Int) (s : Sto), LotOk r.w a → LotOk r.w b → Srce s m → (evSs (gOf W (n + 2) f__law_fact) [
  .set (.v 5) (.call f__law_of [.v 0, .lst false [.lit (.str "more"), .lit (.str "atleast"), .lit (.str "same")]]),
  .ite (.pr .eq [.call f__law_draw [.v 0, .lit (.int 10)], .lit (.int 0)]) [
    .ret (.tup [.v 5, .v 3, .v 4])] [],
  .set (.v 6) (.call f__law_sum [.call f__law_fact_line [.v 1, .tup [.v 5, .v 3, .v 4]], .v 2]),
  .ite (.pr .lt [.v 6, .lit (.int 0)]) [
    .par [3, 4] [.v 4, .v 3]] [],
  .set (.v 7) (.ite (.pr .eq [.v 6, .lit (.int 0)]) (.lst false [.lit (.str "same"), .lit (.str "atleast")]) (.lst false [.lit (.str "more"), .lit (.str "atleast")])),
  .ret (.tup [.call f__law_of [.v 0, .v 7], .v 3, .v 4])] [some (.obj m), some r.d, some (.tup (intL ns)), some (.tup (intL a)), some (.tup (intL b)), none, none, none] s).sat fun fl s' => match fl with
        | .next _ => ∃ f : Fc, D.non = fcD f ∧ f.ok r.w ∧ Srce s' m
        | .ret d => ∃ f : Fc, d = fcD f ∧ f.ok r.w ∧ Srce s' m
        | _ => False := by
    intro a b s ha hb hs
    simp [seq_sat, so_sat, sat_bind]
    refine (of_sat hs (by simp) (by simp)).mono fun d s1 h => ?_
    obtain ⟨hd, hs1⟩ := h
    obtain ⟨w, rfl, hw⟩ : ∃ w : Str, d = .str w ∧ fw.any (· == w) = true := by
      simp at hd
      rcases hd with rfl | rfl | rfl <;> exact ⟨_, rfl, by decide +kernel⟩
    refine (draw_sat (many := 10) hs1 (by decide) (by decide)).mono fun d s2 h => ?_
    obtain ⟨q, rfl, hq, hs2⟩ := h
    simp
    cases h0 : ((q : Int) == 0) with
    | true =>
      simp
      exact ⟨⟨w, a, b⟩, rfl, ⟨hw, ha.g, hb.g⟩, hs2⟩
    | false =>
      have h1 := l_sum (W := W) (n := n + 1) (s := s2) (ys := ns) (line_small (r := r) (f := ⟨w, a, b⟩)) (by rw [line_len]; have := hr.w7; simp [sizeLine_eq]; omega)
      have h2 : callN W (n + 2) f__law_fact_line [r.d, .tup [.str w, .tup (intL a), .tup (intL b)]] s2 = _ := l_fact_line (W := W) (n := n) (s := s2) (f := ⟨w, a, b⟩) hr
      simp [h1, h2]
      generalize dot (lineOf r ⟨w, a, b⟩) ns = far
      have fin : ∀ (a b : List Int) (ws : List D) , LotOk r.w a → LotOk r.w b → (∀ d ∈ ws, ∃ w : Str, d = .str w ∧ fw.any (· == w) = true) → 0 < ws.length → ws.length < 100 →
          (callN W (n + 2) f__law_of [.obj m, .lst ws] s2).sat fun d s' => ∃ f : Fc, D.tup [d, .tup (intL a), .tup (intL b)] = fcD f ∧ f.ok r.w ∧ Srce s' m := by
        intro a b ws ha hb hws hl1 hl2
        refine (of_sat hs2 hl1 (by omega)).mono fun d s3 h => ?_
        obtain ⟨w, rfl, hw⟩ := hws d h.1
        exact ⟨⟨w, a, b⟩, rfl, ⟨hw, ha.g, hb.g⟩, h.2⟩
      have w1 : ∀ d ∈ [D.str "same", D.str "atleast"], ∃ w : Str, d = .str w ∧ fw.any (· == w) = true := by
        intro d hd
        simp at hd
        rcases hd with rfl | rfl <;> exact ⟨_, rfl, by decide +kernel⟩
      have w2 : ∀ d ∈ [D.str "more", D.str "atleast"], ∃ w : Str, d = .str w ∧ fw.any (· == w) = true := by
        intro d hd
        simp at hd
        rcases hd with rfl | rfl <;> exact ⟨_, rfl, by decide +kernel⟩
      by_cases hn : far < 0
      · have hz : (far == 0) = false := by simp; omega
        simp [hn, hz, so_sat, sat_bind]
        exact fin b a _ hb ha w2 (by simp) (by simp)
      · cases hz : (far == 0) with
        | true =>
          simp [hn, hz, so_sat, sat_bind]
          exact fin a b _ ha hb w1 (by simp) (by simp)
        | false =>
          simp [hn, hz, so_sat, sat_bind]
          exact fin a b _ ha hb w2 (by simp) (by simp)
  cases h0 : ((q : Int) == 0) with
  | false =>
    have := rest a1 b1 s3 ha1 hb1 hs3
    simp [seq_sat, so_sat, sat_bind] at this ⊢
    exact this
  | true =>
    have t1 := hr.t1
    have t4 := hr.t4
    have b1' := hr.b1
    have b3 := hr.b3
    simp [seq_sat, so_sat, sat_bind, Rk.d]
    refine (draw_sat (many := r.bs.length) hs3 (by omega) (by omega)).mono fun d s4 h => ?_
    obtain ⟨x, rfl, hx, hs4⟩ := h
    simp [so_sat, sat_bind]
    refine (draw_sat (many := r.t) hs4 (by omega) (by omega)).mono fun d s5 h => ?_
    obtain ⟨y, rfl, hy, hs5⟩ := h
    have := rest [(r.t : Int) + x] [(y : Int)] s5 (lot_one (by omega) (by unfold Rk.w; omega)) (lot_one (by omega) (by unfold Rk.w; omega)) hs5
    simp [seq_sat, so_sat, sat_bind, intL, Rk.d] at this ⊢
    exact this
end BS

namespace BS
open PySem
variable {W n : Nat} {s : Sto} {L k : Nat}
theorem facts_sat {m : Nat} {r : Rk} (hr : r.ok) (hs : Srce s m) : (callN W (n + 4) f__law_facts [.obj m, r.d, .int 6] s).sat fun d s' => ∃ fs : List Fc, d = .tup (mapT fcD fs) ∧ (∀ f ∈ fs, f.ok r.w) ∧ fs.length ≤ 6 ∧ Srce s' m := by
  rw [call1 (fd := f__law_facts) rfl rfl, fin_sat]
  obtain ⟨d1, s1, e1, ns, rfl, hn, hs1⟩ := (numbers_sat (W := W) (n := n) hr hs).get
  simp [seq_sat, e1]
  refine for_sat (r1_sat ?_)
  simp [sat_bind]
  refine (draw_sat (many := 7) hs1 (by decide) (by decide)).mono fun d s2 h => ?_
  obtain ⟨q, rfl, hq, hs2⟩ := h
  refine ⟨q, by simp, by omega, _, rfl, ?_⟩
  refine for_inv (fun i ρ s => ∃ (fs : List Fc) (o : Option D), ρ = [some (.obj m), some r.d, some (.int 6), some (.tup (intL ns)), some (.tup (mapT fcD fs)), o] ∧ fs.length = i ∧ (∀ f ∈ fs, f.ok r.w) ∧ Srce s m) ⟨[], none, rfl, rfl, (fun _ h => nomatch h), hs2⟩ ?_ ?_
  · rintro i x ρ s hx ⟨fs, o, rfl, hb, hbd, hs⟩
    have hi : i < q := by
      have := (List.getElem?_eq_some_iff.mp hx).1
      simpa using this
    refine ⟨_, rfl, ?_⟩
    unfold b__law_facts_1
    simp [seq_sat, so_sat, sat_bind]
    refine (fact_sat (ns := ns) hr hs).mono fun d s1 h => ?_
    obtain ⟨f, rfl, hf, hs1⟩ := h
    have hsz : (mapT fcD fs).length + 1 ≤ sizeLine := by rw [sizeLine_eq]; unfold mapT; simp; omega
    simp [hsz]
    refine ⟨fs ++ [f], by simp [mapT], by simp [hb], fun g hg => ?_, hs1⟩
    simp at hg
    rcases hg with h | rfl
    · exact hbd _ h
    · exact hf
  · rintro ρ s ⟨fs, o, rfl, hb, hbd, hs⟩
    simp at hb
    simp
    exact ⟨fs, rfl, hbd, by omega, hs⟩
theorem str_ok {x : Str} {L k : Nat} (h : PyData.strOk x = true) : okD L k (.str x) = true := by cases k <;> exact h
theorem int_ok {x : Int} {L k : Nat} : okD L k (.int x) = true := by cases k <;> rfl
theorem script_sat {m : Nat} {r : Rk} (hr : r.ok) (hs : Srce s m) : (callN W (n + 3) f__law_script [.obj m, r.d, .int 6] s).sat fun d s' => okD 7 2 d = true ∧ Srce s' m := by
  rw [call1 (fd := f__law_script) rfl rfl, fin_sat]
  simp [seq_sat]
  refine for_sat (r1_sat ?_)
  simp [sat_bind]
  refine (draw_sat (many := 7) hs (by decide) (by decide)).mono fun d s2 h => ?_
  obtain ⟨q, rfl, hq, hs2⟩ := h
  refine ⟨q, by simp, by omega, _, rfl, ?_⟩
  refine for_inv (fun i ρ s => ∃ (ds : List D) (o4 o5 o6 o7 o8 o9 o10 o11 : Option D), ρ = [some (.obj m), some r.d, some (.int 6), some (.tup ds), o4, o5, o6, o7, o8, o9, o10, o11] ∧ ds.length = i ∧ (∀ x ∈ ds, okD 7 1 x = true) ∧ Srce s m) ⟨[], none, none, none, none, none, none, none, none, rfl, rfl, (fun _ h => nomatch h), hs2⟩ ?_ ?_
  · rintro i x0 ρ s hx ⟨ds, o4, o5, o6, o7, o8, o9, o10, o11, rfl, hb, hbd, hs⟩
    have hi : i < q := by
      have := (List.getElem?_eq_some_iff.mp hx).1
      simpa using this
    have t1 := hr.t1
    have t4 := hr.t4
    have b1' := hr.b1
    have b3 := hr.b3
    refine ⟨_, rfl, ?_⟩
    unfold b__law_script_1
    have two : ∀ (w : Str) (j : Int), PyData.strOk w = true → okD 7 1 (.tup [.str w, .int j]) = true := fun w j ow => okD_tupI (by simp) fun x hx => by
      simp at hx
      rcases hx with rfl | rfl
      · exact ow
      · rfl
    have four : ∀ (w : Str) (i j l : Int), PyData.strOk w = true → okD 7 1 (.tup [.str w, .int i, .int j, .int l]) = true := fun w i j l ow => okD_tupI (by simp) fun x hx => by
      simp at hx
      rcases hx with rfl | rfl | rfl | rfl
      · exact ow
      · rfl
      · rfl
      · rfl
    have snoc : ∀ x : D, okD 7 1 x = true → ∀ y ∈ ds ++ [x], okD 7 1 y = true := fun x hx y hy => by
      rcases List.mem_append.mp hy with h | h
      · exact hbd _ h
      · rw [List.mem_singleton.mp h]; exact hx
    have hsz : ds.length + 1 ≤ sizeLine := by rw [sizeLine_eq]; omega
    simp [-evSs_cons, evSs_step, seq_sat, so_sat, sat_bind, Rk.d]
    refine (draw_sat (many := r.bs.length) hs (by omega) (by omega)).mono fun d s1 h => ?_
    obtain ⟨sh, rfl, hsh, hs1⟩ := h
    rw [rest_cons]
    simp [-evSs_cons, seq_sat, so_sat, sat_bind]
    refine (draw_sat (many := r.t) hs1 (by omega) (by omega)).mono fun d s2 h => ?_
    obtain ⟨th, rfl, hth, hs2⟩ := h
    have hsh' : sh < r.bs.length := by omega
    have e : r.bs[sh]? = some r.bs[sh] := List.getElem?_eq_getElem hsh'
    have bd := hr.bd r.bs[sh] (List.getElem_mem hsh')
    rw [rest_cons]
    simp [-evSs_cons, seq_sat, so_sat, sat_bind, atI_nat, e, bdD]
    rw [rest_cons]
    simp [-evSs_cons, seq_sat, so_sat, sat_bind]
    refine (draw_sat (many := r.bs[sh].2 - r.bs[sh].1 + 1) hs2 (by omega) (by omega)).mono fun d s3 h => ?_
    obtain ⟨pl, rfl, hpl, hs3⟩ := h
    simp [so_sat]
    rw [rest_cons]
    simp [-evSs_cons, seq_sat, so_sat, sat_bind]
    refine (of_sat hs3 (by simp) (by simp)).mono fun d s4 h => ?_
    obtain ⟨hd, hs4⟩ := h
    obtain ⟨w, rfl, ow⟩ : ∃ w : Str, d = .str w ∧ PyData.strOk w = true := by
      simp at hd
      rcases hd with rfl | rfl | rfl | rfl | rfl <;> exact ⟨_, rfl, by decide +kernel⟩
    have q1 : eqv s4 (.str w) (.str "put") = some (w == ("put" : Str)) := eqv_str ow sOk_put
    have q2 : eqv s4 (.str w) (.str "off") = some (w == ("off" : Str)) := eqv_str ow sOk_off
    rw [rest_cons]
    simp [-evSs_cons, seq_sat, so_sat, sat_bind, q2]
    have last : ∀ x : D, okD 7 1 x = true → (rest (gOf W (n + 2) f__law_script) [.set (.v 11) (.ite (.pr .eq [.v 10, .lit (.str "put")]) (.tup [.v 10, .v 6, .v 5, .v 9]) (.v 11)), .set (.v 3) (.pr .add [.v 3, .tup [.v 11]])]
        [some (.obj m), some (.tup [.int r.t, .tup (r.bs.map bdD)]), some (.int 6), some (.tup ds), some x0, some (.int sh), some (.int th), some (.int r.bs[sh].1), some (.int r.bs[sh].2), some (.int (r.bs[sh].1 + pl)), some (.str w), some x] s4).sat fun fl s' =>
          match fl with
          | .next ρ' => ∃ ds' o4 o5 o6 o7 o8 o9 o10 o11, ρ' = [some (.obj m), some (.tup [.int r.t, .tup (r.bs.map bdD)]), some (.int 6), some (.tup ds'), o4, o5, o6, o7, o8, o9, o10, o11] ∧ ds'.length = i + 1 ∧ (∀ x ∈ ds', okD 7 1 x = true) ∧ Srce s' m
          | _ => False := by
      intro x hx
      rw [rest_cons]
      simp [-evSs_cons, seq_sat, so_sat, sat_bind, q1]
      cases hp : (w == ("put" : Str)) with
      | true =>
        simp
        rw [rest_cons]
        simp [-evSs_cons, seq_sat, so_sat, sat_bind, hsz]
        exact ⟨hb, fun y hy => snoc _ (four w th sh (r.bs[sh].1 + pl) ow) y (by simpa using hy), hs4⟩
      | false =>
        simp
        rw [rest_cons]
        simp [-evSs_cons, seq_sat, so_sat, sat_bind, hsz]
        exact ⟨hb, fun y hy => snoc _ hx y (by simpa using hy), hs4⟩
    cases ho : (w == ("off" : Str)) with
    | true =>
      simp
      refine (last _ (two w th ow)).mono fun fl s' h => ?_
      cases fl with
      | next ρ' =>
        obtain ⟨ds', o4, o5, o6, o7, o8, o9, o10, o11, h1, h2⟩ := h
        exact ⟨ds', ⟨_, _, _, _, _, _, _, _, h1⟩, h2⟩
      | _ => exact h.elim
    | false =>
      simp
      refine (last _ (two w sh ow)).mono fun fl s' h => ?_
      cases fl with
      | next ρ' =>
        obtain ⟨ds', o4, o5, o6, o7, o8, o9, o10, o11, h1, h2⟩ := h
        exact ⟨ds', ⟨_, _, _, _, _, _, _, _, h1⟩, h2⟩
      | _ => exact h.elim
  · rintro ρ s ⟨ds, o4, o5, o6, o7, o8, o9, o10, o11, rfl, hb, hbd, hs⟩
    simp at hb
    simp
    exact ⟨okD_tupI (by omega) hbd, hs⟩
end BS

namespace BS
open PySem
variable {W n : Nat} {s : Sto} {L k : Nat}
theorem p_add_lst {a b : List D} : prim s .add [.lst a, .lst b] = if a.length + b.length ≤ sizeLine then some (.lst (a ++ b)) else none := rfl
def oddL : List D := [.non, .bl true, .bl false, .int 0, .int 1, .int 3, .int 4, .int 12, .int 13, .int (-1), .str "", .str "more", .str "put", .str "prop", .str "off", .tup [], .lst [], .tup [.int 0], .tup [.int 1, .int 0]] ++
  [.tup [.int 0, .int 1], .tup [.int 2, .int 2], .tup [.str "off", .int 0], .tup [.str "hang", .bl true], .int 10000000000000, .str "atleast"]
theorem oddL_ok : oddL.all (okD 2 1) = true := by decide +kernel
theorem odd_sat {m : Nat} (hs : Srce s m) : (callN W (n + 3) f__law_odd [.obj m] s).sat fun d s' => okD 2 1 d = true ∧ Srce s' m := by
  rw [call1 (fd := f__law_odd) rfl rfl, fin_sat]
  have e : prim s .pow [.int 10, .int 13] = some (.int 10000000000000) := rfl
  have hz : 19 + 6 ≤ sizeLine := by rw [sizeLine_eq]; decide
  have hz2 : 25 ≤ sizeLine := hz
  simp [seq_sat, so_sat, sat_bind, e, p_add_lst, hz2]
  exact (of_sat (ds := oddL) hs (by decide) (by decide)).mono fun d s1 h => ⟨List.all_eq_true.mp oddL_ok d h.1, h.2⟩
theorem okD_take {L k m : Nat} {ds : List D} (h : ∀ x ∈ ds, okD L k x = true) : ∀ x ∈ ds.take m, okD L k x = true := fun x hx => h x (List.mem_of_mem_take hx)
theorem okD_drop {L k m : Nat} {ds : List D} (h : ∀ x ∈ ds, okD L k x = true) : ∀ x ∈ ds.drop m, okD L k x = true := fun x hx => h x (List.mem_of_mem_drop hx)
theorem cut_to1 {xs : List D} {m : Nat} : cutD xs none (some ((m : Int) + 1)) = xs.take (m + 1) := cut_to (m + 1)
theorem cut_from1 {xs : List D} {m : Nat} : cutD xs (some ((m : Int) + 1)) none = xs.drop (m + 1) := cut_from (m + 1)
/-- a tuple with one more, one less, one other -/
theorem okD_app {L k : Nat} {as bs : List D} (ha : ∀ x ∈ as, okD L k x = true) (hb : ∀ x ∈ bs, okD L k x = true) (hl : as.length + bs.length ≤ L) : okD L (k + 1) (.tup (as ++ bs)) = true :=
  okD_tupI (by simp; omega) fun x hx => by
    rcases List.mem_append.mp hx with h | h
    · exact ha x h
    · exact hb x h
theorem okD_app3 {L k : Nat} {as bs : List D} {c : D} (ha : ∀ x ∈ as, okD L k x = true) (hc : okD L k c = true) (hb : ∀ x ∈ bs, okD L k x = true) (hl : as.length + 1 + bs.length ≤ L) : okD L (k + 1) (.tup (as ++ c :: bs)) = true :=
  okD_app ha (fun x hx => by
    rcases List.mem_cons.mp hx with rfl | h
    · exact hc
    · exact hb x h) (by simp; omega)
theorem ist_isInt {v : D} (h : isI v = true) : (∃ i, v = .int i) ∨ ∃ b, v = .bl b := by
  cases v <;> first | (cases h; done) | skip
  · exact .inr ⟨_, rfl⟩
  · exact .inl ⟨_, rfl⟩
theorem spoilt_sat {m : Nat} : ∀ (k : Nat) {L n : Nat} {v : D} {s : Sto}, 2 ≤ L → L ≤ 1000 → k ≤ 60 → okD L k v = true → Srce s m →
    (callN W (n + k + 4) f__law_spoilt [.obj m, v] s).sat fun d s' => okD (L + 1) (k + 1) d = true ∧ Srce s' m := by
  intro k
  induction k with
  | zero =>
    intro L n v s hL2 hL hk h hs
    rw [call1 (fd := f__law_spoilt) rfl rfl, fin_sat]
    have ho := (odd_sat (W := W) (n := n) hs).mono fun d s1 h => (⟨okD_L (by omega) h.1, h.2⟩ : okD (L + 1) 1 d = true ∧ Srce s1 m)
    cases v <;> first | (simp [okD] at h; done) | (simp [-evSs_cons, evSs_step, seq_sat, so_sat, sat_bind]; exact ho)
  | succ k ih =>
    intro L n v s hL2 hL hk h hs
    rw [call1 (fd := f__law_spoilt) rfl rfl, fin_sat]
    have ho : ∀ s, Srce s m → (callN W (n + (k + 1) + 3) f__law_odd [.obj m] s).sat fun d s1 => okD (L + 1) (k + 1 + 1) d = true ∧ Srce s1 m := fun s hs =>
      (odd_sat (W := W) (n := n + (k + 1)) hs).mono fun d s1 h => ⟨okD_le (okD_L (by omega) h.1) (by omega), h.2⟩
    have ho2 : ∀ s, Srce s m → (callN W (n + (k + 1) + 3) f__law_odd [.obj m] s).sat fun d s1 => okD (L + 1) (k + 1) d = true ∧ Srce s1 m := fun s hs =>
      (odd_sat (W := W) (n := n + (k + 1)) hs).mono fun d s1 h => ⟨okD_le (okD_L (by omega) h.1) (by omega), h.2⟩
    cases v <;> first | (simp [okD] at h; done) | (simp [-evSs_cons, evSs_step, seq_sat, so_sat, sat_bind]; exact ho s hs) | skip
    rename_i ds
    have hx := okD_tup h
    have hx2 : ∀ x ∈ ds, okD L k x = true := hx.2
    have up : ∀ x ∈ ds, okD (L + 1) (k + 1) x = true := fun x hx' => okD_le (okD_L (by omega) (hx2 x hx')) (by omega)
    have up0 : ∀ x ∈ ds, okD (L + 1) k x = true := fun x hx' => okD_L (by omega) (hx2 x hx')
    have hz : ∀ j : Nat, j ≤ 2000 → j ≤ sizeLine := fun j hj => by rw [sizeLine_eq]; omega
    cases he : ds.isEmpty with
    | true =>
      simp [-evSs_cons, evSs_step, seq_sat, so_sat, sat_bind, eqv_nilT h (by omega), he]
      exact ho s hs
    | false =>
      have hpos : 0 < ds.length := by
        cases ds with
        | nil => cases he
        | cons => simp
      simp [-evSs_cons, evSs_step, seq_sat, so_sat, sat_bind, eqv_nilT h (by omega), he]
      refine (draw_sat (many := 6) hs (by decide) (by decide)).mono fun d s1 h => ?_
      obtain ⟨q, rfl, hq, hs1⟩ := h
      simp
      cases hz0 : ((q : Int) == 0) with
      | true =>
        simp [-evSs_cons, evSs_step, seq_sat, so_sat, sat_bind]
        exact ho s1 hs1
      | false =>
        simp [-evSs_cons, evSs_step, seq_sat, so_sat, sat_bind]
        obtain ⟨d1, s2, e1, at_, rfl, hat, hs2⟩ := (draw_sat (W := W) (n := n + (k + 1) + 2) (many := ds.length) hs1 (by omega) (by omega)).get
        obtain ⟨d2, s3, e2, md, rfl, hmd, hs3⟩ := (draw_sat (W := W) (n := n + (k + 1) + 2) (many := 9) hs2 (by decide) (by decide)).get
        have e1' : callN W (n + (k + 1) + 3) f__law_draw [D.obj m, D.int ↑ds.length] s1 = Out.ok (D.int ↑at_) s2 := e1
        have e2' : callN W (n + (k + 1) + 3) f__law_draw [D.obj m, D.int 9] s2 = Out.ok (D.int ↑md) s3 := e2
        have hat' : at_ < ds.length := by omega
        have hd : ds[at_]? = some ds[at_] := List.getElem?_eq_getElem hat'
        have hdm : ds[at_] ∈ ds := List.getElem_mem hat'
        have lt : (ds.take at_).length = at_ := by simp; omega
        have lt1 : (ds.take (at_ + 1)).length = at_ + 1 := by simp; omega
        have ld : (ds.drop at_).length = ds.length - at_ := by simp
        have ld1 : (ds.drop (at_ + 1)).length = ds.length - (at_ + 1) := by simp
        have z1 := hz (at_ + (ds.length - (at_ + 1))) (by omega)
        have z2 := hz (at_ + 1 + (ds.length - at_)) (by omega)
        have z3 := hz (at_ + 1) (by omega)
        have z4 := hz (at_ + 1 + (ds.length - (at_ + 1))) (by omega)
        have m1 : min at_ ds.length = at_ := Nat.min_eq_left (by omega)
        have m2 : min (at_ + 1) ds.length = at_ + 1 := Nat.min_eq_left (by omega)
        have hix : prim s3 .ix [.tup ds, .int (at_ : Nat)] = some ds[at_] := by rw [p_ix_tup, atI_nat, hd]
        have hist := ist_int (s := s3) (okD_pl (hx2 _ hdm))
        have add1 : ∀ (s : Sto) (c : D), prim s .add [.tup (ds.take at_), .tup [c]] = some (.tup (ds.take at_ ++ [c])) := fun s c => by
          rw [p_add_tup, if_pos (by simp [m1]; exact z3)]
        have add2 : ∀ (s : Sto) (c : D), prim s .add [.tup (ds.take at_ ++ [c]), .tup (ds.drop at_)] = some (.tup (ds.take at_ ++ [c] ++ ds.drop at_)) := fun s c => by
          rw [p_add_tup, if_pos (by simp [m1]; omega)]
        have add3 : ∀ (s : Sto) (c : D), prim s .add [.tup (ds.take at_ ++ [c]), .tup (ds.drop (at_ + 1))] = some (.tup (ds.take at_ ++ [c] ++ ds.drop (at_ + 1))) := fun s c => by
          rw [p_add_tup, if_pos (by simp [m1]; omega)]
        have c3 : ∀ c : D, okD (L + 1) (k + 1) c = true → okD (L + 1) (k + 1 + 1) (.tup (ds.take at_ ++ [c] ++ ds.drop (at_ + 1))) = true := fun c hc => by
          rw [List.append_assoc]
          exact okD_app3 (okD_take up) hc (okD_drop up) (by simp [m1]; omega)
        have c2 : ∀ c : D, okD (L + 1) (k + 1) c = true → okD (L + 1) (k + 1 + 1) (.tup (ds.take at_ ++ [c] ++ ds.drop at_)) = true := fun c hc => by
          rw [List.append_assoc]
          exact okD_app3 (okD_take up) hc (okD_drop up) (by simp [m1]; omega)
        have others : 4 ≤ md → ((ifB (isI ds[at_]) (Out.ok (D.bl (decide ((md : Int) < 6))) s3) (Out.ok (D.bl false) s3)) = Out.ok (D.bl (isI ds[at_] && decide ((md : Int) < 6))) s3) := fun _ => by
          cases isI ds[at_] <;> rfl
        have hself : (callN W (n + (k + 1) + 3) f__law_spoilt [.obj m, ds[at_]] s3).sat fun d s' => okD (L + 1) (k + 1) d = true ∧ Srce s' m := ih hL2 hL (by omega) (hx2 _ hdm) hs3
        have hdraw : (callN W (n + (k + 1) + 3) f__law_draw [D.obj m, D.int 3] s3).sat fun d s' => ∃ r : Nat, d = .int (r : Nat) ∧ (r : Int) < 3 ∧ Srce s' m := draw_sat (W := W) (n := n + (k + 1) + 2) (many := 3) hs3 (by decide) (by decide)
        have hmd' : md = 0 ∨ md = 1 ∨ md = 2 ∨ md = 3 ∨ (4 ≤ md ∧ (md : Int) ≠ 0 ∧ (md : Int) ≠ 1 ∧ (md : Int) ≠ 2 ∧ (md : Int) ≠ 3) := by omega
        simp [-p_add_tup, -p_ix_tup, e1', e2', rest_cons, bnd, slcD, cut_to, cut_to1, cut_from, cut_from1, seq_sat, so_sat, sat_bind, hix, hist]
        rcases hmd' with rfl | rfl | rfl | rfl | ⟨h4, g0, g1, g2, g3⟩
        · simp [m1, m2, z1, so_sat, seq_sat]
          exact ⟨okD_app (okD_take up) (okD_drop up) (by simp [m1]; omega), hs3⟩
        · simp [m1, m2, z2, so_sat, seq_sat]
          exact ⟨okD_app (okD_take up) (okD_drop up) (by simp [m2]; omega), hs3⟩
        · simp [-p_add_tup, add1, add2, so_sat, seq_sat, sat_bind]
          exact (ho2 s3 hs3).mono fun d s4 h => ⟨by have := c2 d h.1; simpa using this, h.2⟩
        · simp [primL, vS, so_sat, seq_sat, sat_bind]
          exact ⟨okD_lstI (by omega) up, hs3⟩
        · have b0 : ((md : Int) == 0) = false := by simpa using g0
          have b1 : ((md : Int) == 1) = false := by simpa using g1
          have b2 : ((md : Int) == 2) = false := by simpa using g2
          have b3 : ((md : Int) == 3) = false := by simpa using g3
          cases hi : isI ds[at_] with
          | true =>
            by_cases h6 : (md : Int) < 6
            · simp [-p_add_tup, b0, b1, b2, b3, h6, so_sat, seq_sat, sat_bind, rest_cons, hix]
              refine hdraw.mono fun d s4 h => ?_
              obtain ⟨r, rfl, hr, hs4⟩ := h
              rcases ist_isInt hi with ⟨i, e⟩ | ⟨b, e⟩
              · simp [-p_add_tup, e, add1, add3, hs4]
                have := c3 (.int (i + r - 1)) rfl
                simpa using this
              · have ea : prim s4 .add [.bl b, .int (r : Nat)] = some (.int ((if b = true then 1 else 0) + (r : Nat))) := rfl
                simp [-p_add_tup, e, ea, add1, add3, hs4]
                have := c3 (.int ((if b = true then 1 else 0) + (r : Nat) - 1)) rfl
                simpa using this
            · simp [-p_add_tup, b0, b1, b2, b3, h6, so_sat, seq_sat, sat_bind, rest_cons, hix]
              exact hself.mono fun d s4 h => by
                simp [-p_add_tup, add1, add3, h.2]
                have := c3 d h.1
                simpa using this
          | false =>
            simp [-p_add_tup, b0, b1, b2, b3, so_sat, seq_sat, sat_bind, rest_cons, hix]
            exact hself.mono fun d s4 h => by
              simp [-p_add_tup, add1, add3, h.2]
              have := c3 d h.1
              simpa using this
end BS

namespace BS
open PySem
variable {W n : Nat} {s : Sto} {L k : Nat}
theorem turns_sat {m : Nat} {r : Rk} {a b f nn v : D} {o : Option D} (hr : r.ok) (hv : okD 7 3 v = true) (hs : Srce s m) :
    (evSs (gOf W (n + 20) f_law) b_law_2 [some a, some b, some (.obj m), some r.d, some f, some nn, some v, o] s).sat fun fl s' => ∃ v' o', fl = .next [some a, some b, some (.obj m), some r.d, some f, some nn, v', o'] ∧ Srce s' m := by
  unfold b_law_2
  simp [seq_sat]
  refine for_sat (r1_sat ?_)
  simp
  refine ⟨5, rfl, by decide, _, rfl, ?_⟩
  refine for_inv (fun i ρ s => ∃ (v : D) (o : Option D), ρ = [some a, some b, some (.obj m), some r.d, some f, some nn, some v, o] ∧ okD (7 + i) (3 + i) v = true ∧ Srce s m) ⟨v, o, rfl, hv, hs⟩ ?_ ?_
  · rintro i x ρ s hx ⟨v, o, rfl, hv, hs⟩
    have hi : i < 5 := by
      have := (List.getElem?_eq_some_iff.mp hx).1
      simpa using this
    refine ⟨_, rfl, ?_⟩
    unfold b_law_1
    have h1 : callN W (n + 20) f__law_told_right [r.d, v] s = .ok (.bl true) s := l_told_right (n := n + 14) hr hv (by omega) (by rw [sizeLine_eq]; omega)
    simp [-evSs_cons, evSs_step, rest_cons, seq_sat, so_sat, sat_bind]
    rw [h1]
    simp [-evSs_cons, evSs_step, rest_cons, seq_sat, so_sat, sat_bind]
    have h2 := spoilt_sat (W := W) (m := m) (3 + i) (n := n + (13 - i)) (by omega) (by omega) (by omega) hv hs
    have e : n + (13 - i) + (3 + i) + 4 = n + 20 := by omega
    rw [e] at h2
    refine h2.mono fun d s1 h => ?_
    exact ⟨h.1, h.2⟩
  · rintro ρ s ⟨v, o, rfl, hv, hs⟩
    simp
    exact hs
theorem rk1 : (⟨2, [(0, 4), (1, 3)]⟩ : Rk).ok := ⟨by decide, by decide, by decide, by decide, fun b hb => by
  simp at hb
  rcases hb with rfl | rfl <;> simp⟩
def lvl : Nat := 21
def fuel : Nat := 0
theorem law_true : ∀ ns : List Int, ns.length ≤ 63 → ∃ s', callN fuel lvl f_law [.scr ns] [] = .ok (.bl true) s' := by
  intro ns hns
  suffices h : (callN fuel lvl f_law [.scr ns] []).sat fun d _ => d = .bl true by
    obtain ⟨a, s, h1, rfl⟩ := h.get
    exact ⟨s, h1⟩
  show (callN fuel (20 + 1) f_law [.scr ns] []).sat _
  rw [call1 (fd := f_law) rfl rfl, fin_sat]
  simp [-evSs_cons, evSs_step, seq_sat]
  refine for_sat (r1_sat ?_)
  simp [sat_bind]
  have hm : (if ((10 : Int) < (ns.length : Int)) then (10 : Int) else (ns.length : Int)) = ((if 10 < ns.length then 10 else ns.length : Nat) : Int) := by
    split <;> split <;> omega
  refine ⟨1 + (if 10 < ns.length then 10 else ns.length : Nat), by rw [hm]; omega, by split <;> omega, _, rfl, ?_⟩
  refine for_inv (fun i ρ s => ∃ o1 o2 o3 o4 o5 o6 o7, ρ = [some (.scr ns), o1, o2, o3, o4, o5, o6, o7]) ⟨_, _, _, _, _, _, _, rfl⟩ ?_ ?_
  · rintro i x ρ s00 hx ⟨o1, o2, o3, o4, o5, o6, o7, rfl⟩
    have hi : i < 11 := by
      have := (List.getElem?_eq_some_iff.mp hx).1
      simp at this
      split at this <;> omega
    have hxi : x = .int (i : Nat) := by
      simp [List.getElem?_map] at hx
      obtain ⟨j, hj, rfl⟩ := hx
      rw [List.getElem?_range] at hj
      · cases hj; rfl
      · have := (List.getElem?_eq_some_iff.mp hj).1
        simpa using this
    subst hxi
    refine ⟨_, rfl, ?_⟩
    unfold b_law_3
    obtain ⟨d1, s1, e1, rfl, hs1⟩ := (source_sat (W := fuel) (n := 19) (s := s00) (ns := ns) (k := i) (by omega)).get
    simp [-evSs_cons, evSs_step, rest_cons, seq_sat, so_sat, sat_bind, e1]
    refine (rack_sat (n := 18) hs1).mono fun d s2 h => ?_
    obtain ⟨r, rfl, hr, hs2⟩ := h
    obtain ⟨d3, s3, e3, fs, rfl, hf, hl, hs3⟩ := (facts_sat (W := fuel) (n := 16) hr hs2).get
    obtain ⟨d4, s4, e4, nn, rfl, hn, hs4⟩ := (numbers_sat (W := fuel) (n := 17) hr hs3).get
    have k1 := s_keeps (W := fuel) (n := 13) (s := s4) hr hf hl hn
    have k2 := l_keeps (W := fuel) (n := 17) (s := s4) (ns := nn) hr hf
    have e5 : eqv s4 (.bl (keepsB r fs nn)) (.bl (keepsB r fs nn)) = some true := by rw [eqv_bl]; simp
    simp [-evSs_cons, evSs_step, rest_cons, seq_sat, so_sat, sat_bind, e3, e4, k1, k2, e5]
    refine for_sat ?_
    simp [-evSs_cons, evSs_step, rest_cons, seq_sat, so_sat, sat_bind]
    refine (script_sat (W := fuel) (n := 17) hr hs4).mono fun d s5 h => ?_
    simp [vS]
    have vals : ∀ v ∈ [r.d, D.tup (mapT fcD fs), D.tup (intL nn), d], okD 7 3 v = true := by
      intro v hv
      simp at hv
      rcases hv with rfl | rfl | rfl | rfl
      · exact okD_L (by decide) (rk_ok hr)
      · exact facts_ok hr.w7 hf hl
      · exact okD_le (nums_ok hr.w7 hn) (by decide)
      · exact okD_le h.1 (by decide)
    refine ⟨_, rfl, ?_⟩
    refine for_inv (fun _ ρ s => ∃ o6 o7, ρ = [some (.scr ns), some (.int (i : Nat)), some (.obj s00.length), some r.d, some (.tup (mapT fcD fs)), some (.tup (intL nn)), o6, o7] ∧ Srce s s00.length) ⟨_, _, rfl, h.2⟩ ?_ ?_
    · rintro j v ρ s hv ⟨o6, o7, rfl, hs⟩
      refine ⟨_, rfl, ?_⟩
      refine (turns_sat (W := fuel) (n := 0) hr (vals v (List.mem_of_getElem? hv)) hs).mono fun fl s h => ?_
      obtain ⟨v', o', rfl, hs'⟩ := h
      exact ⟨_, _, rfl, hs'⟩
    · rintro ρ s ⟨o6, o7, rfl, hs⟩
      exact ⟨_, _, _, _, _, _, _, rfl⟩
  · rintro ρ s ⟨o1, o2, o3, o4, o5, o6, o7, rfl⟩
    have q1 : ∀ s, callN fuel 20 f_is_script [D.tup [D.int 2, D.tup [D.tup [D.int 0, D.int 4], D.tup [D.int 1, D.int 3]]], D.tup [D.tup [D.str (Str.ofString "put"), D.int 0, D.int 1, D.int 0]]] s = .ok (.bl false) s := fun s => by kernel_rfl
    have q2 : ∀ s, callN fuel 20 f_is_script [D.tup [D.int 2, D.tup [D.tup [D.int 0, D.int 4], D.tup [D.int 1, D.int 3]]], D.tup [D.tup [D.str (Str.ofString "put"), D.int 0, D.int 1, D.int 1]]] s = .ok (.bl true) s := fun s => by kernel_rfl
    have q3 : ∀ s, callN fuel 20 f_keeps [D.tup [D.int 2, D.tup [D.tup [D.int 0, D.int 4], D.tup [D.int 1, D.int 3]]], D.tup [D.tup [D.str (Str.ofString "more"), D.tup [D.int 2], D.tup [D.int 0]]], D.tup [D.int 2, D.int 9, D.int 2, D.int 2]] s = .ok (.bl false) s := fun s => by kernel_rfl
    have q4 : ∀ s, callN fuel 20 f_keeps [D.tup [D.int 2, D.tup [D.tup [D.int 0, D.int 4], D.tup [D.int 1, D.int 3]]], D.tup [D.tup [D.str (Str.ofString "atleast"), D.tup [D.int 2], D.tup [D.int 0]]], D.tup [D.int 2, D.int 9, D.int 2, D.int 2]] s = .ok (.bl true) s := fun s => by kernel_rfl
    simp [-evSs_cons, evSs_step, rest_cons, seq_sat, so_sat, sat_bind, q1, q2, q3, q4]
end BS


namespace BS
open PySem PySem.Spec PyProof.Rows L2
def top (i : Nat) : Stmt := PySem.Challenge.pw_boardsure_k01_values_recognized.main.body.getD i (.Pass ⟨0, 0, 0, 0⟩)
def bts : List Str := ["isinstance", "int", "bool", "tuple", "len", "str", "all", "zip", "range", "sum", "list", "abs", "min"]
def gls : List (Str × Lit) := [("LARGEST", .int 1000000000000)]
def gts : List (Str × List Lit) := [("FACT_WORDS", [.str "more", .str "atleast", .str "same"])]
def muts : List (Nat × Nat) := [(100, 15), (101, 11)]

def e_is_number : Ent := ⟨"is_number", top 8, ["value", "least", "most"], ["value", "least", "most"], f_is_number⟩
def e_is_tuple : Ent := ⟨"is_tuple", top 9, ["value", "least", "most"], ["value", "least", "most"], f_is_tuple⟩
def e_is_word : Ent := ⟨"is_word", top 10, ["value", "some"], ["value", "some"], f_is_word⟩
def e_is_board : Ent := ⟨"is_board", top 11, ["value"], ["value", "place"], f_is_board⟩
def e_is_good_rack : Ent := ⟨"is_good_rack", top 12, ["value"], ["value", "board"], f_is_good_rack⟩
def e_wide_of : Ent := ⟨"wide_of", top 13, ["rack"], ["rack"], f_wide_of⟩
def e_is_lot : Ent := ⟨"is_lot", top 14, ["rack", "value"], ["rack", "value", "wide", "one", "other"], f_is_lot⟩
def e_is_fact : Ent := ⟨"is_fact", top 15, ["rack", "value"], ["rack", "value"], f_is_fact⟩
def e_are_good_facts : Ent := ⟨"are_good_facts", top 16, ["rack", "value", "most"], ["rack", "value", "most", "fact"], f_are_good_facts⟩
def e_are_good_numbers : Ent := ⟨"are_good_numbers", top 17, ["rack", "value"], ["rack", "value", "one"], f_are_good_numbers⟩
def e_is_put : Ent := ⟨"is_put", top 18, ["rack", "value"], ["rack", "value", "left", "right"], f_is_put⟩
def e_is_deed : Ent := ⟨"is_deed", top 19, ["rack", "value"], ["rack", "value"], f_is_deed⟩
def e_is_good_script : Ent := ⟨"is_good_script", top 20, ["rack", "value"], ["rack", "value", "deed"], f_is_good_script⟩
def e_fact_line : Ent := ⟨"fact_line", top 21, ["rack", "fact"], ["rack", "fact", "at"], f_fact_line⟩
def e_summed : Ent := ⟨"summed", top 22, ["line", "numbers"], ["line", "numbers", "factor", "number"], f_summed⟩
def e_is_so : Ent := ⟨"is_so", top 23, ["word", "far"], ["word", "far"], f_is_so⟩
def e_keeps_all : Ent := ⟨"keeps_all", top 24, ["rack", "facts", "numbers"], ["rack", "facts", "numbers", "fact"], f_keeps_all⟩
def e_need_rack : Ent := ⟨"need_rack", top 25, ["value"], ["value"], f_need_rack⟩
def e_need_facts : Ent := ⟨"need_facts", top 26, ["rack", "value"], ["rack", "value"], f_need_facts⟩
def e_need_numbers : Ent := ⟨"need_numbers", top 27, ["rack", "value"], ["rack", "value"], f_need_numbers⟩
def e_need_asked : Ent := ⟨"need_asked", top 28, ["rack", "facts"], ["rack", "facts"], f_need_asked⟩
def e_is_rack : Ent := ⟨"is_rack", top 29, ["value"], ["value"], f_is_rack⟩
def e_are_facts : Ent := ⟨"are_facts", top 30, ["rack", "value"], ["rack", "value"], f_are_facts⟩
def e_are_numbers : Ent := ⟨"are_numbers", top 31, ["rack", "value"], ["rack", "value"], f_are_numbers⟩
def e_is_script : Ent := ⟨"is_script", top 32, ["rack", "value"], ["rack", "value"], f_is_script⟩
def e_keeps : Ent := ⟨"keeps", top 33, ["rack", "facts", "numbers"], ["rack", "facts", "numbers"], f_keeps⟩
def e__law_source : Ent := ⟨"_law_source", top 35, ["script", "k"], ["script", "k", "cell"], f__law_source⟩
def e__law_draw : Ent := ⟨"_law_draw", top 36, ["source", "many"], ["source", "many", "found"], f__law_draw⟩
def e__law_of : Ent := ⟨"_law_of", top 37, ["source", "items"], ["source", "items"], f__law_of⟩
def e__law_sum : Ent := ⟨"_law_sum", top 38, ["line", "numbers"], ["line", "numbers", "factor", "number"], f__law_sum⟩
def e__law_holds : Ent := ⟨"_law_holds", top 39, ["word", "far"], ["word", "far"], f__law_holds⟩
def e__law_wide : Ent := ⟨"_law_wide", top 40, ["rack"], ["rack"], f__law_wide⟩
def e__law_rack : Ent := ⟨"_law_rack", top 41, ["source", "most", "shelves"], ["source", "most", "shelves", "boards", "turn", "left"], f__law_rack⟩
def e__law_fact_line : Ent := ⟨"_law_fact_line", top 42, ["rack", "fact"], ["rack", "fact", "word", "one", "other", "at"], f__law_fact_line⟩
def e__law_numbers : Ent := ⟨"_law_numbers", top 43, ["source", "rack"], ["source", "rack", "found", "at"], f__law_numbers⟩
def e__law_lot : Ent := ⟨"_law_lot", top 44, ["source", "rack", "rare"], ["source", "rack", "rare", "found", "at"], f__law_lot⟩
def e__law_fact : Ent := ⟨"_law_fact", top 45, ["source", "rack", "numbers"], ["source", "rack", "numbers", "one", "other", "word", "far", "words"], f__law_fact⟩
def e__law_facts : Ent := ⟨"_law_facts", top 46, ["source", "rack", "most"], ["source", "rack", "most", "numbers", "found", "turn"], f__law_facts⟩
def e__law_keeps : Ent := ⟨"_law_keeps", top 47, ["rack", "facts", "numbers"], ["rack", "facts", "numbers", "fact", "far"], f__law_keeps⟩
def e__law_script : Ent := ⟨"_law_script", top 48, ["source", "rack", "most"], ["source", "rack", "most", "found", "turn", "shelf", "thing", "left", "right", "place", "word", "deed"], f__law_script⟩
def e__law_is_int : Ent := ⟨"_law_is_int", top 49, ["value", "least", "top"], ["value", "least", "top"], f__law_is_int⟩
def e__law_is_rack : Ent := ⟨"_law_is_rack", top 50, ["value"], ["value", "board"], f__law_is_rack⟩
def e__law_is_lot : Ent := ⟨"_law_is_lot", top 51, ["rack", "value"], ["rack", "value", "one", "other"], f__law_is_lot⟩
def e__law_are_facts : Ent := ⟨"_law_are_facts", top 52, ["rack", "value"], ["rack", "value", "fact"], f__law_are_facts⟩
def e__law_is_deed : Ent := ⟨"_law_is_deed", top 53, ["rack", "deed"], ["rack", "deed"], f__law_is_deed⟩
def e__law_told_right : Ent := ⟨"_law_told_right", top 54, ["rack", "value"], ["rack", "value", "good", "deeds", "one", "deed"], f__law_told_right⟩
def e__law_odd : Ent := ⟨"_law_odd", top 55, ["source"], ["source", "items"], f__law_odd⟩
def e__law_spoilt : Ent := ⟨"_law_spoilt", top 56, ["source", "value"], ["source", "value", "at", "mode"], f__law_spoilt⟩
def e_law : Ent := ⟨"law", top 57, ["script"], ["script", "k", "source", "rack", "facts", "numbers", "value", "turn"], f_law⟩
def ents : List Ent := [e_is_number, e_is_tuple, e_is_word, e_is_board, e_is_good_rack, e_wide_of, e_is_lot, e_is_fact, e_are_good_facts, e_are_good_numbers, e_is_put, e_is_deed, e_is_good_script, e_fact_line, e_summed, e_is_so, e_keeps_all, e_need_rack, e_need_facts, e_need_numbers, e_need_asked, e_is_rack, e_are_facts, e_are_numbers, e_is_script, e_keeps, e__law_source, e__law_draw, e__law_of, e__law_sum, e__law_holds, e__law_wide, e__law_rack, e__law_fact_line, e__law_numbers, e__law_lot, e__law_fact, e__law_facts, e__law_keeps, e__law_script, e__law_is_int, e__law_is_rack, e__law_is_lot, e__law_are_facts, e__law_is_deed, e__law_told_right, e__law_odd, e__law_spoilt, e_law]

def md : Md := ⟨ents, gls, gts, bts, muts⟩
theorem ok_is_number : EntOk md e_is_number := ⟨⟨rfl, rfl, rfl, by decide +kernel, rfl, by decide +kernel, by decide +kernel⟩, fun _ _ _ _ _ _ us hl => match us, hl with | [_, _, _], _ => rfl, by kernel_rfl⟩
theorem ok_is_tuple : EntOk md e_is_tuple := ⟨⟨rfl, rfl, rfl, by decide +kernel, rfl, by decide +kernel, by decide +kernel⟩, fun _ _ _ _ _ _ us hl => match us, hl with | [_, _, _], _ => rfl, by kernel_rfl⟩
theorem ok_is_word : EntOk md e_is_word := ⟨⟨rfl, rfl, rfl, by decide +kernel, rfl, by decide +kernel, by decide +kernel⟩, fun _ _ _ _ _ _ us hl => match us, hl with | [_, _], _ => rfl, by kernel_rfl⟩
theorem ok_is_board : EntOk md e_is_board := ⟨⟨rfl, rfl, rfl, by decide +kernel, rfl, by decide +kernel, by decide +kernel⟩, fun _ _ _ _ _ _ us hl => match us, hl with | [_], _ => rfl, by kernel_rfl⟩
theorem ok_is_good_rack : EntOk md e_is_good_rack := ⟨⟨rfl, rfl, rfl, by decide +kernel, rfl, by decide +kernel, by decide +kernel⟩, fun _ _ _ _ _ _ us hl => match us, hl with | [_], _ => rfl, by kernel_rfl⟩
theorem ok_wide_of : EntOk md e_wide_of := ⟨⟨rfl, rfl, rfl, by decide +kernel, rfl, by decide +kernel, by decide +kernel⟩, fun _ _ _ _ _ _ us hl => match us, hl with | [_], _ => rfl, by kernel_rfl⟩
theorem ok_is_lot : EntOk md e_is_lot := ⟨⟨rfl, rfl, rfl, by decide +kernel, rfl, by decide +kernel, by decide +kernel⟩, fun _ _ _ _ _ _ us hl => match us, hl with | [_, _], _ => rfl, by kernel_rfl⟩
theorem ok_is_fact : EntOk md e_is_fact := ⟨⟨rfl, rfl, rfl, by decide +kernel, rfl, by decide +kernel, by decide +kernel⟩, fun _ _ _ _ _ _ us hl => match us, hl with | [_, _], _ => rfl, by kernel_rfl⟩
theorem ok_are_good_facts : EntOk md e_are_good_facts := ⟨⟨rfl, rfl, rfl, by decide +kernel, rfl, by decide +kernel, by decide +kernel⟩, fun _ _ _ _ _ _ us hl => match us, hl with | [_, _, _], _ => rfl, by kernel_rfl⟩
theorem ok_are_good_numbers : EntOk md e_are_good_numbers := ⟨⟨rfl, rfl, rfl, by decide +kernel, rfl, by decide +kernel, by decide +kernel⟩, fun _ _ _ _ _ _ us hl => match us, hl with | [_, _], _ => rfl, by kernel_rfl⟩
theorem ok_is_put : EntOk md e_is_put := ⟨⟨rfl, rfl, rfl, by decide +kernel, rfl, by decide +kernel, by decide +kernel⟩, fun _ _ _ _ _ _ us hl => match us, hl with | [_, _], _ => rfl, by kernel_rfl⟩
theorem ok_is_deed : EntOk md e_is_deed := ⟨⟨rfl, rfl, rfl, by decide +kernel, rfl, by decide +kernel, by decide +kernel⟩, fun _ _ _ _ _ _ us hl => match us, hl with | [_, _], _ => rfl, by kernel_rfl⟩
theorem ok_is_good_script : EntOk md e_is_good_script := ⟨⟨rfl, rfl, rfl, by decide +kernel, rfl, by decide +kernel, by decide +kernel⟩, fun _ _ _ _ _ _ us hl => match us, hl with | [_, _], _ => rfl, by kernel_rfl⟩
theorem ok_fact_line : EntOk md e_fact_line := ⟨⟨rfl, rfl, rfl, by decide +kernel, rfl, by decide +kernel, by decide +kernel⟩, fun _ _ _ _ _ _ us hl => match us, hl with | [_, _], _ => rfl, by kernel_rfl⟩
theorem ok_summed : EntOk md e_summed := ⟨⟨rfl, rfl, rfl, by decide +kernel, rfl, by decide +kernel, by decide +kernel⟩, fun _ _ _ _ _ _ us hl => match us, hl with | [_, _], _ => rfl, by kernel_rfl⟩
theorem ok_is_so : EntOk md e_is_so := ⟨⟨rfl, rfl, rfl, by decide +kernel, rfl, by decide +kernel, by decide +kernel⟩, fun _ _ _ _ _ _ us hl => match us, hl with | [_, _], _ => rfl, by kernel_rfl⟩
theorem ok_keeps_all : EntOk md e_keeps_all := ⟨⟨rfl, rfl, rfl, by decide +kernel, rfl, by decide +kernel, by decide +kernel⟩, fun _ _ _ _ _ _ us hl => match us, hl with | [_, _, _], _ => rfl, by kernel_rfl⟩
theorem ok_need_rack : EntOk md e_need_rack := ⟨⟨rfl, rfl, rfl, by decide +kernel, rfl, by decide +kernel, by decide +kernel⟩, fun _ _ _ _ _ _ us hl => match us, hl with | [_], _ => rfl, by kernel_rfl⟩
theorem ok_need_facts : EntOk md e_need_facts := ⟨⟨rfl, rfl, rfl, by decide +kernel, rfl, by decide +kernel, by decide +kernel⟩, fun _ _ _ _ _ _ us hl => match us, hl with | [_, _], _ => rfl, by kernel_rfl⟩
theorem ok_need_numbers : EntOk md e_need_numbers := ⟨⟨rfl, rfl, rfl, by decide +kernel, rfl, by decide +kernel, by decide +kernel⟩, fun _ _ _ _ _ _ us hl => match us, hl with | [_, _], _ => rfl, by kernel_rfl⟩
theorem ok_need_asked : EntOk md e_need_asked := ⟨⟨rfl, rfl, rfl, by decide +kernel, rfl, by decide +kernel, by decide +kernel⟩, fun _ _ _ _ _ _ us hl => match us, hl with | [_, _], _ => rfl, by kernel_rfl⟩
theorem ok_is_rack : EntOk md e_is_rack := ⟨⟨rfl, rfl, rfl, by decide +kernel, rfl, by decide +kernel, by decide +kernel⟩, fun _ _ _ _ _ _ us hl => match us, hl with | [_], _ => rfl, by kernel_rfl⟩
theorem ok_are_facts : EntOk md e_are_facts := ⟨⟨rfl, rfl, rfl, by decide +kernel, rfl, by decide +kernel, by decide +kernel⟩, fun _ _ _ _ _ _ us hl => match us, hl with | [_, _], _ => rfl, by kernel_rfl⟩
theorem ok_are_numbers : EntOk md e_are_numbers := ⟨⟨rfl, rfl, rfl, by decide +kernel, rfl, by decide +kernel, by decide +kernel⟩, fun _ _ _ _ _ _ us hl => match us, hl with | [_, _], _ => rfl, by kernel_rfl⟩
theorem ok_is_script : EntOk md e_is_script := ⟨⟨rfl, rfl, rfl, by decide +kernel, rfl, by decide +kernel, by decide +kernel⟩, fun _ _ _ _ _ _ us hl => match us, hl with | [_, _], _ => rfl, by kernel_rfl⟩
theorem ok_keeps : EntOk md e_keeps := ⟨⟨rfl, rfl, rfl, by decide +kernel, rfl, by decide +kernel, by decide +kernel⟩, fun _ _ _ _ _ _ us hl => match us, hl with | [_, _, _], _ => rfl, by kernel_rfl⟩
theorem ok__law_source : EntOk md e__law_source := ⟨⟨rfl, rfl, rfl, by decide +kernel, rfl, by decide +kernel, by decide +kernel⟩, fun _ _ _ _ _ _ us hl => match us, hl with | [_, _], _ => rfl, by kernel_rfl⟩
theorem ok__law_draw : EntOk md e__law_draw := ⟨⟨rfl, rfl, rfl, by decide +kernel, rfl, by decide +kernel, by decide +kernel⟩, fun _ _ _ _ _ _ us hl => match us, hl with | [_, _], _ => rfl, by kernel_rfl⟩
theorem ok__law_of : EntOk md e__law_of := ⟨⟨rfl, rfl, rfl, by decide +kernel, rfl, by decide +kernel, by decide +kernel⟩, fun _ _ _ _ _ _ us hl => match us, hl with | [_, _], _ => rfl, by kernel_rfl⟩
theorem ok__law_sum : EntOk md e__law_sum := ⟨⟨rfl, rfl, rfl, by decide +kernel, rfl, by decide +kernel, by decide +kernel⟩, fun _ _ _ _ _ _ us hl => match us, hl with | [_, _], _ => rfl, by kernel_rfl⟩
theorem ok__law_holds : EntOk md e__law_holds := ⟨⟨rfl, rfl, rfl, by decide +kernel, rfl, by decide +kernel, by decide +kernel⟩, fun _ _ _ _ _ _ us hl => match us, hl with | [_, _], _ => rfl, by kernel_rfl⟩
theorem ok__law_wide : EntOk md e__law_wide := ⟨⟨rfl, rfl, rfl, by decide +kernel, rfl, by decide +kernel, by decide +kernel⟩, fun _ _ _ _ _ _ us hl => match us, hl with | [_], _ => rfl, by kernel_rfl⟩
theorem ok__law_rack : EntOk md e__law_rack := ⟨⟨rfl, rfl, rfl, by decide +kernel, rfl, by decide +kernel, by decide +kernel⟩, fun _ _ _ _ _ _ us hl => match us, hl with | [_, _, _], _ => rfl, by kernel_rfl⟩
theorem ok__law_fact_line : EntOk md e__law_fact_line := ⟨⟨rfl, rfl, rfl, by decide +kernel, rfl, by decide +kernel, by decide +kernel⟩, fun _ _ _ _ _ _ us hl => match us, hl with | [_, _], _ => rfl, by kernel_rfl⟩
theorem ok__law_numbers : EntOk md e__law_numbers := ⟨⟨rfl, rfl, rfl, by decide +kernel, rfl, by decide +kernel, by decide +kernel⟩, fun _ _ _ _ _ _ us hl => match us, hl with | [_, _], _ => rfl, by kernel_rfl⟩
theorem ok__law_lot : EntOk md e__law_lot := ⟨⟨rfl, rfl, rfl, by decide +kernel, rfl, by decide +kernel, by decide +kernel⟩, fun _ _ _ _ _ _ us hl => match us, hl with | [_, _, _], _ => rfl, by kernel_rfl⟩
theorem ok__law_fact : EntOk md e__law_fact := ⟨⟨rfl, rfl, rfl, by decide +kernel, rfl, by decide +kernel, by decide +kernel⟩, fun _ _ _ _ _ _ us hl => match us, hl with | [_, _, _], _ => rfl, by kernel_rfl⟩
theorem ok__law_facts : EntOk md e__law_facts := ⟨⟨rfl, rfl, rfl, by decide +kernel, rfl, by decide +kernel, by decide +kernel⟩, fun _ _ _ _ _ _ us hl => match us, hl with | [_, _, _], _ => rfl, by kernel_rfl⟩
theorem ok__law_keeps : EntOk md e__law_keeps := ⟨⟨rfl, rfl, rfl, by decide +kernel, rfl, by decide +kernel, by decide +kernel⟩, fun _ _ _ _ _ _ us hl => match us, hl with | [_, _, _], _ => rfl, by kernel_rfl⟩
theorem ok__law_script : EntOk md e__law_script := ⟨⟨rfl, rfl, rfl, by decide +kernel, rfl, by decide +kernel, by decide +kernel⟩, fun _ _ _ _ _ _ us hl => match us, hl with | [_, _, _], _ => rfl, by kernel_rfl⟩
theorem ok__law_is_int : EntOk md e__law_is_int := ⟨⟨rfl, rfl, rfl, by decide +kernel, rfl, by decide +kernel, by decide +kernel⟩, fun _ _ _ _ _ _ us hl => match us, hl with | [_, _, _], _ => rfl, by kernel_rfl⟩
theorem ok__law_is_rack : EntOk md e__law_is_rack := ⟨⟨rfl, rfl, rfl, by decide +kernel, rfl, by decide +kernel, by decide +kernel⟩, fun _ _ _ _ _ _ us hl => match us, hl with | [_], _ => rfl, by kernel_rfl⟩
theorem ok__law_is_lot : EntOk md e__law_is_lot := ⟨⟨rfl, rfl, rfl, by decide +kernel, rfl, by decide +kernel, by decide +kernel⟩, fun _ _ _ _ _ _ us hl => match us, hl with | [_, _], _ => rfl, by kernel_rfl⟩
theorem ok__law_are_facts : EntOk md e__law_are_facts := ⟨⟨rfl, rfl, rfl, by decide +kernel, rfl, by decide +kernel, by decide +kernel⟩, fun _ _ _ _ _ _ us hl => match us, hl with | [_, _], _ => rfl, by kernel_rfl⟩
theorem ok__law_is_deed : EntOk md e__law_is_deed := ⟨⟨rfl, rfl, rfl, by decide +kernel, rfl, by decide +kernel, by decide +kernel⟩, fun _ _ _ _ _ _ us hl => match us, hl with | [_, _], _ => rfl, by kernel_rfl⟩
theorem ok__law_told_right : EntOk md e__law_told_right := ⟨⟨rfl, rfl, rfl, by decide +kernel, rfl, by decide +kernel, by decide +kernel⟩, fun _ _ _ _ _ _ us hl => match us, hl with | [_, _], _ => rfl, by kernel_rfl⟩
theorem ok__law_odd : EntOk md e__law_odd := ⟨⟨rfl, rfl, rfl, by decide +kernel, rfl, by decide +kernel, by decide +kernel⟩, fun _ _ _ _ _ _ us hl => match us, hl with | [_], _ => rfl, by kernel_rfl⟩
theorem ok__law_spoilt : EntOk md e__law_spoilt := ⟨⟨rfl, rfl, rfl, by decide +kernel, rfl, by decide +kernel, by decide +kernel⟩, fun _ _ _ _ _ _ us hl => match us, hl with | [_, _], _ => rfl, by kernel_rfl⟩
theorem ok_law : EntOk md e_law := ⟨⟨rfl, rfl, rfl, by decide +kernel, rfl, by decide +kernel, by decide +kernel⟩, fun _ _ _ _ _ _ us hl => match us, hl with | [_], _ => rfl, by kernel_rfl⟩
theorem ok_all : ∀ e ∈ md.ents, EntOk md e := by
  intro e he
  simp only [md, ents, List.mem_cons, List.not_mem_nil, or_false] at he
  rcases he with rfl | rfl | rfl | rfl | rfl | rfl | rfl | rfl | rfl | rfl | rfl | rfl | rfl | rfl | rfl | rfl | rfl | rfl | rfl | rfl | rfl | rfl | rfl | rfl | rfl | rfl | rfl | rfl | rfl | rfl | rfl | rfl | rfl | rfl | rfl | rfl | rfl | rfl | rfl | rfl | rfl | rfl | rfl | rfl | rfl | rfl | rfl | rfl | rfl
  · exact ok_is_number
  · exact ok_is_tuple
  · exact ok_is_word
  · exact ok_is_board
  · exact ok_is_good_rack
  · exact ok_wide_of
  · exact ok_is_lot
  · exact ok_is_fact
  · exact ok_are_good_facts
  · exact ok_are_good_numbers
  · exact ok_is_put
  · exact ok_is_deed
  · exact ok_is_good_script
  · exact ok_fact_line
  · exact ok_summed
  · exact ok_is_so
  · exact ok_keeps_all
  · exact ok_need_rack
  · exact ok_need_facts
  · exact ok_need_numbers
  · exact ok_need_asked
  · exact ok_is_rack
  · exact ok_are_facts
  · exact ok_are_numbers
  · exact ok_is_script
  · exact ok_keeps
  · exact ok__law_source
  · exact ok__law_draw
  · exact ok__law_of
  · exact ok__law_sum
  · exact ok__law_holds
  · exact ok__law_wide
  · exact ok__law_rack
  · exact ok__law_fact_line
  · exact ok__law_numbers
  · exact ok__law_lot
  · exact ok__law_fact
  · exact ok__law_facts
  · exact ok__law_keeps
  · exact ok__law_script
  · exact ok__law_is_int
  · exact ok__law_is_rack
  · exact ok__law_is_lot
  · exact ok__law_are_facts
  · exact ok__law_is_deed
  · exact ok__law_told_right
  · exact ok__law_odd
  · exact ok__law_spoilt
  · exact ok_law

abbrev Rw : PySem.W.OpenRow := PySem.W.OpenLaw.row PySem.Challenge.rw_boardsure_k01_values_recognized
abbrev hk : PySem.W.Hook := He.hookX 4 md.fa md.dds [] [] md.ex
def ob (s : PySem.W.SharedT) : He.AlX := He.obsX 4 md.fa md.dds [] [] md.ex (HandSHeadRun.getT s)
theorem ob_eq (s : PySem.W.SharedT) : ob s = hk.obs s.abs := He.obsX_eq (HandSHeadRun.getT_eq s)
def loose : List PySem.Str := (["BoardError", "InvalidRack", "InvalidFacts", "InvalidNumbers", "FACT_WORDS", "LARGEST", "is_number", "is_tuple", "is_word", "is_board", "is_good_rack", "wide_of", "is_lot", "is_fact", "are_good_facts", "are_good_numbers", "is_put", "is_deed", "is_good_script", "fact_line", "summed", "is_so", "keeps_all", "need_rack", "need_facts", "need_numbers", "need_asked", "is_rack", "are_facts", "are_numbers"] : List PySem.Str) ++ (["is_script", "keeps", "_law_source", "_law_draw", "_law_of", "_law_sum", "_law_holds", "_law_wide", "_law_rack", "_law_fact_line", "_law_numbers", "_law_lot", "_law_fact", "_law_facts", "_law_keeps", "_law_script", "_law_is_int", "_law_is_rack", "_law_is_lot", "_law_are_facts", "_law_is_deed", "_law_told_right", "_law_odd", "_law_spoilt"] : List PySem.Str)
theorem run (w : World) : HandSHeadRun.RunEq Rw (PySem.W.view Rw.prog [57]) hk ob 20000 loose w := by
  intro os
  kernel_rfl
end BS
open PySem PySem.W PySem.Calls PyProof.Rows
theorem PySem.Challenge.cw_boardsure_k01_values_recognized_holds : PySem.Challenge.rw_boardsure_k01_values_recognized.Holds := by
  w_on; o_law
  refine HandSHeadRun.head_any (r := OpenLaw.row PySem.Challenge.rw_boardsure_k01_values_recognized) (q := view (OpenLaw.row PySem.Challenge.rw_boardsure_k01_values_recognized).prog [57]) (H := BS.hk) (ob := BS.ob) (M := 20000) (loose := BS.loose) (d := HandSHeadRun.topDef (OpenLaw.row PySem.Challenge.rw_boardsure_k01_values_recognized).prog 57) (kwd := []) BS.ob_eq
    (by kernel_rfl) (fun s => by kernel_rfl) BS.run (by kernel_rfl) (by kernel_rfl) (by kernel_rfl) (by rfl) (by first | assumption | decide +kernel) (by decide +kernel) ⟨rfl, rfl, rfl, rfl, rfl, by decide +kernel⟩ ?hw ?hc
  case hw => w_witness2
  case hc =>
    refine BS.walk_own (l := PySem.Challenge.rw_boardsure_k01_values_recognized) (n := 63) (k := BS.lvl) (x := "script") rfl (by decide) (by kernel_rfl) ⟨rfl, by decide, by decide⟩ ?F
    case F =>
      intro w mg fa h Y G hmg0
      obtain ⟨K, KX, c⟩ := Y
      have hmg : mg ("law" : PySem.Str) = some (.ref fa) := by
        have e : (HandSHeadRun.topDef (OpenLaw.row PySem.Challenge.rw_boardsure_k01_values_recognized).prog 57).name = ("law" : PySem.Str) := by kernel_rfl
        rw [← e]
        exact hmg0
      exact BS.law_fn (M := BS.md) (e := BS.e_law) (n := 63) (W := BS.fuel) KX G c (by decide +kernel) BS.ok_all (by simp [BS.md, BS.ents]) rfl hmg BS.law_true
