import PyProof.Rows.All
import Wide.All
import OpenK.AllK
import Wide.FinOn
import HandS.Base
import HandS.Call
import HandS.List
import HandS.Comp
import HandS.Iter
import HandS.Exc
import HandS.Text
import HandS.Zip
import HandS.Wide
import HandS.IsInst
import HandS.TupAny
import HandS.TupMul
import HandS.Deep
import HandS.Style
import HandS.Conv
import HandS.Small
import HandS.ExcOwn
import KE.GoesEnum
import KE.KDictZip
import HandS.Flow
import HandS.CallSlots
import HandS.Defaults
import HandS.WordsExc
import HandS.HeadHook2
import HandS.HeadHook4
import HandS.HeadEnd
import HandS.Head0
import HandS.Head1
import HandS.Head2
import PyProof.P3Eq
import PySem.Challenge.RW_boardsure_k03_breaking_with_told_numbers
set_option Elab.async false
set_option autoImplicit false
set_option linter.all false
set_option maxRecDepth 100000
set_option maxHeartbeats 0
/-! Core1: the small language, its data and its evaluator -/
namespace BS
open PySem

inductive Lit | non | bl (b : Bool) | int (i : Int) | str (x : Str)
  deriving DecidableEq
/-- strict operations on values; they change nothing -/
inductive Pr
  | add | sub | mul | fdiv | mod | pow | neg
  | eq | ne | lt | le | gt | ge | isin | notin | isN | notN | isB | notB
  | ix | len | abs | min2 | max2 | sum | any | all | toTup | toInt | toStr
  | ist (T : String) | index | count | join
  deriving DecidableEq
/-- operations that give a new list -/
inductive Pl
  | add | mul | toL | enum | rng1 | rng2 | split
  deriving DecidableEq
/-- operations that change a list -/
inductive Pm | append | pop | index
  deriving DecidableEq
inductive Tg | v (i : Nat) | tup (ts : List Tg)
mutual
inductive E
  | lit (l : Lit) | v (i : Nat) | gtup (x : Str) (ls : List Lit)
  | pr (p : Pr) (es : List E) | pl (m : Bool) (p : Pl) (es : List E) | pm (p : Pm) (a : E) (es : List E)
  | and_ (a b : E) | or_ (a b : E) | not_ (a : E) | ite (c a b : E)
  | chain (p q : Pr) (a b c : E) | slc (m hl hh : Bool) (a lo hi : E)
  | tup (es : List E) | lst (m : Bool) (es : List E)
  | comp (m : Bool) (own : List Nat) (tg : Tg) (it : I) (c : E) (e : E)
  | call (f : FD) (es : List E) | self (es : List E) | fnv (f : FD) | callv (f : E) (es : List E)
inductive I
  | e (a : E) | r1 (a : E) | r2 (a b : E) | enum (a : E) | zip (a b : E)
inductive S
  | ex (e : E) | ret (e : E) | set (t : Tg) (e : E) | par (ts : List Nat) (es : List E) | setIx (o i e : E)
  | ite (c : E) (a b : List S) | for_ (t : Tg) (it : I) (b : List S) | while_ (c : E) (b : List S)
  | pass | brk | cont | never
  | raise_ (c : Str) (m : Str)
inductive FD
  | mk (x : Str) (np ns : Nat) (body : List S)
end
inductive D
  | non | bl (b : Bool) | int (i : Int) | str (x : Str) | tup (ds : List D) | lst (ds : List D)
  | obj (n : Nat) | scr (ns : List Int) | fn (f : FD)
inductive Ob | lst (ds : List D) | ins (c : Str) (fs : List (Str × D))
abbrev Sto := List Ob
abbrev Env := List (Option D)
structure Exn where
  cls : Str
  fs : List (Str × D)
inductive Out (α : Type) | ok (a : α) (s : Sto) | ex (x : Exn) (s : Sto) | no
@[inline] def Out.bind {α β : Type} (o : Out α) (f : α → Sto → Out β) : Out β :=
  match o with
  | .ok a s => f a s
  | .ex x s => .ex x s
  | .no => .no
def Lit.d : Lit → D | .non => .non | .bl b => .bl b | .int i => .int i | .str x => .str x

mutual
def pyD : D → Option PyData
  | .non => some .none
  | .bl b => some (.bool b)
  | .int i => some (.int i)
  | .str x => some (.str x)
  | .tup ds => (pyDs ds).map .tuple
  | .lst ds => (pyDs ds).map .list
  | .obj _ => none
  | .scr _ => none
  | .fn _ => none
def pyDs : List D → Option (List PyData)
  | [] => some []
  | d :: ds => match pyD d, pyDs ds with
    | some x, some xs => some (x :: xs)
    | _, _ => none
end
/-- the items of a list, of any sequence -/
def vL (s : Sto) : D → Option (List D)
  | .lst ds => some ds
  | .obj n => match s[n]? with
    | some (.lst ds) => some ds
    | _ => none
  | _ => none
def vS (s : Sto) : D → Option (List D)
  | .tup ds => some ds
  | .lst ds => some ds
  | .obj n => vL s (.obj n)
  | _ => none
/-- a value with its own list told -/
def und (s : Sto) : D → D
  | .obj n => match s[n]? with
    | some (.lst ds) => .lst ds
    | _ => .obj n
  | d => d
def shp (d : D) : Option PyData := match pyD d with
  | some p => if SeqAt.shaped p then some p else none
  | none => none
def eqv (s : Sto) (x y : D) : Option Bool := match shp (und s x), shp (und s y) with
  | some p, some q => some (PyData.eqv p q)
  | _, _ => none
def truD (s : Sto) : D → Option Bool
  | .non => some false
  | .bl b => some b
  | .int i => some (i != 0)
  | .str x => if x.length ≤ sizeLine then some ((x.length : Int) != 0) else none
  | .tup ds => some (!ds.isEmpty)
  | .lst ds => some (!ds.isEmpty)
  | .obj n => (vL s (.obj n)).map (!·.isEmpty)
  | _ => none
def mulOk (i j : Int) : Bool := decide (i.natAbs < 2 ^ 64) || decide (j.natAbs < 2 ^ 64) || decide (i.natAbs.log2 + j.natAbs.log2 < 1000000)
def isIntD : D → Option Int
  | .int i => some i
  | _ => none
def isBlD : D → Option Bool
  | .bl i => some i
  | _ => none
def intsD : List D → Option (List Int)
  | [] => some []
  | .int i :: ds => (intsD ds).map (i :: ·)
  | _ :: _ => none
def boolsD : List D → Option (List Bool)
  | [] => some []
  | .bl b :: ds => (boolsD ds).map (b :: ·)
  | _ :: _ => none
def strsD : List D → Option (List Str)
  | [] => some []
  | .str b :: ds => (strsD ds).map (b :: ·)
  | _ :: _ => none
def addD (s : Sto) : D → D → Option D
  | .int i, .int j => some (.int (i + j))
  | .bl b, .int j => some (.int ((if b = true then 1 else 0) + j))
  | .str x, .str y => if x.length + y.length ≤ sizeLine then some (.str (x ++ y)) else none
  | .tup a, .tup b => if a.length + b.length ≤ sizeLine then some (.tup (a ++ b)) else none
  | .lst a, .lst b => if a.length + b.length ≤ sizeLine then some (.lst (a ++ b)) else none
  | .lst a, .obj n => (vL s (.obj n)).bind fun b => if a.length + b.length ≤ sizeLine then some (.lst (a ++ b)) else none
  | .obj n, .lst b => (vL s (.obj n)).bind fun a => if a.length + b.length ≤ sizeLine then some (.lst (a ++ b)) else none
  | .obj n, .obj m => (vL s (.obj n)).bind fun a => (vL s (.obj m)).bind fun b => if a.length + b.length ≤ sizeLine then some (.lst (a ++ b)) else none
  | _, _ => none
def repOk (n : Nat) (k : Int) : Bool := decide (2 ≤ k) && decide (k ≤ 1000) && decide (0 < n) && decide (n ≤ 1000)
def mulD (s : Sto) : D → D → Option D
  | .int i, .int j => if mulOk i j then some (.int (i * j)) else none
  | .tup a, .int k => if k = 1 then some (.tup a) else if repOk a.length k then some (.tup (List.replicate k.toNat a).flatten) else none
  | .lst a, .int k => if Nat.blt k.natAbs (2 ^ 63) && decide (a.length * k.toNat ≤ sizeLine) then some (.lst (List.replicate k.toNat a).flatten) else none
  | _, _ => none
def arith (f : Int → Int → Option Int) : D → D → Option D
  | .int i, .int j => (f i j).map .int
  | _, _ => none
def cmpI (f : Int → Int → Bool) : D → D → Option D
  | .int i, .int j => some (.bl (f i j))
  | _, _ => none
def ltD : D → D → Option D
  | .int i, .int j => some (.bl (decide (i < j)))
  | .tup a, .tup b => match intsD a, intsD b with
    | some ns, some ms => some (.bl (HT.lexLt ns ms))
    | _, _ => none
  | _, _ => none
def inD (s : Sto) (x y : D) : Option Bool := match shp (und s x), vS s y with
  | some p, some ds => match (pyDs (ds.map (und s))) with
    | some qs => if SeqAt.shaped (.list qs) then some (qs.any fun z => PyData.eqv z p) else none
    | none => none
  | _, _ => none
def ixD (s : Sto) : D → D → Option D
  | .str z, .int i => if z.length ≤ sizeLine then (L2.atI z.cps.toList i).map fun c => .str ⟨#[c]⟩ else none
  | .scr ns, .int i => (L2.atI ns i).map .int
  | .tup ds, .int i => L2.atI ds i
  | .lst ds, .int i => L2.atI ds i
  | .obj n, .int i => (vL s (.obj n)).bind fun ds => L2.atI ds i
  | _, _ => none
def cutD (xs : List D) (lo hi : Option Int) : List D := (xs.drop (HT.sIx xs.length 0 lo)).take (HT.sIx xs.length xs.length hi - HT.sIx xs.length 0 lo)
def slcD (s : Sto) (lo hi : Option Int) : D → Option D
  | .tup ds => some (.tup (cutD ds lo hi))
  | .lst ds => some (.lst (cutD ds lo hi))
  | .obj n => (vL s (.obj n)).map fun ds => .lst (cutD ds lo hi)
  | _ => none
/-- a bound of a slice: written or not -/
def bnd : Bool → D → Option (Option Int)
  | true, .int i => some (some i)
  | false, .non => some none
  | _, _ => none
def lenD (s : Sto) : D → Option Nat
  | .str z => if z.length ≤ sizeLine then some z.length else none
  | .scr ns => some ns.length
  | .tup ds => some ds.length
  | .lst ds => some ds.length
  | .obj n => (vL s (.obj n)).map (·.length)
  | _ => none
def istD (s : Sto) (T : String) : D → Option Bool
  | .non => L2.kitB "NoneType" T
  | .bl _ => L2.kitB "bool" T
  | .int _ => L2.kitB "int" T
  | .str _ => L2.kitB "str" T
  | .tup _ => L2.kitB "tuple" T
  | .lst _ => L2.kitB "list" T
  | .obj n => if (vL s (.obj n)).isSome then L2.kitB "list" T else none
  | _ => none
def prim (s : Sto) : Pr → List D → Option D
  | .add, [x, y] => addD s x y
  | .sub, [x, y] => arith (fun i j => some (i - j)) x y
  | .mul, [x, y] => mulD s x y
  | .fdiv, [x, y] => arith (fun i j => if decide (0 < j) && decide (j.natAbs.log2 < 9000) then some (i / j) else none) x y
  | .mod, [x, y] => arith (fun i j => if 0 < j then some (i % j) else none) x y
  | .pow, [x, y] => arith (fun i j => if decide (0 ≤ j) && decide (j ≤ 1000000) && decide (i.natAbs < 2 ^ 64) then some (i ^ j.toNat) else none) x y
  | .neg, [.int i] => some (.int (-i))
  | .eq, [x, y] => (eqv s x y).map .bl
  | .ne, [x, y] => (eqv s x y).map fun b => .bl (!b)
  | .lt, [x, y] => ltD x y
  | .le, [x, y] => cmpI (fun i j => decide (i ≤ j)) x y
  | .gt, [x, y] => cmpI (fun i j => decide (j < i)) x y
  | .ge, [x, y] => cmpI (fun i j => decide (j ≤ i)) x y
  | .isin, [x, y] => (inD s x y).map .bl
  | .notin, [x, y] => (inD s x y).map fun b => .bl (!b)
  | .isN, [x] => some (.bl (match x with | .non => true | _ => false))
  | .notN, [x] => some (.bl (match x with | .non => false | _ => true))
  | .isB, [.bl a, .bl b] => some (.bl (decide (a = b)))
  | .notB, [.bl a, .bl b] => some (.bl (!decide (a = b)))
  | .ix, [x, y] => ixD s x y
  | .len, [x] => (lenD s x).map fun (n : Nat) => D.int (n : Int)
  | .abs, [.int i] => some (.int (if i < 0 then -i else i))
  | .min2, [.int i, .int j] => some (.int (if j < i then j else i))
  | .max2, [.int i, .int j] => some (.int (if j > i then j else i))
  | .sum, [x] => (vL s x).bind fun ds => (intsD ds).map fun ns => .int ns.sum
  | .any, [x] => (vL s x).bind fun ds => (boolsD ds).map fun bs => .bl (bs.any id)
  | .all, [x] => (vL s x).bind fun ds => (boolsD ds).map fun bs => .bl (bs.all id)
  | .toTup, [x] => (vS s x).map .tup
  | .toInt, [.int i] => some (.int i)
  | .toInt, [.bl k] => some (.int (if k then 1 else 0))
  | .ist T, [x] => (istD s T x).map .bl
  | _, _ => none
def rngD (a b : Int) : List D := (List.range (b - a).toNat).map fun i => D.int (a + (i : Nat))
def enumD : Nat → List D → List D
  | _, [] => []
  | i, d :: ds => .tup [.int i, d] :: enumD (i + 1) ds
def primL (s : Sto) : Pl → List D → Option (List D)
  | .toL, [x] => vS s x
  | .mul, [x, .int k] => (vL s x).bind fun a => if Nat.blt k.natAbs (2 ^ 63) && decide (a.length * k.toNat ≤ sizeLine) then some (List.replicate k.toNat a).flatten else none
  | .enum, [x] => (vS s x).map (enumD 0)
  | .rng1, [.int j] => if decide (0 ≤ j) && Nat.ble j.natAbs 16777216 then some (rngD 0 j) else none
  | .rng2, [.int i, .int j] => if decide (0 ≤ i) && Nat.ble i.natAbs 16777216 && decide (0 ≤ j) && Nat.ble j.natAbs 16777216 then some (rngD i j) else none
  | _, _ => none
def mkL (m : Bool) (ds : List D) (s : Sto) : Out D :=
  if m then .ok (.obj s.length) (s ++ [.lst ds]) else .ok (.lst ds) s
def primM (s : Sto) : Pm → List D → Out D
  | .append, [.obj n, d] => match s[n]? with
    | some (.lst ds) => if ds.length < sizeLine then .ok .non (s.set n (.lst (ds ++ [d]))) else .no
    | _ => .no
  | .pop, [.obj n] => match s[n]? with
    | some (.lst ds) => match ds.getLast? with
      | some d => .ok d (s.set n (.lst ds.dropLast))
      | none => .no
    | _ => .no
  | .index, [d, x] => match vL s d, shp (und s x) with
    | some ds, some p => match pyDs (ds.map (und s)) with
      | some qs => if SeqAt.shaped (.list qs) then (match qs.findIdx? fun z => PyData.eqv z p with | some j => .ok (.int (j : Nat)) s | none => .no) else .no
      | none => .no
    | _, _ => .no
  | _, _ => .no
def isObjL (s : Sto) (d : D) : Bool := (vL s d).isSome
def setIx (s : Sto) : D → D → D → Option Sto
  | .obj n, .int i, d => match s[n]? with
    | some (.lst ds) => (L2.ixN ds.length i).map fun j => s.set n (.lst (ds.set j d))
    | _ => none
  | _, _, _ => none
def ofO {α : Type} (s : Sto) : Option α → Out α
  | some a => .ok a s
  | none => .no
/-- what a loop walks -/
inductive Src | seq (d : D) | rng (lo : Int) (n : Nat) | enum (d : D) | zip (a b : D)
/-- its turn: the next item, the end, or stuck -/
inductive Trn | it (d : D) | stop | no
def Src.at (s : Sto) : Src → Nat → Trn
  | .seq d, i => match vS s d with
    | some ds => match ds[i]? with
      | some x => .it x
      | none => .stop
    | none => .no
  | .rng lo n, i => if i < n then .it (.int (lo + i)) else .stop
  | .enum d, i => match vS s d with
    | some ds => match ds[i]? with
      | some x => .it (.tup [.int i, x])
      | none => if i = ds.length then .stop else .no
    | none => .no
  | .zip a b, i => match vS s a, vS s b with
    | some ds, some es => match ds[i]?, es[i]? with
      | some x, some y => .it (.tup [x, y])
      | _, _ => if decide (i ≤ ds.length) && decide (i ≤ es.length) then .stop else .no
    | _, _ => .no
/-- how many turns at most -/
def Src.most (s : Sto) : Src → Nat
  | .seq d => ((vS s d).map (·.length)).getD 0
  | .rng _ n => n
  | .enum d => ((vS s d).map (·.length)).getD 0
  | .zip a _ => ((vS s a).map (·.length)).getD 0
mutual
def asg : Tg → D → Env → Option Env
  | .v i, d, ρ => some (ρ.set i (some d))
  | .tup ts, .tup ds, ρ => asgs ts ds ρ
  | .tup _, _, _ => none
def asgs : List Tg → List D → Env → Option Env
  | [], [], ρ => some ρ
  | t :: ts, d :: ds, ρ => match asg t d ρ with
    | some ρ' => asgs ts ds ρ'
    | none => none
  | _, _, _ => none
end
structure G where
  call : FD → List D → Sto → Out D
  self : List D → Sto → Out D
  W : Nat
/-- a comprehension's turns -/
def compLoop (src : Src) (b : Nat → D → Sto → Out (Option D)) : Nat → Nat → List D → Sto → Out (List D)
  | 0, i, acc, s => match src.at s i with
    | .stop => .ok acc.reverse s
    | _ => .no
  | n + 1, i, acc, s => match src.at s i with
    | .stop => .ok acc.reverse s
    | .no => .no
    | .it d => match b i d s with
      | .ok none s' => compLoop src b n (i + 1) acc s'
      | .ok (some y) s' => if acc.length < sizeLine then compLoop src b n (i + 1) (y :: acc) s' else .no
      | _ => .no
/-- a turn: the item stored, the test, the element -/
def compB (tg : Tg) (ρ0 : Env) (c e : Env → Sto → Out D) (_ : Nat) (d : D) (s : Sto) : Out (Option D) :=
  match asg tg d ρ0 with
  | none => .no
  | some ρ1 => (c ρ1 s).bind fun b s' => match truD s' b with
    | some true => (e ρ1 s').bind fun y s'' => .ok (some y) s''
    | some false => .ok none s'
    | none => .no
inductive Flow | next (ρ : Env) | ret (d : D) | brk (ρ : Env) | cont (ρ : Env)
/-- what comes of statements; an exception with the names as they stand -/
inductive SO | fl (f : Flow) (s : Sto) | ex (x : Exn) (ρ : Env) (s : Sto) | no
def Out.so (ρ : Env) (o : Out D) (f : D → Sto → SO) : SO :=
  match o with
  | .ok a s => f a s
  | .ex x s => .ex x ρ s
  | .no => .no
def forLoop (src : Src) (tg : Tg) (b : Env → Sto → SO) : Nat → Nat → Env → Sto → SO
  | 0, i, ρ, s => match src.at s i with
    | .stop => .fl (.next ρ) s
    | _ => .no
  | n + 1, i, ρ, s => match src.at s i with
    | .stop => .fl (.next ρ) s
    | .no => .no
    | .it d => match asg tg d ρ with
      | none => .no
      | some ρ1 => match b ρ1 s with
        | .fl (.next ρ') s' => forLoop src tg b n (i + 1) ρ' s'
        | .fl (.cont ρ') s' => forLoop src tg b n (i + 1) ρ' s'
        | .fl (.brk ρ') s' => .fl (.next ρ') s'
        | .fl (.ret d) s' => .fl (.ret d) s'
        | .ex x ρ' s' => .ex x ρ' s'
        | .no => .no
def whileLoop (c : Env → Sto → Out D) (b : Env → Sto → SO) : Nat → Env → Sto → SO
  | 0, _, _ => .no
  | n + 1, ρ, s => (c ρ s).so ρ fun d s1 => match truD s1 d with
    | some true => match b ρ s1 with
      | .fl (.next ρ') s' => whileLoop c b n ρ' s'
      | .fl (.cont ρ') s' => whileLoop c b n ρ' s'
      | .fl (.brk ρ') s' => .fl (.next ρ') s'
      | .fl (.ret d) s' => .fl (.ret d) s'
      | .ex x ρ' s' => .ex x ρ' s'
      | .no => .no
    | some false => .fl (.next ρ) s1
    | none => .no
/-- the names of a comprehension's own forgotten -/
def wipeE (ρ : Env) : List Nat → Env
  | [] => ρ
  | v :: vs => (wipeE ρ vs).set v none
mutual
def evE (g : G) : E → Env → Sto → Out D
  | .lit l, _, s => .ok l.d s
  | .v i, ρ, s => match ρ[i]? with
    | some (some d) => .ok d s
    | _ => .no
  | .gtup _ ls, _, s => .ok (.tup (ls.map Lit.d)) s
  | .pr p es, ρ, s => (evEs g es ρ s).bind fun ds s1 => ofO s1 (prim s1 p ds)
  | .pl m p es, ρ, s => (evEs g es ρ s).bind fun ds s1 => match primL s1 p ds with
    | some r => mkL m r s1
    | none => .no
  | .pm p a es, ρ, s => (evE g a ρ s).bind fun d s1 => match isObjL s1 d with
    | true => (evEs g es ρ s1).bind fun ds s2 => primM s2 p (d :: ds)
    | false => .no
  | .and_ a b, ρ, s => (evE g a ρ s).bind fun d s1 => match truD s1 d with
    | some true => evE g b ρ s1
    | some false => .ok d s1
    | none => .no
  | .or_ a b, ρ, s => (evE g a ρ s).bind fun d s1 => match truD s1 d with
    | some true => .ok d s1
    | some false => evE g b ρ s1
    | none => .no
  | .not_ a, ρ, s => (evE g a ρ s).bind fun d s1 => match truD s1 d with
    | some b => .ok (.bl (!b)) s1
    | none => .no
  | .ite c a b, ρ, s => (evE g c ρ s).bind fun d s1 => match truD s1 d with
    | some true => evE g a ρ s1
    | some false => evE g b ρ s1
    | none => .no
  | .chain p q a b c, ρ, s => (evE g a ρ s).bind fun x s1 => (evE g b ρ s1).bind fun y s2 => match prim s2 p [x, y] with
    | some (.bl true) => (evE g c ρ s2).bind fun z s3 => ofO s3 (prim s3 q [y, z])
    | some (.bl false) => .ok (.bl false) s2
    | _ => .no
  | .slc m hl hh a lo hi, ρ, s => (evE g a ρ s).bind fun d s1 => (evE g lo ρ s1).bind fun x s2 => match bnd hl x with
    | none => .no
    | some l => (evE g hi ρ s2).bind fun y s3 => match bnd hh y with
      | none => .no
      | some h => if m then match vL s3 d with
          | some ds => mkL true (cutD ds l h) s3
          | none => .no
        else ofO s3 (slcD s3 l h d)
  | .tup es, ρ, s => (evEs g es ρ s).bind fun ds s1 => .ok (.tup ds) s1
  | .lst m es, ρ, s => (evEs g es ρ s).bind fun ds s1 => mkL m ds s1
  | .comp m own tg it c e, ρ, s => (evI g it ρ s).bind fun src s1 =>
    (compLoop src (compB tg (wipeE ρ own) (fun ρ s => evE g c ρ s) fun ρ s => evE g e ρ s) (src.most s1) 0 [] s1).bind fun ds s2 => mkL m ds s2
  | .call f es, ρ, s => (evEs g es ρ s).bind fun ds s1 => g.call f ds s1
  | .self es, ρ, s => (evEs g es ρ s).bind fun ds s1 => g.self ds s1
  | .fnv f, _, s => .ok (.fn f) s
  | .callv f es, ρ, s => (evE g f ρ s).bind fun d s1 => match d with
    | .fn fd => (evEs g es ρ s1).bind fun ds s2 => g.call fd ds s2
    | _ => .no
def evEs (g : G) : List E → Env → Sto → Out (List D)
  | [], _, s => .ok [] s
  | e :: es, ρ, s => (evE g e ρ s).bind fun d s1 => (evEs g es ρ s1).bind fun ds s2 => .ok (d :: ds) s2
def evI (g : G) : I → Env → Sto → Out Src
  | .e a, ρ, s => (evE g a ρ s).bind fun d s1 => match vS s1 d with
    | some _ => .ok (.seq d) s1
    | none => .no
  | .r1 a, ρ, s => (evE g a ρ s).bind fun d s1 => match d with
    | .int j => if Nat.blt j.natAbs (2 ^ 62) then .ok (.rng 0 j.toNat) s1 else .no
    | _ => .no
  | .r2 a b, ρ, s => (evE g a ρ s).bind fun d s1 => (evE g b ρ s1).bind fun d2 s2 => match d, d2 with
    | .int i, .int j => if Nat.blt i.natAbs (2 ^ 62) && Nat.blt j.natAbs (2 ^ 62) then .ok (.rng i (j - i).toNat) s2 else .no
    | _, _ => .no
  | .enum a, ρ, s => (evE g a ρ s).bind fun d s1 => match vS s1 d with
    | some _ => .ok (.enum d) s1
    | none => .no
  | .zip a b, ρ, s => (evE g a ρ s).bind fun d s1 => (evE g b ρ s1).bind fun d2 s2 => match vS s2 d, vS s2 d2 with
    | some _, some _ => .ok (.zip d d2) s2
    | _, _ => .no
end
mutual
def evS (g : G) : S → Env → Sto → SO
  | .ex e, ρ, s => (evE g e ρ s).so ρ fun _ s1 => .fl (.next ρ) s1
  | .ret e, ρ, s => (evE g e ρ s).so ρ fun d s1 => .fl (.ret d) s1
  | .set t e, ρ, s => (evE g e ρ s).so ρ fun d s1 => match asg t d ρ with
    | some ρ1 => .fl (.next ρ1) s1
    | none => .no
  | .par ts es, ρ, s => match evEs g es ρ s with
    | .ok ds s1 => match asgs (ts.map Tg.v) ds ρ with
      | some ρ1 => .fl (.next ρ1) s1
      | none => .no
    | .ex x s1 => .ex x ρ s1
    | .no => .no
  | .setIx o i e, ρ, s => (evE g e ρ s).so ρ fun d s1 => (evE g o ρ s1).so ρ fun x s2 => (evE g i ρ s2).so ρ fun y s3 => match setIx s3 x y d with
    | some s4 => .fl (.next ρ) s4
    | none => .no
  | .ite c a b, ρ, s => (evE g c ρ s).so ρ fun d s1 => match truD s1 d with
    | some true => evSs g a ρ s1
    | some false => evSs g b ρ s1
    | none => .no
  | .for_ t it b, ρ, s => match evI g it ρ s with
    | .ok src s1 => forLoop src t (fun ρ s => evSs g b ρ s) (src.most s1) 0 ρ s1
    | .ex x s1 => .ex x ρ s1
    | .no => .no
  | .while_ c b, ρ, s => whileLoop (fun ρ s => evE g c ρ s) (fun ρ s => evSs g b ρ s) g.W ρ s
  | .pass, ρ, s => .fl (.next ρ) s
  | .brk, ρ, s => .fl (.brk ρ) s
  | .cont, ρ, s => .fl (.cont ρ) s
  | .never, _, _ => .no
  | .raise_ c _, ρ, s => .ex ⟨c, []⟩ ρ s
def evSs (g : G) : List S → Env → Sto → SO
  | [], ρ, s => .fl (.next ρ) s
  | t :: ts, ρ, s => match evS g t ρ s with
    | .fl (.next ρ1) s1 => evSs g ts ρ1 s1
    | o => o
end
def callN (W : Nat) : Nat → FD → List D → Sto → Out D
  | 0, _, _, _ => .no
  | n + 1, .mk x np ns body, ds, s =>
    if ds.length = np then
      match evSs ⟨callN W n, callN W n (.mk x np ns body), W⟩ body (ds.map some ++ List.replicate (ns - np) none) s with
      | .fl (.next _) s1 => .ok .non s1
      | .fl (.ret d) s1 => .ok d s1
      | .fl _ _ => .no
      | .ex x _ s1 => .ex x s1
      | .no => .no
    else .no
end BS

/-! CoreW: zip and enumerate over lists and tuples in any mix -/
namespace BS
open PySem PySem.Spec PyProof.Rows L2
open Sem (wp)

def sqG (K : PySem.W.Frag) : Bool → Hp → Addr → List V → Prop
  | true, H, a, xs => SqL K H a xs
  | false, H, a, xs => SqT K H a xs
def isG : Bool → Heap → Addr → Array Value → Prop
  | true, h, a, its => h.IsList a its
  | false, h, a, its => h.IsTuple a its
def itG : Bool → Heap → Addr → Addr → Nat → Prop
  | true, h, it, a, i => h.IsListIter it a i
  | false, h, it, a, i => h.IsTupleIter it a i
def itO (k : Bool) (a : Addr) : Obj := { cls := .type (bif k then "list_iterator" else "tuple_iterator"), data := .fields #[.ref a, .int 0 0] }
theorem itG.obj {k : Bool} {h : Heap} {it a : Addr} {i : Nat} (x : itG k h it a i) : ∃ o, h.get? it = some o ∧ ∀ v, o.data ≠ .cell v := by
  cases k with
  | true => obtain ⟨o, e, _, d⟩ := x; exact ⟨o, e, fun v q => by rw [d] at q; cases q⟩
  | false => obtain ⟨o, e, _, d⟩ := x; exact ⟨o, e, fun v q => by rw [d] at q; cases q⟩
theorem itG.moved {k : Bool} {h h' : Heap} {it a : Addr} {i : Nat} (x : itG k h it a i) (e : ∀ o, h.get? it = some o → h'.get? it = some o) : itG k h' it a i := by
  cases k with
  | true => exact Heap.IsListIter.at x e
  | false => exact Heap.IsTupleIter.at x e
theorem itG.new {k : Bool} {h : Heap} {it a : Addr} (e : h.get? it = some (itO k a)) : itG k h it a 0 := by
  cases k with
  | true => exact ⟨_, e, rfl, rfl⟩
  | false => exact ⟨_, e, rfl, rfl⟩
theorem isG.live {k : Bool} {h : Heap} {a : Addr} {its : Array Value} (x : isG k h a its) : a < h.objs.size := by
  cases k with
  | true => obtain ⟨o, e, _⟩ := x; exact Heap.lt_size e
  | false => obtain ⟨o, e, _⟩ := x; exact Heap.lt_size e
theorem drawsG {prog : Program} {w : World} {A : Around} (hh : A.handled = none) (k : Bool) (it a : Addr) (hne : a ≠ it) (items : Array Value) :
    Draws prog w A it [it, a] items.size (fun i v => items[i]? = some v) (fun i h => itG k h it a i ∧ isG k h a items) := by
  cases k with
  | true => exact .list hh it a hne items
  | false => exact .tuple hh it a hne items
theorem beginsG (k : Bool) (a : Addr) (items : Array Value) : Begins (.ref a) (itO k a) fun h => isG k h a items := by
  cases k with
  | true => exact begins_list a items
  | false => exact begins_tuple a items
section
variable {X : Cx} {pins : List (Addr × Obj)} {σ : L2.St} {H : Hp} {s : Shared} {a : Addr} {xs ys : List V}
theorem inv_seqG {k : Bool} (I : Inv X pins σ H s) (h : sqG X.K k H a xs) : ∃ its : List Value, Vals xs its ∧ isG k s.heap a its.toArray := by
  cases k with
  | true => obtain ⟨its, r, p, _⟩ := I.list h; exact ⟨its, r, p.isList⟩
  | false => obtain ⟨its, r, p, _⟩ := I.tuple h; exact ⟨its, r, p⟩
theorem inv_injG {k : Bool} (I : Inv X pins σ H s) (h : sqG X.K k H a xs) (h' : sqG X.K k H a ys) : xs = ys := by
  cases k with
  | true => exact I.list_inj h h'
  | false => exact I.tuple_inj h h'
end
/-! ### zip -/
def ItzG (K : PySem.W.Frag) (k1 k2 : Bool) (a b : Addr) : It where
  go i H := ∃ (xs ys : List V) (x y : V), sqG K k1 H a xs ∧ sqG K k2 H b ys ∧ xs[i]? = some x ∧ ys[i]? = some y
  yld i H v H' := ∃ T x y, v = .ref T ∧ H T = none ∧ H' = upd H T (.tup [x, y]) ∧ (∀ xs, sqG K k1 H a xs → xs[i]? = some x) ∧ ∀ ys, sqG K k2 H b ys → ys[i]? = some y
  stop i H := ∃ xs ys : List V, sqG K k1 H a xs ∧ sqG K k2 H b ys ∧ i ≤ xs.length ∧ i ≤ ys.length ∧ (i = xs.length ∨ i = ys.length)
structure ZipAp (z TI TO i1 i2 a b : Addr) : Prop where
  sep : ZipSep2 z TI TO i1 i2 [i1, a] [i2, b]
  a1 : a ≠ i1
  b2 : b ≠ i2
  i12 : i1 ≠ i2
theorem zipAp_new {N a b : Addr} (ha : a < N) (hb : b < N) : ZipAp (N + 4) (N + 2) (N + 3) N (N + 1) a b where
  sep := zip_sep2 (N := N) (fp1 := [a]) (fp2 := [b]) (by simpa using ha) (by simpa using hb)
  a1 := Nat.ne_of_lt ha
  b2 := Nat.ne_of_lt (Nat.lt_succ_of_lt hb)
  i12 := Nat.ne_of_lt (Nat.lt_succ_self _)
theorem zip_letGo {prog : Program} {w : World} {A : Around} {E : Value → Shared → Prop} {s : Shared} {elts : List Expr} {x1 : Nat} {pos : Pos} {z TI TO T : Addr} {Q : Unit → Shared → Prop} (hz : IsZip s.heap z TI TO (rawInt T))
    (h : ∀ h', IsZip h' z TI TO .none → Heap.SameBut z s.heap h' → Q () { s with heap := h' }) : wpAny (model prog w) A (letOwnedTupleGo (.Tuple elts x1 pos) (.ref z) (.ref T)) Q E s := wpAny_letOwnedTupleGo_zip hz h
theorem turn_zipG {P : Program} {w : World} {K : PySem.W.Frag} {elts : List Expr} {kk : Nat} {tpos : Pos} {k1 k2 : Bool} {a b z TI TO i1 i2 : Addr} (D : ZipAp z TI TO i1 i2 a b) :
    Turn P w K (.Tuple elts kk tpos) (ItzG K k1 k2 a b) [z, TI, TO, i1, i2] z (fun i h => IsZip h z TI TO .none ∧ IsTupOf2 h TI (.ref i1) (.ref i2) ∧ (∃ x y, IsTupOf2 h TO x y) ∧ itG k1 h i1 a i ∧ itG k2 h i2 b i) where
  mem := List.mem_cons_self ..
  obj := by
    rintro i h ⟨hz, hTI, ⟨x, y, hTO⟩, h1, h2⟩ c hc
    simp only [List.mem_cons, List.not_mem_nil, or_false] at hc
    rcases hc with rfl | rfl | rfl | rfl | rfl
    · exact ⟨_, hz, fun _ q => nomatch q⟩
    · exact ⟨_, hTI, fun _ q => nomatch q⟩
    · exact ⟨_, hTO, fun _ q => nomatch q⟩
    · exact h1.obj
    · exact h2.obj
  keep := by
    rintro i h h' ⟨hz, hTI, ⟨x, y, hTO⟩, h1, h2⟩ k
    exact ⟨k z (by simp) _ hz, k TI (by simp) _ hTI, ⟨x, y, k TO (by simp) _ hTO⟩, h1.moved (k i1 (by simp)), h2.moved (k i2 (by simp))⟩
  item := by
    rintro X rfl rfl rfl hc i pins s σ H E I hf ⟨hz, hTI, ⟨x0, y0, hTO⟩, h1, h2⟩ ⟨xs, ys, x, y, hqx, hqy, hx, hy⟩
    obtain ⟨its, rv, p⟩ := inv_seqG I hqx
    obtain ⟨its2, rv2, p2⟩ := inv_seqG I hqy
    obtain ⟨u, hu, ru⟩ := rv.get hx
    obtain ⟨u2, hu2, ru2⟩ := rv2.get hy
    have hu' : its.toArray[i]? = some u := by simpa using hu
    have hu2' : its2.toArray[i]? = some u2 := by simpa using hu2
    have lz : z < s.heap.objs.size := Heap.lt_size hz
    have lt : ∀ c ∈ [z, TI, TO, i1, i2], c < s.heap.objs.size := by
      intro c hm
      simp only [List.mem_cons, List.not_mem_nil, or_false] at hm
      rcases hm with rfl | rfl | rfl | rfl | rfl
      · exact lz
      · exact Heap.lt_size hTI
      · exact Heap.lt_size hTO
      · obtain ⟨_, e, _⟩ := h1.obj; exact Heap.lt_size e
      · obtain ⟨_, e, _⟩ := h2.obj; exact Heap.lt_size e
    refine wpAny_pyNext_zipD2_item D.sep (drawsG (prog := X.prog) (w := X.w) (A := X.A.in1) (show X.A.in1.handled = none from I.ok.hd hc) k1 i1 a D.a1 its.toArray) (drawsG (prog := X.prog) (w := X.w) (A := X.A.in1) (show X.A.in1.handled = none from I.ok.hd hc) k2 i2 b D.b2 its2.toArray) hz hTI hTO ⟨h1, p⟩ ⟨h2, p2⟩ ?_ ?_ fun w1 w2 h' tk e1 e2 z' TO' st1 st2 hT hsz hk => ?_
    · exact (Array.getElem?_eq_some_iff.mp hu').1
    · exact (Array.getElem?_eq_some_iff.mp hu2').1
    rw [hu'] at e1; cases e1
    rw [hu2'] at e2; cases e2
    refine ⟨_, rfl, zip_letGo (s := { s with heap := h', toks := tk }) z' fun h'' z'' sb => ?_⟩
    have sb : Heap.SameBut z h' h'' := sb
    have hT2 : h''.get? s.heap.objs.size = some { cls := .type "tuple", data := .seq #[u, u2] } := (sb.2 _ (Nat.ne_of_gt lz)).trans hT
    have new : ObjOk X.prog X.w (upd H s.heap.objs.size (.tup [x, y])) h'' s.heap.objs.size (.tup [x, y]) :=
      ⟨by show 2 ≤ sizeLine; decide, [u, u2], .cons ru (.cons ru2 .nil), ⟨_, hT2, rfl, _, rfl⟩⟩
    have kept : ∀ c o, c ∉ [z, TI, TO, i1, i2] → s.heap.get? c = some o → h''.get? c = some o := fun c o hb q => by
      simp only [List.mem_cons, List.not_mem_nil, or_false, not_or] at hb
      exact (sb.2 c hb.1).trans (hk c o hb.1 hb.2.2.1 hb.2.2.2.1 hb.2.2.2.2 q)
    have I1 : Inv X pins σ (upd H s.heap.objs.size (.tup [x, y])) { s with heap := h'', toks := tk } := I.turnedNew (ch := [z, TI, TO, i1, i2]) kept hf (Nat.le_refl _) new
    have S := D.sep
    refine ⟨.ref s.heap.objs.size, _, I1, rfl, ⟨_, x, y, rfl, I.hok.fresh (Nat.le_refl _), rfl, fun l hl => ?_, fun l hl => ?_⟩, ⟨z'', ?_, ⟨u, u2, ?_⟩, ?_, ?_⟩, fun c hm => ?_⟩
    · rw [inv_injG I hl hqx]; exact hx
    · rw [inv_injG I hl hqy]; exact hy
    · exact (sb.2 _ S.TIz).trans (hk _ _ S.TIz S.TITO S.TIi1 S.TIi2 hTI)
    · exact (sb.2 _ S.TOz).trans TO'
    · exact st1.1.moved fun o q => (sb.2 _ S.zi1.symm).trans q
    · exact st2.1.moved fun o q => (sb.2 _ S.zi2.symm).trans q
    · rw [upd_ne (Nat.ne_of_lt (lt c hm))]
      exact (hf c hm).1
  done := by
    rintro X rfl rfl rfl hc i pins s σ H E I hf ⟨hz, hTI, ⟨x0, y0, hTO⟩, h1, h2⟩ ⟨xs, ys, hqx, hqy, q1, q2, q3⟩
    obtain ⟨its, rv, p⟩ := inv_seqG I hqx
    obtain ⟨its2, rv2, p2⟩ := inv_seqG I hqy
    have l1 := rv.length
    have l2 := rv2.length
    refine wpAny_pyNext_zipD2_end D.sep (drawsG (prog := X.prog) (w := X.w) (A := X.A.in1) (show X.A.in1.handled = none from I.ok.hd hc) k1 i1 a D.a1 its.toArray) (drawsG (prog := X.prog) (w := X.w) (A := X.A.in1) (show X.A.in1.handled = none from I.ok.hd hc) k2 i2 b D.b2 its2.toArray) hz hTI hTO ⟨h1, p⟩ ⟨h2, p2⟩ (by simp; omega) (by simp; omega) (by simp; omega) fun h' tk hk => ⟨rfl, ?_⟩
    refine I.turnedL (ch := [z, TI, TO, i1, i2]) (fun c o hb q => ?_) hf
    simp only [List.mem_cons, List.not_mem_nil, or_false, not_or] at hb
    exact hk c o hb.1 hb.2.2.1 hb.2.2.2.1 hb.2.2.2.2 q
  self := fun A i s Q E st h => wpAny_pyIter_zip st.1 h
def iZipG (K : PySem.W.Frag) (ta : TA) : TI := fun σ H R => ta σ H fun vs H1 => ∃ k1 k2 a b xs ys, vs = [.ref a, .ref b] ∧ sqG K k1 H1 a xs ∧ sqG K k2 H1 b ys ∧ R (ItzG K k1 k2 a b) H1
theorem pi_zipG {X : Cx} {e e2 : Expr} {ta : TA} {p pos tpos : Pos} {elts : List Expr} {kk : Nat} (hg : Gl X "zip") (hm : X.mg "zip" = none) (ha : PA X [e, e2] ta)
    (hs : starEach [e, e2] X.env = (false, eval e X.env) :: starEach [e2] X.env) (hpl : (backTo pos (starEach [e2] X.env)).any (·.1) = false) :
    PI X (.Tuple elts kk tpos) (.Call (.Name "zip" p) [e, e2] [] pos) (iZipG X.K ta) where
  run := fun pins s σ H R I h => by
    refine Call_ (ld_blt I hg hm PyProof.Rows.boot_zip (PyProof.Rows.callWith_type1 (thn (ha.run pos pins s σ H _ I h) fun us s1 ⟨vs, H1, I1, r1, q1⟩ => ?_) hs hpl))
    obtain ⟨k1, k2, a, b, xs, ys, rfl, hqx, hqy, q⟩ := q1
    obtain ⟨w1, w2, rfl, rw1, rw2⟩ : ∃ w1 w2, us = [w1, w2] ∧ RelV (.ref a) w1 ∧ RelV (.ref b) w2 := by
      cases r1 with
      | cons r rr => cases rr with
        | cons r' rr => cases rr; exact ⟨_, _, rfl, r, r'⟩
    cases rw1
    cases rw2
    obtain ⟨its, rv, p1⟩ := inv_seqG I1 hqx
    obtain ⟨its2, rv2, p2⟩ := inv_seqG I1 hqy
    refine zip_begins2 (beginsG k1 a its.toArray) (beginsG k2 b its2.toArray) p1 p2 fun h' hz hTI hTO g1 g2 hsz hk => wpAny_pyIter_zip hz ?_
    refine ⟨s1.heap.objs.size + 4, [s1.heap.objs.size + 4, s1.heap.objs.size + 2, s1.heap.objs.size + 3, s1.heap.objs.size, s1.heap.objs.size + 1], _, _, H1, rfl, I1.kept (t' := s1.toks) hk, turn_zipG (zipAp_new p1.live p2.live), ⟨hz, hTI, ⟨_, _, hTO⟩, .new g1, .new g2⟩, fun c hm => ?_, q⟩
    have hle : s1.heap.objs.size ≤ c := by
      simp only [List.mem_cons, List.not_mem_nil, or_false] at hm
      rcases hm with rfl | rfl | rfl | rfl | rfl <;> first | exact Nat.le_add_right _ _ | exact Nat.le_refl _
    exact I1.fpOk hle (I1.hok.fresh hle)
/-! ### enumerate -/
theorem meets_enumG {v : Value} {o : Obj} {Hs : Heap → Prop} (B : Begins v o Hs) :
    Meets (Builtin.«enumerate.__new__» ⟨[.type "enumerate", v], []⟩) (fun _ R s => Hs s.heap ∧
      R (.ok (.ret (.ref (s.heap.push o).objs.size))) { s with heap := (s.heap.push o).push { cls := .type "enumerate", data := .fields #[.none, .bool false, .ref s.heap.objs.size, rawInt 0, .none, .none] } }) := by
  refine .of_wp fun prog w A R s h => ?_
  obtain ⟨hp, gg, dd, tk, os⟩ := s
  obtain ⟨h1, h⟩ := h
  have hsub := sub_enumerate
  have go : ∀ {A' : Around} {E : Value → Shared → Prop} {Q : Value → Shared → Prop}, Q (.ref hp.objs.size) ⟨hp.push o, gg, dd, tk, os⟩ → wpAny (model prog w) A' (pyIter v) Q E ⟨hp, gg, dd, tk, os⟩ :=
    fun q => B.iter prog w _ _ ⟨hp, gg, dd, tk, os⟩ _ h1 q
  wp_walk using go
  refine wpAny_stack_any fun st => wpAny_pure ?_
  split
  · rename_i c _ _ _ _ _
    cases (c == Value.type "enumerate")
    · wp_walk using go
      exact ⟨_, rfl, h⟩
    · wp_walk using go
      exact ⟨_, rfl, h⟩
  · wp_walk using go
    exact ⟨_, rfl, h⟩
theorem call_enumG {prog : Program} {w : World} {A : Around} {E : Value → Shared → Prop} {s : Shared} {v : Value} {o : Obj} {Hs : Heap → Prop} {Q : Value → Shared → Prop} (B : Begins v o Hs) (h1 : Hs s.heap)
    (h : ∀ h', IsEnum h' (s.heap.objs.size + 1) s.heap.objs.size 0 .none → h'.get? s.heap.objs.size = some o → (∀ b o, s.heap.get? b = some o → h'.get? b = some o) → Q (.ref (s.heap.objs.size + 1)) { s with heap := h' }) :
    wpAny (model prog w) A (call (.type "enumerate") [v]) Q E s := by
  refine callType_new F.called_enumerate (by decide) (F.typeCall_enumerate_1 _) (F.newCall_enumerate_1 _) (fun obj => F.args_object_init_2 obj _) F.entry_enumerate_new (meets_enumG B) ⟨h1, ?_⟩
  have hz : (s.heap.push o).objs.size = s.heap.objs.size + 1 := Heap.size_push ..
  show _ ∧ _
  rw [hz]
  have he := Heap.get?_push_size (s.heap.push o) (o := { cls := .type "enumerate", data := .fields #[.none, .bool false, .ref s.heap.objs.size, rawInt 0, .none, .none] }) rfl
  rw [hz] at he
  exact ⟨⟨_, he, rfl⟩, h _ he (Heap.get?_push_of_some _ (Heap.get?_push_size _ B.free)) fun b o x => Heap.get?_push_of_some _ (Heap.get?_push_of_some _ x)⟩
def IteG (K : PySem.W.Frag) (k : Bool) (a : Addr) : It where
  go i H := ∃ (xs : List V) (x : V), sqG K k H a xs ∧ xs[i]? = some x
  yld i H v H' := ∃ T x, v = .ref T ∧ H T = none ∧ H' = upd H T (.tup [.int (i : Nat), x]) ∧ ∀ xs, sqG K k H a xs → xs[i]? = some x
  stop i H := ∃ xs : List V, sqG K k H a xs ∧ xs.length = i
theorem turn_enumG {P : Program} {w : World} {K : PySem.W.Frag} {elts : List Expr} {kk : Nat} {tpos : Pos} {k : Bool} {a e it : Addr} (h0 : a ≠ it) (hei : e ≠ it) (hea : e ≠ a) :
    Turn P w K (.Tuple elts kk tpos) (IteG K k a) [e, it] e (fun i h => (∃ old, IsEnum h e it ((i : Nat) : Int) old) ∧ itG k h it a i) where
  mem := List.mem_cons_self ..
  obj := by
    rintro i h ⟨⟨old, he⟩, hi⟩ b hb
    simp only [List.mem_cons, List.not_mem_nil, or_false] at hb
    rcases hb with rfl | rfl
    · exact ⟨_, he, fun _ q => nomatch q⟩
    · exact hi.obj
  keep := by
    rintro i h h' ⟨⟨old, he⟩, hi⟩ kp
    exact ⟨⟨old, kp e (by simp) _ he⟩, hi.moved (kp it (by simp))⟩
  item := by
    rintro X rfl rfl rfl hc i pins s σ H E I hf ⟨⟨old, he⟩, hi⟩ ⟨xs, x, hq, hx⟩
    obtain ⟨its, rv, p⟩ := inv_seqG I hq
    obtain ⟨u, hu, ru⟩ := rv.get hx
    have hu' : its.toArray[i]? = some u := by simpa using hu
    have le : e < s.heap.objs.size := Heap.lt_size he
    have li : it < s.heap.objs.size := by obtain ⟨_, q, _⟩ := hi.obj; exact Heap.lt_size q
    refine wpAny_pyNext_enum_itemC (drawsG (prog := X.prog) (w := X.w) (A := X.A.in1) (show X.A.in1.handled = none from I.ok.hd hc) k it a h0 its.toArray) he ⟨hi, p⟩ (Array.getElem?_eq_some_iff.mp hu').1 hei (by simp [hei, hea]) fun w1 h' tk e1 ho st hT hsz hk => ?_
    rw [hu'] at e1; cases e1
    refine ⟨_, rfl, wpAny_letOwnedTupleGo_enum (s := { s with heap := h', toks := tk + 1 }) ho fun h'' he'' sb => ?_⟩
    have sb : Heap.SameBut e h' h'' := sb
    have hT2 : h''.get? s.heap.objs.size = some { cls := .type "tuple", data := .seq #[.int (i : Int) tk, u] } := (sb.2 _ (Nat.ne_of_gt le)).trans hT
    have new : ObjOk X.prog X.w (upd H s.heap.objs.size (.tup [.int (i : Nat), x])) h'' s.heap.objs.size (.tup [.int (i : Nat), x]) :=
      ⟨by show 2 ≤ sizeLine; decide, [.int (i : Int) tk, u], .cons ⟨_, rfl⟩ (.cons ru .nil), ⟨_, hT2, rfl, _, rfl⟩⟩
    have kept : ∀ c o, c ∉ [e, it] → s.heap.get? c = some o → h''.get? c = some o := fun c o hb q => by
      simp only [List.mem_cons, List.not_mem_nil, or_false, not_or] at hb
      exact (sb.2 c hb.1).trans (hk c o hb.1 hb.2 q)
    have I1 : Inv X pins σ (upd H s.heap.objs.size (.tup [.int (i : Nat), x])) { s with heap := h'', toks := tk + 1 } := I.turnedNew (ch := [e, it]) kept hf (Nat.le_refl _) new
    refine ⟨.ref s.heap.objs.size, _, I1, rfl, ⟨_, x, rfl, I.hok.fresh (Nat.le_refl _), rfl, fun l hl => ?_⟩, ⟨⟨u, ?_⟩, ?_⟩, fun c hm => ?_⟩
    · rw [inv_injG I hl hq]; exact hx
    · have e1 : ((i + 1 : Nat) : Int) = (i : Int) + 1 := by omega
      show IsEnum h'' e it ((i + 1 : Nat) : Int) u
      rw [e1]
      exact he''
    · exact st.1.moved fun o q => (sb.2 _ hei.symm).trans q
    · have lt : c < s.heap.objs.size := by
        simp only [List.mem_cons, List.not_mem_nil, or_false] at hm
        rcases hm with rfl | rfl
        · exact le
        · exact li
      rw [upd_ne (Nat.ne_of_lt lt)]
      exact (hf c hm).1
  done := by
    rintro X rfl rfl rfl hc i pins s σ H E I hf ⟨⟨old, he⟩, hi⟩ ⟨xs, hq, hl⟩
    obtain ⟨its, rv, p⟩ := inv_seqG I hq
    have l1 := rv.length
    have hn : its.toArray.size = i := by simp; omega
    subst hn
    refine wpAny_pyNext_enum_endD (drawsG (prog := X.prog) (w := X.w) (A := X.A.in1) (show X.A.in1.handled = none from I.ok.hd hc) k it a h0 its.toArray) he ⟨hi, p⟩ fun h' hk => ⟨rfl, ?_⟩
    refine I.turnedL (t' := s.toks) (ch := [e, it]) (fun c o hb q => ?_) hf
    simp only [List.mem_cons, List.not_mem_nil, or_false, not_or] at hb
    exact hk c o hb.2 q
  self := fun A i s Q E st h => let ⟨old, he⟩ := st.1; wpAny_pyIter_enum he h
def iEnumG (K : PySem.W.Frag) (ta : TA) : TI := fun σ H R => ta σ H fun vs H1 => ∃ k a xs, vs = [.ref a] ∧ sqG K k H1 a xs ∧ R (IteG K k a) H1
theorem pi_enumG {X : Cx} {e : Expr} {ta : TA} {p pos tpos : Pos} {elts : List Expr} {kk : Nat} (hg : Gl X "enumerate") (hm : X.mg "enumerate" = none) (ha : PA X [e] ta) (hs : starEach [e] X.env = [(false, eval e X.env)]) :
    PI X (.Tuple elts kk tpos) (.Call (.Name "enumerate" p) [e] [] pos) (iEnumG X.K ta) where
  run := fun pins s σ H R I h => by
    refine Call_ (ld_blt I hg hm boot_enumerate (PyProof.Rows.callWith_type1 (thn (ha.run pos pins s σ H _ I h) fun us s1 ⟨vs, H1, I1, r1, q1⟩ => ?_) hs rfl))
    obtain ⟨k, a, xs, rfl, hq, q⟩ := q1
    obtain ⟨w1, rfl, rw1⟩ : ∃ w1, us = [w1] ∧ RelV (.ref a) w1 := by
      cases r1 with
      | cons r rr => cases rr; exact ⟨_, rfl, r⟩
    cases rw1
    obtain ⟨its, rv, p'⟩ := inv_seqG I1 hq
    refine call_enumG (beginsG k a its.toArray) p' fun h' he g1 hk => wpAny_pyIter_enum he ?_
    have la : a < s1.heap.objs.size := p'.live
    refine ⟨s1.heap.objs.size + 1, [s1.heap.objs.size + 1, s1.heap.objs.size], _, _, H1, rfl, I1.kept (t' := s1.toks) hk, turn_enumG (k := k) (a := a) (Nat.ne_of_lt la) (Nat.succ_ne_self _) (Nat.ne_of_gt (Nat.lt_succ_of_lt la)), ⟨⟨.none, he⟩, .new g1⟩, fun c hm => ?_, q⟩
    have hle : s1.heap.objs.size ≤ c := by
      simp only [List.mem_cons, List.not_mem_nil, or_false] at hm
      rcases hm with rfl | rfl <;> first | exact Nat.le_add_right _ _ | exact Nat.le_refl _
    exact I1.fpOk hle (I1.hok.fresh hle)
end BS

/-! CoreN: list(enumerate(..)) of a list or a tuple -/
namespace BS
open PySem PySem.Spec PyProof.Rows L2
open Sem (wp)

/-- an enumerate at turn i; its pair not out, or held elsewhere -/
def EnSt (h : Heap) (e it S : Addr) (i : Nat) : Prop :=
  (∃ old, IsEnum h e it (i : Int) old) ∨ ∃ old T f oT, IsEnumHeld h e it (i : Int) old T f ∧ h.get? T = some oT ∧ T ≠ e ∧ T ≠ it ∧ T ≠ S
section
variable {prog : Program} {w : World} {A : Around} {E : Value → Shared → Prop} {s : Shared}
theorem en_held {e it T : Addr} {fp : List Addr} {n i : Nat} {c : Int} {P : Nat → Value → Prop} {St : Nat → Heap → Prop} {old : Value} {f : Bool} {oT : Obj} {Q : Value → Shared → Prop}
    (D : Draws prog w A it fp n P St) (q0 : IsEnumHeld s.heap e it c old T f) (qT : s.heap.get? T = some oT) (n1 : T ≠ e) (n2 : T ≠ it) (st : St i s.heap) (lt : i < n) (ne : e ≠ it) (nf : e ∉ fp)
    (k : ∀ x h' tk, P i x → IsEnumHeld h' e it (c + 1) old T true → St (i + 1) h' → h'.get? s.heap.objs.size = some { cls := .type "tuple", data := .seq #[.int c tk, x] } →
      h'.objs.size = s.heap.objs.size + 1 → (∀ b o, b ≠ e → b ≠ it → s.heap.get? b = some o → h'.get? b = some o) → Q (.ref s.heap.objs.size) { s with heap := h', toks := tk + 1 }) :
    wpAny (model prog w) A (Builtin.«enumerate.__next__» ⟨[.ref e], []⟩) (fun fin s' => ∃ v, fin = .done (.ret v) ∧ Q v s') E s := by
  obtain ⟨H0, gg, dd, t0, oo⟩ := s
  have el : e < H0.objs.size := Heap.lt_size q0
  show wpAny _ _ (field (.ref e) 2 >>= _) _ _ _
  refine wpAny_bind (wpAny_field q0 rfl (x := .ref it) rfl (wpAny_bind (D.item i _ _ _ lt st fun x G1 tk px s1 b1 => ?_)))
  have b1 : Heap.SameBut it H0 G1 := b1
  have q1 : IsEnumHeld G1 e it c old T f := (b1.2 e ne).trans q0
  show wpAny _ _ (field (.ref e) 3 >>= _) _ _ ⟨G1, gg, dd, tk, oo⟩
  refine wpAny_bind (wpAny_field q1 rfl (x := rawInt c) rfl ?_)
  show wpAny _ _ (field (.ref e) 4 >>= _) _ _ ⟨G1, gg, dd, tk, oo⟩
  refine wpAny_bind (wpAny_field q1 rfl (x := .none) rfl ?_)
  show wpAny _ _ (mkInt c >>= _) _ _ ⟨G1, gg, dd, tk, oo⟩
  refine wpAny_bind (wpAny_mkInt ?_)
  show wpAny _ _ (setField (.ref e) 3 (rawInt (c + 1)) >>= _) _ _ ⟨G1, gg, dd, tk + 1, oo⟩
  refine wpAny_bind (wpAny_setField_rec q1 (by simp) fun G2 q2 b2 => ?_)
  have b2 : Heap.SameBut e G1 G2 := b2
  have q2 : IsEnumHeld G2 e it (c + 1) old T f := q2
  show wpAny _ _ (setField (.ref e) 4 .none >>= _) _ _ ⟨G2, gg, dd, tk + 1, oo⟩
  refine wpAny_bind (wpAny_setField_rec q2 (by simp) fun G3 q3 b3 => ?_)
  have b3 : Heap.SameBut e G2 G3 := b3
  have q3 : IsEnumHeld G3 e it (c + 1) old T f := q3
  show wpAny _ _ (newTuple [.int c tk, x] >>= _) _ _ ⟨G3, gg, dd, tk + 1, oo⟩
  refine wpAny_bind (wpAny_newTuple ?_)
  have z3 : G3.objs.size = H0.objs.size := by rw [b3.1, b2.1, b1.1]
  obtain ⟨G4, e4⟩ : ∃ G4, G4 = G3.push { cls := .type "tuple", data := .seq #[.int c tk, x] } := ⟨_, rfl⟩
  have q4 : IsEnumHeld G4 e it (c + 1) old T f := by rw [e4]; exact Heap.get?_push_of_some _ q3
  have t4 : G4.get? H0.objs.size = some { cls := .type "tuple", data := .seq #[.int c tk, x] } := by rw [e4, ← z3]; exact Heap.get?_push_size _ rfl
  have z4 : G4.objs.size = H0.objs.size + 1 := by rw [e4, Heap.size_push, z3]
  have k4 : ∀ b o, b ≠ e → b ≠ it → H0.get? b = some o → G4.get? b = some o := fun b o h1 h2 y => by
    rw [e4]
    exact Heap.get?_push_of_some _ (b3.extBut b o h1 (b2.extBut b o h1 (b1.extBut b o h2 y)))
  have s4 : St (i + 1) G4 := D.frame _ _ _ s1 fun b hb o y => by
    have h1 : b ≠ e := fun z => nf (z ▸ hb)
    rw [e4]
    exact Heap.get?_push_of_some _ (b3.extBut b o h1 (b2.extBut b o h1 y))
  show wpAny _ _ (Builtin.SmallTypes.ownedTupleIsFree (.ref e) >>= _) _ _ ⟨_, gg, dd, tk + 1, oo⟩
  rw [z3, ← e4]
  refine wpAny_bind (wpAny_tupleHeld_enum (s := ⟨G4, gg, dd, tk + 1, oo⟩) q4 (k4 T oT n1 n2 qT) fun G5 q5 b5 => ?_)
  have b5 : Heap.SameBut e G4 G5 := b5
  simp only [Bool.false_eq_true, if_false]
  refine wpAny_pure ⟨_, rfl, k x G5 tk px q5 (D.frame _ _ _ s4 fun b hb o y => b5.extBut b o (fun z => nf (z ▸ hb)) y) (b5.extBut _ _ (Nat.ne_of_gt el) t4) ?_ fun b o h1 h2 y => b5.extBut b o h1 (k4 b o h1 h2 y)⟩
  show G5.objs.size = H0.objs.size + 1
  rw [b5.1, z4]
/-- its next pair -/
theorem en_next {e it S : Addr} {fp : List Addr} {n i : Nat} {P : Nat → Value → Prop} {St : Nat → Heap → Prop} {Q : Option Value → Shared → Prop}
    (D : Draws prog w A.in1 it fp n P St) (q0 : EnSt s.heap e it S i) (hS : S < s.heap.objs.size) (st : St i s.heap) (lt : i < n) (ne : e ≠ it) (nf : e ∉ fp)
    (k : ∀ x h' tk, P i x → EnSt h' e it S (i + 1) → St (i + 1) h' → (∃ t, h'.get? s.heap.objs.size = some { cls := .type "tuple", data := .seq #[.int (i : Int) t, x] }) →
      (∀ b o, b ≠ e → b ≠ it → s.heap.get? b = some o → h'.get? b = some o) → Q (some (.ref s.heap.objs.size)) { s with heap := h', toks := tk }) :
    wpAny (model prog w) A (pyNext (.ref e)) Q E s := by
  have c1 : ((i + 1 : Nat) : Int) = (i : Int) + 1 := by omega
  have el : ∀ {o}, s.heap.get? e = some o → s.heap.objs.size ≠ e := fun h => Nat.ne_of_gt (Heap.lt_size h)
  have il : s.heap.objs.size ≠ it := let ⟨_, h⟩ := D.live i _ st; Nat.ne_of_gt (Heap.lt_size h)
  rcases q0 with ⟨old, q0⟩ | ⟨old, T, f, oT, q0, qT, n1, n2, n3⟩
  · refine wpAny_pyNext_enum_itemC D q0 st lt ne nf fun x h' tk px q1 s1 t1 z1 k1 => ?_
    refine k x h' _ px (.inr ⟨x, s.heap.objs.size, false, _, ?_, t1, el q0, il, Nat.ne_of_gt hS⟩) s1 ⟨_, t1⟩ k1
    rw [c1]
    exact q1
  · have ty : s.TypeIs (.ref e) "enumerate" := ⟨_, q0, rfl⟩
    unfold pyNext
    refine wpAny_bind (wpAny_attempt (wpAny_callSpecial?_slot (name := Str.ofString "__next__") ty PySem.F.slot_enumerate_next
      (wpAny_call_entry PySem.F.slot_enumerate_next ty PySem.F.entry_enumerate_next (en_held D q0 qT n1 n2 st lt ne nf fun x h' tk px q1 s1 t1 z1 k1 => wpAny_pure ?_) (PySem.F.args_enumerate_next_1 _))))
    refine k x h' _ px (.inr ⟨old, T, true, _, ?_, k1 T oT n1 n2 qT, n1, n2, n3⟩) s1 ⟨_, t1⟩ k1
    rw [c1]
    exact q1
/-- no pair left -/
theorem en_end {e it S : Addr} {fp : List Addr} {n : Nat} {P : Nat → Value → Prop} {St : Nat → Heap → Prop} {Q : Option Value → Shared → Prop}
    (D : Draws prog w A.in1 it fp n P St) (q0 : EnSt s.heap e it S n) (st : St n s.heap)
    (k : ∀ h', Heap.ExtBut it s.heap h' → Q none { s with heap := h' }) : wpAny (model prog w) A (pyNext (.ref e)) Q E s := by
  rcases q0 with ⟨old, q0⟩ | ⟨old, T, f, oT, q0, qT, n1, n2, n3⟩
  · exact wpAny_pyNext_enum_endD D q0 st k
  · have ty : s.TypeIs (.ref e) "enumerate" := ⟨_, q0, rfl⟩
    unfold pyNext
    refine wpAny_bind (wpAny_attempt (wpAny_callSpecial?_slot (name := Str.ofString "__next__") ty PySem.F.slot_enumerate_next (wpAny_call_entry PySem.F.slot_enumerate_next ty PySem.F.entry_enumerate_next ?_ (PySem.F.args_enumerate_next_1 _))))
    show wpAny _ _ (field (.ref e) 2 >>= _) _ _ _
    refine wpAny_bind (wpAny_field q0 rfl (x := .ref it) rfl (wpAny_bind (D.done _ _ _ st fun h' x h1 h2 => ?_)))
    obtain ⟨o, ho, hc⟩ := h2
    exact wpAny_bind (wpAny_isInstance (T := "StopIteration") (b := true) ⟨o, ho, hc⟩ isSubtype_stop (wpAny_pure (k _ h1)))
end
end BS

/-! CoreN2: the list itself -/
namespace BS
open PySem PySem.Spec PyProof.Rows L2
open Sem (wp)
/-- the pairs made so far, in the list S -/
structure EnG (H H' : Hp) (S : Addr) (xs : List V) (as : List Addr) : Prop where
  keep : ∀ b o, H b = some o → H' b = some o
  lst : H' S = some (.lst (as.map V.ref))
  prs : ∀ (j : Nat) (a : Addr), as[j]? = some a → ∃ x, xs[j]? = some x ∧ H' a = some (.tup [.int (j : Nat), x])
theorem EnG.snoc {H H' : Hp} {S T : Addr} {xs : List V} {as : List Addr} {x : V} (g : EnG H H' S xs as) (hT : H' T = none) (hS : H S = none) (hx : xs[as.length]? = some x) :
    EnG H (upd (upd H' T (.tup [.int (as.length : Nat), x])) S (.lst ((as ++ [T]).map V.ref))) S xs (as ++ [T]) where
  keep := fun b o e => by
    rw [upd_ne (by rintro rfl; rw [hS] at e; cases e), upd_ne (by rintro rfl; rw [g.keep _ _ e] at hT; cases hT)]
    exact g.keep b o e
  lst := upd_same
  prs := fun j a hj => by
    have ts : T ≠ S := by rintro rfl; rw [g.lst] at hT; cases hT
    rcases Nat.lt_trichotomy j as.length with h1 | h1 | h1
    · rw [List.getElem?_append_left h1] at hj
      obtain ⟨y, e1, e2⟩ := g.prs j a hj
      refine ⟨y, e1, ?_⟩
      rw [upd_ne (by rintro rfl; rw [g.lst] at e2; cases e2), upd_ne (by rintro rfl; rw [hT] at e2; cases e2)]
      exact e2
    · subst h1
      have e : T = a := by simpa using hj
      subst e
      exact ⟨x, hx, by rw [upd_ne ts, upd_same]⟩
    · rw [List.getElem?_eq_none (by simp; omega)] at hj
      cases hj
section
variable {X : Cx} {pins : List (Addr × Obj)} {σ : L2.St} {H : Hp} {A : Around} {s0 : Shared}
theorem en_loop {kk : Bool} {S e it a : Addr} {its : List Value} {xs : List V} (hh : A.handled = none) (hv : Vals xs its) (hz : its.length ≤ sizeLine) (ne : e ≠ it) (na : a ≠ it) (ea : e ≠ a) (sa : S ≠ a) (hS0 : H S = none)
    (fpo : ∀ b ∈ [e, it], FpOk X pins H b) (res : Value) {R : Result → Shared → Prop}
    (k : ∀ h' tk H' as, Inv X pins σ H' { s0 with heap := h', toks := tk } → EnG H H' S xs as → as.length = xs.length → R (.ok (.ret res)) { s0 with heap := h', toks := tk }) :
    ∀ (m i : Nat) (h : Heap) (tk : Nat) (H' : Hp) (as : List Addr), its.length - i = m → i ≤ its.length → Inv X pins σ H' { s0 with heap := h, toks := tk } → EnG H H' S xs as → as.length = i → EnSt h e it S i →
      itG kk h it a i → isG kk h a its.toArray → (∀ b ∈ [e, it], H' b = none) → codeAny (model X.prog X.w) A (.builtin "list.extend.loop" ⟨[.ref S, .ref e, res], []⟩) R { s0 with heap := h, toks := tk } := by
  have dr : ∀ A' : Around, A'.handled = none → Draws X.prog X.w A' it [it, a] its.toArray.size (fun i v => its.toArray[i]? = some v) (fun i h => itG kk h it a i ∧ isG kk h a its.toArray) := fun A' hh => drawsG hh kk it a na its.toArray
  have nf : e ∉ [it, a] := by simp [ne, ea]
  have hvl := hv.length
  intro m
  induction m with
  | zero =>
    intro i h tk H' as hm hi I g hal st h1 h2 hn
    have ei : i = its.length := by omega
    subst ei
    refine codeAny_builtin PySem.F.entry_extend_loop ?_
    rw [Around.under_plainId PySem.F.plain_extend_loop _]
    show wpAny _ A.in1 (pyNext (.ref e) >>= _) _ _ _
    refine wpAny_bind (en_end (s := { s0 with heap := h, toks := tk }) (S := S) (n := its.toArray.size) (dr A.in1.in1 hh) (by simpa using st) (by simpa using ⟨h1, h2⟩) fun h' hk => wpAny_pure (k h' tk H' as ?_ g (by omega)))
    exact Inv.turnedL (s := { s0 with heap := h, toks := tk }) (t' := tk) (ch := [e, it]) I (fun c o hb q => hk c o (fun z => hb (by simp [z])) q) fun b hb => ⟨hn b hb, (fpo b hb).2⟩
  | succ m ih =>
    intro i h tk H' as hm hi I g hal st h1 h2 hn
    have hlt : i < its.length := by omega
    have hSl : S < h.objs.size := by
      have q := I.hok S _ g.lst
      exact ObjOk.lt q
    have hnS : S ∉ [e, it] := fun z => by have := hn S z; rw [g.lst] at this; cases this
    refine codeAny_builtin PySem.F.entry_extend_loop ?_
    rw [Around.under_plainId PySem.F.plain_extend_loop _]
    show wpAny _ A.in1 (pyNext (.ref e) >>= _) _ _ _
    refine wpAny_bind (en_next (s := { s0 with heap := h, toks := tk }) (S := S) (dr A.in1.in1 hh) st hSl ⟨h1, h2⟩ (by simpa using hlt) ne nf fun u h' tk' pu st' hit ht hk => ?_)
    obtain ⟨t, ht⟩ := ht
    dsimp only at ht hk ⊢
    obtain ⟨x, hx, ru⟩ : ∃ x, xs[i]? = some x ∧ RelV x u := by
      have hxl : i < xs.length := by omega
      obtain ⟨u', hu', r'⟩ := hv.get (List.getElem?_eq_getElem hxl)
      have e1 : its[i]? = some u := by simpa using pu
      rw [e1] at hu'
      cases hu'
      exact ⟨_, List.getElem?_eq_getElem hxl, r'⟩
    have hTn : H' h.objs.size = none := I.hok.fresh (Nat.le_refl _)
    have new : ObjOk X.prog X.w (upd H' h.objs.size (.tup [.int (i : Nat), x])) h' h.objs.size (.tup [.int (i : Nat), x]) := ⟨by show 2 ≤ sizeLine; decide, [.int (i : Int) t, u], .cons ⟨_, rfl⟩ (.cons ru .nil), ⟨_, ht, rfl, _, rfl⟩⟩
    have I1 : Inv X pins σ (upd H' h.objs.size (.tup [.int (i : Nat), x])) { s0 with heap := h', toks := tk' } :=
      I.turnedNew (ch := [e, it]) (fun c o hb q => hk c o (fun z => hb (by simp [z])) (fun z => hb (by simp [z])) q) (fun b hb => ⟨hn b hb, (fpo b hb).2⟩) (Nat.le_refl _) new
    have hSS : (upd H' h.objs.size (.tup [.int (i : Nat), x])) S = some (.lst (as.map V.ref)) := by rw [upd_ne (Nat.ne_of_lt hSl)]; exact g.lst
    obtain ⟨z1, l1, n1, v1, e1, g1⟩ := I1.lstM hSS
    dsimp only at g1
    have hl1 : l1.length = i := by rw [← e1, List.length_map, hal]
    have g' := g.snoc (x := x) hTn hS0 (by rw [hal]; exact hx)
    rw [hal] at g'
    have I2 : Inv X pins σ (upd (upd H' h.objs.size (.tup [.int (i : Nat), x])) S (.lst ((as ++ [h.objs.size]).map V.ref))) { s0 with heap := h'.update S (Obj.mapSeq (·.push (Value.ref h.objs.size))), toks := tk' } :=
      I1.lset (its' := l1 ++ [.ref h.objs.size]) (f := (·.push (Value.ref h.objs.size))) hSS g1 (by simp) (by rw [List.map_append]; exact v1.append (.cons rfl .nil)) (by rw [List.length_map, List.length_append, hal]; show i + 1 ≤ sizeLine; omega)
    show wpAny _ A.in1 (updateSeq S (·.push (Value.ref h.objs.size)) >>= _) _ _ _
    refine wpAny_bind (wpAny_updateSeq g1 rfl (wpAny_pure ⟨plainId_quiet PySem.F.plain_extend_loop _, ?_⟩) (by simp; omega) (by simp; omega))
    have oth : ∀ b o, b ≠ S → h'.get? b = some o → (h'.update S (Obj.mapSeq (·.push (Value.ref h.objs.size)))).get? b = some o := fun b o hb y => (Heap.get?_update_other _ _ (Ne.symm hb)).trans y
    have Se : e ≠ S := fun z => hnS (by simp [z])
    have Si : it ≠ S := fun z => hnS (by simp [z])
    refine ih (i + 1) _ tk' _ (as ++ [h.objs.size]) (by omega) hlt I2 g' (by rw [List.length_append, hal]; rfl) ?_ (hit.1.moved (oth it · Si)) ?_ fun b hb => ?_
    · rcases st' with ⟨old, q⟩ | ⟨old, T, f, oT, q, qT, n1, n2, n3⟩
      · exact .inl ⟨old, oth _ _ Se q⟩
      · exact .inr ⟨old, T, f, oT, oth _ _ Se q, oth _ _ n3 qT, n1, n2, n3⟩
    · cases kk with
      | true => obtain ⟨o, y, z⟩ := hit.2; exact ⟨o, oth _ _ (Ne.symm sa) y, z⟩
      | false => obtain ⟨o, y, z⟩ := hit.2; exact ⟨o, oth _ _ (Ne.symm sa) y, z⟩
    · have hbT : b ≠ h.objs.size := by
        have : ∃ o, h.get? b = some o := by
          simp at hb
          rcases hb with rfl | rfl
          · rcases st with ⟨old, q⟩ | ⟨old, T, f, oT, q, _⟩
            · exact ⟨_, q⟩
            · exact ⟨_, q⟩
          · obtain ⟨o, q, _⟩ := h1.obj; exact ⟨o, q⟩
        obtain ⟨o, q⟩ := this
        exact Nat.ne_of_lt (Heap.lt_size q)
      rw [upd_ne (by rintro rfl; exact hnS hb), upd_ne hbT]
      exact hn b hb
end
end BS

/-! CoreN3: the call -/
namespace BS
open PySem PySem.Spec PyProof.Rows L2
open Sem (wp)
theorem no_len_enum : typeLookup (.type "enumerate") "__len__" = pure none := by rw [typeLookup_type, builtinLookup_eq_fast]; kernel_rfl
theorem no_hint_enum : typeLookup (.type "enumerate") "__length_hint__" = pure none := by rw [typeLookup_type, builtinLookup_eq_fast]; kernel_rfl
section
variable {X : Cx} {pins : List (Addr × Obj)} {σ : L2.St} {H : Hp} {A : Around} {s : Shared}
theorem en_hint {prog : Program} {w : World} {E : Value → Shared → Prop} {r : Addr} {Q : Bool → Shared → Prop} (ty : s.TypeIs (.ref r) "enumerate") (h : Q true s) : wpAny (model prog w) A (Builtin.List.listLengthHint (.ref r)) Q E s := by
  unfold Builtin.List.listLengthHint
  refine wpAny_bind (wpAny_specialOf ty no_len_enum ?_)
  show wpAny _ A (specialOf (Value.ref r) (Str.ofString "__length_hint__") >>= _) _ _ _
  exact wpAny_bind (wpAny_specialOf ty no_hint_enum (wpAny_pure h))
theorem en_call {E : Value → Shared → Prop} {kk : Bool} {e it a : Addr} {its : List Value} {xs : List V} {Q : Value → Shared → Prop} (hh : A.handled = none) (I : Inv X pins σ H s) (hv : Vals xs its) (hz : its.length ≤ sizeLine) (ne : e ≠ it) (na : a ≠ it) (ea : e ≠ a)
    (fpo : ∀ b ∈ [e, it], FpOk X pins H b) (he : IsEnum s.heap e it 0 .none) (h1 : itG kk s.heap it a 0) (h2 : isG kk s.heap a its.toArray)
    (k : ∀ h' tk H' as, Inv X pins σ H' { s with heap := h', toks := tk } → EnG H H' s.heap.objs.size xs as → as.length = xs.length → Q (.ref s.heap.objs.size) { s with heap := h', toks := tk }) :
    wpAny (model X.prog X.w) A (call (.type "list") [.ref e]) Q E s := by
  refine callType_codes (Q₁ := fun obj s₁ => obj = .ref s.heap.objs.size ∧ s₁ = { s with heap := s.heap.push { cls := .type "list", data := .seq #[] } }) PySem.F.called_list (PySem.F.typeCall_list_1 _) PySem.F.entry_list_init (code_list_new _ ⟨rfl, rfl⟩) fun obj s₁ hb => ?_
  obtain ⟨rfl, rfl⟩ := hb
  obtain ⟨S, eS⟩ : ∃ S, S = s.heap.objs.size := ⟨_, rfl⟩
  rw [← eS] at k ⊢
  obtain ⟨h0, e0⟩ : ∃ h0, h0 = s.heap.push { cls := .type "list", data := .seq #[] } := ⟨_, rfl⟩
  rw [← e0]
  have k0 : ∀ b o, s.heap.get? b = some o → h0.get? b = some o := fun b o y => by rw [e0]; exact Heap.get?_push_of_some _ y
  have g0 : h0.get? S = some { cls := .type "list", data := .seq #[] } := by rw [e0, eS]; exact Heap.get?_push_size _ rfl
  have lt : ∀ b o, s.heap.get? b = some o → b ≠ S := fun b o y => by rw [eS]; exact Nat.ne_of_lt (Heap.lt_size y)
  have Se : e ≠ S := lt _ _ he
  have Si : it ≠ S := let ⟨o, y, _⟩ := h1.obj; lt _ o y
  have Sa : a ≠ S := by rw [eS]; exact Nat.ne_of_lt h2.live
  have hS0 : H S = none := by rw [eS]; exact I.hok.fresh (Nat.le_refl _)
  refine ⟨⟨_, g0, rfl⟩, PySem.F.args_list_init_2 _ _, ?_⟩
  show wpAny _ _ (do let old ← Builtin.List.listItems (.ref S); Builtin.List.listUpdate (.ref S) (fun _ => #[]); letGo old.toList.reverse; Builtin.List.listExtendWith (.ref S) (.ref e) .none) _ _ _
  refine wpAny_bind ?_
  unfold Builtin.List.listItems
  refine wpAny_bind (wpAny_seqItems g0 rfl (wpAny_pure ?_))
  show wpAny _ _ (updateSeq S (fun _ => #[]) >>= fun _ => letGo (#[] : Array Value).toList.reverse >>= fun _ => Builtin.List.listExtendWith (.ref S) (.ref e) .none) _ _ _
  refine wpAny_bind (wpAny_updateSeq g0 rfl ?_)
  obtain ⟨h3, e3⟩ : ∃ h3, h3 = h0.update S (Obj.mapSeq (fun _ => (#[] : Array Value))) := ⟨_, rfl⟩
  have g3 := Heap.get?_update_self (Obj.mapSeq (fun _ => (#[] : Array Value))) g0 rfl
  rw [← e3] at g3
  have k3 : ∀ b o, b ≠ S → h0.get? b = some o → h3.get? b = some o := fun b o hb y => by rw [e3]; exact (Heap.get?_update_other _ _ (Ne.symm hb)).trans y
  dsimp only
  rw [← e3]
  refine wpAny_bind (wpAny_letGo ?_)
  unfold Builtin.List.listExtendWith
  have q3 : IsEnum h3 e it 0 .none := k3 _ _ Se (k0 _ _ he)
  refine wpAny_bind (wpAny_typeOf (T := "enumerate") ⟨_, q3, rfl⟩ ?_)
  have n1 : Builtin.List.listSameRef (.ref S) (.ref e) = false := by simp [Builtin.List.listSameRef, Ne.symm Se]
  have n2 : (Value.type "enumerate" == Value.type "list") = false := by decide
  have n3 : (Value.type "enumerate" == Value.type "tuple") = false := by decide
  simp only [n1, n2, n3, Bool.or_false, Bool.false_eq_true, if_false]
  refine wpAny_bind (wpAny_pyIter_enum q3 (wpAny_bind (wpAny_holding (en_hint ⟨_, q3, rfl⟩ ?_))))
  refine wpAny_ite_split (fun _ => wpAny_bind (wpAny_rule (wpAny_bind ?_))) (fun z => absurd rfl z)
  show wpAny _ _ (updateSeq S (·.push .none) >>= fun _ => updateSeq S (·.pop)) _ _ _
  refine wpAny_bind (wpAny_updateSeq g3 rfl ?_)
  have g4 := Heap.get?_update_self (Obj.mapSeq (·.push Value.none)) g3 rfl
  refine wpAny_updateSeq (hz := by seq_fits) g4 rfl ?_
  have g5 := Heap.get?_update_self (Obj.mapSeq (·.pop)) g4 rfl
  obtain ⟨h5, e5⟩ : ∃ h5, h5 = (h3.update S (Obj.mapSeq (·.push Value.none))).update S (Obj.mapSeq (·.pop)) := ⟨_, rfl⟩
  have k5 : ∀ b o, b ≠ S → h3.get? b = some o → h5.get? b = some o := fun b o hb y => by rw [e5]; exact (Heap.get?_update_other _ _ (Ne.symm hb)).trans ((Heap.get?_update_other _ _ (Ne.symm hb)).trans y)
  dsimp only
  rw [← e5] at g5 ⊢
  have k9 : ∀ b o, s.heap.get? b = some o → h5.get? b = some o := fun b o y => k5 b o (lt b o y) (k3 b o (lt b o y) (k0 b o y))
  have new : ObjOk X.prog X.w (upd H S (.lst [])) h5 S (.lst []) := ⟨Nat.zero_le _, [], _, .nil, g5⟩
  have I0 : Inv X pins σ (upd H S (.lst [])) { s with heap := h5, toks := s.toks } := I.laid k9 (by rw [eS]; exact Nat.le_refl _) new
  refine wpAny_pure ⟨plainId_quiet PySem.F.plain_extend_loop _, ?_⟩
  have g : EnG H (upd H S (.lst [])) S xs [] := ⟨fun b o y => by rw [upd_ne (by rintro rfl; rw [hS0] at y; cases y)]; exact y, upd_same, fun j a hj => by cases hj⟩
  refine en_loop (A := A.in1) (kk := kk) (s0 := s) hh hv hz ne na ea (Ne.symm Sa) hS0 fpo .none (fun h' tk H' as I' g' l' => ?_) its.length 0 h5 s.toks (upd H S (.lst [])) [] rfl (Nat.zero_le _) I0 g rfl (.inl ⟨_, k9 _ _ he⟩) (h1.moved (k9 it ·)) ?_ fun b hb => ?_
  · exact ⟨rfl, k h' tk H' as I' g' l'⟩
  · cases kk with
    | true => obtain ⟨o, y, z⟩ := h2; exact ⟨o, k9 _ _ y, z⟩
    | false => obtain ⟨o, y, z⟩ := h2; exact ⟨o, k9 _ _ y, z⟩
  · simp at hb
    rw [upd_ne (by rcases hb with rfl | rfl; exact Se; exact Si)]
    exact (fpo b (by simpa using hb)).1
end
theorem inv_len {X : Cx} {pins : List (Addr × Obj)} {σ : L2.St} {H : Hp} {s : Shared} {a : Addr} {xs : List V} {k : Bool} (I : Inv X pins σ H s) (h : sqG X.K k H a xs) : xs.length ≤ sizeLine := by
  cases k with
  | true => obtain ⟨_, _, _, z⟩ := I.list h; exact z
  | false => obtain ⟨_, _, _, z⟩ := I.tuple h; exact z
/-- list(enumerate(a)) -/
def tLstEn (K : PySem.W.Frag) (ta : TA) : TE := fun σ H Q => ta σ H fun vs H1 => ∃ k a xs, vs = [.ref a] ∧ sqG K k H1 a xs ∧ ∀ H2 S as, EnG H1 H2 S xs as → H1 S = none → as.length = xs.length → Q (.ref S) H2
theorem pe_lstEn {X : Cx} {e : Expr} {ta : TA} {p p2 pos pos2 : Pos} (hc : X.calm = true) (hg : Gl X "list") (hm : X.mg "list" = none) (hg2 : Gl X "enumerate") (hm2 : X.mg "enumerate" = none) (ha : PA X [e] ta) (hs : starEach [e] X.env = [(false, eval e X.env)]) :
    PE X (.Call (.Name "list" p) [.Call (.Name "enumerate" p2) [e] [] pos2] [] pos) (tLstEn X.K ta) := by
  refine ⟨fun pins s σ H Q I h => ?_⟩
  have na : starEach [.Call (.Name "enumerate" p2) [e] [] pos2] X.env = (false, eval (.Call (.Name "enumerate" p2) [e] [] pos2) X.env) :: starEach [] X.env := rfl
  refine Call_ (ld_blt I hg hm boot_list (PyProof.Rows.callWith_type1 (args_cons (thn (?_ : wpAny (model X.prog X.w) X.A (eval (.Call (.Name "enumerate" p2) [e] [] pos2) X.env) (fun x s1 => ∃ k a its xs H1 it, x = .ref (it + 1) ∧ Inv X pins σ H1 s1 ∧ Vals xs its ∧ its.length ≤ sizeLine ∧ a ≠ it ∧ it + 1 ≠ a ∧ (∀ b ∈ [it + 1, it], FpOk X pins H1 b) ∧ IsEnum s1.heap (it + 1) it 0 .none ∧ itG k s1.heap it a 0 ∧ isG k s1.heap a its.toArray ∧ (∀ H2 S as, EnG H1 H2 S xs as → H1 S = none → as.length = xs.length → Q (.ref S) H2)) X.xe s) fun x s1 q => args_nil ?_) na) na))
  · refine Call_ (ld_blt I hg2 hm2 boot_enumerate (PyProof.Rows.callWith_type1 (thn (ha.run pos2 pins s σ H _ I h) fun us s1 ⟨vs, H1, I1, r1, q1⟩ => ?_) hs rfl))
    obtain ⟨k, a, xs, rfl, hq, q⟩ := q1
    have hz := inv_len I1 hq
    obtain ⟨w1, rfl, rw1⟩ : ∃ w1, us = [w1] ∧ RelV (.ref a) w1 := by
      cases r1 with
      | cons r rr => cases rr; exact ⟨_, rfl, r⟩
    cases rw1
    obtain ⟨its, rv, p'⟩ := inv_seqG I1 hq
    have la : a < s1.heap.objs.size := p'.live
    refine call_enumG (beginsG k a its.toArray) p' fun h' he g1 hk => ⟨k, a, its, xs, H1, s1.heap.objs.size, rfl, I1.kept (t' := s1.toks) hk, rv, by rw [← rv.length]; exact hz, Nat.ne_of_lt la, Nat.ne_of_gt (Nat.lt_succ_of_lt la), fun c hm => ?_, he, .new g1, ?_, q⟩
    · have hle : s1.heap.objs.size ≤ c := by
        simp only [List.mem_cons, List.not_mem_nil, or_false] at hm
        rcases hm with rfl | rfl <;> first | exact Nat.le_add_right _ _ | exact Nat.le_refl _
      exact I1.fpOk hle (I1.hok.fresh hle)
    · cases k with
      | true => obtain ⟨o, y, z⟩ := p'; exact ⟨o, hk _ _ y, z⟩
      | false => obtain ⟨o, y, z⟩ := p'; exact ⟨o, hk _ _ y, z⟩
  · obtain ⟨k, a, its, xs, H1, it, rfl, I1, hv, hz, na, ea, fpo, he, h1, h2, q⟩ := q
    refine en_call (I1.ok.hd hc) I1 hv hz (Nat.succ_ne_self _) na ea fpo he h1 h2 fun h' tk H' as I' g' l' => ⟨.ref s1.heap.objs.size, H', I', rfl, q H' _ as g' (I1.hok.fresh (Nat.le_refl _)) l'⟩
end BS

/-! Core2: how data stands in the abstract heap -/
namespace BS
open PySem PySem.Spec PyProof.Rows L2

/-- what is fixed: the written part, the module's names, its functions, its classes -/
structure RC where
  K : PySem.W.Frag
  mg : Str → Option Value
  fns : List (Str × FD)
  cls : Str → Option Addr

/-- the law's script: a list that nobody writes -/
def ScrOk (K : PySem.W.Frag) (H : Hp) (a : Addr) (ns : List Int) : Prop :=
  (∃ o, H a = some (.frz o (.lst (ns.map V.int)))) ∨
    ∃ (o : Obj) (its : Array Value) (n : Nat), K.lookup a = some o ∧ o.cls = .type "list" ∧ o.dict = none ∧ o.data = .seq its n ∧ its.size ≤ sizeLine ∧ Vals (ns.map V.int) its.toList
theorem ScrOk.sq {K : PySem.W.Frag} {H : Hp} {a : Addr} {ns : List Int} (h : ScrOk K H a ns) : SqL K H a (ns.map V.int) := h.imp (fun ⟨o, h⟩ => .inr ⟨o, h⟩) id
mutual
inductive Rep (C : RC) (ξ : Addr → Prop) (ω : List Addr) (H : Hp) : V → D → Prop
  | non : Rep C ξ ω H .non .non
  | bl (b : Bool) : Rep C ξ ω H (.bl b) (.bl b)
  | int (i : Int) : Rep C ξ ω H (.int i) (.int i)
  | str (x : Str) : Rep C ξ ω H (.str x) (.str x)
  | tup {a : Addr} {vs : List V} {ds : List D} : SqT C.K H a vs → Reps C ξ ω H vs ds → Rep C ξ ω H (.ref a) (.tup ds)
  | lst {a : Addr} {vs : List V} {ds : List D} : H a = some (.lst vs) → a ∉ ω → ¬ ξ a → Reps C ξ ω H vs ds → Rep C ξ ω H (.ref a) (.lst ds)
  | obj {a : Addr} {n : Nat} : ω[n]? = some a → Rep C ξ ω H (.ref a) (.obj n)
  | scr {a : Addr} {ns : List Int} : ScrOk C.K H a ns → Rep C ξ ω H (.ref a) (.scr ns)
  | fn {a : Addr} {x : Str} {f : FD} : (x, f) ∈ C.fns → C.mg x = some (.ref a) → Rep C ξ ω H (.ref a) (.fn f)
inductive Reps (C : RC) (ξ : Addr → Prop) (ω : List Addr) (H : Hp) : List V → List D → Prop
  | nil : Reps C ξ ω H [] []
  | cons {v : V} {vs : List V} {d : D} {ds : List D} : Rep C ξ ω H v d → Reps C ξ ω H vs ds → Reps C ξ ω H (v :: vs) (d :: ds)
end

/-- an object of the store -/
def ObRel (C : RC) (ξ : Addr → Prop) (ω : List Addr) (H : Hp) (a : Addr) : Ob → Prop
  | .lst ds => ∃ vs, H a = some (.lst vs) ∧ Reps C ξ ω H vs ds
  | .ins c fs => ∃ Ca dx vfs, H a = some (.ins Ca dx vfs) ∧ C.cls c = some Ca ∧ vfs.map (·.1) = fs.map (·.1) ∧ Reps C ξ ω H (vfs.map (·.2)) (fs.map (·.2))
structure SRel (C : RC) (ξ : Addr → Prop) (ω : List Addr) (H : Hp) (s : Sto) : Prop where
  len : s.length = ω.length
  nd : ω.Nodup
  nx : ∀ a ∈ ω, ¬ ξ a
  xn : ∀ a, ξ a → H a ≠ none
  ob : ∀ (n : Nat) (a : Addr) (o : Ob), ω[n]? = some a → s[n]? = some o → ObRel C ξ ω H a o
structure Keep (ω : List Addr) (H H' : Hp) : Prop where
  at_ : ∀ a o, H a = some o → a ∉ ω → (∀ ps, o ≠ .tbl ps) → H' a = some o
  no : ∀ a, H' a = none → H a = none
def Fresh (H : Hp) (δ : List Addr) : Prop := ∀ a ∈ δ, H a = none
structure ERel (C : RC) (ξ : Addr → Prop) (ω : List Addr) (H : Hp) (σ : L2.St) (ρ : Env) : Prop where
  len : ρ.length = σ.length
  at_ : ∀ (i : Nat) (d : D), ρ[i]? = some (some d) → ∃ v, σ[i]? = some (some v) ∧ Rep C ξ ω H v d

section
variable {C : RC} {ξ : Addr → Prop} {ω δ δ' : List Addr} {H H' H'' : Hp} {s s' : Sto}
theorem SRel.there (r : SRel C ξ ω H s) {a : Addr} (h : a ∈ ω) : (∃ vs, H a = some (.lst vs)) ∨ ∃ Ca dx fs, H a = some (.ins Ca dx fs) := by
  obtain ⟨n, hn, e⟩ := List.getElem_of_mem h
  have hs : n < s.length := by rw [r.len]; exact hn
  have q := r.ob n a s[n] (by rw [List.getElem?_eq_getElem hn, e]) (List.getElem?_eq_getElem hs)
  cases e2 : s[n] with
  | lst ds => rw [e2] at q; obtain ⟨vs, h1, _⟩ := q; exact .inl ⟨vs, h1⟩
  | ins c fs => rw [e2] at q; obtain ⟨Ca, dx, vfs, h1, _⟩ := q; exact .inr ⟨Ca, dx, vfs, h1⟩
theorem SRel.notin (r : SRel C ξ ω H s) {a : Addr} {o : HO} (e : H a = some o) (h1 : ∀ vs, o ≠ .lst vs) (h2 : ∀ Ca dx fs, o ≠ .ins Ca dx fs) : a ∉ ω := fun h => by
  rcases r.there h with ⟨vs, q⟩ | ⟨Ca, dx, fs, q⟩
  · rw [e] at q; exact h1 vs (Option.some.inj q)
  · rw [e] at q; exact h2 _ _ _ (Option.some.inj q)
theorem Keep.refl : Keep ω H H := ⟨fun _ _ h _ _ => h, fun _ h => h⟩
theorem Keep.trans (a : Keep ω H H') (b : Keep (ω ++ δ) H' H'') (f : Fresh H δ) : Keep ω H H'' :=
  ⟨fun c o h hn ht => b.at_ c o (a.at_ c o h hn ht) (fun z => (List.mem_append.mp z).elim hn fun q => by rw [f c q] at h; cases h) ht, fun c h => a.no c (b.no c h)⟩
theorem Keep.mono (a : Keep ω H H') : Keep (ω ++ δ) H H' := ⟨fun c o h hn ht => a.at_ c o h (fun z => hn (List.mem_append_left _ z)) ht, a.no⟩
theorem Fresh.nil : Fresh H [] := fun _ h => nomatch h
theorem Fresh.app (a : Fresh H δ) (k : Keep ω H H') (b : Fresh H' δ') : Fresh H (δ ++ δ') := fun c h => (List.mem_append.mp h).elim (a c) fun q => k.no c (b c q)
theorem SqT.keep {K : PySem.W.Frag} {a : Addr} {vs : List V} (r : SRel C ξ ω H s) (k : Keep ω H H') (h : SqT K H a vs) : SqT K H' a vs := by
  rcases h with (h | ⟨o, h⟩) | h
  · exact .inl (.inl (k.at_ _ _ h (r.notin h (fun _ z => nomatch z) fun _ _ _ z => nomatch z) fun _ z => nomatch z))
  · exact .inl (.inr ⟨o, k.at_ _ _ h (r.notin h (fun _ z => nomatch z) fun _ _ _ z => nomatch z) fun _ z => nomatch z⟩)
  · exact .inr h
mutual
theorem Rep.keep (r : SRel C ξ ω H s) (k : Keep ω H H') (f : Fresh H δ) : ∀ {d : D} {v : V}, Rep C ξ ω H v d → Rep C ξ (ω ++ δ) H' v d
  | .non, _, .non => .non
  | .bl _, _, .bl _ => .bl _
  | .int _, _, .int _ => .int _
  | .str _, _, .str _ => .str _
  | .tup ds, _, .tup h q => .tup (SqT.keep r k h) (Reps.keep r k f q)
  | .lst ds, _, .lst h n x q => .lst (k.at_ _ _ h n fun _ z => nomatch z) (fun z => (List.mem_append.mp z).elim n fun w => by rw [f _ w] at h; cases h) x (Reps.keep r k f q)
  | .obj n, _, .obj h => .obj (by rw [List.getElem?_append_left (List.getElem?_eq_some_iff.mp h).1]; exact h)
  | .scr ns, _, .scr h => .scr (h.imp (fun ⟨o, h⟩ => ⟨o, k.at_ _ _ h (r.notin h (fun _ z => nomatch z) fun _ _ _ z => nomatch z) fun _ z => nomatch z⟩) id)
  | .fn g, _, .fn h e => .fn h e
theorem Reps.keep (r : SRel C ξ ω H s) (k : Keep ω H H') (f : Fresh H δ) : ∀ {ds : List D} {vs : List V}, Reps C ξ ω H vs ds → Reps C ξ (ω ++ δ) H' vs ds
  | [], _, .nil => .nil
  | d :: ds, _, .cons h q => .cons (Rep.keep r k f h) (Reps.keep r k f q)
end
theorem Rep.keep0 (r : SRel C ξ ω H s) (k : Keep ω H H') {d : D} {v : V} (h : Rep C ξ ω H v d) : Rep C ξ ω H' v d := by
  have q := Rep.keep (δ := []) r k Fresh.nil h
  rwa [List.append_nil] at q
theorem Reps.keep0 (r : SRel C ξ ω H s) (k : Keep ω H H') {d : List D} {v : List V} (h : Reps C ξ ω H v d) : Reps C ξ ω H' v d := by
  have q := Reps.keep (δ := []) r k Fresh.nil h
  rwa [List.append_nil] at q
theorem ERel.keep {σ : L2.St} {ρ : Env} (r : SRel C ξ ω H s) (k : Keep ω H H') (f : Fresh H δ) (e : ERel C ξ ω H σ ρ) : ERel C ξ (ω ++ δ) H' σ ρ :=
  ⟨e.len, fun i d h => let ⟨v, h1, h2⟩ := e.at_ i d h; ⟨v, h1, h2.keep r k f⟩⟩
theorem Reps.length : ∀ {ds : List D} {vs : List V}, Reps C ξ ω H vs ds → vs.length = ds.length
  | [], _, .nil => rfl
  | _ :: _, _, .cons _ q => congrArg (· + 1) q.length
theorem Reps.get : ∀ {ds : List D} {vs : List V} {i : Nat} {d : D}, Reps C ξ ω H vs ds → ds[i]? = some d → ∃ v, vs[i]? = some v ∧ Rep C ξ ω H v d
  | _ :: _, _, 0, _, .cons h _, e => by cases Option.some.inj e; exact ⟨_, rfl, h⟩
  | _ :: _, _, i + 1, _, .cons _ q, e => by
    obtain ⟨v, h1, h2⟩ := q.get (i := i) (by simpa using e)
    exact ⟨v, by simpa using h1, h2⟩
theorem Reps.app : ∀ {ds es : List D} {vs ws : List V}, Reps C ξ ω H vs ds → Reps C ξ ω H ws es → Reps C ξ ω H (vs ++ ws) (ds ++ es)
  | [], _, _, _, .nil, q => q
  | _ :: _, _, _, _, .cons h p, q => .cons h (p.app q)
theorem Reps.take : ∀ {ds : List D} {vs : List V} (n : Nat), Reps C ξ ω H vs ds → Reps C ξ ω H (vs.take n) (ds.take n)
  | _, _, 0, _ => by simpa using .nil
  | [], _, n + 1, .nil => .nil
  | _ :: _, _, n + 1, .cons h q => .cons h (q.take n)
theorem Reps.drop : ∀ {ds : List D} {vs : List V} (n : Nat), Reps C ξ ω H vs ds → Reps C ξ ω H (vs.drop n) (ds.drop n)
  | _, _, 0, h => by simpa using h
  | [], _, n + 1, .nil => .nil
  | _ :: _, _, n + 1, .cons _ q => q.drop n
theorem Reps.set {v : V} {d : D} (r : Rep C ξ ω H v d) : ∀ {ds : List D} {vs : List V} (n : Nat), Reps C ξ ω H vs ds → Reps C ξ ω H (vs.set n v) (ds.set n d)
  | [], _, _, .nil => .nil
  | _ :: _, _, 0, .cons _ q => .cons r q
  | _ :: _, _, n + 1, .cons h q => .cons h (q.set r n)
theorem Reps.rep {ds : List D} {vs : List V} (q : Reps C ξ ω H vs ds) : ∀ n : Nat, Reps C ξ ω H (List.replicate n vs).flatten (List.replicate n ds).flatten
  | 0 => .nil
  | n + 1 => by
    rw [List.replicate_succ, List.replicate_succ, List.flatten_cons, List.flatten_cons]
    exact q.app (Reps.rep q n)
theorem Reps.dropLast {ds : List D} {vs : List V} (q : Reps C ξ ω H vs ds) : Reps C ξ ω H vs.dropLast ds.dropLast := by
  rw [List.dropLast_eq_take, List.dropLast_eq_take, q.length]
  exact q.take _
theorem Reps.isEmpty {ds : List D} {vs : List V} (q : Reps C ξ ω H vs ds) : vs.isEmpty = ds.isEmpty := by
  cases q <;> rfl
/-- the items of a sequence -/
theorem vL_ok (r : SRel C ξ ω H s) {d : D} {v : V} {ds : List D} (h : Rep C ξ ω H v d) (e : vL s d = some ds) : ∃ a vs, v = .ref a ∧ H a = some (.lst vs) ∧ Reps C ξ ω H vs ds := by
  cases h with
  | lst h1 h2 h3 h4 => cases Option.some.inj e; exact ⟨_, _, rfl, h1, h4⟩
  | @obj a n h1 =>
    simp only [vL] at e
    cases q : s[n]? with
    | none => simp only [q] at e; cases e
    | some o =>
      simp only [q] at e
      cases o with
      | lst es =>
        cases Option.some.inj e
        obtain ⟨vs, e1, e2⟩ := r.ob n a _ h1 q
        exact ⟨a, vs, rfl, e1, e2⟩
      | ins c fs => cases e
  | _ => cases e
theorem vS_ok (r : SRel C ξ ω H s) {d : D} {v : V} {ds : List D} (h : Rep C ξ ω H v d) (e : vS s d = some ds) : ∃ a vs, v = .ref a ∧ (SqL C.K H a vs ∨ SqT C.K H a vs) ∧ Reps C ξ ω H vs ds := by
  cases h with
  | tup h1 h2 => cases Option.some.inj e; exact ⟨_, _, rfl, .inr h1, h2⟩
  | lst h1 h2 h3 h4 => cases Option.some.inj e; exact ⟨_, _, rfl, .inl (SqL.of h1), h4⟩
  | @obj a n h1 =>
    obtain ⟨b, vs, e0, e1, e2⟩ := vL_ok r (Rep.obj h1) (show vL s (.obj n) = some ds from e)
    exact ⟨b, vs, e0, .inl (SqL.of e1), e2⟩
  | _ => cases e
/-! plain data -/
mutual
theorem pyD_ok : ∀ {d : D} {v : V} {p : PyData}, Rep C ξ ω H v d → pyD d = some p → Dp C.K H v p
  | .non, _, _, .non, e => by simp only [pyD, Option.some.injEq] at e; subst e; exact .non
  | .bl b, _, _, .bl _, e => by simp only [pyD, Option.some.injEq] at e; subst e; exact .bl b
  | .int b, _, _, .int _, e => by simp only [pyD, Option.some.injEq] at e; subst e; exact .int b
  | .str b, _, _, .str _, e => by simp only [pyD, Option.some.injEq] at e; subst e; exact .str b
  | .tup ds, _, _, .tup h q, e => by
    simp only [pyD, Option.map_eq_some_iff] at e
    obtain ⟨ps, e1, rfl⟩ := e
    exact .tup h (pyDs_ok q e1)
  | .lst ds, _, _, .lst h n x q, e => by
    simp only [pyD, Option.map_eq_some_iff] at e
    obtain ⟨ps, e1, rfl⟩ := e
    exact .lst (SqL.of h) (pyDs_ok q e1)
  | .obj n, _, _, _, e => by simp [pyD] at e
  | .scr n, _, _, _, e => by simp [pyD] at e
  | .fn n, _, _, _, e => by simp [pyD] at e
theorem pyDs_ok : ∀ {ds : List D} {vs : List V} {ps : List PyData}, Reps C ξ ω H vs ds → pyDs ds = some ps → DpAll C.K H vs ps
  | [], _, _, .nil, e => by simp only [pyDs, Option.some.injEq] at e; subst e; exact .nil
  | d :: ds, _, _, .cons h q, e => by
    simp only [pyDs] at e
    split at e
    · rename_i x xs h1 h2
      simp only [Option.some.injEq] at e
      subst e
      exact .cons (pyD_ok h h1) (pyDs_ok q h2)
    · cases e
end
theorem shp_ok (r : SRel C ξ ω H s) {d : D} {v : V} {p : PyData} (h : Rep C ξ ω H v d) (e : shp (und s d) = some p) : Dp C.K H v p ∧ SeqAt.shaped p = true := by
  unfold shp at e
  split at e
  · rename_i q hq
    split at e
    · rename_i hs
      cases Option.some.inj e
      refine ⟨?_, hs⟩
      cases d with
      | obj n =>
        simp only [und] at hq
        split at hq
        · rename_i ds hn
          obtain ⟨a, vs, rfl, e1, e2⟩ := vL_ok (ds := ds) r h (by simp only [vL, hn])
          simp only [pyD, Option.map_eq_some_iff] at hq
          obtain ⟨ps, e3, rfl⟩ := hq
          exact .lst (SqL.of e1) (pyDs_ok e2 e3)
        · simp [pyD] at hq
      | _ => exact pyD_ok h hq
    · cases e
  · cases e
theorem und_ok (r : SRel C ξ ω H s) {d : D} {v : V} {p : PyData} (h : Rep C ξ ω H v d) (hq : pyD (und s d) = some p) : Dp C.K H v p := by
  cases d with
  | obj n =>
    simp only [und] at hq
    split at hq
    · rename_i ds hn
      obtain ⟨a, vs, rfl, e1, e2⟩ := vL_ok (ds := ds) r h (by simp only [vL, hn])
      simp only [pyD, Option.map_eq_some_iff] at hq
      obtain ⟨ps, e3, rfl⟩ := hq
      exact .lst (SqL.of e1) (pyDs_ok e2 e3)
    · simp [pyD] at hq
  | _ => exact pyD_ok h hq
theorem unds_ok (r : SRel C ξ ω H s) : ∀ {ds : List D} {vs : List V} {ps : List PyData}, Reps C ξ ω H vs ds → pyDs (ds.map (und s)) = some ps → DpAll C.K H vs ps
  | [], _, _, .nil, e => by simp only [List.map_nil, pyDs, Option.some.injEq] at e; subst e; exact .nil
  | d :: ds, _, _, .cons h q, e => by
    simp only [List.map_cons, pyDs] at e
    split at e
    · rename_i x xs h1 h2
      simp only [Option.some.injEq] at e
      subst e
      exact .cons (und_ok r h h1) (unds_ok r q h2)
    · cases e
/-- a change at an address that is no datum's -/
theorem SqT.upd {K : PySem.W.Frag} {a D : Addr} {o : HO} {vs : List V} (hD : ∀ vs, H D ≠ some (.tup vs)) (hD2 : ∀ o u, H D ≠ some (.frz o u)) (h : SqT K H a vs) : SqT K (upd H D o) a vs := by
  rcases h with (h | ⟨o, h⟩) | h
  · exact .inl (.inl (by rw [upd_ne (by rintro rfl; exact hD _ h)]; exact h))
  · exact .inl (.inr ⟨o, by rw [upd_ne (by rintro rfl; exact hD2 _ _ h)]; exact h⟩)
  · exact .inr h
end
end BS

/-! Core3: readings; the operations by values -/
namespace BS
open PySem PySem.Spec PyProof.Rows L2

def Ext (ω : List Addr) (H : Hp) (ω' : List Addr) (H' : Hp) : Prop := ∃ δ, ω' = ω ++ δ ∧ Keep ω H H' ∧ Fresh H δ
/-- an exception: its class, its own dict -/
def ExRel (C : RC) (ξ : Addr → Prop) (ω : List Addr) (H : Hp) (x : Exn) (cls : Value) (dx : Option Addr) : Prop :=
  ∃ Ca, C.cls x.cls = some Ca ∧ cls = .ref Ca ∧
    match dx with
    | none => x.fs = []
    | some a => ∃ vfs, H a = some (.xd vfs) ∧ vfs.map (·.1) = x.fs.map (·.1) ∧ Reps C ξ ω H (vfs.map (·.2)) (x.fs.map (·.2))
def PO {α : Type} (C : RC) (ξ : Addr → Prop) (ω : List Addr) (H : Hp) (σ : L2.St) (W : WX) (o : Out α) (k : α → Sto → List Addr → Hp → Prop) : Prop :=
  match o with
  | .ok a s' => ∀ ω' H', Ext ω H ω' H' → SRel C ξ ω' H' s' → k a s' ω' H'
  | .ex x s' => ∀ cls dx ω' H', Ext ω H ω' H' → SRel C ξ ω' H' s' → ExRel C ξ ω' H' x cls dx → W cls dx σ H'
  | .no => False

section
variable {C : RC} {ξ : Addr → Prop} {ω ω' ω'' : List Addr} {H H' H'' : Hp} {s s' : Sto} {σ : L2.St} {ρ : Env} {W : WX} {g : G}
theorem Ext.refl : Ext ω H ω H := ⟨[], (List.append_nil _).symm, Keep.refl, Fresh.nil⟩
theorem Ext.trans (a : Ext ω H ω' H') (b : Ext ω' H' ω'' H'') : Ext ω H ω'' H'' := by
  obtain ⟨δ, rfl, k, f⟩ := a
  obtain ⟨δ', rfl, k', f'⟩ := b
  exact ⟨δ ++ δ', List.append_assoc .., k.trans k' f, f.app k f'⟩
theorem Ext.no (a : Ext ω H ω' H') {p : Addr} (h : H' p = none) : H p = none := a.choose_spec.2.1.no p h
theorem Rep.ext (r : SRel C ξ ω H s) (e : Ext ω H ω' H') {d : D} {v : V} (h : Rep C ξ ω H v d) : Rep C ξ ω' H' v d := by
  obtain ⟨δ, rfl, k, f⟩ := e
  exact h.keep r k f
theorem Reps.ext (r : SRel C ξ ω H s) (e : Ext ω H ω' H') {d : List D} {v : List V} (h : Reps C ξ ω H v d) : Reps C ξ ω' H' v d := by
  obtain ⟨δ, rfl, k, f⟩ := e
  exact h.keep r k f
theorem ERel.ext (r : SRel C ξ ω H s) (e : Ext ω H ω' H') (h : ERel C ξ ω H σ ρ) : ERel C ξ ω' H' σ ρ := by
  obtain ⟨δ, rfl, k, f⟩ := e
  exact h.keep r k f
theorem PO.bind {α β : Type} {o : Out α} {f : α → Sto → Out β} {k : β → Sto → List Addr → Hp → Prop} (h : PO C ξ ω H σ W (o.bind f) k) :
    PO C ξ ω H σ W o fun a s' ω' H' => PO C ξ ω' H' σ W (f a s') k := by
  cases o with
  | no => exact h
  | ex x s' => exact h
  | ok a s1 =>
    intro ω1 H1 e1 r1
    have h : PO C ξ ω H σ W (f a s1) k := h
    cases q : f a s1 with
    | no => rw [q] at h; exact h
    | ex x s2 => rw [q] at h; exact fun cls dx ω2 H2 e2 r2 z => h cls dx ω2 H2 (e1.trans e2) r2 z
    | ok b s2 => rw [q] at h; exact fun ω2 H2 e2 r2 => h ω2 H2 (e1.trans e2) r2
theorem PO.mono {α : Type} {o : Out α} {k k' : α → Sto → List Addr → Hp → Prop} (h : PO C ξ ω H σ W o k) (m : ∀ a s' ω' H', o = .ok a s' → Ext ω H ω' H' → SRel C ξ ω' H' s' → k a s' ω' H' → k' a s' ω' H') : PO C ξ ω H σ W o k' := by
  cases o with
  | no => exact h
  | ex x s' => exact h
  | ok a s1 => exact fun ω1 H1 e1 r1 => m a s1 ω1 H1 rfl e1 r1 (h ω1 H1 e1 r1)
theorem PO.here {α : Type} {a : α} {k : α → Sto → List Addr → Hp → Prop} (h : PO C ξ ω H σ W (.ok a s) k) (r : SRel C ξ ω H s) : k a s ω H := h ω H Ext.refl r

/-! ### the readings -/
def tD (C : RC) (W : WX) (g : G) (e : E) : TE := fun σ H Q => ∃ ξ ω ρ s, ERel C ξ ω H σ ρ ∧ SRel C ξ ω H s ∧ PO C ξ ω H σ W (evE g e ρ s) fun d _ ω' H' => ∀ v, Rep C ξ ω' H' v d → Q v H'
def tT (C : RC) (W : WX) (g : G) (e : E) : TT := fun σ H Q => ∃ ξ ω ρ s, ERel C ξ ω H σ ρ ∧ SRel C ξ ω H s ∧ PO C ξ ω H σ W (evE g e ρ s) fun d s' _ H' => ∃ b, truD s' d = some b ∧ Q b H'
def tDs (C : RC) (W : WX) (g : G) (es : List E) : TA := fun σ H Q => ∃ ξ ω ρ s, ERel C ξ ω H σ ρ ∧ SRel C ξ ω H s ∧ PO C ξ ω H σ W (evEs g es ρ s) fun ds _ ω' H' => ∀ vs, Reps C ξ ω' H' vs ds → Q vs H'
theorem tD.mk {e : E} {Q : VK} (er : ERel C ξ ω H σ ρ) (sr : SRel C ξ ω H s) (h : PO C ξ ω H σ W (evE g e ρ s) fun d _ ω' H' => ∀ v, Rep C ξ ω' H' v d → Q v H') : tD C W g e σ H Q := ⟨ξ, ω, ρ, s, er, sr, h⟩
theorem tDs.mk {e : List E} {Q : List V → Hp → Prop} (er : ERel C ξ ω H σ ρ) (sr : SRel C ξ ω H s) (h : PO C ξ ω H σ W (evEs g e ρ s) fun d _ ω' H' => ∀ v, Reps C ξ ω' H' v d → Q v H') : tDs C W g e σ H Q := ⟨ξ, ω, ρ, s, er, sr, h⟩
/-- a value, and what is known there -/
theorem tD.go {e : E} {Q : VK} {K : D → Sto → List Addr → Hp → Prop} (er : ERel C ξ ω H σ ρ) (sr : SRel C ξ ω H s) (h : PO C ξ ω H σ W (evE g e ρ s) K)
    (m : ∀ d s' ω' H' v, Ext ω H ω' H' → SRel C ξ ω' H' s' → ERel C ξ ω' H' σ ρ → K d s' ω' H' → Rep C ξ ω' H' v d → Q v H') : tD C W g e σ H Q :=
  tD.mk er sr (h.mono fun d s' ω' H' _ e r k v rv => m d s' ω' H' v e r (er.ext sr e) k rv)

theorem mapOut_one {a : E} : evEs g [a] ρ s = (evE g a ρ s).bind fun d s1 => .ok [d] s1 := by
  simp only [evEs]
  cases evE g a ρ s <;> rfl
theorem mapOut_two {a b : E} : evEs g [a, b] ρ s = (evE g a ρ s).bind fun d s1 => (evE g b ρ s1).bind fun d2 s2 => .ok [d, d2] s2 := by
  simp only [evEs]
  cases evE g a ρ s with
  | ok d s1 =>
    simp only [Out.bind]
    cases evE g b ρ s1 <;> rfl
  | _ => rfl
theorem bind_assoc {α β γ : Type} (o : Out α) (f : α → Sto → Out β) (k : β → Sto → Out γ) : (o.bind f).bind k = o.bind fun a s => (f a s).bind k := by
  cases o <;> rfl

/-! ### new objects -/
theorem Keep.laid {p : Addr} {o : HO} (h : H p = none) : Keep ω H (upd H p o) :=
  ⟨fun a u e _ _ => by rw [upd_ne (ne_of_none e h)]; exact e, fun a e => by
    by_cases q : a = p
    · rw [q]; exact h
    · rwa [upd_ne q] at e⟩
theorem Ext.laid {p : Addr} {o : HO} (h : H p = none) : Ext ω H ω (upd H p o) := ⟨[], (List.append_nil _).symm, Keep.laid h, Fresh.nil⟩
theorem ObRel.full {o : Ob} {a : Addr} (r : SRel C ξ ω H s) (k : ∀ a u, H a = some u → H' a = some u) (kn : Keep ω H H') (h : ObRel C ξ ω H a o) : ObRel C ξ ω H' a o := by
  cases o with
  | lst ds => obtain ⟨vs, h1, h2⟩ := h; exact ⟨vs, k _ _ h1, h2.keep0 r kn⟩
  | ins c fs => obtain ⟨Ca, dx, vfs, h1, h2, h3, h4⟩ := h; exact ⟨Ca, dx, vfs, k _ _ h1, h2, h3, h4.keep0 r kn⟩
theorem SRel.full (r : SRel C ξ ω H s) (k : ∀ a u, H a = some u → H' a = some u) (kn : Keep ω H H') : SRel C ξ ω H' s :=
  ⟨r.len, r.nd, r.nx, fun a h e => r.xn a h (kn.no a e), fun n a o h1 h2 => (r.ob n a o h1 h2).full r k kn⟩
theorem SRel.laid {p : Addr} {o : HO} (r : SRel C ξ ω H s) (h : H p = none) : SRel C ξ ω (upd H p o) s :=
  r.full (fun a u e => by rw [upd_ne (ne_of_none e h)]; exact e) (Keep.laid h)
theorem SRel.out (r : SRel C ξ ω H s) {p : Addr} (h : H p = none) : p ∉ ω ∧ ¬ ξ p :=
  ⟨fun z => by
    rcases r.there z with ⟨_, q⟩ | ⟨_, _, _, q⟩
    · rw [h] at q; cases q
    · (rw [h] at q; cases q), fun z => r.xn p z h⟩
theorem new_tup {p : Addr} {vs : List V} {ds : List D} (r : SRel C ξ ω H s) (h : H p = none) (q : Reps C ξ ω H vs ds) : Rep C ξ ω (upd H p (.tup vs)) (.ref p) (.tup ds) :=
  .tup (SqT.of upd_same) (q.keep0 r (Keep.laid h))
theorem new_lst {p : Addr} {vs : List V} {ds : List D} (r : SRel C ξ ω H s) (h : H p = none) (q : Reps C ξ ω H vs ds) : Rep C ξ ω (upd H p (.lst vs)) (.ref p) (.lst ds) :=
  .lst upd_same (r.out h).1 (r.out h).2 (q.keep0 r (Keep.laid h))
/-- a new list of the store -/
theorem new_obj {p : Addr} {vs : List V} {ds : List D} (r : SRel C ξ ω H s) (h : H p = none) (q : Reps C ξ ω H vs ds) :
    Ext ω H (ω ++ [p]) (upd H p (.lst vs)) ∧ SRel C ξ (ω ++ [p]) (upd H p (.lst vs)) (s ++ [.lst ds]) ∧ Rep C ξ (ω ++ [p]) (upd H p (.lst vs)) (.ref p) (.obj s.length) := by
  have k : Keep ω H (upd H p (.lst vs)) := Keep.laid h
  have f : Fresh H [p] := fun a ha => by rw [List.mem_singleton.mp ha]; exact h
  have o := r.out h
  refine ⟨⟨[p], rfl, k, f⟩, ⟨by rw [List.length_append, List.length_append, r.len]; rfl, List.nodup_append.mpr ⟨r.nd, by simp, fun a ha b hb => by rw [List.mem_singleton.mp hb]; rintro rfl; exact o.1 ha⟩,
    fun a ha => (List.mem_append.mp ha).elim (r.nx a) fun z => by rw [List.mem_singleton.mp z]; exact o.2, fun a z e => r.xn a z (k.no a e), fun n a u h1 h2 => ?_⟩, .obj (by rw [List.getElem?_append_right (by rw [r.len]; exact Nat.le_refl _), r.len]; simp)⟩
  by_cases hn : n < ω.length
  · rw [List.getElem?_append_left hn] at h1
    rw [List.getElem?_append_left (by rw [r.len]; exact hn)] at h2
    have q2 := r.ob n a u h1 h2
    cases u with
    | lst es =>
      obtain ⟨ws, e1, e2⟩ := q2
      exact ⟨ws, by rw [upd_ne (ne_of_none e1 h)]; exact e1, e2.keep r k f⟩
    | ins c fs =>
      obtain ⟨Ca, dx, vfs, e1, e2, e3, e4⟩ := q2
      exact ⟨Ca, dx, vfs, by rw [upd_ne (ne_of_none e1 h)]; exact e1, e2, e3, e4.keep r k f⟩
  · have hn' : n = ω.length := by
      have := (List.getElem?_eq_some_iff.mp h1).1
      rw [List.length_append] at this
      simp at this
      omega
    subst hn'
    rw [List.getElem?_append_right (Nat.le_refl _)] at h1
    rw [← r.len, List.getElem?_append_right (Nat.le_refl _)] at h2
    simp at h1 h2
    subst h1 h2
    exact ⟨vs, upd_same, q.keep r k f⟩
/-- a list of the store changed -/
theorem put_obj {n : Nat} {a : Addr} {vs ws : List V} {ds es : List D} (r : SRel C ξ ω H s) (h : ω[n]? = some a) (e : s[n]? = some (.lst ds)) (hv : H a = some (.lst vs)) (q : Reps C ξ ω H ws es) :
    Ext ω H ω (upd H a (.lst ws)) ∧ SRel C ξ ω (upd H a (.lst ws)) (s.set n (.lst es)) := by
  have ha : a ∈ ω := List.mem_of_getElem? h
  have k : Keep ω H (upd H a (.lst ws)) := ⟨fun b u e hb _ => by rw [upd_ne (by rintro rfl; exact hb ha)]; exact e, fun b e => by
    by_cases hb : b = a
    · rw [hb, upd_same] at e; cases e
    · rwa [upd_ne hb] at e⟩
  refine ⟨⟨[], (List.append_nil _).symm, k, Fresh.nil⟩, by rw [List.length_set]; exact r.len, r.nd, r.nx, fun b z e => r.xn b z (k.no b e), fun m b u h1 h2 => ?_⟩
  by_cases hm : m = n
  · subst hm
    rw [h] at h1; cases h1
    rw [List.getElem?_set_self (List.getElem?_eq_some_iff.mp e).1] at h2
    cases h2
    exact ⟨ws, upd_same, q.keep0 r k⟩
  · rw [List.getElem?_set_ne (Ne.symm hm)] at h2
    have hb : b ≠ a := by
      rintro rfl
      obtain ⟨p1, e1⟩ := List.getElem?_eq_some_iff.mp h
      obtain ⟨p2, e2⟩ := List.getElem?_eq_some_iff.mp h1
      exact hm ((List.getElem_inj r.nd).mp (e2.trans e1.symm))
    have q2 := r.ob m b u h1 h2
    cases u with
    | lst es => obtain ⟨ws, e1, e2⟩ := q2; exact ⟨ws, by rw [upd_ne hb]; exact e1, e2.keep0 r k⟩
    | ins c fs => obtain ⟨Ca, dx, vfs, e1, e2, e3, e4⟩ := q2; exact ⟨Ca, dx, vfs, by rw [upd_ne hb]; exact e1, e2, e3, e4.keep0 r k⟩
end
theorem absLt {k : Int} {m : Nat} (h : Nat.blt k.natAbs m = true) : -(m : Int) ≤ k ∧ k < (m : Int) := by
  have h : k.natAbs < m := Nat.le_of_ble_eq_true h
  omega
theorem abs62 {k : Int} (h : Nat.blt k.natAbs (2 ^ 62) = true) : -(2 ^ 62) ≤ k ∧ k < 2 ^ 62 := absLt h
theorem abs63 {k : Int} (h : Nat.blt k.natAbs (2 ^ 63) = true) : -(2 ^ 63) ≤ k ∧ k < 2 ^ 63 := absLt h
end BS

/-! Core4: binary operations by values -/
namespace BS
open PySem PySem.Spec PyProof.Rows L2

/-- what is wanted of a pure operation's value -/
def Fin (C : RC) (ξ : Addr → Prop) (ω : List Addr) (H : Hp) (s : Sto) (r : D) (Q : VK) : Prop := ∀ v ω' H', Ext ω H ω' H' → SRel C ξ ω' H' s → Rep C ξ ω' H' v r → Q v H'
def rP (C : RC) (p : Pr) : R2 := fun x y H Q => ∃ ξ ω s d e r, SRel C ξ ω H s ∧ Rep C ξ ω H x d ∧ Rep C ξ ω H y e ∧ prim s p [d, e] = some r ∧ Fin C ξ ω H s r Q
section
variable {C : RC} {ξ : Addr → Prop} {ω ω' ω'' : List Addr} {H H' H'' : Hp} {s s' : Sto} {σ : L2.St} {ρ : Env} {W : WX} {g : G} {X : Cx}
theorem Fin.int {i : Int} {Q : VK} (f : Fin C ξ ω H s (.int i) Q) (r : SRel C ξ ω H s) : Q (.int i) H := f _ _ _ Ext.refl r (.int i)
theorem Fin.bl {i : Bool} {Q : VK} (f : Fin C ξ ω H s (.bl i) Q) (r : SRel C ξ ω H s) : Q (.bl i) H := f _ _ _ Ext.refl r (.bl i)
theorem Fin.str {i : Str} {Q : VK} (f : Fin C ξ ω H s (.str i) Q) (r : SRel C ξ ω H s) : Q (.str i) H := f _ _ _ Ext.refl r (.str i)
theorem Fin.old {v : V} {d : D} {Q : VK} (f : Fin C ξ ω H s d Q) (r : SRel C ξ ω H s) (h : Rep C ξ ω H v d) : Q v H := f _ _ _ Ext.refl r h
theorem Fin.tup {p : Addr} {vs : List V} {ds : List D} {Q : VK} (f : Fin C ξ ω H s (.tup ds) Q) (r : SRel C ξ ω H s) (q : Reps C ξ ω H vs ds) (h : H p = none) : Q (.ref p) (upd H p (.tup vs)) :=
  f _ _ _ (Ext.laid h) (r.laid h) (new_tup r h q)
theorem Fin.lst {p : Addr} {vs : List V} {ds : List D} {Q : VK} (f : Fin C ξ ω H s (.lst ds) Q) (r : SRel C ξ ω H s) (q : Reps C ξ ω H vs ds) (h : H p = none) : Q (.ref p) (upd H p (.lst vs)) :=
  f _ _ _ (Ext.laid h) (r.laid h) (new_lst r h q)
theorem OpR.of {f : Value → Value → Sem Value} {r r' : R2} (h : OpR X f r) (m : ∀ x y H Q, r' x y H Q → r x y H Q) : OpR X f r' := fun pins s σ H x y v u Q I rx ry q => h pins s σ H x y v u Q I rx ry (m _ _ _ _ q)

theorem op_addBI : OpR X (binaryOp .Add) (fun x y H Q => ∃ (b : Bool) (j : Int), x = .bl b ∧ y = .int j ∧ Q (.int ((if b = true then 1 else 0) + j)) H) := by
  rintro pins s σ H x y v u Q I rx ry ⟨b, j, rfl, rfl, q⟩
  obtain ⟨t, rfl⟩ := ry
  cases rx
  exact PySem.IntBool.add_bool_int ⟨.int ((if b = true then 1 else 0) + j), H, I.tok _, ⟨_, rfl⟩, q⟩
theorem v_add (hK : C.K = X.K) : OpR X (binaryOp .Add) (rP C .add) := by
  refine OpR.of ((op_addBI (X := X)).or (((op_add (X := X)).or (op_add_str (X := X))).or ((op_catA (X := X)).or (op_cat (X := X))))) fun x y H Q h => ?_
  obtain ⟨ξ, ω, s, d, e, r, sr, hx, hy, hp, fin⟩ := h
  have cat : ∀ (a b : Addr) (vs ws : List V) (ds es : List D), x = .ref a → y = .ref b → H a = some (.lst vs) → H b = some (.lst ws) → Reps C ξ ω H vs ds → Reps C ξ ω H ws es → (if ds.length + es.length ≤ sizeLine then some (D.lst (ds ++ es)) else none) = some r → rCat x y H Q :=
    fun a b vs ws ds es e1 e2 h1 h2 q1 q2 e3 => by
      split at e3
      · rename_i hz
        cases Option.some.inj e3
        exact ⟨a, b, vs, ws, e1, e2, h1, h2, by rw [q1.length, q2.length]; exact hz, fun p hp => fin.lst sr (q1.app q2) hp⟩
      · cases e3
  cases hx <;> cases hy <;> try (simp [prim, addD] at hp; done)
  · cases Option.some.inj hp
    exact .inl ⟨_, _, rfl, rfl, fin.int sr⟩
  · cases Option.some.inj hp
    exact .inr (.inl (.inl ⟨_, _, rfl, rfl, fin.int sr⟩))
  · simp only [prim, addD] at hp
    split at hp
    · rename_i hz
      cases Option.some.inj hp
      exact .inr (.inl (.inr ⟨_, _, rfl, rfl, hz, fin.str sr⟩))
    · cases hp
  · rename_i a vs ds h1 q1 b ws es h2 q2
    simp only [prim, addD] at hp
    split at hp
    · rename_i hz
      cases Option.some.inj hp
      rw [hK] at h1 h2
      refine .inr (.inr (.inl ⟨a, b, vs, ws, rfl, rfl, h1, h2, by rw [q1.length, q2.length]; exact hz, fun e => ?_, fun _ e => ?_, fun _ _ p hp => fin.tup sr (q1.app q2) hp⟩))
      · subst e
        cases q1
        exact fin.old sr (.tup (by rw [hK]; exact h2) q2)
      · subst e
        cases q2
        rw [List.append_nil] at fin
        exact fin.old sr (.tup (by rw [hK]; exact h1) q1)
    · cases hp
  · rename_i a vs ds h1 _ _ q1 b ws es h2 _ _ q2
    exact .inr (.inr (.inr (cat _ _ _ _ _ _ rfl rfl h1 h2 q1 q2 hp)))
  · rename_i a vs ds h1 _ _ q1 b n h2
    simp only [prim, addD] at hp
    cases hv : vL s (.obj n) with
    | none => rw [hv] at hp; cases hp
    | some es =>
      rw [hv] at hp
      obtain ⟨b', ws, e1, e2, q2⟩ := vL_ok sr (Rep.obj h2) hv
      exact .inr (.inr (.inr (cat _ _ _ _ _ _ rfl e1 h1 e2 q1 q2 hp)))
  · rename_i a n h2 b ws es h1 _ _ q1
    simp only [prim, addD] at hp
    cases hv : vL s (.obj n) with
    | none => rw [hv] at hp; cases hp
    | some ds =>
      rw [hv] at hp
      obtain ⟨b', vs, e1, e2, q2⟩ := vL_ok sr (Rep.obj h2) hv
      exact .inr (.inr (.inr (cat _ _ _ _ _ _ e1 rfl e2 h1 q2 q1 hp)))
  · rename_i a n h1 b m h2
    simp only [prim, addD] at hp
    cases hv : vL s (.obj n) with
    | none => rw [hv] at hp; cases hp
    | some ds =>
      rw [hv] at hp
      cases hw : vL s (.obj m) with
      | none => simp [hw] at hp
      | some es =>
        simp only [hw, Option.bind] at hp
        obtain ⟨a', vs, e1, e2, q1⟩ := vL_ok sr (Rep.obj h1) hv
        obtain ⟨b', ws, e3, e4, q2⟩ := vL_ok sr (Rep.obj h2) hw
        exact .inr (.inr (.inr (cat _ _ _ _ _ _ e1 e3 e2 e4 q1 q2 hp)))
/-- two ints by a rule -/
theorem arith_ok {f : Int → Int → Option Int} {d e r : D} {x y : V} (hx : Rep C ξ ω H x d) (hy : Rep C ξ ω H y e) (h : arith f d e = some r) : ∃ i j k, x = .int i ∧ y = .int j ∧ f i j = some k ∧ r = .int k := by
  cases hx <;> cases hy <;> try (simp [arith] at h; done)
  simp only [arith, Option.map_eq_some_iff] at h
  obtain ⟨k, h1, rfl⟩ := h
  exact ⟨_, _, k, rfl, rfl, h1, rfl⟩
theorem v_sub : OpR X (binaryOp .Sub) (rP C .sub) := by
  refine OpR.of (op_sub (X := X)) fun x y H Q h => ?_
  obtain ⟨ξ, ω, s, d, e, r, sr, hx, hy, hp, fin⟩ := h
  obtain ⟨i, j, k, rfl, rfl, h1, rfl⟩ := arith_ok hx hy (by simpa [prim] using hp)
  cases Option.some.inj h1
  exact ⟨i, j, rfl, rfl, fin.int sr⟩
theorem v_fdiv : OpR X (binaryOp .FloorDiv) (rP C .fdiv) := by
  refine OpR.of (op_fdivW (X := X)) fun x y H Q h => ?_
  obtain ⟨ξ, ω, s, d, e, r, sr, hx, hy, hp, fin⟩ := h
  obtain ⟨i, j, k, rfl, rfl, h1, rfl⟩ := arith_ok hx hy (by simpa only [prim] using hp)
  split at h1
  · rename_i hc
    cases Option.some.inj h1
    simp only [Bool.and_eq_true, decide_eq_true_eq] at hc
    exact ⟨i, j, rfl, rfl, hc, fin.int sr⟩
  · cases h1
theorem v_mod : OpR X (binaryOp .Mod) (rP C .mod) := by
  refine OpR.of (op_mod (X := X)) fun x y H Q h => ?_
  obtain ⟨ξ, ω, s, d, e, r, sr, hx, hy, hp, fin⟩ := h
  obtain ⟨i, j, k, rfl, rfl, h1, rfl⟩ := arith_ok hx hy (by simpa only [prim] using hp)
  split at h1
  · rename_i hc
    cases Option.some.inj h1
    exact ⟨i, j, rfl, rfl, hc, fin.int sr⟩
  · cases h1
theorem v_pow : OpR X (binaryOp .Pow) (rP C .pow) := by
  refine OpR.of (op_pow (X := X)) fun x y H Q h => ?_
  obtain ⟨ξ, ω, s, d, e, r, sr, hx, hy, hp, fin⟩ := h
  obtain ⟨i, j, k, rfl, rfl, h1, rfl⟩ := arith_ok hx hy (by simpa only [prim] using hp)
  split at h1
  · rename_i hc
    cases Option.some.inj h1
    simp only [Bool.and_eq_true, decide_eq_true_eq] at hc
    exact ⟨i, j, rfl, rfl, ⟨hc.1.1, hc.1.2, hc.2⟩, fin.int sr⟩
  · cases h1
/-- tuple * 1 -/
theorem tuple_mul1 (l : Addr) (items : Array Value) (n : Nat) (dd : Option Addr) (sl : Array (Option Value)) (x : Int) (u : Tok) (c0 : (decide (x < -(2 ^ 63)) || decide (x ≥ 2 ^ 63)) = false) (c1 : (items.isEmpty || x == 1) = true) :
    Meets (Builtin.«tuple.__mul__» ⟨[.ref l, .int x u], []⟩) (fun _ R s => s.heap.get? l = some { cls := .type "tuple", dict := dd, data := .seq items n, slots := sl } ∧ R (.ok (.ret (Value.ref l))) s) :=
  .of_wp fun prog w A R s h => by
    obtain ⟨hp, g, d, tk, os⟩ := s
    obtain ⟨hl, h⟩ := h
    have f1 := AutoSeq1.idx_int
    wp_walk using wpAny_loadPart' hl
    repeat (first
      | (refine wpAny_ite_false (decide_eq_false (by rw [c0]; exact Bool.false_ne_true)) ?_; wp_walk using wpAny_loadPart' hl)
      | (refine wpAny_ite_true (decide_eq_true c1) ?_; wp_walk using wpAny_loadPart' hl))
    exact ⟨_, rfl, h⟩
def rRep1 (K : PySem.W.Frag) : R2 := fun x y H Q => ∃ l xs, x = .ref l ∧ y = .int 1 ∧ SqT K H l xs ∧ Q (.ref l) H
theorem op_rep1 : OpR X (binaryOp .Mult) (rRep1 X.K) := by
  intro pins s σ H x y v u Q I rx ry h
  obtain ⟨l, xs, rfl, rfl, hT, q⟩ := h
  cases rx
  obtain ⟨t, rfl⟩ := ry
  obtain ⟨its, r, ⟨⟨cls, dd, data, sl⟩, ho, hc, n, hd⟩, hs⟩ := I.tuple hT
  simp only at hc hd
  subst hc hd
  refine wpAny_binaryOp_repeat_ref (T := "tuple") (U := "int") (by decide) ⟨_, ho, rfl⟩ (fun s' => typeIs_int s' 1 t) noFill_tuple_mul F.fills_int_mul F.slot_int_rmul repeat_tuple F.slot_int_index.lookup
    (call_meets F.slot_int_rmul (typeIs_int s 1 t) F.entry_int_rmul (F.args_int_rmul_2 _ _) (int_rmul_tuple 1 t l its.toArray n dd sl)
      ⟨ho, rfl, ⟨_, ho, rfl⟩, call_meets F.slot_tuple_mul ⟨_, ho, rfl⟩ F.entry_tuple_mul (F.args_tuple_mul_2 _ _) (tuple_mul1 l its.toArray n dd sl 1 t (by decide) (by simp)) ⟨ho, ?_⟩⟩)
  exact ⟨.ref l, H, I, rfl, q⟩
theorem v_mul (hK : C.K = X.K) : OpR X (binaryOp .Mult) (rP C .mul) := by
  refine OpR.of (((op_mul (X := X)).or (op_mulW (X := X))).or (((op_repT (X := X)).or (op_rep1 (X := X))).or (op_rep (X := X)))) fun x y H Q h => ?_
  obtain ⟨ξ, ω, s, d, e, r, sr, hx, hy, hp, fin⟩ := h
  cases hx <;> cases hy <;> try (simp [prim, mulD] at hp; done)
  · rename_i i j
    simp only [prim, mulD] at hp
    split at hp
    · rename_i hz
      cases Option.some.inj hp
      simp only [mulOk, Bool.or_eq_true, decide_eq_true_eq] at hz
      rcases hz with (hz | hz) | hz
      · exact .inl (.inl ⟨_, _, rfl, rfl, .inl (by omega), fin.int sr⟩)
      · exact .inl (.inl ⟨_, _, rfl, rfl, .inr (by omega), fin.int sr⟩)
      · exact .inl (.inr ⟨_, _, rfl, rfl, hz, fin.int sr⟩)
    · cases hp
  · rename_i a vs ds h1 q1 k
    simp only [prim, mulD] at hp
    split at hp
    · rename_i hk
      subst hk
      cases Option.some.inj hp
      exact .inr (.inl (.inr ⟨a, vs, rfl, rfl, by rw [← hK]; exact h1, fin.old sr (.tup h1 q1)⟩))
    · split at hp
      · rename_i hk
        cases Option.some.inj hp
        simp only [repOk, Bool.and_eq_true, decide_eq_true_eq] at hk
        obtain ⟨⟨⟨k1, k2⟩, k3⟩, k4⟩ := hk
        refine .inr (.inl (.inl ⟨a, k, vs, rfl, rfl, by rw [← hK]; exact h1, fun e => ?_, k1, k2, by rw [q1.length]; exact k4, fun p hp => fin.tup sr (q1.rep _) hp⟩))
        have := q1.length
        rw [e] at this
        simp at this
        omega
      · cases hp
  · rename_i a vs ds h1 _ _ q1 k
    simp only [prim, mulD] at hp
    split at hp
    · rename_i hk
      cases Option.some.inj hp
      simp only [Bool.and_eq_true, decide_eq_true_eq] at hk
      exact .inr (.inr ⟨a, k, vs, rfl, rfl, h1, (abs63 hk.1).1, (abs63 hk.1).2, by rw [q1.length]; exact hk.2, fun p hp => fin.lst sr (q1.rep _) hp⟩)
    · cases hp

theorem eqv_ok {d e : D} {x y : V} {b : Bool} (sr : SRel C ξ ω H s) (hx : Rep C ξ ω H x d) (hy : Rep C ξ ω H y e) (h : eqv s d e = some b) : ∃ p q, Dp C.K H x p ∧ Dp C.K H y q ∧ SeqAt.shaped p = true ∧ SeqAt.shaped q = true ∧ b = PyData.eqv p q := by
  unfold eqv at h
  split at h
  · rename_i p q h1 h2
    cases Option.some.inj h
    obtain ⟨a1, a2⟩ := shp_ok sr hx h1
    obtain ⟨b1, b2⟩ := shp_ok sr hy h2
    exact ⟨p, q, a1, b1, a2, b2, rfl⟩
  · cases h
theorem v_eq (hK : C.K = X.K) (hu : X.A.units + 64 < cLine) : OpR X (compareOp .Eq) (rP C .eq) := by
  refine OpR.of (op_eqD (X := X) hu) fun x y H Q h => ?_
  obtain ⟨ξ, ω, s, d, e, r, sr, hx, hy, hp, fin⟩ := h
  simp only [prim, Option.map_eq_some_iff] at hp
  obtain ⟨b, h1, rfl⟩ := hp
  obtain ⟨p, q, a1, a2, a3, a4, rfl⟩ := eqv_ok sr hx hy h1
  rw [hK] at a1 a2
  exact ⟨p, q, a1, a2, a3, a4, fin.bl sr⟩
theorem v_ne (hK : C.K = X.K) (hu : X.A.units + 64 < cLine) : OpR X (compareOp .NotEq) (rP C .ne) := by
  refine OpR.of (op_neD (X := X) hu) fun x y H Q h => ?_
  obtain ⟨ξ, ω, s, d, e, r, sr, hx, hy, hp, fin⟩ := h
  simp only [prim, Option.map_eq_some_iff] at hp
  obtain ⟨b, h1, rfl⟩ := hp
  obtain ⟨p, q, a1, a2, a3, a4, rfl⟩ := eqv_ok sr hx hy h1
  rw [hK] at a1 a2
  exact ⟨p, q, a1, a2, a3, a4, fin.bl sr⟩
theorem intsD_ok : ∀ {ds : List D} {vs : List V} {ns : List Int}, Reps C ξ ω H vs ds → intsD ds = some ns → vs = ns.map V.int
  | [], _, _, .nil, e => by cases Option.some.inj e; rfl
  | d :: ds, _, _, .cons h q, e => by
    cases h with
    | int i =>
      simp only [intsD, Option.map_eq_some_iff] at e
      obtain ⟨ms, e1, rfl⟩ := e
      rw [intsD_ok q e1]
      rfl
    | _ => cases e
theorem boolsD_ok : ∀ {ds : List D} {vs : List V} {ns : List Bool}, Reps C ξ ω H vs ds → boolsD ds = some ns → vs = ns.map V.bl
  | [], _, _, .nil, e => by cases Option.some.inj e; rfl
  | d :: ds, _, _, .cons h q, e => by
    cases h with
    | bl i =>
      simp only [boolsD, Option.map_eq_some_iff] at e
      obtain ⟨ms, e1, rfl⟩ := e
      rw [boolsD_ok q e1]
      rfl
    | _ => cases e
theorem strsD_ok : ∀ {ds : List D} {vs : List V} {ns : List Str}, Reps C ξ ω H vs ds → strsD ds = some ns → vs = ns.map V.str
  | [], _, _, .nil, e => by cases Option.some.inj e; rfl
  | d :: ds, _, _, .cons h q, e => by
    cases h with
    | str i =>
      simp only [strsD, Option.map_eq_some_iff] at e
      obtain ⟨ms, e1, rfl⟩ := e
      rw [strsD_ok q e1]
      rfl
    | _ => cases e
theorem v_lt (hK : C.K = X.K) (hu : X.A.units < cLine) : OpR X (compareOp .Lt) (rP C .lt) := by
  refine OpR.of ((op_lt (X := X)).or (op_ltT (X := X) hu)) fun x y H Q h => ?_
  obtain ⟨ξ, ω, s, d, e, r, sr, hx, hy, hp, fin⟩ := h
  cases hx <;> cases hy <;> try (simp [prim, ltD] at hp; done)
  · cases Option.some.inj hp
    exact .inl ⟨_, _, rfl, rfl, fin.bl sr⟩
  · rename_i a vs ds h1 q1 b ws es h2 q2
    simp only [prim, ltD] at hp
    split at hp
    · rename_i ns ms e1 e2
      cases Option.some.inj hp
      rw [hK] at h1 h2
      have v1 := intsD_ok q1 e1
      have v2 := intsD_ok q2 e2
      subst v1 v2
      exact .inr ⟨a, b, ns, ms, rfl, rfl, h1, h2, fin.bl sr⟩
    · cases hp
theorem cmpI_ok {f : Int → Int → Bool} {d e r : D} {x y : V} (hx : Rep C ξ ω H x d) (hy : Rep C ξ ω H y e) (h : cmpI f d e = some r) : ∃ i j, x = .int i ∧ y = .int j ∧ r = .bl (f i j) := by
  cases hx <;> cases hy <;> try (simp [cmpI] at h; done)
  cases Option.some.inj h
  exact ⟨_, _, rfl, rfl, rfl⟩
theorem v_le : OpR X (compareOp .LtE) (rP C .le) := by
  refine OpR.of (op_le (X := X)) fun x y H Q h => ?_
  obtain ⟨ξ, ω, s, d, e, r, sr, hx, hy, hp, fin⟩ := h
  obtain ⟨i, j, rfl, rfl, rfl⟩ := cmpI_ok hx hy (by simpa only [prim] using hp)
  exact ⟨i, j, rfl, rfl, fin.bl sr⟩
theorem v_gt : OpR X (compareOp .Gt) (rP C .gt) := by
  refine OpR.of (op_gt (X := X)) fun x y H Q h => ?_
  obtain ⟨ξ, ω, s, d, e, r, sr, hx, hy, hp, fin⟩ := h
  obtain ⟨i, j, rfl, rfl, rfl⟩ := cmpI_ok hx hy (by simpa only [prim] using hp)
  exact ⟨i, j, rfl, rfl, fin.bl sr⟩
theorem v_ge : OpR X (compareOp .GtE) (rP C .ge) := by
  refine OpR.of (op_ge (X := X)) fun x y H Q h => ?_
  obtain ⟨ξ, ω, s, d, e, r, sr, hx, hy, hp, fin⟩ := h
  obtain ⟨i, j, rfl, rfl, rfl⟩ := cmpI_ok hx hy (by simpa only [prim] using hp)
  exact ⟨i, j, rfl, rfl, fin.bl sr⟩
/-- x in a tuple of data -/
def rInT (K : PySem.W.Frag) : R2 := fun x y H Q => ∃ d ds, Dp K H x d ∧ Dp K H y (.tuple ds) ∧ SeqAt.shaped d = true ∧ SeqAt.shaped (.tuple ds) = true ∧ Q (.bl (ds.any fun z => PyData.eqv z d)) H
def rNotInT (K : PySem.W.Frag) : R2 := fun x y H Q => ∃ d ds, Dp K H x d ∧ Dp K H y (.tuple ds) ∧ SeqAt.shaped d = true ∧ SeqAt.shaped (.tuple ds) = true ∧ Q (.bl (!ds.any fun z => PyData.eqv z d)) H
theorem op_inT (hu : X.A.units + 65 < cLine) : OpR X (compareOp .In) (rInT X.K) := by
  intro pins s σ H x y v u Q I rx ry h
  obtain ⟨d, ds, hd, he, sd, se, q⟩ := h
  obtain ⟨as, r1⟩ := Dp.reads I d x v hd rx
  obtain ⟨bs, r2⟩ := Dp.reads I (.tuple ds) y u he ry
  exact SeqAt.in_tuple_reads r2 r1 (SeqAt.canLay_of_shaped se) (SeqAt.canLay_of_shaped sd) (room_in_shaped sd hu) ⟨.bl _, H, I, rfl, q⟩
theorem op_notInT (hu : X.A.units + 65 < cLine) : OpR X (compareOp .NotIn) (rNotInT X.K) := by
  intro pins s σ H x y v u Q I rx ry h
  obtain ⟨d, ds, hd, he, sd, se, q⟩ := h
  obtain ⟨as, r1⟩ := Dp.reads I d x v hd rx
  obtain ⟨bs, r2⟩ := Dp.reads I (.tuple ds) y u he ry
  exact SeqAt.notIn_tuple_reads r2 r1 (SeqAt.canLay_of_shaped se) (SeqAt.canLay_of_shaped sd) (room_in_shaped sd hu) ⟨.bl _, H, I, rfl, q⟩
theorem inD_ok {d e : D} {x y : V} {b : Bool} (sr : SRel C ξ ω H s) (hx : Rep C ξ ω H x d) (hy : Rep C ξ ω H y e) (h : inD s d e = some b) :
    ∃ p qs, Dp C.K H x p ∧ (Dp C.K H y (.list qs) ∨ Dp C.K H y (.tuple qs)) ∧ SeqAt.shaped p = true ∧ SeqAt.shaped (.list qs) = true ∧ SeqAt.shaped (.tuple qs) = true ∧ b = qs.any fun z => PyData.eqv z p := by
  unfold inD at h
  split at h
  · rename_i p ds h1 h2
    split at h
    · rename_i qs h3
      split at h
      · rename_i h4
        cases Option.some.inj h
        obtain ⟨a1, a2⟩ := shp_ok sr hx h1
        have h5 : SeqAt.shaped (.tuple qs) = true := h4
        refine ⟨p, qs, a1, ?_, a2, h4, h5, rfl⟩
        obtain ⟨a, vs, rfl, hs, q⟩ := vS_ok sr hy h2
        exact hs.imp (fun z => .lst z (unds_ok sr q h3)) fun z => .tup z (unds_ok sr q h3)
      · cases h
    · cases h
  · cases h
theorem v_in (hK : C.K = X.K) (hu : X.A.units + 65 < cLine) : OpR X (compareOp .In) (rP C .isin) := by
  refine OpR.of ((op_inD (X := X) hu).or (op_inT (X := X) hu)) fun x y H Q h => ?_
  obtain ⟨ξ, ω, s, d, e, r, sr, hx, hy, hp, fin⟩ := h
  simp only [prim, Option.map_eq_some_iff] at hp
  obtain ⟨b, h1, rfl⟩ := hp
  obtain ⟨p, qs, a1, a2, a3, a4, a5, rfl⟩ := inD_ok sr hx hy h1
  rw [hK] at a1 a2
  exact a2.imp (fun z => ⟨p, qs, a1, z, a3, a4, fin.bl sr⟩) fun z => ⟨p, qs, a1, z, a3, a5, fin.bl sr⟩
theorem v_notin (hK : C.K = X.K) (hu : X.A.units + 65 < cLine) : OpR X (compareOp .NotIn) (rP C .notin) := by
  refine OpR.of ((op_notInD (X := X) hu).or (op_notInT (X := X) hu)) fun x y H Q h => ?_
  obtain ⟨ξ, ω, s, d, e, r, sr, hx, hy, hp, fin⟩ := h
  simp only [prim, Option.map_eq_some_iff] at hp
  obtain ⟨b, h1, rfl⟩ := hp
  obtain ⟨p, qs, a1, a2, a3, a4, a5, rfl⟩ := inD_ok sr hx hy h1
  rw [hK] at a1 a2
  exact a2.imp (fun z => ⟨p, qs, a1, z, a3, a4, fin.bl sr⟩) fun z => ⟨p, qs, a1, z, a3, a5, fin.bl sr⟩
theorem v_isB : OpR X (compareOp .Is) (rP C .isB) := by
  refine OpR.of (op_isBl (X := X)) fun x y H Q h => ?_
  obtain ⟨ξ, ω, s, d, e, r, sr, hx, hy, hp, fin⟩ := h
  cases hx <;> cases hy <;> try (simp [prim] at hp; done)
  cases Option.some.inj hp
  exact ⟨_, _, rfl, rfl, fin.bl sr⟩
theorem v_notB : OpR X (compareOp .IsNot) (rP C .notB) := by
  refine OpR.of (op_notBl (X := X)) fun x y H Q h => ?_
  obtain ⟨ξ, ω, s, d, e, r, sr, hx, hy, hp, fin⟩ := h
  cases hx <;> cases hy <;> try (simp [prim] at hp; done)
  cases Option.some.inj hp
  exact ⟨_, _, rfl, rfl, fin.bl sr⟩
/-- x[i] -/
theorem atI_reps {ds : List D} {vs : List V} {i : Int} {d : D} (q : Reps C ξ ω H vs ds) (h : atI ds i = some d) : ∃ v, atI vs i = some v ∧ Rep C ξ ω H v d := by
  unfold atI at h ⊢
  rw [q.length]
  cases e : ixN ds.length i with
  | none => rw [e] at h; cases h
  | some j =>
    rw [e] at h
    obtain ⟨v, h1, h2⟩ := q.get (i := j) h
    exact ⟨v, h1, h2⟩
theorem atI_map {α β : Type} (f : α → β) (xs : List α) (i : Int) : atI (xs.map f) i = (atI xs i).map f := by
  unfold atI
  rw [List.length_map]
  cases ixN xs.length i <;> simp
theorem v_ix (hK : C.K = X.K) : IxR X (rP C .ix) := by
  have h0 := ix_seq (X := X)
  intro a b pins sh σ H x y v u Q I rx ry h hs
  refine h0 a b pins sh σ H x y v u Q I rx ry ?_ hs
  clear hs
  obtain ⟨ξ, ω, s, d, e, r, sr, hx, hy, hp, fin⟩ := h
  have sq : ∀ ds i, vS s d = some ds → y = .int i → atI ds i = some r → rIx X.K x y H Q := fun ds i h1 h2 h3 => by
    obtain ⟨a, vs, rfl, hs, q⟩ := vS_ok sr hx h1
    obtain ⟨w, e1, e2⟩ := atI_reps q h3
    rcases hs with hs | hs
    · exact .inl ⟨a, vs, i, w, rfl, h2, by rw [← hK]; exact hs, e1, fin.old sr e2⟩
    · exact .inr (.inl ⟨a, vs, i, w, rfl, h2, by rw [← hK]; exact hs, e1, fin.old sr e2⟩)
  cases hy <;> try (cases hx <;> simp [prim, ixD] at hp; done)
  cases hx <;> try (simp [prim, ixD] at hp; done)
  · simp only [prim, ixD] at hp
    split at hp
    · rename_i hz
      simp only [Option.map_eq_some_iff] at hp
      obtain ⟨c, h1, rfl⟩ := hp
      exact .inr (.inr ⟨_, _, c, rfl, rfl, hz, h1, fin.str sr⟩)
    · cases hp
  · exact sq _ _ rfl rfl hp
  · exact sq _ _ rfl rfl hp
  · simp only [prim, ixD] at hp
    cases hv : vL s (.obj _) with
    | none => rw [hv] at hp; cases hp
    | some es => rw [hv] at hp; exact sq es _ hv rfl hp
  · rename_i a ns h1
    simp only [prim, ixD, Option.map_eq_some_iff] at hp
    obtain ⟨k, h2, rfl⟩ := hp
    exact .inl ⟨_, _, _, .int k, rfl, rfl, by rw [← hK]; exact h1.sq, by rw [atI_map, h2]; rfl, fin.int sr⟩
end
end BS

/-! Core5: calls of built-ins, slices, lists, by values -/
namespace BS
open PySem PySem.Spec PyProof.Rows L2

def rC (C : RC) (p : Pr) : List V → Hp → VK → Prop := fun vs H Q => ∃ ξ ω s ds r, SRel C ξ ω H s ∧ Reps C ξ ω H vs ds ∧ prim s p ds = some r ∧ Fin C ξ ω H s r Q
/-- what is wanted of a new list -/
def FinL (C : RC) (ξ : Addr → Prop) (ω : List Addr) (H : Hp) (ds : List D) (Q : VK) : Prop := ∀ p vs, H p = none → Reps C ξ ω H vs ds → Q (.ref p) (upd H p (.lst vs))
def rL (C : RC) (p : Pl) : List V → Hp → VK → Prop := fun vs H Q => ∃ ξ ω s ds r, SRel C ξ ω H s ∧ Reps C ξ ω H vs ds ∧ primL s p ds = some r ∧ FinL C ξ ω H r Q
section
variable {C : RC} {ξ : Addr → Prop} {ω ω' ω'' : List Addr} {H H' H'' : Hp} {s s' : Sto} {σ : L2.St} {ρ : Env} {W : WX} {g : G} {X : Cx}
theorem CallR.mono {f : Value} {r r' : List V → Hp → VK → Prop} (h : CallR X f r) (m : ∀ vs H Q, r' vs H Q → r vs H Q) : CallR X f r' := fun pins s σ H xs us Q I rr q => h pins s σ H xs us Q I rr (m _ _ _ q)
theorem mkL_fin {m : Bool} {ds : List D} {Q : VK} (sr : SRel C ξ ω H s) (h : PO C ξ ω H σ W (mkL m ds s) fun d _ ω' H' => ∀ v, Rep C ξ ω' H' v d → Q v H') : FinL C ξ ω H ds Q := fun p vs hp q => by
  cases m with
  | false => exact h ω _ (Ext.laid hp) (sr.laid hp) _ (new_lst sr hp q)
  | true =>
    obtain ⟨e, r, v⟩ := new_obj sr hp q
    exact h _ _ e r _ v
/-- truth -/
theorem tru_of (hK : C.K = X.K) (sr : SRel C ξ ω H s) {d : D} {v : V} {b : Bool} (h : Rep C ξ ω H v d) (e : truD s d = some b) : TruV X.K v H b := by
  cases h with
  | non => cases Option.some.inj e; rfl
  | bl => cases Option.some.inj e; rfl
  | int => cases Option.some.inj e; rfl
  | str x =>
    simp only [truD] at e
    split at e
    · rename_i hz; cases Option.some.inj e; exact ⟨hz, rfl⟩
    · cases e
  | tup h1 h2 => cases Option.some.inj e; exact .inr (.inl ⟨_, by rw [← hK]; exact h1, by rw [h2.isEmpty]⟩)
  | lst h1 h2 h3 h4 => cases Option.some.inj e; exact .inl ⟨_, SqL.of h1, by rw [h4.isEmpty]⟩
  | @obj a n h1 =>
    simp only [truD, Option.map_eq_some_iff] at e
    obtain ⟨ds, e1, rfl⟩ := e
    obtain ⟨b, vs, e0, e2, e3⟩ := vL_ok sr (Rep.obj h1) e1
    cases e0
    exact .inl ⟨_, SqL.of e2, by rw [e3.isEmpty]⟩
  | _ => cases e
theorem one_of {P : List D → Option D} {ds : List D} {vs : List V} {r : D} (q : Reps C ξ ω H vs ds) (h : P ds = some r) (hn : ∀ ds, ds.length ≠ 1 → P ds = none) : ∃ v d, vs = [v] ∧ ds = [d] ∧ Rep C ξ ω H v d := by
  by_cases e : ds.length = 1
  · match ds, vs, q, e with
    | [d], [v], .cons h .nil, _ => exact ⟨v, d, rfl, rfl, h⟩
  · rw [hn ds e] at h; cases h
theorem c_len (hK : C.K = X.K) : CallR X (.builtin "len") (rC C .len) := by
  refine CallR.mono (call_len (X := X)) fun vs H Q h => ?_
  obtain ⟨ξ, ω, s, ds, r, sr, hv, hp, fin⟩ := h
  match ds, vs, hv with
  | [], _, _ => simp [prim] at hp
  | _ :: _ :: _, _, _ => simp [prim] at hp
  | [d], [v], .cons h .nil =>
    simp only [prim, Option.map_eq_some_iff] at hp
    obtain ⟨n, hn, rfl⟩ := hp
    refine ⟨v, n, rfl, ?_, fin.int sr⟩
    cases h with
    | str x =>
      simp only [lenD] at hn
      split at hn
      · rename_i hz; cases Option.some.inj hn; exact ⟨hz, rfl⟩
      · cases hn
    | tup h1 h2 => cases Option.some.inj hn; exact .inr ⟨_, by rw [← hK]; exact h1, h2.length.symm⟩
    | lst h1 h2 h3 h4 => cases Option.some.inj hn; exact .inl ⟨_, SqL.of h1, h4.length.symm⟩
    | @scr a ns h1 => cases Option.some.inj hn; exact .inl ⟨_, by rw [← hK]; exact h1.sq, by simp⟩
    | @obj a n h1 =>
      simp only [lenD, Option.map_eq_some_iff] at hn
      obtain ⟨es, e1, rfl⟩ := hn
      obtain ⟨b, ws, e0, e2, e3⟩ := vL_ok sr (Rep.obj h1) e1
      cases e0
      exact .inl ⟨_, SqL.of e2, e3.length.symm⟩
    | _ => cases hn
theorem c_abs : CallR X (.builtin "abs") (rC C .abs) := by
  refine CallR.mono (call_abs (X := X)) fun vs H Q h => ?_
  obtain ⟨ξ, ω, s, ds, r, sr, hv, hp, fin⟩ := h
  match ds, vs, hv with
  | [], _, _ => simp [prim] at hp
  | _ :: _ :: _, _, _ => simp [prim] at hp
  | [d], [v], .cons h .nil =>
    cases h with
    | int i => cases Option.some.inj hp; exact ⟨i, rfl, fin.int sr⟩
    | _ => simp [prim] at hp
theorem c_min2 (hc : X.calm = true) : CallR X (.builtin "min") (rC C .min2) := by
  refine CallR.mono (call_min2 hc) fun vs H Q h => ?_
  obtain ⟨ξ, ω, s, ds, r, sr, hv, hp, fin⟩ := h
  match ds, vs, hv with
  | [], _, _ => simp [prim] at hp
  | [_], _, _ => simp [prim] at hp
  | _ :: _ :: _ :: _, _, _ => simp [prim] at hp
  | [d, e], [v, w], .cons h (.cons h' .nil) =>
    cases h <;> cases h' <;> try (simp [prim] at hp; done)
    cases Option.some.inj hp
    exact ⟨_, _, rfl, fin.int sr⟩
theorem c_max2 (hc : X.calm = true) : CallR X (.builtin "max") (rC C .max2) := by
  refine CallR.mono (call_max2 hc) fun vs H Q h => ?_
  obtain ⟨ξ, ω, s, ds, r, sr, hv, hp, fin⟩ := h
  match ds, vs, hv with
  | [], _, _ => simp [prim] at hp
  | [_], _, _ => simp [prim] at hp
  | _ :: _ :: _ :: _, _, _ => simp [prim] at hp
  | [d, e], [v, w], .cons h (.cons h' .nil) =>
    cases h <;> cases h' <;> try (simp [prim] at hp; done)
    cases Option.some.inj hp
    exact ⟨_, _, rfl, fin.int sr⟩
theorem c_sum (hc : X.calm = true) (hK : C.K = X.K) : CallR X (.builtin "sum") (rC C .sum) := by
  refine CallR.mono (cr_sum hc) fun vs H Q h => ?_
  obtain ⟨ξ, ω, s, ds, r, sr, hv, hp, fin⟩ := h
  match ds, vs, hv with
  | [], _, _ => simp [prim] at hp
  | _ :: _ :: _, _, _ => simp [prim] at hp
  | [d], [v], .cons h .nil =>
    simp only [prim, Option.bind_eq_some_iff, Option.map_eq_some_iff] at hp
    obtain ⟨es, e1, ns, e2, rfl⟩ := hp
    obtain ⟨a, ws, rfl, e3, e4⟩ := vL_ok sr h e1
    have := intsD_ok e4 e2
    subst this
    exact ⟨a, ns, rfl, SqL.of e3, fin.int sr⟩
theorem c_any (hc : X.calm = true) : CallR X (.builtin "any") (rC C .any) := by
  refine CallR.mono (cr_any hc) fun vs H Q h => ?_
  obtain ⟨ξ, ω, s, ds, r, sr, hv, hp, fin⟩ := h
  match ds, vs, hv with
  | [], _, _ => simp [prim] at hp
  | _ :: _ :: _, _, _ => simp [prim] at hp
  | [d], [v], .cons h .nil =>
    simp only [prim, Option.bind_eq_some_iff, Option.map_eq_some_iff] at hp
    obtain ⟨es, e1, ns, e2, rfl⟩ := hp
    obtain ⟨a, ws, rfl, e3, e4⟩ := vL_ok sr h e1
    have := boolsD_ok e4 e2
    subst this
    exact ⟨a, ns, rfl, SqL.of e3, fin.bl sr⟩
theorem c_all (hc : X.calm = true) : CallR X (.builtin "all") (rC C .all) := by
  refine CallR.mono (cr_all hc) fun vs H Q h => ?_
  obtain ⟨ξ, ω, s, ds, r, sr, hv, hp, fin⟩ := h
  match ds, vs, hv with
  | [], _, _ => simp [prim] at hp
  | _ :: _ :: _, _, _ => simp [prim] at hp
  | [d], [v], .cons h .nil =>
    simp only [prim, Option.bind_eq_some_iff, Option.map_eq_some_iff] at hp
    obtain ⟨es, e1, ns, e2, rfl⟩ := hp
    obtain ⟨a, ws, rfl, e3, e4⟩ := vL_ok sr h e1
    have := boolsD_ok e4 e2
    subst this
    exact ⟨a, ns, rfl, SqL.of e3, fin.bl sr⟩
theorem c_toTup (hK : C.K = X.K) : CallR X (.type "tuple") (rC C .toTup) := by
  refine CallR.mono (call_tuple_of (X := X)) fun vs H Q h => ?_
  obtain ⟨ξ, ω, s, ds, r, sr, hv, hp, fin⟩ := h
  match ds, vs, hv with
  | [], _, _ => simp [prim] at hp
  | _ :: _ :: _, _, _ => simp [prim] at hp
  | [d], [v], .cons h .nil =>
    simp only [prim, Option.map_eq_some_iff] at hp
    obtain ⟨es, e1, rfl⟩ := hp
    obtain ⟨a, ws, rfl, e3, e4⟩ := vS_ok sr h e1
    refine ⟨a, ws, rfl, ?_⟩
    rcases e3 with e3 | e3
    · exact .inl ⟨by rw [← hK]; exact e3, fun l hl => fin.tup sr e4 hl⟩
    · exact .inr ⟨by rw [← hK]; exact e3, fin.old sr (.tup e3 e4)⟩
theorem c_toInt : CallR X (.type "int") (rC C .toInt) := by
  refine CallR.mono (call_int1 (X := X)) fun vs H Q h => ?_
  obtain ⟨ξ, ω, s, ds, r, sr, hv, hp, fin⟩ := h
  match ds, vs, hv with
  | [], _, _ => simp [prim] at hp
  | _ :: _ :: _, _, _ => simp [prim] at hp
  | [d], [v], .cons h .nil =>
    cases h with
    | int i => cases Option.some.inj hp; exact .inl ⟨i, rfl, fin.int sr⟩
    | bl i => cases Option.some.inj hp; exact .inr ⟨i, rfl, fin.int sr⟩
    | _ => simp [prim] at hp
/-- isinstance(x, T), T a built-in type -/
def rIst (C : RC) (T : String) : List V → Hp → VK → Prop := fun vs H Q => ∃ ξ ω s v d r, vs = [v, .ty T] ∧ SRel C ξ ω H s ∧ Rep C ξ ω H v d ∧ prim s (.ist T) [d] = some r ∧ Fin C ξ ω H s r Q
theorem c_ist (hK : C.K = X.K) {T : String} : CallR X (.builtin "isinstance") (rIst C T) := by
  refine CallR.mono (call_isi (X := X)) fun vs H Q h => ?_
  obtain ⟨ξ, ω, s, v, d, r, rfl, sr, h, hp, fin⟩ := h
  simp only [prim, Option.map_eq_some_iff] at hp
  obtain ⟨b, h1, rfl⟩ := hp
  have go : ∀ {T' : String}, TyX X.K H v (.type T') → L2.kitB T' T = some b → rIsi X.K [v, .ty T] H Q := fun {T'} ty e => ⟨v, .ty T, .type T', .type T, b, rfl, .ty T, ty, kit_ty e, fin.bl sr⟩
  cases h with
  | non => exact go (.base .non) h1
  | bl => exact go (.base (.bl _)) h1
  | int => exact go (.base (.int _)) h1
  | str => exact go (.base (.str _)) h1
  | @tup a vs ds h2 h3 =>
    refine go ?_ h1
    rcases h2 with (h2 | ⟨o, h2⟩) | ⟨o, its, n, h2, h4, _⟩
    · exact .base (.tup h2)
    · exact .fTuple h2
    · exact .kTuple (by rw [← hK]; exact h2) h4
  | lst h2 => exact go (.base (.lst h2)) h1
  | @obj a n h2 =>
    simp only [istD] at h1
    split at h1
    · rename_i h3
      obtain ⟨es, e1⟩ := Option.isSome_iff_exists.mp h3
      obtain ⟨b', ws, e0, e2, e3⟩ := vL_ok sr (Rep.obj h2) e1
      cases e0
      exact go (.base (.lst e2)) h1
    · cases h1
  | _ => cases h1
/-- slices -/
def rSlcP (C : RC) : V → Option Int → Option Int → Hp → VK → Prop := fun x lo hi H Q => ∃ ξ ω s d r, SRel C ξ ω H s ∧ Rep C ξ ω H x d ∧ slcD s lo hi d = some r ∧ Fin C ξ ω H s r Q
theorem cut_reps {ds : List D} {vs : List V} {lo hi : Option Int} (q : Reps C ξ ω H vs ds) : Reps C ξ ω H (cutV vs lo hi) (cutD ds lo hi) := by
  unfold cutV cutD
  rw [q.length]
  exact (q.drop _).take _
theorem sl_P (hK : C.K = X.K) : SlR X (rSlcP C) := by
  intro pins sh σ H x v vl vu lo hi sl Q I rx hs pl pu h
  refine (sl_tupA.or sl_list) pins sh σ H x v vl vu lo hi sl Q I rx hs pl pu ?_
  clear hs pl pu
  obtain ⟨ξ, ω, s, d, r, sr, h, hp, fin⟩ := h
  cases h with
  | @tup a vs ds h1 h2 =>
    cases Option.some.inj hp
    refine .inl ⟨a, vs, rfl, by rw [← hK]; exact h1, fun e => ?_, fun _ p hp => fin.tup sr (cut_reps h2) hp⟩
    have e2 : cutD ds lo hi = ds := by
      unfold cutD
      rw [h2.length] at e
      rw [e.1, e.2, List.drop_zero, Nat.sub_zero, List.take_length]
    rw [e2] at fin
    exact fin.old sr (.tup h1 h2)
  | @lst a vs ds h1 h2 h3 h4 =>
    cases Option.some.inj hp
    exact .inr ⟨a, vs, rfl, SqL.of h1, fun p hp => fin.lst sr (cut_reps h4) hp⟩
  | @obj a n h1 =>
    simp only [slcD, Option.map_eq_some_iff] at hp
    obtain ⟨es, e1, rfl⟩ := hp
    obtain ⟨b', ws, e0, e2, e3⟩ := vL_ok sr (Rep.obj h1) e1
    cases e0
    exact .inr ⟨a, ws, rfl, SqL.of e2, fun p hp => fin.lst sr (cut_reps e3) hp⟩
  | _ => cases hp
def rSlcL (C : RC) : V → Option Int → Option Int → Hp → VK → Prop := fun x lo hi H Q => ∃ ξ ω s d ds, SRel C ξ ω H s ∧ Rep C ξ ω H x d ∧ vL s d = some ds ∧ FinL C ξ ω H (cutD ds lo hi) Q
theorem sl_L : SlR X (rSlcL C) := by
  intro pins sh σ H x v vl vu lo hi sl Q I rx hs pl pu h
  refine sl_list pins sh σ H x v vl vu lo hi sl Q I rx hs pl pu ?_
  clear hs pl pu
  obtain ⟨ξ, ω, s, d, ds, sr, h, e, fin⟩ := h
  obtain ⟨a, ws, rfl, e2, e3⟩ := vL_ok sr h e
  exact ⟨a, ws, rfl, SqL.of e2, fun p hp => fin p _ hp (cut_reps e3)⟩
/-- new lists -/
theorem c_toL (hK : C.K = X.K) : CallR X (.type "list") (rL C .toL) := by
  refine CallR.mono (call_list_of (X := X)) fun vs H Q h => ?_
  obtain ⟨ξ, ω, s, ds, r, sr, hv, hp, fin⟩ := h
  match ds, vs, hv with
  | [], _, _ => simp [primL] at hp
  | _ :: _ :: _, _, _ => simp [primL] at hp
  | [d], [v], .cons h .nil =>
    simp only [primL] at hp
    obtain ⟨a, ws, rfl, e3, e4⟩ := vS_ok sr h hp
    exact ⟨a, ws, rfl, by rw [← hK]; exact e3, fun l hl => fin l ws hl e4⟩
/-- xs * k, a new list -/
def rLmul (C : RC) : R2 := fun x y H Q => ∃ ξ ω s d e r, SRel C ξ ω H s ∧ Rep C ξ ω H x d ∧ Rep C ξ ω H y e ∧ primL s .mul [d, e] = some r ∧ FinL C ξ ω H r Q
theorem v_lmul : OpR X (binaryOp .Mult) (rLmul C) := by
  refine OpR.of (op_rep (X := X)) fun x y H Q h => ?_
  obtain ⟨ξ, ω, s, d, e, r, sr, hx, hy, hp, fin⟩ := h
  cases hy with
  | int k =>
    simp only [primL, Option.bind_eq_some_iff] at hp
    obtain ⟨ds, e1, hp⟩ := hp
    split at hp
    · rename_i hk
      cases Option.some.inj hp
      simp only [Bool.and_eq_true, decide_eq_true_eq] at hk
      obtain ⟨a, vs, rfl, e2, e3⟩ := vL_ok sr hx e1
      exact ⟨a, k, vs, rfl, rfl, e2, (abs63 hk.1).1, (abs63 hk.1).2, by rw [e3.length]; exact hk.2, fun p hp => fin p _ hp (e3.rep _)⟩
    · cases hp
  | _ => simp [primL] at hp
theorem rngD_reps (a b : Int) : Reps C ξ ω H (rgV a b) (rngD a b) := by
  unfold rgV rngD
  induction List.range (b - a).toNat with
  | nil => exact .nil
  | cons i is ih => exact .cons (.int _) ih
/-! append, pop -/
/-- list(enumerate(..)) -/
theorem enumD_reps {H' : Hp} {ω' : List Addr} : ∀ {ds : List D} {vs : List V} {as : List Addr} {k : Nat}, Reps C ξ ω' H' vs ds → as.length = vs.length → (∀ (j : Nat) (t : Addr), as[j]? = some t → ∃ x, vs[j]? = some x ∧ H' t = some (.tup [.int ((k + j : Nat) : Int), x])) →
    Reps C ξ ω' H' (as.map V.ref) (enumD k ds)
  | [], _, [], _, .nil, _, _ => .nil
  | [], _, _ :: _, _, .nil, hl, _ => by simp at hl
  | _ :: _, _, [], _, .cons _ _, hl, _ => by simp at hl
  | d :: ds, _, a :: as, k, .cons r q, hl, h => by
    refine .cons ?_ (enumD_reps (k := k + 1) q (by simpa using hl) fun j t hj => ?_)
    · obtain ⟨x, e1, e2⟩ := h 0 a rfl
      cases e1
      exact .tup (SqT.of e2) (.cons (.int _) (.cons r .nil))
    · obtain ⟨x, e1, e2⟩ := h (j + 1) t (by simpa using hj)
      refine ⟨x, by simpa using e1, ?_⟩
      rw [show k + 1 + j = k + (j + 1) by omega]
      exact e2
theorem vS_G0 (hK : C.K = X.K) (sr : SRel C ξ ω H s) {d : D} {v : V} {ds : List D} (h : Rep C ξ ω H v d) (e : vS s d = some ds) : ∃ k a vs, v = .ref a ∧ sqG X.K k H a vs ∧ Reps C ξ ω H vs ds := by
  obtain ⟨a, vs, e0, h1, h2⟩ := vS_ok sr h e
  rw [hK] at h1
  rcases h1 with h1 | h1
  · exact ⟨true, a, vs, e0, h1, h2⟩
  · exact ⟨false, a, vs, e0, h1, h2⟩
/-- the heap but for the new list -/
theorem enL_split {H1 H2 : Hp} {S : Addr} {xs : List V} {as : List Addr} {ds : List D} (sr : SRel C ξ ω H1 s) (h2 : Reps C ξ ω H1 xs ds) (g : EnG H1 H2 S xs as) (hS : H1 S = none) (hal : as.length = xs.length) :
    ∃ H3, H2 = upd H3 S (.lst (as.map V.ref)) ∧ H3 S = none ∧ Ext ω H1 ω H3 ∧ SRel C ξ ω H3 s ∧ Reps C ξ ω H3 (as.map V.ref) (enumD 0 ds) := by
  obtain ⟨H3, e3⟩ : ∃ H3 : Hp, H3 = fun b => if b = S then none else H2 b := ⟨_, rfl⟩
  have e4 : H2 = upd H3 S (.lst (as.map V.ref)) := by
    funext b
    by_cases hb : b = S
    · subst hb; rw [upd_same, g.lst]
    · rw [upd_ne hb, e3]; simp [hb]
  have k3 : ∀ b o, H1 b = some o → H3 b = some o := fun b o q => by
    have hb : b ≠ S := by rintro rfl; rw [hS] at q; cases q
    rw [e3]; simp [hb]; exact g.keep b o q
  have kp : Keep ω H1 H3 := ⟨fun b o q _ _ => k3 b o q, fun b q => by
    cases hq : H1 b with
    | none => rfl
    | some o => rw [k3 b o hq] at q; cases q⟩
  have ex : Ext ω H1 ω H3 := ⟨[], (List.append_nil _).symm, kp, Fresh.nil⟩
  refine ⟨H3, e4, by rw [e3]; simp, ex, sr.full k3 kp, enumD_reps (k := 0) (h2.ext sr ex) hal fun j t hj => ?_⟩
  obtain ⟨x, q1, q2⟩ := g.prs j t hj
  have ht : t ≠ S := by rintro rfl; rw [g.lst] at q2; cases q2
  refine ⟨x, q1, ?_⟩
  rw [e3, Nat.zero_add]; simp [ht]; exact q2
theorem m_append : MtM X "list.append" fun x vs H Q => ∃ ξ ω s d e, SRel C ξ ω H s ∧ Rep C ξ ω H x d ∧ Reps C ξ ω H vs e ∧ PO C ξ ω H σ W (primM s .append (d :: e)) fun r _ ω' H' => ∀ v, Rep C ξ ω' H' v r → Q v H' := by
  intro pins sh σ H x vs v us Q I rx rv h
  refine mt_append pins sh σ H x vs v us Q I rx rv ?_
  obtain ⟨ξ, ω, s, d, e, sr, hx, hv, h⟩ := h
  cases hx with
  | @obj a n h1 =>
    match e, vs, hv with
    | [], _, _ => exact False.elim h
    | _ :: _ :: _, _, _ => exact False.elim h
    | [y], [w], .cons hy .nil =>
      simp only [primM] at h
      split at h
      · rename_i ds e1
        split at h
        · rename_i hz
          obtain ⟨b, ws, e0, e2, e3⟩ := vL_ok (ds := ds) sr (Rep.obj h1) (by simp only [vL, e1])
          cases e0
          obtain ⟨k1, k2⟩ := put_obj sr h1 e1 e2 (e3.app (.cons hy .nil))
          exact ⟨a, ws, w, rfl, rfl, e2, by rw [e3.length]; exact hz, h _ _ k1 k2 _ .non⟩
        · exact False.elim h
      · exact False.elim h
  | _ => exact False.elim h
theorem m_pop : MtM X "list.pop" fun x vs H Q => ∃ ξ ω s d e, SRel C ξ ω H s ∧ Rep C ξ ω H x d ∧ Reps C ξ ω H vs e ∧ PO C ξ ω H σ W (primM s .pop (d :: e)) fun r _ ω' H' => ∀ v, Rep C ξ ω' H' v r → Q v H' := by
  intro pins sh σ H x vs v us Q I rx rv h
  refine mt_pop pins sh σ H x vs v us Q I rx rv ?_
  obtain ⟨ξ, ω, s, d, e, sr, hx, hv, h⟩ := h
  cases hx with
  | @obj a n h1 =>
    match e, vs, hv with
    | _ :: _, _, _ => exact False.elim h
    | [], [], .nil =>
      simp only [primM] at h
      split at h
      · rename_i ds e1
        split at h
        · rename_i y hy
          obtain ⟨b, ws, e0, e2, e3⟩ := vL_ok (ds := ds) sr (Rep.obj h1) (by simp only [vL, e1])
          cases e0
          obtain ⟨k1, k2⟩ := put_obj sr h1 e1 e2 e3.dropLast
          rw [List.getLast?_eq_getElem?] at hy
          obtain ⟨w, w1, w2⟩ := e3.get hy
          exact ⟨a, ws, w, rfl, rfl, e2, by rw [e3.length]; exact w1, h _ _ k1 k2 _ (w2.ext sr k1)⟩
        · exact False.elim h
      · exact False.elim h
  | _ => exact False.elim h
/-- index -/
theorem m_index (hK : C.K = X.K) (hu : X.A.units + 65 < cLine) : MtM X "list.index" fun x vs H Q => ∃ ξ ω s d e, SRel C ξ ω H s ∧ Rep C ξ ω H x d ∧ Reps C ξ ω H vs e ∧ PO C ξ ω H σ W (primM s .index (d :: e)) fun r _ ω' H' => ∀ v, Rep C ξ ω' H' v r → Q v H' := by
  intro pins sh σ H x vs v us Q I rx rv h
  refine L2.mt_indexD hu pins sh σ H x vs v us Q I rx rv ?_
  obtain ⟨ξ, ω, s, d, e, sr, hx, hv, h⟩ := h
  match e, vs, hv with
  | [], _, _ => exact False.elim h
  | _ :: _ :: _, _, _ => exact False.elim h
  | [y], [w], .cons hy .nil =>
    simp only [primM] at h
    split at h
    · rename_i ds p e1 e2
      split at h
      · rename_i qs e3
        split at h
        · rename_i e4
          split at h
          · rename_i j ej
            obtain ⟨a, zs, rfl, e5, e6⟩ := vL_ok sr hx e1
            obtain ⟨a1, a2⟩ := shp_ok sr hy e2
            rw [hK] at a1
            have l1 : Dp X.K H (V.ref a) (.list qs) := .lst (SqL.of e5) (by rw [← hK]; exact unds_ok sr e6 e3)
            rw [List.findIdx?_eq_some_iff_getElem] at ej
            obtain ⟨hj, q1, q2⟩ := ej
            refine ⟨a, w, p, qs, j, qs[j], rfl, rfl, l1, a1, e4, a2, List.getElem?_eq_getElem hj, q1, fun m z' hm hz => ?_, PO.here h sr _ (.int _)⟩
            obtain ⟨hm', rfl⟩ := List.getElem?_eq_some_iff.mp hz
            simpa using q2 m hm
          · exact False.elim h
        · exact False.elim h
      · exact False.elim h
    · exact False.elim h
def rSetP (C : RC) : TSet := fun o i v H Q => ∃ ξ ω s d e y s', SRel C ξ ω H s ∧ Rep C ξ ω H o d ∧ Rep C ξ ω H i e ∧ Rep C ξ ω H v y ∧ setIx s d e y = some s' ∧ ∀ H', Ext ω H ω H' → SRel C ξ ω H' s' → Q H'
theorem set_P : PSet X (rSetP C) := by
  intro pins sh σ H o i v ov iv u Q I ro ri rv h
  refine set_list pins sh σ H o i v ov iv u Q I ro ri rv ?_
  obtain ⟨ξ, ω, s, d, e, y, s', sr, ho, hi, hv, hs, fin⟩ := h
  cases ho with
  | @obj a n h1 =>
    cases hi with
    | int k =>
      simp only [setIx] at hs
      split at hs
      · rename_i ds e1
        simp only [Option.map_eq_some_iff] at hs
        obtain ⟨j, hj, rfl⟩ := hs
        obtain ⟨b, ws, e0, e2, e3⟩ := vL_ok (ds := ds) sr (Rep.obj h1) (by simp only [vL, e1])
        cases e0
        obtain ⟨k1, k2⟩ := put_obj sr h1 e1 e2 (e3.set hv j)
        exact ⟨a, ws, k, j, rfl, rfl, e2, by rw [e3.length]; exact hj, fin _ k1 k2⟩
      · cases hs
    | _ => simp [setIx] at hs
  | _ => simp [setIx] at hs
end
end BS

/-! Core6: what is walked; comprehensions -/
namespace BS
open PySem PySem.Spec PyProof.Rows L2

def Src.ds : Src → List D
  | .seq d => [d]
  | .rng _ _ => []
  | .enum d => [d]
  | .zip a b => [a, b]
/-- J walks src, whose values are vs -/
def JOk (C : RC) (J : It) (vs : List V) (src : Src) : Prop :=
  ∀ (ξ : Addr → Prop) (ω : List Addr) (H : Hp) (s : Sto) (i : Nat), SRel C ξ ω H s → Reps C ξ ω H vs src.ds →
    (src.at s i = .stop → J.stop i H) ∧ ∀ d, src.at s i = .it d → J.go i H ∧ ∀ x H', J.yld i H x H' → (∀ a o, H a = some o → H' a = some o) ∧ Keep ω H H' ∧ Rep C ξ ω H' x d
def tI (C : RC) (W : WX) (g : G) (it : I) : TI := fun σ H R => ∃ ξ ω ρ s, ERel C ξ ω H σ ρ ∧ SRel C ξ ω H s ∧ PO C ξ ω H σ W (evI g it ρ s) fun src _ ω' H' => ∀ J vs, Reps C ξ ω' H' vs src.ds → JOk C J vs src → R J H'
section
variable {C : RC} {ξ ξ' : Addr → Prop} {ω ω' ω'' : List Addr} {H H' H'' : Hp} {s s' : Sto} {σ : L2.St} {ρ : Env} {W : WX} {g : G} {X : Cx}
theorem Reps.one {vs : List V} {d : D} (h : Reps C ξ ω H vs [d]) : ∃ v, vs = [v] ∧ Rep C ξ ω H v d := by
  cases h with
  | cons h q => cases q; exact ⟨_, rfl, h⟩
theorem Reps.two {vs : List V} {d e : D} (h : Reps C ξ ω H vs [d, e]) : ∃ v w, vs = [v, w] ∧ Rep C ξ ω H v d ∧ Rep C ξ ω H w e := by
  cases h with
  | cons h q => cases q with
    | cons h' q' => cases q'; exact ⟨_, _, rfl, h, h'⟩
theorem sqL_of {K : PySem.W.Frag} {a : Addr} {vs : List V} (h : H a = some (.lst vs)) : ∀ xs, SqL K H a xs → True := fun _ _ => trivial
/-- a list, a tuple, at each turn -/
theorem jok_list {a : Addr} {d : D} (hl : (∃ ds, d = .lst ds) ∨ ∃ n, d = .obj n) : JOk C (Itl C.K a) [.ref a] (.seq d) := by
  intro ξ ω H s i sr hv
  obtain ⟨v, e, h⟩ := hv.one
  cases e
  have key : ∀ ds, vS s d = some ds → ∃ vs, SqL C.K H a vs ∧ Reps C ξ ω H vs ds := fun ds e => by
    have e' : vL s d = some ds := by rcases hl with ⟨es, rfl⟩ | ⟨n, rfl⟩ <;> exact e
    obtain ⟨b, vs, e0, e1, e2⟩ := vL_ok sr h e'
    cases e0
    exact ⟨vs, SqL.of e1, e2⟩
  refine ⟨fun e => ?_, fun x e => ?_⟩
  · simp only [Src.at] at e
    split at e
    · rename_i ds hds
      obtain ⟨vs, h1, h2⟩ := key ds hds
      split at e
      · cases e
      · rename_i hn
        exact ⟨vs, h1, by rw [h2.length]; exact List.getElem?_eq_none_iff.mp hn⟩
    · cases e
  · simp only [Src.at] at e
    split at e
    · rename_i ds hds
      obtain ⟨vs, h1, h2⟩ := key ds hds
      split at e
      · rename_i y hy
        cases e
        obtain ⟨w, w1, w2⟩ := h2.get hy
        refine ⟨⟨vs, w, h1, w1⟩, fun z H' hz => ?_⟩
        obtain ⟨rfl, hz⟩ := hz
        have := hz vs h1
        rw [w1] at this
        cases this
        exact ⟨fun _ _ e => e, Keep.refl, w2⟩
      · cases e
    · cases e
theorem jok_tup {a : Addr} {ds : List D} : JOk C (Itt C.K a) [.ref a] (.seq (.tup ds)) := by
  intro ξ ω H s i sr hv
  obtain ⟨v, e, h⟩ := hv.one
  cases e
  cases h with
  | @tup _ vs _ h1 h2 =>
    refine ⟨fun e => ?_, fun x e => ?_⟩
    · simp only [Src.at, vS] at e
      split at e
      · cases e
      · rename_i hn
        exact ⟨vs, h1, by rw [h2.length]; exact List.getElem?_eq_none_iff.mp hn⟩
    · simp only [Src.at, vS] at e
      split at e
      · rename_i y hy
        cases e
        obtain ⟨w, w1, w2⟩ := h2.get hy
        refine ⟨⟨vs, w, h1, w1⟩, fun z H' hz => ?_⟩
        obtain ⟨rfl, hz⟩ := hz
        have := hz vs h1
        rw [w1] at this
        cases this
        exact ⟨fun _ _ e => e, Keep.refl, w2⟩
      · cases e
theorem jok_rng {lo : Int} {n : Nat} : JOk C (Itr lo n) [] (.rng lo n) := by
  intro ξ ω H s i sr hv
  refine ⟨fun e => ?_, fun x e => ?_⟩
  · simp only [Src.at] at e
    split at e
    · cases e
    · rename_i h; exact Nat.le_of_not_lt h
  · simp only [Src.at] at e
    split at e
    · rename_i h
      cases e
      refine ⟨h, fun z H' hz => ?_⟩
      obtain ⟨rfl, rfl⟩ := hz
      exact ⟨fun _ _ e => e, Keep.refl, .int _⟩
    · cases e
/-- a pair, new -/
theorem pair_new {T : Addr} {x y : V} {d e : D} (sr : SRel C ξ ω H s) (hT : H T = none) (hx : Rep C ξ ω H x d) (hy : Rep C ξ ω H y e) :
    (∀ a o, H a = some o → (upd H T (.tup [x, y])) a = some o) ∧ Keep ω H (upd H T (.tup [x, y])) ∧ Rep C ξ ω (upd H T (.tup [x, y])) (.ref T) (.tup [d, e]) :=
  ⟨fun a o h => by rw [upd_ne (ne_of_none h hT)]; exact h, Keep.laid hT, new_tup sr hT (.cons hx (.cons hy .nil))⟩
def kindD : D → Bool
  | .tup _ => false
  | _ => true
theorem vS_G {v : V} {d : D} {ds : List D} (sr : SRel C ξ ω H s) (h : Rep C ξ ω H v d) (e : vS s d = some ds) : ∃ a vs, v = .ref a ∧ sqG C.K (kindD d) H a vs ∧ Reps C ξ ω H vs ds := by
  by_cases ht : ∃ es, d = .tup es
  · obtain ⟨es, rfl⟩ := ht
    cases e
    cases h with
    | @tup a vs _ h1 h2 => exact ⟨a, vs, rfl, h1, h2⟩
  · have hl : (∃ ds, d = .lst ds) ∨ ∃ n, d = .obj n := by
      cases d with
      | lst ds => exact .inl ⟨ds, rfl⟩
      | obj k => exact .inr ⟨k, rfl⟩
      | tup ds => exact absurd ⟨ds, rfl⟩ ht
      | _ => cases e
    have e' : vL s d = some ds := by rcases hl with ⟨es, rfl⟩ | ⟨n, rfl⟩ <;> exact e
    have hk : kindD d = true := by rcases hl with ⟨es, rfl⟩ | ⟨n, rfl⟩ <;> rfl
    obtain ⟨b, vs, e0, e1, e2⟩ := vL_ok sr h e'
    exact ⟨b, vs, e0, by rw [hk]; exact SqL.of e1, e2⟩
theorem jok_enumG {a : Addr} {d : D} : JOk C (IteG C.K (kindD d) a) [.ref a] (.enum d) := by
  intro ξ ω H s i sr hv
  obtain ⟨v, e, h⟩ := hv.one
  cases e
  refine ⟨fun e => ?_, fun x e => ?_⟩
  · simp only [Src.at] at e
    split at e
    · rename_i ds hds
      obtain ⟨b, vs, e0, h1, h2⟩ := vS_G sr h hds
      cases e0
      split at e
      · cases e
      · split at e
        · rename_i hi
          exact ⟨vs, h1, by rw [h2.length, hi]⟩
        · cases e
    · cases e
  · simp only [Src.at] at e
    split at e
    · rename_i ds hds
      obtain ⟨b, vs, e0, h1, h2⟩ := vS_G sr h hds
      cases e0
      split at e
      · rename_i y hy
        cases e
        obtain ⟨w, w1, w2⟩ := h2.get hy
        refine ⟨⟨vs, w, h1, w1⟩, fun z H' hz => ?_⟩
        obtain ⟨T, q, rfl, hT, rfl, hz⟩ := hz
        have := hz vs h1
        rw [w1] at this
        cases this
        exact pair_new sr hT (.int _) w2
      · split at e <;> cases e
    · cases e
theorem jok_zipG {a b : Addr} {d e : D} : JOk C (ItzG C.K (kindD d) (kindD e) a b) [.ref a, .ref b] (.zip d e) := by
  intro ξ ω H s i sr hv
  obtain ⟨v, w, q, h, h'⟩ := hv.two
  cases q
  refine ⟨fun q => ?_, fun x q => ?_⟩
  · simp only [Src.at] at q
    split at q
    · rename_i ds es hds hes
      obtain ⟨c, vs, e0, h1, h2⟩ := vS_G sr h hds
      cases e0
      obtain ⟨c, ws, e0, h3, h4⟩ := vS_G sr h' hes
      cases e0
      split at q
      · cases q
      · rename_i hn
        split at q
        · rename_i hc
          simp only [Bool.and_eq_true, decide_eq_true_eq] at hc
          refine ⟨vs, ws, h1, h3, ?_⟩
          rw [h2.length, h4.length]
          refine ⟨hc.1, hc.2, ?_⟩
          by_cases c1 : i < ds.length
          · by_cases c2 : i < es.length
            · exact absurd (List.getElem?_eq_getElem c2) (hn _ _ (List.getElem?_eq_getElem c1))
            · exact .inr (by omega)
          · exact .inl (by omega)
        · cases q
    · cases q
  · simp only [Src.at] at q
    split at q
    · rename_i ds es hds hes
      obtain ⟨c, vs, e0, h1, h2⟩ := vS_G sr h hds
      cases e0
      obtain ⟨c, ws, e0, h3, h4⟩ := vS_G sr h' hes
      cases e0
      split at q
      · rename_i y z hy hz
        cases q
        obtain ⟨w1, a1, a2⟩ := h2.get hy
        obtain ⟨w2, b1, b2⟩ := h4.get hz
        refine ⟨⟨vs, ws, w1, w2, h1, h3, a1, b1⟩, fun u H' hu => ?_⟩
        obtain ⟨T, p, r, rfl, hT, rfl, hp, hr⟩ := hu
        have e1 := hp vs h1
        have e2 := hr ws h3
        rw [a1] at e1; cases e1
        rw [b1] at e2; cases e2
        exact pair_new sr hT a2 b2
      · split at q <;> cases q
    · cases q
/-! ### the new list of a comprehension, while it grows -/
def ξD (ξ : Addr → Prop) (A : Addr) : Addr → Prop := fun a => ξ a ∨ a = A
mutual
theorem Rep.enter {A : Addr} {o : HO} (hA : H A = none) : ∀ {d : D} {v : V}, Rep C ξ ω H v d → Rep C (ξD ξ A) ω (upd H A o) v d
  | .non, _, .non => .non
  | .bl _, _, .bl _ => .bl _
  | .int _, _, .int _ => .int _
  | .str _, _, .str _ => .str _
  | .tup ds, _, .tup h q => .tup (SqT.upd (by rw [hA]; exact fun _ z => nomatch z) (by rw [hA]; exact fun _ _ z => nomatch z) h) (Reps.enter hA q)
  | .lst ds, _, .lst h n x q => .lst (by rw [upd_ne (ne_of_none h hA)]; exact h) n (fun z => z.elim x fun e => by rw [e, hA] at h; cases h) (Reps.enter hA q)
  | .obj n, _, .obj h => .obj h
  | .scr ns, _, .scr h => .scr (h.imp (fun ⟨o, h⟩ => ⟨o, by rw [upd_ne (ne_of_none h hA)]; exact h⟩) id)
  | .fn g, _, .fn h e => .fn h e
theorem Reps.enter {A : Addr} {o : HO} (hA : H A = none) : ∀ {ds : List D} {vs : List V}, Reps C ξ ω H vs ds → Reps C (ξD ξ A) ω (upd H A o) vs ds
  | [], _, .nil => .nil
  | d :: ds, _, .cons h q => .cons (Rep.enter hA h) (Reps.enter hA q)
end
mutual
theorem Rep.grow {A : Addr} {xs : List V} {o : HO} (hA : H A = some (.lst xs)) : ∀ {d : D} {v : V}, Rep C (ξD ξ A) ω H v d → Rep C (ξD ξ A) ω (upd H A o) v d
  | .non, _, .non => .non
  | .bl _, _, .bl _ => .bl _
  | .int _, _, .int _ => .int _
  | .str _, _, .str _ => .str _
  | .tup ds, _, .tup h q => .tup (SqT.upd (by rw [hA]; exact fun _ z => nomatch z) (by rw [hA]; exact fun _ _ z => nomatch z) h) (Reps.grow hA q)
  | .lst ds, _, .lst h n x q => .lst (by rw [upd_ne fun e => x (.inr e)]; exact h) n x (Reps.grow hA q)
  | .obj n, _, .obj h => .obj h
  | .scr ns, _, .scr h => .scr (h.imp (fun ⟨o, h⟩ => ⟨o, by rw [upd_ne fun e => by rw [e, hA] at h; cases h]; exact h⟩) id)
  | .fn g, _, .fn h e => .fn h e
theorem Reps.grow {A : Addr} {xs : List V} {o : HO} (hA : H A = some (.lst xs)) : ∀ {ds : List D} {vs : List V}, Reps C (ξD ξ A) ω H vs ds → Reps C (ξD ξ A) ω (upd H A o) vs ds
  | [], _, .nil => .nil
  | d :: ds, _, .cons h q => .cons (Rep.grow hA h) (Reps.grow hA q)
end
mutual
theorem Rep.weak {A : Addr} : ∀ {d : D} {v : V}, Rep C (ξD ξ A) ω H v d → Rep C ξ ω H v d
  | .non, _, .non => .non
  | .bl _, _, .bl _ => .bl _
  | .int _, _, .int _ => .int _
  | .str _, _, .str _ => .str _
  | .tup ds, _, .tup h q => .tup h (Reps.weak q)
  | .lst ds, _, .lst h n x q => .lst h n (fun z => x (.inl z)) (Reps.weak q)
  | .obj n, _, .obj h => .obj h
  | .scr ns, _, .scr h => .scr h
  | .fn g, _, .fn h e => .fn h e
theorem Reps.weak {A : Addr} : ∀ {ds : List D} {vs : List V}, Reps C (ξD ξ A) ω H vs ds → Reps C ξ ω H vs ds
  | [], _, .nil => .nil
  | d :: ds, _, .cons h q => .cons (Rep.weak h) (Reps.weak q)
end
mutual
theorem Rep.move {A : Addr} : ∀ {d : D} {v : V}, Rep C (ξD ξ A) ω H v d → Rep C ξ (ω ++ [A]) H v d
  | .non, _, .non => .non
  | .bl _, _, .bl _ => .bl _
  | .int _, _, .int _ => .int _
  | .str _, _, .str _ => .str _
  | .tup ds, _, .tup h q => .tup h (Reps.move q)
  | .lst ds, _, .lst h n x q => .lst h (fun z => (List.mem_append.mp z).elim n fun e => x (.inr (List.mem_singleton.mp e))) (fun z => x (.inl z)) (Reps.move q)
  | .obj n, _, .obj h => .obj (by rw [List.getElem?_append_left (List.getElem?_eq_some_iff.mp h).1]; exact h)
  | .scr ns, _, .scr h => .scr h
  | .fn g, _, .fn h e => .fn h e
theorem Reps.move {A : Addr} : ∀ {ds : List D} {vs : List V}, Reps C (ξD ξ A) ω H vs ds → Reps C ξ (ω ++ [A]) H vs ds
  | [], _, .nil => .nil
  | d :: ds, _, .cons h q => .cons (Rep.move h) (Reps.move q)
end
/-- an object's relation carried -/
theorem ObRel.map {o : Ob} {a : Addr} (e : H' a = H a) (f : ∀ {ds : List D} {vs : List V}, Reps C ξ ω H vs ds → Reps C ξ' ω' H' vs ds) (h : ObRel C ξ ω H a o) : ObRel C ξ' ω' H' a o := by
  cases o with
  | lst ds => obtain ⟨vs, h1, h2⟩ := h; exact ⟨vs, e.trans h1, f h2⟩
  | ins c fs => obtain ⟨Ca, dx, vfs, h1, h2, h3, h4⟩ := h; exact ⟨Ca, dx, vfs, e.trans h1, h2, h3, f h4⟩
theorem SRel.enter {A : Addr} {o : HO} (sr : SRel C ξ ω H s) (hA : H A = none) : SRel C (ξD ξ A) ω (upd H A o) s := by
  have ne : ∀ a ∈ ω, a ≠ A := fun a ha e => (sr.out hA).1 (e ▸ ha)
  refine ⟨sr.len, sr.nd, fun a ha z => z.elim (sr.nx a ha) (ne a ha), fun a z e => ?_, fun n a u h1 h2 => (sr.ob n a u h1 h2).map (upd_ne (ne a (List.mem_of_getElem? h1))) (Reps.enter hA)⟩
  by_cases q : a = A
  · rw [q, upd_same] at e; cases e
  · rw [upd_ne q] at e
    exact z.elim (fun z => sr.xn a z e) q
theorem SRel.grow {A : Addr} {xs : List V} {o : HO} (sr : SRel C (ξD ξ A) ω H s) (hA : H A = some (.lst xs)) : SRel C (ξD ξ A) ω (upd H A o) s := by
  have ne : ∀ a ∈ ω, a ≠ A := fun a ha e => sr.nx a ha (.inr e)
  refine ⟨sr.len, sr.nd, sr.nx, fun a z e => ?_, fun n a u h1 h2 => (sr.ob n a u h1 h2).map (upd_ne (ne a (List.mem_of_getElem? h1))) (Reps.grow hA)⟩
  by_cases q : a = A
  · rw [q, upd_same] at e; cases e
  · rw [upd_ne q] at e
    exact sr.xn a z e
theorem SRel.weak {A : Addr} (sr : SRel C (ξD ξ A) ω H s) : SRel C ξ ω H s :=
  ⟨sr.len, sr.nd, fun a ha z => sr.nx a ha (.inl z), fun a z e => sr.xn a (.inl z) e, fun n a u h1 h2 => (sr.ob n a u h1 h2).map rfl Reps.weak⟩
theorem SRel.move {A : Addr} {vs : List V} {ds : List D} (sr : SRel C (ξD ξ A) ω H s) (hx : ¬ ξ A) (hA : H A = some (.lst vs)) (q : Reps C (ξD ξ A) ω H vs ds) : SRel C ξ (ω ++ [A]) H (s ++ [.lst ds]) := by
  have na : A ∉ ω := fun h => sr.nx A h (.inr rfl)
  refine ⟨by rw [List.length_append, List.length_append, sr.len]; rfl, List.nodup_append.mpr ⟨sr.nd, by simp, fun a ha b hb => by rw [List.mem_singleton.mp hb]; rintro rfl; exact na ha⟩,
    fun a ha => (List.mem_append.mp ha).elim (fun z w => sr.nx a z (.inl w)) fun z => by rw [List.mem_singleton.mp z]; exact hx, fun a z e => sr.xn a (.inl z) e, fun n a u h1 h2 => ?_⟩
  by_cases hn : n < ω.length
  · rw [List.getElem?_append_left hn] at h1
    rw [List.getElem?_append_left (by rw [sr.len]; exact hn)] at h2
    exact (sr.ob n a u h1 h2).map rfl Reps.move
  · have hn' : n = ω.length := by
      have := (List.getElem?_eq_some_iff.mp h1).1
      rw [List.length_append] at this
      simp at this
      omega
    subst hn'
    rw [List.getElem?_append_right (Nat.le_refl _)] at h1
    rw [← sr.len, List.getElem?_append_right (Nat.le_refl _)] at h2
    simp at h1 h2
    subst h1 h2
    exact ⟨vs, hA, q.move⟩
theorem ERel.enter {A : Addr} {o : HO} (hA : H A = none) (e : ERel C ξ ω H σ ρ) : ERel C (ξD ξ A) ω (upd H A o) σ ρ := ⟨e.len, fun i d h => let ⟨v, a, b⟩ := e.at_ i d h; ⟨v, a, b.enter hA⟩⟩
theorem ERel.grow {A : Addr} {xs : List V} {o : HO} (hA : H A = some (.lst xs)) (e : ERel C (ξD ξ A) ω H σ ρ) : ERel C (ξD ξ A) ω (upd H A o) σ ρ := ⟨e.len, fun i d h => let ⟨v, a, b⟩ := e.at_ i d h; ⟨v, a, b.grow hA⟩⟩
/-- the list is whole -/
theorem whole {A : Addr} {m : Bool} {vs : List V} {ds : List D} {ω0 : List Addr} {H0 : Hp} {Q : VK} (e0 : Ext ω0 H0 ω H) (hx : ¬ ξ A) (sr : SRel C (ξD ξ A) ω H s) (hA : H A = some (.lst vs)) (q : Reps C (ξD ξ A) ω H vs ds) (h0 : H0 A = none)
    (h : PO C ξ ω0 H0 σ W (mkL m ds s) fun d _ ω' H' => ∀ v, Rep C ξ ω' H' v d → Q v H') : Q (.ref A) H := by
  cases m with
  | false => exact h ω H e0 sr.weak _ (.lst hA (fun z => sr.nx A z (.inr rfl)) hx q.weak)
  | true =>
    refine h (ω ++ [A]) H ?_ (sr.move hx hA q) _ (.obj (by rw [List.getElem?_append_right (by rw [sr.len]; exact Nat.le_refl _), sr.len]; simp))
    obtain ⟨δ, rfl, k, f⟩ := e0
    exact ⟨δ ++ [A], List.append_assoc .., k, fun a ha => (List.mem_append.mp ha).elim (f a) fun z => by rw [List.mem_singleton.mp z]; exact h0⟩
end
end BS

/-! Core7: targets, comprehensions, loops -/
namespace BS
open PySem PySem.Spec PyProof.Rows L2

def W0 : WX := fun _ _ _ _ => False
mutual
def tgIn (vs : List Nat) : Tg → Bool
  | .v i => vs.contains i
  | .tup ts => tgsIn vs ts
def tgsIn (vs : List Nat) : List Tg → Bool
  | [] => true
  | t :: ts => tgIn vs t && tgsIn vs ts
end
/-- a target's reading -/
def tTg (C : RC) (t : Tg) : TG := fun v σ H Q => ∃ ξ ω s ρ d ρ', SRel C ξ ω H s ∧ Rep C ξ ω H v d ∧ ERel C ξ ω H σ ρ ∧ asg t d ρ = some ρ' ∧
  ∀ σ', ERel C ξ ω H σ' ρ' → (∀ vs, tgIn vs t = true → wipe σ' vs = wipe σ vs) → Q σ' H
def tTgs (C : RC) (ts : List Tg) : TGs := fun vs σ H Q => ∃ ξ ω s ρ ds ρ', SRel C ξ ω H s ∧ Reps C ξ ω H vs ds ∧ ERel C ξ ω H σ ρ ∧ asgs ts ds ρ = some ρ' ∧
  ∀ σ', ERel C ξ ω H σ' ρ' → (∀ us, tgsIn us ts = true → wipe σ' us = wipe σ us) → Q σ' H
/-- what is wanted of statements -/
def POS (C : RC) (ξ : Addr → Prop) (ω : List Addr) (H : Hp) (W : WX) (o : SO) (D : Ends) : Prop :=
  match o with
  | .fl (.next ρ) s' => ∀ σ' ω' H', Ext ω H ω' H' → SRel C ξ ω' H' s' → ERel C ξ ω' H' σ' ρ → D.nx σ' H'
  | .fl (.brk ρ) s' => ∀ σ' ω' H', Ext ω H ω' H' → SRel C ξ ω' H' s' → ERel C ξ ω' H' σ' ρ → D.bk σ' H'
  | .fl (.cont ρ) s' => ∀ σ' ω' H', Ext ω H ω' H' → SRel C ξ ω' H' s' → ERel C ξ ω' H' σ' ρ → D.ct σ' H'
  | .fl (.ret d) s' => ∀ v ω' H', Ext ω H ω' H' → SRel C ξ ω' H' s' → Rep C ξ ω' H' v d → D.rt v H'
  | .ex x ρ s' => ∀ cls dx σ' ω' H', Ext ω H ω' H' → SRel C ξ ω' H' s' → ERel C ξ ω' H' σ' ρ → ExRel C ξ ω' H' x cls dx → W cls dx σ' H'
  | .no => False
def tS (C : RC) (W : WX) (g : G) (t : S) : TS := fun D σ H => ∃ ξ ω ρ s, ERel C ξ ω H σ ρ ∧ SRel C ξ ω H s ∧ POS C ξ ω H W (evS g t ρ s) D
def tSs (C : RC) (W : WX) (g : G) (ts : List S) : TS := fun D σ H => ∃ ξ ω ρ s, ERel C ξ ω H σ ρ ∧ SRel C ξ ω H s ∧ POS C ξ ω H W (evSs g ts ρ s) D

section
variable {C : RC} {ξ ξ' : Addr → Prop} {ω ω' ω'' : List Addr} {H H' H'' : Hp} {s s' : Sto} {σ σ' : L2.St} {ρ ρ' : Env} {W : WX} {g : G} {X : Cx}
theorem wipe_set {i : Nat} {x : Option V} : ∀ {vs : List Nat} {σ : L2.St}, i ∈ vs → wipe (σ.set i x) vs = wipe σ vs
  | v :: vs, σ, h => by
    unfold wipe
    by_cases e : i ∈ vs
    · rw [wipe_set e]
    · have ev : i = v := (List.mem_cons.mp h).resolve_right e
      subst ev
      have key : ∀ (us : List Nat) (σ : L2.St), i ∉ us → wipe (σ.set i x) us = (wipe σ us).set i x := by
        intro us
        induction us with
        | nil => intro σ _; rfl
        | cons u us ih =>
          intro σ hu
          unfold wipe
          rw [ih σ (fun z => hu (List.mem_cons_of_mem _ z)), List.set_comm _ _ (fun z => hu (by rw [z]; exact List.mem_cons_self))]
      rw [key vs σ e, List.set_set]
theorem wipe_wipe : ∀ (vs : List Nat) (σ : L2.St), wipe (wipe σ vs) vs = wipe σ vs := fun vs σ => by
  have key : ∀ (us : List Nat), (∀ u ∈ us, u ∈ vs) → wipe (wipe σ us) vs = wipe σ vs := by
    intro us
    induction us with
    | nil => intro _; rfl
    | cons u us ih =>
      intro h
      show wipe ((wipe σ us).set u none) vs = _
      rw [wipe_set (h u List.mem_cons_self), ih fun v hv => h v (List.mem_cons_of_mem _ hv)]
  exact key vs fun _ h => h
theorem ERel.set {i : Nat} {v : V} {d : D} (e : ERel C ξ ω H σ ρ) (h : Rep C ξ ω H v d) : ERel C ξ ω H (σ.set i (some v)) (ρ.set i (some d)) := by
  refine ⟨by rw [List.length_set, List.length_set]; exact e.len, fun j x q => ?_⟩
  by_cases hj : i = j
  · subst hj
    by_cases hl : i < ρ.length
    · rw [List.getElem?_set_self hl] at q
      cases q
      exact ⟨v, List.getElem?_set_self (by rw [← e.len]; exact hl), h⟩
    · rw [List.getElem?_eq_none (by rw [List.length_set]; omega)] at q
      cases q
  · rw [List.getElem?_set_ne hj] at q
    rw [List.getElem?_set_ne hj]
    exact e.at_ j x q
theorem ERel.wipe (e : ERel C ξ ω H σ ρ) : ∀ vs : List Nat, ERel C ξ ω H (wipe σ vs) (wipeE ρ vs)
  | [] => e
  | v :: vs => by
    have q := e.wipe vs
    refine ⟨by simp only [L2.wipe, wipeE, List.length_set]; exact q.len, fun j x h => ?_⟩
    simp only [wipeE] at h
    simp only [L2.wipe]
    by_cases hj : v = j
    · subst hj
      by_cases hl : v < (wipeE ρ vs).length
      · rw [List.getElem?_set_self hl] at h; cases h
      · rw [List.getElem?_eq_none (by rw [List.length_set]; omega)] at h; cases h
    · rw [List.getElem?_set_ne hj] at h
      rw [List.getElem?_set_ne hj]
      exact q.at_ j x h
theorem SRel.full' (r : SRel C ξ ω H s) (k : ∀ a u, H a = some u → H' a = some u) (kn : Keep ω H H') : SRel C ξ ω H' s := r.full k kn
theorem Ext.full (kn : Keep ω H H') : Ext ω H ω H' := ⟨[], (List.append_nil _).symm, kn, Fresh.nil⟩
/-! targets -/
theorem tg_name {x : Str} {i : Nat} {pos : Pos} (hN : X.N.Nodup) (hi : X.N[i]? = some x) (hx : Loc X.env.scope x) (hf : X.fn x = true ∨ X.env.scope.names.lookup x = some .local) : PG X (.Name x pos) (tTg C (.v i)) := by
  refine ⟨fun pins sh σ H v u Q I r h => (pg_name hN hi hx hf).run pins sh σ H v u Q I r ?_⟩
  obtain ⟨ξ, ω, s, ρ, d, ρ', sr, hv, er, e, fin⟩ := h
  simp only [asg, Option.some.injEq] at e
  subst e
  exact fin _ (er.set hv) fun vs hvs => wipe_set (by simpa [tgIn] using hvs)
theorem tgs_nil : PGs X [] (tTgs C []) := by
  refine ⟨fun pins sh σ H vs us Q I r h => pgs_nil.run pins sh σ H vs us Q I r ?_⟩
  obtain ⟨ξ, ω, s, ρ, ds, ρ', sr, hv, er, e, fin⟩ := h
  cases hv with
  | nil =>
    simp only [asgs, Option.some.injEq] at e
    subst e
    exact ⟨rfl, fin σ er fun _ _ => rfl⟩
  | cons => simp [asgs] at e
theorem tgs_cons {e : Expr} {es : List Expr} {t : Tg} {ts : List Tg} (h1 : PG X e (tTg C t)) (h2 : PGs X es (tTgs C ts))
    (hs : (assignEach (e :: es) X.env).map (·.2) = assign e X.env :: (assignEach es X.env).map (·.2)) : PGs X (e :: es) (tTgs C (t :: ts)) := by
  refine ⟨fun pins sh σ H vs us Q I r h => (pgs_cons h1 h2 hs).run pins sh σ H vs us Q I r ?_⟩
  obtain ⟨ξ, ω, s, ρ, ds, ρ', sr, hv, er, e, fin⟩ := h
  cases hv with
  | nil => simp [asgs] at e
  | @cons v vs d ds hd q =>
    simp only [asgs] at e
    split at e
    · rename_i ρ1 e1
      refine ⟨v, vs, rfl, ξ, ω, s, ρ, d, ρ1, sr, hd, er, e1, fun σ1 er1 w1 => ?_⟩
      refine ⟨ξ, ω, s, ρ1, ds, ρ', sr, q, er1, e, fun σ2 er2 w2 => fin σ2 er2 fun us hu => ?_⟩
      simp only [tgsIn, Bool.and_eq_true] at hu
      rw [w2 us hu.2, w1 us hu.1]
    · cases e
theorem tg_tup {es : List Expr} {k : Nat} {ts : List Tg} {pos : Pos} (hK : C.K = X.K) (hc : X.calm = true) (h : PGs X es (tTgs C ts)) (hl : (assignEach es X.env).length = ts.length) (hst : (assignEach es X.env).findIdx? (·.1) = none) :
    PG X (.Tuple es k pos) (tTg C (.tup ts)) := by
  refine ⟨fun pins sh σ H v u Q I r hh => (pg_tup (n := ts.length) hc h hl hst).run pins sh σ H v u Q I r ?_⟩
  obtain ⟨ξ, ω, s, ρ, d, ρ', sr, hv, er, e, fin⟩ := hh
  have len : ∀ {ts : List Tg} {ds : List D} {ρ ρ' : Env}, asgs ts ds ρ = some ρ' → ds.length = ts.length := by
    intro ts
    induction ts with
    | nil => intro ds ρ ρ' e; cases ds with
      | nil => rfl
      | cons => simp [asgs] at e
    | cons t ts ih => intro ds ρ ρ' e; cases ds with
      | nil => simp [asgs] at e
      | cons d ds =>
        simp only [asgs] at e
        split at e
        · simp [ih e]
        · cases e
  cases hv with
  | @tup a vs ds h1 h2 =>
    simp only [asg] at e
    refine ⟨a, vs, rfl, by rw [← hK]; exact h1, by rw [h2.length]; exact len e, ξ, ω, s, ρ, ds, ρ', sr, h2, er, e, fun σ' er' w => fin σ' er' fun us hu => w us (by simpa [tgIn] using hu)⟩
  | _ => simp [asg] at e
/-! comprehensions -/
theorem comp_ok {m : Bool} {own : List Nat} {tg : Tg} {it : I} {c : E} {e : E} {Q : VK} (hown : tgIn own tg = true) (h : tD C W g (.comp m own tg it c e) σ H Q) :
    tLc (tI C W g it) (tTg C tg) (tT C W0 g c) (tD C W0 g e) own σ H Q := by
  obtain ⟨ξ, ω, ρ, s, er, sr, h⟩ := h
  simp only [evE] at h
  refine ⟨ξ, ω, ρ, s, er, sr, h.bind.mono fun src s1 ω1 H1 _ e1 sr1 h1 J vs hv jok => ?_⟩
  intro A hA
  have er1 := er.ext sr e1
  generalize hb : compB tg (wipeE ρ own) (fun ρ s => evE g c ρ s) (fun ρ s => evE g e ρ s) = b at h1
  cases ho : compLoop src b (src.most s1) 0 [] s1 with
  | no => rw [ho] at h1; exact False.elim h1
  | ex x s2 =>
    exfalso
    have key : ∀ (k i : Nat) (acc : List D) (s : Sto), compLoop src b k i acc s ≠ .ex x s2 := by
      intro k
      induction k with
      | zero => intro i acc s; simp only [compLoop]; split <;> exact fun z => nomatch z
      | succ k ih =>
        intro i acc s
        simp only [compLoop]
        split
        · exact fun z => nomatch z
        · exact fun z => nomatch z
        · split
          · exact ih _ _ _
          · split
            · exact ih _ _ _
            · exact fun z => nomatch z
          · exact fun z => nomatch z
    exact key _ _ _ _ ho
  | ok ds s2 =>
    rw [ho] at h1
    have hfin : PO C ξ ω1 H1 σ W (mkL m ds s2) fun d _ ω' H' => ∀ v, Rep C ξ ω' H' v d → Q v H' := h1
    have hxA := (sr1.out hA).2
    refine ⟨fun i k H => ∃ ω' s' acc accV, compLoop src b k i acc s' = .ok ds s2 ∧ H A = some (.lst accV) ∧ Ext ω1 H1 ω' H ∧ SRel C (ξD ξ A) ω' H s' ∧ ERel C (ξD ξ A) ω' H (wipe σ own) (wipeE ρ own) ∧ Reps C (ξD ξ A) ω' H vs src.ds ∧ Reps C (ξD ξ A) ω' H accV acc.reverse,
      ⟨src.most s1, ω1, s1, [], [], ho, upd_same, Ext.laid hA, sr1.enter hA, (er1.wipe own).enter hA, hv.enter hA, .nil⟩, ?_⟩
    rintro i k H ⟨ω', s', acc, accV, hl, hHA, ex, sr', er', hv', hacc⟩
    have stop : src.at s' i = .stop → acc.reverse = ds → s' = s2 → J.stop i H ∧ Q (.ref A) H := fun e0 e1 e2 => by
      subst e1 e2
      exact ⟨(jok _ _ _ _ i sr' hv').1 e0, whole ex hxA sr' hHA hacc hA hfin⟩
    cases k with
    | zero =>
      simp only [compLoop] at hl
      split at hl
      · rename_i e0
        injection hl with e1 e2
        exact .inl (stop e0 e1 e2)
      · cases hl
    | succ k =>
      simp only [compLoop] at hl
      split at hl
      · rename_i e0
        injection hl with e1 e2
        exact .inl (stop e0 e1 e2)
      · cases hl
      · rename_i d e0
        obtain ⟨go, yl⟩ := (jok _ _ _ _ i sr' hv').2 d e0
        refine .inr ⟨go, fun H' => ∃ ω' s' acc accV, compLoop src b k (i + 1) acc s' = .ok ds s2 ∧ H' A = some (.lst accV) ∧ Ext ω1 H1 ω' H' ∧ SRel C (ξD ξ A) ω' H' s' ∧ ERel C (ξD ξ A) ω' H' (wipe σ own) (wipeE ρ own) ∧ Reps C (ξD ξ A) ω' H' vs src.ds ∧ Reps C (ξD ξ A) ω' H' accV acc.reverse,
          fun H' hN => ⟨k, Nat.lt_succ_self _, hN⟩, fun x H' hy => ?_⟩
        obtain ⟨fu, kn, hx⟩ := yl x H' hy
        have srH := sr'.full fu kn
        have erH : ERel C (ξD ξ A) ω' H' (wipe σ own) (wipeE ρ own) := er'.ext sr' (Ext.full kn)
        have exH := ex.trans (Ext.full kn)
        have hvH := hv'.ext sr' (Ext.full kn)
        have haH := hacc.ext sr' (Ext.full kn)
        have hHAH := fu _ _ hHA
        rw [← hb] at hl
        simp only [compB] at hl
        rw [hb] at hl
        cases ha : asg tg d (wipeE ρ own) with
        | none => simp only [ha] at hl; cases hl
        | some ρ1 =>
          simp only [ha] at hl
          refine ⟨ξD ξ A, ω', s', wipeE ρ own, d, ρ1, srH, hx, erH, ha, fun σ2 er2 w2 => ⟨(w2 own hown).trans (wipe_wipe own σ), ?_⟩⟩
          -- the element, where it is kept
          have elem : ∀ (ω3 : List Addr) (s3 : Sto) (H3 : Hp), Ext ω' H' ω3 H3 → SRel C (ξD ξ A) ω3 H3 s3 → (match (evE g e ρ1 s3).bind fun y s4 => (.ok (some y) s4 : Out (Option D)) with
                | .ok none s' => compLoop src b k (i + 1) acc s'
                | .ok (some y) s' => if acc.length < sizeLine then compLoop src b k (i + 1) (y :: acc) s' else .no
                | _ => .no) = .ok ds s2 →
              tD C W0 g e σ2 H3 fun y H4 => ∃ acc, H4 A = some (.lst acc) ∧ acc.length < sizeLine ∧ ∃ ω' s' acc' accV, compLoop src b k (i + 1) acc' s' = .ok ds s2 ∧ (upd H4 A (.lst (acc ++ [y]))) A = some (.lst accV) ∧ Ext ω1 H1 ω' (upd H4 A (.lst (acc ++ [y]))) ∧ SRel C (ξD ξ A) ω' (upd H4 A (.lst (acc ++ [y]))) s' ∧ ERel C (ξD ξ A) ω' (upd H4 A (.lst (acc ++ [y]))) (wipe σ own) (wipeE ρ own) ∧ Reps C (ξD ξ A) ω' (upd H4 A (.lst (acc ++ [y]))) vs src.ds ∧ Reps C (ξD ξ A) ω' (upd H4 A (.lst (acc ++ [y]))) accV acc'.reverse := by
            intro ω3 s3 H3 ex3 sr3 hl3
            refine ⟨ξD ξ A, ω3, ρ1, s3, er2.ext srH ex3, sr3, ?_⟩
            cases he : evE g e ρ1 s3 with
            | no => simp only [he, Out.bind] at hl3; cases hl3
            | ex x s4 => simp only [he, Out.bind] at hl3; cases hl3
            | ok y s4 =>
              simp only [he, Out.bind] at hl3
              split at hl3
              · rename_i hz
                intro ω4 H4 ex4 sr4 v hvy
                have ex34 := ex3.trans ex4
                have kA : H4 A = some (.lst accV) := by
                  obtain ⟨δ, rfl, kp, fr⟩ := ex34
                  exact kp.at_ _ _ hHAH (fun z => srH.nx A z (.inr rfl)) fun _ z => nomatch z
                have ha4 := haH.ext srH ex34
                · refine ⟨accV, kA, by rw [haH.length, List.length_reverse]; exact hz, ω4, s4, y :: acc, accV ++ [v], hl3, upd_same, ?_, sr4.grow kA, ((erH.ext srH ex34).grow kA), (hvH.ext srH ex34).grow kA, ?_⟩
                  · obtain ⟨δ, e5, kp, fr⟩ := exH.trans ex34
                    refine ⟨δ, e5, ⟨fun a o q hn ht => ?_, fun a q => ?_⟩, fr⟩
                    · rw [upd_ne (by rintro rfl; rw [hA] at q; cases q)]; exact kp.at_ a o q hn ht
                    · by_cases z : a = A
                      · rw [z]; exact hA
                      · rw [upd_ne z] at q; exact kp.no a q
                  · rw [List.reverse_cons]
                    exact (ha4.app (.cons hvy .nil)).grow kA
              · cases hl3
          refine ⟨ξD ξ A, ω', ρ1, s', er2, srH, ?_⟩
          cases hc : evE g c ρ1 s' with
          | no => simp only [hc, Out.bind] at hl; cases hl
          | ex x s4 => simp only [hc, Out.bind] at hl; cases hl
          | ok bd s3 =>
            simp only [hc, Out.bind] at hl
            intro ω3 H3 ex3 sr3
            cases ht : truD s3 bd with
            | none => simp only [ht] at hl; cases hl
            | some b' =>
              refine ⟨b', rfl, ?_⟩
              cases b' with
              | true =>
                simp only [ht] at hl
                rw [if_pos rfl]
                exact elem ω3 s3 H3 ex3 sr3 hl
              | false =>
                simp only [ht] at hl
                rw [if_neg Bool.false_ne_true]
                have kA : H3 A = some (.lst accV) := by
                  obtain ⟨δ, rfl, kp, fr⟩ := ex3
                  exact kp.at_ _ _ hHAH (fun z => srH.nx A z (.inr rfl)) fun _ z => nomatch z
                exact ⟨ω3, s3, acc, accV, hl, kA, exH.trans ex3, sr3, erH.ext srH ex3, hvH.ext srH ex3, haH.ext srH ex3⟩
end
end BS

/-! Core8: statements -/
namespace BS
open PySem PySem.Spec PyProof.Rows L2

section
variable {C : RC} {ξ ξ' : Addr → Prop} {ω ω' ω'' : List Addr} {H H' H'' : Hp} {s s' : Sto} {σ σ' : L2.St} {ρ ρ' : Env} {W : WX} {g : G} {X : Cx} {D : Ends}
theorem POS.ext (e : Ext ω H ω' H') {o : SO} (h : POS C ξ ω H W o D) : POS C ξ ω' H' W o D := by
  cases o with
  | no => exact h
  | ex x ρ s => exact fun cls dx σ' ω'' H'' e' => h cls dx σ' ω'' H'' (e.trans e')
  | fl f s => cases f with
    | next ρ => exact fun σ' ω'' H'' e' => h σ' ω'' H'' (e.trans e')
    | brk ρ => exact fun σ' ω'' H'' e' => h σ' ω'' H'' (e.trans e')
    | cont ρ => exact fun σ' ω'' H'' e' => h σ' ω'' H'' (e.trans e')
    | ret d => exact fun v ω'' H'' e' => h v ω'' H'' (e.trans e')
theorem POS.so {o : Out BS.D} {f : BS.D → Sto → SO} (sr : SRel C ξ ω H s) (er : ERel C ξ ω H σ ρ) (h : POS C ξ ω H W (o.so ρ f) D) : PO C ξ ω H σ W o fun d s' ω' H' => POS C ξ ω' H' W (f d s') D := by
  cases o with
  | no => exact h
  | ex x s' => exact fun cls dx ω' H' e r z => h cls dx σ ω' H' e r (er.ext sr e) z
  | ok d s' => exact fun ω' H' e r => POS.ext e (o := f d s') h
theorem ex_ok {e : E} (h : tS C W g (.ex e) D σ H) : tDrop (tD C W g e) D σ H := by
  obtain ⟨ξ, ω, ρ, s, er, sr, h⟩ := h
  simp only [evS] at h
  exact tD.go er sr (POS.so sr er h) fun d s' ω' H' v e r er' k _ => k σ ω' H' Ext.refl r er'
theorem ret_ok {e : E} (h : tS C W g (.ret e) D σ H) : tRet (tD C W g e) D σ H := by
  obtain ⟨ξ, ω, ρ, s, er, sr, h⟩ := h
  simp only [evS] at h
  exact tD.go er sr (POS.so sr er h) fun d s' ω' H' v e r er' k rv => k v ω' H' Ext.refl r rv
theorem set_ok {t : Tg} {e : E} (h : tS C W g (.set t e) D σ H) : tAsg (tD C W g e) (tTg C t) D σ H := by
  obtain ⟨ξ, ω, ρ, s, er, sr, h⟩ := h
  simp only [evS] at h
  refine tD.go er sr (POS.so sr er h) fun d s' ω' H' v e r er' k rv => ?_
  split at k
  · rename_i ρ1 ha
    exact ⟨ξ, ω', s', ρ, d, ρ1, r, rv, er', ha, fun σ' e2 _ => k σ' ω' H' Ext.refl r e2⟩
  · exact False.elim k
/-- the same for a name, where the value is stored within the comprehension's frame -/
theorem setN_ok {i : Nat} {e : E} {te : TE} (he : ∀ σ H Q, tD C W g e σ H Q → te σ H Q) (h : tS C W g (.set (.v i) e) D σ H) : tAsg te (gName i) D σ H := by
  obtain ⟨ξ, ω, ρ, s, er, sr, h⟩ := h
  simp only [evS] at h
  refine he _ _ _ (tD.go er sr (POS.so sr er h) fun d s' ω' H' v e r er' k rv => ?_)
  simp only [asg] at k
  exact k _ ω' H' Ext.refl r (er'.set rv)
theorem par_ok {is : List Nat} {es : List E} (h : tS C W g (.par is es) D σ H) : tDs C W g es σ H fun vs H1 => ∃ ξ ω s ds ρ ρ', SRel C ξ ω H1 s ∧ Reps C ξ ω H1 vs ds ∧ ERel C ξ ω H1 σ ρ ∧ asgs (is.map Tg.v) ds ρ = some ρ' ∧ ∀ σ', ERel C ξ ω H1 σ' ρ' → D.nx σ' H1 := by
  obtain ⟨ξ, ω, ρ, s, er, sr, h⟩ := h
  simp only [evS] at h
  refine tDs.mk er sr ?_
  cases ho : evEs g es ρ s with
  | no => rw [ho] at h; exact h
  | ex x s1 => rw [ho] at h; exact fun cls dx ω' H' e r z => h cls dx σ ω' H' e r (er.ext sr e) z
  | ok ds s1 =>
    simp only [ho] at h
    split at h
    · rename_i ρ1 ha
      exact fun ω' H' e r vs rv => ⟨ξ, ω', s1, ds, ρ, ρ1, r, rv, er.ext sr e, ha, fun σ' e2 => h σ' ω' H' e r e2⟩
    · exact False.elim h
theorem setIx_ok {o i e : E} (h : tS C W g (.setIx o i e) D σ H) : tAsg (tD C W g e) (gSub (tD C W g o) (tD C W g i) (rSetP C)) D σ H := by
  obtain ⟨ξ, ω, ρ, s, er, sr, h⟩ := h
  simp only [evS] at h
  refine tD.go er sr (POS.so sr er h) fun d s1 ω1 H1 v e1 r1 er1 k1 rv => ?_
  refine tD.go er1 r1 (POS.so r1 er1 k1) fun x s2 ω2 H2 vx e2 r2 er2 k2 rx => ?_
  refine tD.go er2 r2 (POS.so r2 er2 k2) fun y s3 ω3 H3 vy e3 r3 er3 k3 ry => ?_
  split at k3
  · rename_i s4 hs
    refine ⟨ξ, ω3, s3, x, y, d, s4, r3, rx.ext r2 e3, ry, (rv.ext r1 e2).ext r2 e3, hs, fun H' e4 r4 => k3 σ ω3 H' e4 r4 (er3.ext r3 e4)⟩
  · exact False.elim k3
theorem ite_ok {c : E} {a b : List S} (h : tS C W g (.ite c a b) D σ H) : tIfS (tT C W g c) (tSs C W g a) (tSs C W g b) D σ H := by
  obtain ⟨ξ, ω, ρ, s, er, sr, h⟩ := h
  simp only [evS] at h
  refine ⟨ξ, ω, ρ, s, er, sr, (POS.so sr er h).mono fun d s' ω' H' _ e r k => ?_⟩
  split at k
  · rename_i ht; exact ⟨true, ht, by dsimp only; rw [if_pos rfl]; exact ⟨ξ, ω', ρ, s', er.ext sr e, r, k⟩⟩
  · rename_i ht; exact ⟨false, ht, by dsimp only; rw [if_neg Bool.false_ne_true]; exact ⟨ξ, ω', ρ, s', er.ext sr e, r, k⟩⟩
  · exact False.elim k
theorem seq_ok {t : S} {ts : List S} (h : tSs C W g (t :: ts) D σ H) : tSeq (tS C W g t) (tSs C W g ts) D σ H := by
  obtain ⟨ξ, ω, ρ, s, er, sr, h⟩ := h
  simp only [evSs] at h
  refine ⟨ξ, ω, ρ, s, er, sr, ?_⟩
  cases ho : evS g t ρ s with
  | no => rw [ho] at h; exact h
  | ex x ρ1 s1 => rw [ho] at h; exact h
  | fl f s1 => cases f with
    | next ρ1 => rw [ho] at h; exact fun σ' ω' H' e r er' => ⟨ξ, ω', ρ1, s1, er', r, POS.ext (o := evSs g ts ρ1 s1) e h⟩
    | brk ρ1 => rw [ho] at h; exact h
    | cont ρ1 => rw [ho] at h; exact h
    | ret d => rw [ho] at h; exact h
theorem nil_ok (h : tSs C W g [] D σ H) : tNext D σ H := by
  obtain ⟨ξ, ω, ρ, s, er, sr, h⟩ := h
  exact h σ ω H Ext.refl sr er
theorem one_ok {t : S} (h : tSs C W g [t] D σ H) : tS C W g t D σ H := by
  obtain ⟨ξ, ω, ρ, s, er, sr, h⟩ := h
  simp only [evSs] at h
  refine ⟨ξ, ω, ρ, s, er, sr, ?_⟩
  cases ho : evS g t ρ s with
  | no => rw [ho] at h; exact h
  | ex x ρ1 s1 => rw [ho] at h; exact h
  | fl f s1 => cases f <;> (rw [ho] at h; exact h)
theorem pass_ok (h : tS C W g .pass D σ H) : tNext D σ H := by
  obtain ⟨ξ, ω, ρ, s, er, sr, h⟩ := h
  exact h σ ω H Ext.refl sr er
theorem brk_ok (h : tS C W g .brk D σ H) : tBreak D σ H := by
  obtain ⟨ξ, ω, ρ, s, er, sr, h⟩ := h
  exact h σ ω H Ext.refl sr er
theorem cont_ok (h : tS C W g .cont D σ H) : tCont D σ H := by
  obtain ⟨ξ, ω, ρ, s, er, sr, h⟩ := h
  exact h σ ω H Ext.refl sr er
theorem never_ok (h : tS C W g .never D σ H) : tNever D σ H := by
  obtain ⟨ξ, ω, ρ, s, er, sr, h⟩ := h
  exact h
theorem for_ok {t : Tg} {it : I} {b : List S} (h : tS C W g (.for_ t it b) D σ H) : tFor (tI C W g it) (tTg C t) (tSs C W g b) D σ H := by
  obtain ⟨ξ, ω, ρ, s, er, sr, h⟩ := h
  simp only [evS] at h
  refine ⟨ξ, ω, ρ, s, er, sr, ?_⟩
  cases ho : evI g it ρ s with
  | no => rw [ho] at h; exact h
  | ex x s1 => rw [ho] at h; exact fun cls dx ω' H' e r z => h cls dx σ ω' H' e r (er.ext sr e) z
  | ok src s1 =>
    simp only [ho] at h
    intro ω1 H1 e1 r1 J vs hv jok
    have h := POS.ext e1 h
    have er1 := er.ext sr e1
    generalize hout : forLoop src t (fun ρ s => evSs g b ρ s) (src.most s1) 0 ρ s1 = out at h
    refine ⟨fun i k σ H => ∃ ω' s' ρ', forLoop src t (fun ρ s => evSs g b ρ s) k i ρ' s' = out ∧ Ext ω1 H1 ω' H ∧ SRel C ξ ω' H s' ∧ ERel C ξ ω' H σ ρ' ∧ Reps C ξ ω' H vs src.ds,
      ⟨src.most s1, ω1, s1, ρ, hout, Ext.refl, r1, er1, hv⟩, ?_⟩
    rintro i k σ H ⟨ω', s', ρ', hl, ex, sr', er', hv'⟩
    have stop : src.at s' i = .stop → SO.fl (.next ρ') s' = out → J.stop i H ∧ D.nx σ H := fun e0 e2 => by
      subst e2
      exact ⟨(jok _ _ _ _ i sr' hv').1 e0, h σ ω' H ex sr' er'⟩
    cases k with
    | zero =>
      simp only [forLoop] at hl
      split at hl
      · rename_i e0; exact .inl (stop e0 hl)
      · subst hl; exact False.elim h
    | succ k =>
      simp only [forLoop] at hl
      split at hl
      · rename_i e0; exact .inl (stop e0 hl)
      · subst hl; exact False.elim h
      · rename_i d e0
        obtain ⟨go, yl⟩ := (jok _ _ _ _ i sr' hv').2 d e0
        refine .inr ⟨go, fun σ H => ∃ ω' s' ρ', forLoop src t (fun ρ s => evSs g b ρ s) k (i + 1) ρ' s' = out ∧ Ext ω1 H1 ω' H ∧ SRel C ξ ω' H s' ∧ ERel C ξ ω' H σ ρ' ∧ Reps C ξ ω' H vs src.ds,
          fun σ' H' hN => ⟨k, Nat.lt_succ_self _, hN⟩, fun x H' hy => ?_⟩
        obtain ⟨fu, kn, hx⟩ := yl x H' hy
        have srH := sr'.full fu kn
        have exH := ex.trans (Ext.full kn)
        have hvH := hv'.ext sr' (Ext.full kn)
        split at hl
        · subst hl; exact False.elim h
        · rename_i ρ1 ha
          refine ⟨ξ, ω', s', ρ', d, ρ1, srH, hx, er'.ext sr' (Ext.full kn), ha, fun σ2 er2 _ => ⟨ξ, ω', ρ1, s', er2, srH, ?_⟩⟩
          split at hl
          · rename_i ρ2 s2 hb
            rw [hb]
            exact fun σ' ω3 H3 e3 r3 er3 => ⟨ω3, s2, ρ2, hl, exH.trans e3, r3, er3, hvH.ext srH e3⟩
          · rename_i ρ2 s2 hb
            rw [hb]
            exact fun σ' ω3 H3 e3 r3 er3 => ⟨ω3, s2, ρ2, hl, exH.trans e3, r3, er3, hvH.ext srH e3⟩
          · rename_i ρ2 s2 hb
            rw [hb]
            subst hl
            exact fun σ' ω3 H3 e3 r3 er3 => h σ' ω3 H3 (exH.trans e3) r3 er3
          · rename_i ρ2 s2 hb
            rw [hb]
            subst hl
            exact fun v ω3 H3 e3 r3 rv => h v ω3 H3 (exH.trans e3) r3 rv
          · rename_i x ρ2 s2 hb
            rw [hb]
            subst hl
            exact fun cls dx σ' ω3 H3 e3 r3 er3 z => h cls dx σ' ω3 H3 (exH.trans e3) r3 er3 z
          · subst hl; exact False.elim h
theorem while_ok {c : E} {b : List S} (h : tS C W g (.while_ c b) D σ H) : tWhile (tT C W g c) (tSs C W g b) D σ H := by
  obtain ⟨ξ, ω, ρ, s, er, sr, h⟩ := h
  simp only [evS] at h
  generalize hout : whileLoop (fun ρ s => evE g c ρ s) (fun ρ s => evSs g b ρ s) g.W ρ s = out at h
  refine ⟨fun k σ' H' => ∃ ω' s' ρ', whileLoop (fun ρ s => evE g c ρ s) (fun ρ s => evSs g b ρ s) k ρ' s' = out ∧ Ext ω H ω' H' ∧ SRel C ξ ω' H' s' ∧ ERel C ξ ω' H' σ' ρ', ⟨g.W, ω, s, ρ, hout, Ext.refl, sr, er⟩, ?_⟩
  rintro k σ1 H1 ⟨ω1, s1, ρ1, hl, ex, sr1, er1⟩
  cases k with
  | zero => simp only [whileLoop] at hl; subst hl; exact False.elim h
  | succ k =>
    simp only [whileLoop] at hl
    have h1 : POS C ξ ω1 H1 W out D := POS.ext ex h
    rw [← hl] at h1
    refine ⟨ξ, ω1, ρ1, s1, er1, sr1, ?_⟩
    cases hc : evE g c ρ1 s1 with
    | no => rw [hc] at h1; exact h1
    | ex x s2 => rw [hc] at h1; exact fun cls dx ω' H' e r z => h1 cls dx σ1 ω' H' e r (er1.ext sr1 e) z
    | ok d s2 =>
      simp only [hc, Out.so] at hl h1
      intro ω2 H2 e2 r2
      have er2 := er1.ext sr1 e2
      have ex2 := ex.trans e2
      cases ht : truD s2 d with
      | none => simp only [ht] at h1; exact False.elim h1
      | some q =>
        refine ⟨q, rfl, ?_⟩
        cases q with
        | false =>
          simp only [ht] at h1
          rw [if_neg Bool.false_ne_true]
          exact h1 σ1 ω2 H2 e2 r2 er2
        | true =>
          simp only [ht] at hl
          rw [if_pos rfl]
          refine ⟨fun σ' H' => ∃ ω' s' ρ', whileLoop (fun ρ s => evE g c ρ s) (fun ρ s => evSs g b ρ s) k ρ' s' = out ∧ Ext ω H ω' H' ∧ SRel C ξ ω' H' s' ∧ ERel C ξ ω' H' σ' ρ', fun σ' H' hN => ⟨k, Nat.lt_succ_self _, hN⟩, ξ, ω2, ρ1, s2, er2, r2, ?_⟩
          split at hl
          · rename_i ρ3 s3 hb
            rw [hb]
            exact fun σ' ω3 H3 e3 r3 er3 => ⟨ω3, s3, ρ3, hl, ex2.trans e3, r3, er3⟩
          · rename_i ρ3 s3 hb
            rw [hb]
            exact fun σ' ω3 H3 e3 r3 er3 => ⟨ω3, s3, ρ3, hl, ex2.trans e3, r3, er3⟩
          · rename_i ρ3 s3 hb
            rw [hb]
            subst hl
            exact fun σ' ω3 H3 e3 r3 er3 => h σ' ω3 H3 (ex2.trans e3) r3 er3
          · rename_i ρ3 s3 hb
            rw [hb]
            subst hl
            exact fun v ω3 H3 e3 r3 rv => h v ω3 H3 (ex2.trans e3) r3 rv
          · rename_i x ρ3 s3 hb
            rw [hb]
            subst hl
            exact fun cls dx σ' ω3 H3 e3 r3 er3 z => h cls dx σ' ω3 H3 (ex2.trans e3) r3 er3 z
          · subst hl; exact False.elim h
/-! expressions -/
theorem mono_PE {e : Expr} {t t' : TE} (h : PE X e t) (m : ∀ σ H Q, t' σ H Q → t σ H Q) : PE X e t' := ⟨fun pins s σ H Q I q => h.run pins s σ H Q I (m σ H Q q)⟩
theorem mono_PT {e : Expr} {t t' : TT} (h : PT X e t) (m : ∀ σ H Q, t' σ H Q → t σ H Q) : PT X e t' := ⟨fun pins s σ H Q I q => h.run pins s σ H Q I (m σ H Q q)⟩
theorem mono_PW {e : Expr} {t t' : TT} (h : PW X e t) (m : ∀ σ H Q, t' σ H Q → t σ H Q) : PW X e t' := ⟨fun w pins s σ H Q I q => h.run w pins s σ H Q I (m σ H Q q)⟩
theorem mono_PA {e : List Expr} {t t' : TA} (h : PA X e t) (m : ∀ σ H Q, t' σ H Q → t σ H Q) : PA X e t' := ⟨fun p pins s σ H Q I q => h.run p pins s σ H Q I (m σ H Q q)⟩
theorem mono_PS {e : Stmt} {t t' : TS} (h : PS X e t) (m : ∀ D σ H, t' D σ H → t D σ H) : PS X e t' := ⟨fun pins s σ H D I q => h.run pins s σ H D I (m D σ H q)⟩
theorem mono_PSs {e : List Stmt} {t t' : TS} (h : PSs X e t) (m : ∀ D σ H, t' D σ H → t D σ H) : PSs X e t' := ⟨fun pins s σ H D I q => h.run pins s σ H D I (m D σ H q)⟩
theorem mono_PI {tg e : Expr} {t t' : TI} (h : PI X tg e t) (m : ∀ σ H Q, t' σ H Q → t σ H Q) : PI X tg e t' := ⟨fun pins s σ H Q I q => h.run pins s σ H Q I (m σ H Q q)⟩
theorem lit_ok {l : Lit} {Q : VK} (h : tD C W g (.lit l) σ H Q) (v : V) (hv : ∀ C ξ ω H, Rep C ξ ω H v l.d) : Q v H := by
  obtain ⟨ξ, ω, ρ, s, er, sr, h⟩ := h
  simp only [evE] at h
  exact h.here sr v (hv _ _ _ _)
theorem var_ok {i : Nat} {Q : VK} (h : tD C W g (.v i) σ H Q) : tVar i σ H Q := by
  obtain ⟨ξ, ω, ρ, s, er, sr, h⟩ := h
  simp only [evE] at h
  split at h
  · rename_i d hd
    obtain ⟨v, h1, h2⟩ := er.at_ i d hd
    exact ⟨v, h1, h.here sr v h2⟩
  · exact False.elim h
/-- two operands -/
theorem op2_ok {p : Pr} {a b : E} {Q : VK} (h : tD C W g (.pr p [a, b]) σ H Q) : tOp (rP C p) (tD C W g a) (tD C W g b) σ H Q := by
  obtain ⟨ξ, ω, ρ, s, er, sr, h⟩ := h
  simp only [evE, mapOut_two, bind_assoc] at h
  refine tD.go er sr h.bind fun d s1 ω1 H1 v e1 r1 er1 k1 rv => ?_
  refine tD.go er1 r1 (PO.bind k1) fun d2 s2 ω2 H2 v2 e2 r2 er2 k2 rv2 => ?_
  simp only [Out.bind] at k2
  cases hp : prim s2 p [d, d2] with
  | none => rw [hp] at k2; exact False.elim k2
  | some r =>
    rw [hp] at k2
    exact ⟨ξ, ω2, s2, d, d2, r, r2, rv.ext r1 e2, rv2, hp, fun v ω' H' e r rv => k2 ω' H' e r v rv⟩
theorem op1_ok {p : Pr} {a : E} {Q : VK} (h : tD C W g (.pr p [a]) σ H Q) : tD C W g a σ H fun v H1 => ∃ ξ ω s d r, SRel C ξ ω H1 s ∧ Rep C ξ ω H1 v d ∧ prim s p [d] = some r ∧ Fin C ξ ω H1 s r Q := by
  obtain ⟨ξ, ω, ρ, s, er, sr, h⟩ := h
  simp only [evE, mapOut_one, bind_assoc] at h
  refine tD.go er sr h.bind fun d s1 ω1 H1 v e1 r1 er1 k1 rv => ?_
  simp only [Out.bind] at k1
  cases hp : prim s1 p [d] with
  | none => rw [hp] at k1; exact False.elim k1
  | some r =>
    rw [hp] at k1
    exact ⟨ξ, ω1, s1, d, r, r1, rv, hp, fun v ω' H' e r rv => k1 ω' H' e r v rv⟩
theorem args_ok {p : Pr} {es : List E} {Q : VK} (h : tD C W g (.pr p es) σ H Q) : tCB (rC C p) (tDs C W g es) σ H Q := by
  obtain ⟨ξ, ω, ρ, s, er, sr, h⟩ := h
  simp only [evE] at h
  refine tDs.mk er sr (h.bind.mono fun ds s1 ω1 H1 _ e1 r1 k1 vs rv => ?_)
  cases hp : prim s1 p ds with
  | none => rw [hp] at k1; exact False.elim k1
  | some r =>
    rw [hp] at k1
    exact ⟨ξ, ω1, s1, ds, r, r1, rv, hp, fun v ω' H' e r rv => k1 ω' H' e r v rv⟩
theorem argsL_ok {m : Bool} {p : Pl} {es : List E} {Q : VK} (h : tD C W g (.pl m p es) σ H Q) : tCB (rL C p) (tDs C W g es) σ H Q := by
  obtain ⟨ξ, ω, ρ, s, er, sr, h⟩ := h
  simp only [evE] at h
  refine tDs.mk er sr (h.bind.mono fun ds s1 ω1 H1 _ e1 r1 k1 vs rv => ?_)
  cases hp : primL s1 p ds with
  | none => rw [hp] at k1; exact False.elim k1
  | some r =>
    rw [hp] at k1
    exact ⟨ξ, ω1, s1, ds, r, r1, rv, hp, mkL_fin r1 k1⟩
theorem lmul_ok {m : Bool} {a b : E} {Q : VK} (h : tD C W g (.pl m .mul [a, b]) σ H Q) : tOp (rLmul C) (tD C W g a) (tD C W g b) σ H Q := by
  obtain ⟨ξ, ω, ρ, s, er, sr, h⟩ := h
  simp only [evE, mapOut_two, bind_assoc] at h
  refine tD.go er sr h.bind fun d s1 ω1 H1 v e1 r1 er1 k1 rv => ?_
  refine tD.go er1 r1 (PO.bind k1) fun d2 s2 ω2 H2 v2 e2 r2 er2 k2 rv2 => ?_
  simp only [Out.bind] at k2
  cases hp : primL s2 .mul [d, d2] with
  | none => rw [hp] at k2; exact False.elim k2
  | some r =>
    rw [hp] at k2
    exact ⟨ξ, ω2, s2, d, d2, r, r2, rv.ext r1 e2, rv2, hp, mkL_fin r2 k2⟩
theorem nilA_ok {Q : List V → Hp → Prop} (h : tDs C W g [] σ H Q) : tNil σ H Q := by
  obtain ⟨ξ, ω, ρ, s, er, sr, h⟩ := h
  simp only [evEs] at h
  exact h.here sr [] .nil
theorem consA_ok {a : E} {es : List E} {Q : List V → Hp → Prop} (h : tDs C W g (a :: es) σ H Q) : tCons (tD C W g a) (tDs C W g es) σ H Q := by
  obtain ⟨ξ, ω, ρ, s, er, sr, h⟩ := h
  simp only [evEs] at h
  refine tD.go er sr h.bind fun d s1 ω1 H1 v e1 r1 er1 k1 rv => ?_
  refine tDs.mk er1 r1 ((PO.bind k1).mono fun ds s2 ω2 H2 _ e2 r2 k2 vs rvs => ?_)
  exact k2.here r2 (v :: vs) (.cons (rv.ext r1 e2) rvs)
theorem tup_ok {es : List E} {Q : VK} (h : tD C W g (.tup es) σ H Q) (hz : es.length ≤ sizeLine) : tTup (tDs C W g es) σ H Q := by
  obtain ⟨ξ, ω, ρ, s, er, sr, h⟩ := h
  simp only [evE] at h
  have len : ∀ {es : List E} {s : Sto} {ds : List BS.D} {s1 : Sto}, evEs g es ρ s = .ok ds s1 → ds.length = es.length := by
    intro es
    induction es with
    | nil => intro s ds s1 e; simp only [evEs] at e; cases e; rfl
    | cons a es ih =>
      intro s ds s1 e
      simp only [evEs] at e
      cases ha : evE g a ρ s with
      | no => rw [ha] at e; cases e
      | ex => rw [ha] at e; cases e
      | ok d s2 =>
        simp only [ha, Out.bind] at e
        cases hb : evEs g es ρ s2 with
        | no => rw [hb] at e; cases e
        | ex => rw [hb] at e; cases e
        | ok ds' s3 => rw [hb] at e; cases e; simp [ih hb]
  refine tDs.mk er sr (h.bind.mono fun ds s1 ω1 H1 ho e1 r1 k1 vs rv => ⟨by rw [rv.length, len ho]; exact hz, fun p hp => ?_⟩)
  exact k1 _ _ (Ext.laid hp) (r1.laid hp) _ (new_tup r1 hp rv)
theorem lst_ok {m : Bool} {es : List E} {Q : VK} (h : tD C W g (.lst m es) σ H Q) (hz : es.length ≤ sizeLine) : tLst (tDs C W g es) σ H Q := by
  obtain ⟨ξ, ω, ρ, s, er, sr, h⟩ := h
  simp only [evE] at h
  have len : ∀ {es : List E} {s : Sto} {ds : List BS.D} {s1 : Sto}, evEs g es ρ s = .ok ds s1 → ds.length = es.length := by
    intro es
    induction es with
    | nil => intro s ds s1 e; simp only [evEs] at e; cases e; rfl
    | cons a es ih =>
      intro s ds s1 e
      simp only [evEs] at e
      cases ha : evE g a ρ s with
      | no => rw [ha] at e; cases e
      | ex => rw [ha] at e; cases e
      | ok d s2 =>
        simp only [ha, Out.bind] at e
        cases hb : evEs g es ρ s2 with
        | no => rw [hb] at e; cases e
        | ex => rw [hb] at e; cases e
        | ok ds' s3 => rw [hb] at e; cases e; simp [ih hb]
  refine tDs.mk er sr (h.bind.mono fun ds s1 ω1 H1 ho e1 r1 k1 vs rv => ⟨by rw [rv.length, len ho]; exact hz, fun p hp => mkL_fin r1 k1 p vs hp rv⟩)
end
end BS

/-! Core9: from the text to the small language: expressions -/
namespace BS
open PySem PySem.Spec PyProof.Rows L2

/-- what the text is read with -/
structure Gm where
  N : List Str
  sc : Scope
  blk : Option Scope
  fns : List (Str × FD)
  gls : List (Str × Lit)
  gts : List (Str × List Lit)
  bts : List Str
  self : Option Str
  muts : List (Nat × Nat)
def Gm.inB (Γ : Gm) (scope : Scope) : Gm := { Γ with sc := relS scope Γ.sc, blk := some scope }
def litV : Lit → V | .non => .non | .bl b => .bl b | .int i => .int i | .str x => .str x
def ixOf (x : Str) : List Str → Option Nat
  | [] => none
  | y :: ys => if y = x then some 0 else (ixOf x ys).map (· + 1)
theorem ixOf_ok {x : Str} : ∀ {N : List Str} {i : Nat}, ixOf x N = some i → N[i]? = some x
  | y :: ys, i, h => by
    unfold ixOf at h
    split at h
    · rename_i e; cases h; rw [e]; rfl
    · simp only [Option.map_eq_some_iff] at h
      obtain ⟨j, h1, rfl⟩ := h
      simpa using ixOf_ok h1
def odd (x : Str) : Bool := x == ("__debug__" : Str) || x == ("__classdict__" : Str) || x == ("__name__" : Str)
/-- a def's promise: what the evaluator says of it -/
def spD (C : RC) (m : Nat) (F : List D → Sto → Out D) : Sp := fun vs H Q E => vs.length = m ∧ ∃ ξ ω s ds, Reps C ξ ω H vs ds ∧ SRel C ξ ω H s ∧ PO C ξ ω H [] (fun c d _ H => E c d H) (F ds s) fun d _ ω' H' => ∀ v, Rep C ξ ω' H' v d → Q v H'
/-- the module's function x does what F says -/
def FnIs (C : RC) (X : Cx) (n : Nat) (x : Str) (F : List D → Sto → Out D) : Prop :=
  ∃ (f : Addr) (fd : FuncData) (ps : List Str), X.mg x = some (.ref f) ∧ PySem.W.keepIn X.K (.ref f) = true ∧ Binds X.K fd ps [] ∧ FnOk X.prog X.w X.K X.mg X.base (CX X.prog X.w) n f fd ps (spD C ps.length F) ∧ ∀ ds s, F ds s ≠ .no → ds.length = ps.length
structure XOk (C : RC) (X : Cx) (Γ : Gm) (W : WX) (n : Nat) (g : G) : Prop where
  N : X.N = Γ.N
  nd : Γ.N.Nodup
  sc : X.env.scope = Γ.sc
  fnB : ∀ x, X.fn x = (match Γ.blk with | none => true | some s => s.names.lookup x == some .cell)
  calm : X.calm = true
  hr : Room n X.A
  tk : Takes X W
  K : C.K = X.K
  mg : C.mg = X.mg
  fns : C.fns = Γ.fns
  call : ∀ x fd, (x, fd) ∈ Γ.fns → FnIs C X n x (g.call fd)
  self : ∀ x, Γ.self = some x → FnIs C X n x g.self
  bts : ∀ x, x ∈ Γ.bts → X.mg x = none
  gls : ∀ x l, (x, l) ∈ Γ.gls → ∃ u, X.mg x = some u ∧ RelV (litV l) u
  gts : ∀ x ls, (x, ls) ∈ Γ.gts → ∃ (a : Addr) (o : Obj) (its : Array Value) (k : Nat), X.mg x = some (.ref a) ∧ X.K.lookup a = some o ∧ o.cls = .type "tuple" ∧ o.data = .seq its k ∧ its.size ≤ sizeLine ∧ Vals (ls.map litV) its.toList
  pass : PassesOwn (model X.prog X.w) X.A X.env X.xe
section
variable {C : RC} {ξ ξ' : Addr → Prop} {ω ω' ω'' : List Addr} {H H' H'' : Hp} {s s' : Sto} {σ σ' : L2.St} {ρ ρ' : Env} {W : WX} {g : G} {X : Cx} {Γ : Gm} {n : Nat}
theorem XOk.inB (x : XOk C X Γ W n g) (s : Shared) (H : Hp) (scope : Scope) (Ca : Addr) (cl : List (Str × Addr)) (fp : List Addr) : XOk C (X.blk s H scope (compEnvC scope cl Ca X.env) fp) (Γ.inB scope) W0 n g where
  N := x.N
  nd := x.nd
  sc := by show relS scope X.env.scope = relS scope Γ.sc; rw [x.sc]
  fnB := fun y => rfl
  calm := x.calm
  hr := x.hr
  tk := fun _ _ q => by
    obtain ⟨_, _, _, _, _, _, _, _, _, _, _, _, _, _, _, _, z⟩ := q
    exact z.elim
  K := x.K
  mg := x.mg
  fns := x.fns
  call := x.call
  self := x.self
  bts := x.bts
  gls := x.gls
  gts := x.gts
  pass := PassesOwn.never
theorem XOk.hN (x : XOk C X Γ W n g) : X.N.Nodup := by rw [x.N]; exact x.nd
theorem lookup_mem {α : Type} {x : Str} {a : α} : ∀ {l : List (Str × α)}, l.lookup x = some a → (x, a) ∈ l := fun h => PySem.mem_of_lookup h
def cVar (Γ : Gm) (x : Str) : Option E := (ixOf x Γ.N).map .v
def cName (Γ : Gm) (x : Str) : Option E :=
  if odd x then none else
  match Γ.sc.names.lookup x with
  | some .local => cVar Γ x
  | some .cell => cVar Γ x
  | some .free => cVar Γ x
  | some .globalImplicit => match Γ.gls.lookup x with
    | some l => some (.lit l)
    | none => match Γ.gts.lookup x with
      | some ls => some (.gtup x ls)
      | none => none
  | _ => none
theorem odd_of {x : Str} (h : ¬ odd x = true) : (x == ("__debug__" : Str)) = false ∧ (x == ("__classdict__" : Str)) = false ∧ x ≠ "__name__" := by
  simp only [odd, Bool.or_eq_true, not_or, Bool.not_eq_true] at h
  exact ⟨h.1.1, h.1.2, by simpa using h.2⟩
theorem litV_rep (C : RC) (ξ : Addr → Prop) (ω : List Addr) (H : Hp) : ∀ l : Lit, Rep C ξ ω H (litV l) l.d
  | .non => .non
  | .bl b => .bl b
  | .int i => .int i
  | .str x => .str x
theorem litVs_rep : ∀ ls : List Lit, Reps C ξ ω H (ls.map litV) (ls.map Lit.d)
  | [] => .nil
  | l :: ls => .cons (litV_rep C ξ ω H l) (litVs_rep ls)
theorem name_PE {x : Str} {pos : Pos} {e : E} (o : XOk C X Γ W n g) (h : cName Γ x = some e) : PE X (.Name x pos) (tD C W g e) := by
  unfold cName at h
  split at h
  · cases h
  · rename_i ho
    obtain ⟨h1, h2, h3⟩ := odd_of ho
    have var : ∀ {k}, Γ.sc.names.lookup x = some k → (k = .local ∨ k = .cell ∨ k = .free) → cVar Γ x = some e → PE X (.Name x pos) (tD C W g e) := fun {k} hk hh hv => by
      simp only [cVar, Option.map_eq_some_iff] at hv
      obtain ⟨i, hi, rfl⟩ := hv
      have hi := ixOf_ok hi
      rw [← o.N] at hi
      refine mono_PE (pe_var hi ?_ h1 h2) fun σ H Q q => var_ok q
      show X.env.scope.names.lookup x = _ ∨ X.env.scope.names.lookup x = _ ∨ X.env.scope.names.lookup x = _
      rw [o.sc, hk]
      rcases hh with rfl | rfl | rfl
      · exact .inl rfl
      · exact .inr (.inl rfl)
      · exact .inr (.inr rfl)
    split at h
    · rename_i hk; exact var hk (.inl rfl) h
    · rename_i hk; exact var hk (.inr (.inl rfl)) h
    · rename_i hk; exact var hk (.inr (.inr rfl)) h
    · rename_i hk
      have hg : Gl X x := by show X.env.scope.names.lookup x = _; rw [o.sc]; exact hk
      split at h
      · rename_i l hl
        cases h
        obtain ⟨u, e1, e2⟩ := o.gls x l (lookup_mem hl)
        exact mono_PE (pe_glob hg e1 e2 h1) fun σ H Q q => lit_ok q _ fun C ξ ω H => litV_rep C ξ ω H l
      · split at h
        · rename_i ls hl
          cases h
          obtain ⟨a, ob, its, k, e1, e2, e3, e4, e5, e6⟩ := o.gts x ls (lookup_mem hl)
          refine mono_PE (pe_glob (v := .ref a) hg e1 rfl h1) fun σ H Q q => ?_
          obtain ⟨ξ, ω, ρ, s, er, sr, q⟩ := q
          simp only [evE] at q
          exact q.here sr _ (.tup (.inr ⟨ob, its, k, by rw [o.K]; exact e2, e3, e4, e5, e6⟩) (litVs_rep ls))
        · cases h
    · cases h
/-! shapes of the text -/
def isSt : Expr → Bool
  | .Starred .. => true
  | _ => false
def plainT : Expr → Bool
  | .UnaryOp .Not _ _ => false
  | .BoolOp .. => false
  | .IfExp .. => false
  | .Compare .. => false
  | _ => true
def notSet : Expr → Bool
  | .Set .. => false
  | _ => true
def notSl : Expr → Bool
  | .Slice .. => false
  | _ => true
theorem star_cons {e : Expr} {es : List Expr} {env : PySem.Env} (h : isSt e = false) : starEach (e :: es) env = (false, eval e env) :: starEach es env := by
  cases e <;> first | rfl | cases h
theorem star_any {pos : Pos} {env : PySem.Env} : ∀ {es : List Expr}, es.all (fun e => !isSt e) = true → (backTo pos (starEach es env)).any (·.1) = false
  | [], _ => rfl
  | e :: es, h => by
    simp only [List.all_cons, Bool.and_eq_true, Bool.not_eq_true'] at h
    rw [star_cons h.1]
    show (false || (backTo pos (starEach es env)).any (·.1)) = false
    rw [star_any h.2]
    rfl
theorem plainT_ok {e : Expr} {env : PySem.Env} (h : plainT e = true) : ∀ whole, isTrue e env whole = (do let v ← whole; standAt e.pos; holding [v] (truthy v)) := by
  cases e with
  | UnaryOp op a p => cases op <;> first | (intro whole; rfl) | cases h
  | _ => first | (intro whole; rfl) | cases h
theorem notSet_mark {op : CmpOp} {b : Expr} (h : notSet b = true) : behindInMarks op b = false := by
  cases b <;> first | rfl | cases h
theorem notSet_fold {e : Expr} {env : PySem.Env} (h : notSet e = true) : ∀ x, foldedSetIterable e env x = pure x := by
  cases e <;> first | (intro x; rfl) | cases h
theorem notSl_ix {b : Expr} (h : notSl b = true) : PlainIx b := by
  cases b <;> first | (intro o i; rfl) | cases h
/-- a test by its value -/
theorem PT_of {e : Expr} {e' : E} (o : XOk C X Γ W n g) (h : PE X e (tD C W g e')) (hp : plainT e = true) : PT X e (tT C W g e') := by
  refine mono_PT (pt_truth h (plainT_ok hp)) fun σ H Q q => ?_
  obtain ⟨ξ, ω, ρ, s, er, sr, q⟩ := q
  exact tD.go er sr q fun d s' ω' H' v e r er' k rv => let ⟨b, h1, h2⟩ := k; ⟨b, tru_of o.K r rv h1, h2⟩
/-- one reading for both -/
def Both (C : RC) (X : Cx) (W : WX) (g : G) (e : Expr) (e' : E) : Prop := PE X e (tD C W g e') ∧ PT X e (tT C W g e')
def RecOk (C : RC) (n : Nat) (g : G) (rec : Gm → Expr → Option E) : Prop := ∀ (X : Cx) (Γ : Gm) (W : WX) (e : Expr) (e' : E), XOk C X Γ W n g → rec Γ e = some e' → Both C X W g e e'
variable {rec : Gm → Expr → Option E}
/-! argument lists -/
def cEs (rec : Gm → Expr → Option E) (Γ : Gm) : List Expr → Option (List E)
  | [] => some []
  | e :: es => if isSt e then none else match rec Γ e, cEs rec Γ es with
    | some x, some xs => some (x :: xs)
    | _, _ => none
theorem cEs_ok (R : RecOk C n g rec) (o : XOk C X Γ W n g) : ∀ {es : List Expr} {es' : List E}, cEs rec Γ es = some es' → PA X es (tDs C W g es') ∧ es.all (fun e => !isSt e) = true ∧ es.length = es'.length
  | [], _, h => by cases h; exact ⟨mono_PA pa_nil fun σ H Q q => nilA_ok q, rfl, rfl⟩
  | e :: es, _, h => by
    simp only [cEs] at h
    split at h
    · cases h
    · rename_i hs
      split at h
      · rename_i x xs h1 h2
        cases h
        obtain ⟨p1, p2, p3⟩ := cEs_ok R o h2
        have hs' : isSt e = false := by simpa using hs
        exact ⟨mono_PA (pa_cons (R X Γ W e x o h1).1 p1 (star_cons hs')) fun σ H Q q => consA_ok q, by simp only [List.all_cons, hs', p2]; rfl, by simp [p3]⟩
      · cases h
/-! operators -/
def binPr : Operator → Option Pr
  | .Add => some .add
  | .Sub => some .sub
  | .Mult => some .mul
  | .FloorDiv => some .fdiv
  | .Mod => some .mod
  | .Pow => some .pow
  | _ => none
theorem binPr_ok {op : Operator} {p : Pr} (hK : C.K = X.K) (h : binPr op = some p) : OpR X (binaryOp op) (rP C p) := by
  cases op <;> first | (cases h; done) | cases h
  · exact v_add hK
  · exact v_sub
  · exact v_mul hK
  · exact v_mod
  · exact v_pow
  · exact v_fdiv
def cmpPr : CmpOp → Option Pr
  | .Eq => some .eq
  | .NotEq => some .ne
  | .Lt => some .lt
  | .LtE => some .le
  | .Gt => some .gt
  | .GtE => some .ge
  | .In => some .isin
  | .NotIn => some .notin
  | _ => none
theorem cmpPr_ok {op : CmpOp} {p : Pr} (o : XOk C X Γ W n g) (h : cmpPr op = some p) : OpR X (compareOp op) (rP C p) := by
  have hu := o.hr.un
  cases op <;> first | (cases h; done) | cases h
  · exact v_eq o.K (by omega)
  · exact v_ne o.K (by omega)
  · exact v_lt o.K (by omega)
  · exact v_le
  · exact v_gt
  · exact v_ge
  · exact v_in o.K (by omega)
  · exact v_notin o.K (by omega)
def boolPr : Pr → Bool
  | .eq | .ne | .lt | .le | .gt | .ge | .isin | .notin | .isN | .notN | .isB | .notB => true
  | _ => false
theorem cmpPr_bool {op : CmpOp} {p : Pr} (h : cmpPr op = some p) : boolPr p = true := by
  cases op <;> first | (cases h; done) | (cases h; rfl)
theorem isBl_map {α : Type} {o : Option α} {f : α → Bool} {r : D} (h : (o.map fun a => D.bl (f a)) = some r) : ∃ b, r = .bl b := by
  cases o with
  | none => cases h
  | some a => cases h; exact ⟨_, rfl⟩
theorem cmpI_bl {f : Int → Int → Bool} {x y r : D} (h : cmpI f x y = some r) : ∃ b, r = .bl b := by
  unfold cmpI at h
  split at h
  · cases h; exact ⟨_, rfl⟩
  · cases h
theorem ltD_bl {x y r : D} (h : ltD x y = some r) : ∃ b, r = .bl b := by
  unfold ltD at h
  split at h
  · cases h; exact ⟨_, rfl⟩
  · split at h
    · cases h; exact ⟨_, rfl⟩
    · cases h
  · cases h
theorem boolPr_ok {p : Pr} {ds : List D} {r : D} (hp : boolPr p = true) (h : prim s p ds = some r) : ∃ b, r = .bl b := by
  cases p <;> first | (cases hp; done) | skip
  all_goals
    match ds with
    | [] => simp [prim] at h
    | [x] => first | (simp [prim] at h; done) | (simp only [prim, Option.some.injEq] at h; subst h; exact ⟨_, rfl⟩)
    | [x, y] => first
      | (simp only [prim] at h; exact cmpI_bl h)
      | (simp only [prim] at h; exact ltD_bl h)
      | (simp only [prim] at h; exact isBl_map (f := id) h)
      | (simp only [prim] at h; exact isBl_map (f := not) h)
      | (cases x <;> cases y <;> first | (simp [prim] at h; done) | (cases h; exact ⟨_, rfl⟩))
      | (simp [prim] at h; done)
    | _ :: _ :: _ :: _ => simp [prim] at h
/-- a test whose value is a bool -/
theorem tT_test {p : Pr} {es : List E} {te : TE} {Q : Bool → Hp → Prop} (hp : boolPr p = true) (hm : ∀ σ H Q, tD C W g (.pr p es) σ H Q → te σ H Q) (h : tT C W g (.pr p es) σ H Q) : tTest te σ H Q := by
  obtain ⟨ξ, ω, ρ, s, er, sr, h⟩ := h
  refine hm _ _ _ ⟨ξ, ω, ρ, s, er, sr, h.mono fun d s' ω' H' ho e r k v rv => ?_⟩
  obtain ⟨b, h1, h2⟩ := k
  have hb : ∃ b, d = .bl b := by
    simp only [evE] at ho
    cases he : evEs g es ρ s with
    | no => rw [he] at ho; cases ho
    | ex => rw [he] at ho; cases ho
    | ok ds s1 =>
      simp only [he, Out.bind] at ho
      cases hq : prim s1 p ds with
      | none => rw [hq] at ho; cases ho
      | some r => rw [hq] at ho; cases ho; exact boolPr_ok hp hq
  obtain ⟨c, rfl⟩ := hb
  cases h1
  cases rv
  exact ⟨_, rfl, h2⟩
end
end BS

/-! Core10: calls, targets, walks, comprehensions -/
namespace BS
open PySem PySem.Spec PyProof.Rows L2

section
variable {C : RC} {ξ ξ' : Addr → Prop} {ω ω' ω'' : List Addr} {H H' H'' : Hp} {s s' : Sto} {σ σ' : L2.St} {ρ ρ' : Env} {W : WX} {g : G} {X : Cx} {Γ : Gm} {n : Nat} {rec : Gm → Expr → Option E}
theorem gl_of (o : XOk C X Γ W n g) {x : Str} (h : Γ.sc.names.lookup x = some .globalImplicit) : Gl X x := by
  show X.env.scope.names.lookup x = _
  rw [o.sc]
  exact h
/-! built-ins by their names -/
inductive BK | blt (id : String) | ty (T : String)
def bltOf (x : Str) (n : Nat) : Option (BK × Pr) :=
  if x = "len" ∧ n = 1 then some (.blt "len", .len)
  else if x = "abs" ∧ n = 1 then some (.blt "abs", .abs)
  else if x = "min" ∧ n = 2 then some (.blt "min", .min2)
  else if x = "max" ∧ n = 2 then some (.blt "max", .max2)
  else if x = "sum" ∧ n = 1 then some (.blt "sum", .sum)
  else if x = "any" ∧ n = 1 then some (.blt "any", .any)
  else if x = "all" ∧ n = 1 then some (.blt "all", .all)
  else if x = "tuple" ∧ n = 1 then some (.ty "tuple", .toTup)
  else if x = "int" ∧ n = 1 then some (.ty "int", .toInt)
  else none
def BK.v : BK → Value
  | .blt id => .builtin id
  | .ty T => .type T
theorem bltOf_ok (o : XOk C X Γ W n g) {x : Str} {k : Nat} {b : BK} {p : Pr} (h : bltOf x k = some (b, p)) : bootBuiltins x = some b.v ∧ CallR X b.v (rC C p) := by
  unfold bltOf at h
  split at h
  · rename_i e; cases h; rw [e.1]; exact ⟨PySem.boot_len, c_len o.K⟩
  split at h
  · rename_i e; cases h; rw [e.1]; exact ⟨PyProof.Rows.boot_abs, c_abs⟩
  split at h
  · rename_i e; cases h; rw [e.1]; exact ⟨PyProof.Rows.boot_min, c_min2 o.calm⟩
  split at h
  · rename_i e; cases h; rw [e.1]; exact ⟨PyProof.Rows.boot_max, c_max2 o.calm⟩
  split at h
  · rename_i e; cases h; rw [e.1]; exact ⟨PyProof.Rows.boot_sum, c_sum o.calm o.K⟩
  split at h
  · rename_i e; cases h; rw [e.1]; exact ⟨PyProof.Rows.boot_any, c_any o.calm⟩
  split at h
  · rename_i e; cases h; rw [e.1]; exact ⟨PyProof.Rows.boot_all, c_all o.calm⟩
  split at h
  · rename_i e; cases h; rw [e.1]; exact ⟨by decide +kernel, c_toTup o.K⟩
  split at h
  · rename_i e; cases h; rw [e.1]; exact ⟨by decide +kernel, c_toInt⟩
  · cases h
/-- f(e, ..), f a built-in, by its values -/
theorem blt_call {x : Str} {p pos : Pos} {e : Expr} {es : List Expr} {t : TA} {b : BK} {r : List V → Hp → VK → Prop} (o : XOk C X Γ W n g) (hx : ¬ odd x = true) (hg : Gl X x) (hm : X.mg x = none) (hv : bootBuiltins x = some b.v) (hc : CallR X b.v r) (ha : PA X (e :: es) t)
    (hs : (e :: es).all (fun e => !isSt e) = true) : PE X (.Call (.Name x p) (e :: es) [] pos) (tCB r t) := by
  obtain ⟨h1, h2, h3⟩ := odd_of hx
  simp only [List.all_cons, Bool.and_eq_true, Bool.not_eq_true'] at hs
  cases b with
  | blt id => exact pe_callB hc hg hm hv ha h3 h1 (star_cons hs.1) (star_any hs.2)
  | ty T => exact pe_callTy hc hg hm hv ha h3 h1 (star_cons hs.1) (star_any hs.2)
/-! calls of the module's functions -/
theorem fn_call {F : List D → Sto → Out D} {x : Str} {p pos : Pos} {es : List Expr} {es' : List E} {e' : E} (o : XOk C X Γ W n g) (hx : ¬ odd x = true) (hg : Gl X x) (hF : FnIs C X n x F) (ha : PA X es (tDs C W g es')) (hs : es.all (fun e => !isSt e) = true) (hl0 : es.length = es'.length)
    (he : ∀ ρ s, evE g e' ρ s = (evEs g es' ρ s).bind fun ds s1 => F ds s1) : PE X (.Call (.Name x p) es [] pos) (tD C W g e') := by
  obtain ⟨f, fd, ps, hm, hk, hb, hf, hl⟩ := hF
  obtain ⟨h1, h2, h3⟩ := odd_of hx
  have key : ∀ σ H Q, tD C W g e' σ H Q → tCallSD (spD C ps.length F) [] (WE W) (tDs C W g es') σ H Q := by
    intro σ H Q h
    obtain ⟨ξ, ω, ρ, s, er, sr, h⟩ := h
    rw [he] at h
    refine tDs.mk er sr (h.bind.mono fun ds s1 ω1 H1 _ e1 r1 k1 vs rv => ?_)
    have hne : F ds s1 ≠ .no := fun z => by rw [z] at k1; exact k1
    rw [List.append_nil]
    exact ⟨by rw [rv.length]; exact hl ds s1 hne, ξ, ω1, s1, ds, rv, r1, k1⟩
  cases es with
  | cons e es =>
    simp only [List.all_cons, Bool.and_eq_true, Bool.not_eq_true'] at hs
    exact mono_PE (pe_callSD hf o.hr hg hm hk hb .nil (fun σ => passAt o.tk σ) ha h1 (star_cons hs.1) (star_any hs.2)) key
  | nil =>
    refine mono_PE (t := tCallSD (spD C ps.length F) [] (WE W) (tDs C W g es')) ⟨fun pins s σ H Q I h => ?_⟩ key
    refine wpAny_Call_Name_kw (ld_glob I hg hm ?_ h1)
    refine PySem.W.callWith_K0 I.kIn hk ?_
    have e0 : es' = [] := List.eq_nil_of_length_eq_zero hl0.symm
    subst e0
    exact run_fnSD (us := []) hf o.hr hb .nil (passAt o.tk σ) I .nil (nilA_ok h)
/-! targets -/
def cTg (Γ : Gm) : Nat → Expr → Option Tg
  | 0, _ => none
  | k + 1, .Name x _ => match Γ.sc.names.lookup x with
    | some .local => (ixOf x Γ.N).map .v
    | some .cell => match Γ.blk with
      | none => (ixOf x Γ.N).map .v
      | some s => if s.names.lookup x == some .cell then (ixOf x Γ.N).map .v else none
    | _ => none
  | k + 1, .Tuple es _ _ => (cTgs Γ k es).map .tup
  | _ + 1, _ => none
where cTgs (Γ : Gm) (k : Nat) : List Expr → Option (List Tg)
  | [] => some []
  | e :: es => if isSt e then none else match cTg Γ k e, cTgs Γ k es with
    | some t, some ts => some (t :: ts)
    | _, _ => none
theorem asg_star {e : Expr} {es : List Expr} {env : PySem.Env} (h : isSt e = false) : assignEach (e :: es) env = (false, assign e env) :: assignEach es env := by
  cases e <;> first | rfl | cases h
theorem cTg_ok (o : XOk C X Γ W n g) : ∀ (k : Nat) (e : Expr) (t : Tg), cTg Γ k e = some t → PG X e (tTg C t) := by
  intro k
  induction k with
  | zero => intro e t h; simp [cTg] at h
  | succ k ih =>
    have many : ∀ (es : List Expr) (ts : List Tg), cTg.cTgs Γ k es = some ts → PGs X es (tTgs C ts) ∧ (assignEach es X.env).length = ts.length ∧ (assignEach es X.env).findIdx? (·.1) = none := by
      intro es
      induction es with
      | nil => intro ts h; simp only [cTg.cTgs, Option.some.injEq] at h; subst h; exact ⟨tgs_nil, rfl, rfl⟩
      | cons e es ihs =>
        intro ts h
        simp only [cTg.cTgs] at h
        split at h
        · cases h
        · rename_i hs
          split at h
          · rename_i t ts' h1 h2
            cases h
            obtain ⟨p1, p2, p3⟩ := ihs ts' h2
            have hs' : isSt e = false := by simpa using hs
            refine ⟨tgs_cons (ih e t h1) p1 (by rw [asg_star hs']; rfl), by rw [asg_star hs']; simp [p2], ?_⟩
            rw [asg_star hs', List.findIdx?_cons]
            simp [p3]
          · cases h
    intro e t h
    cases e with
    | Name x pos =>
      simp only [cTg] at h
      have fin : ∀ {k}, Γ.sc.names.lookup x = some k → (k = .local ∨ (k = .cell ∧ X.fn x = true)) → (ixOf x Γ.N).map Tg.v = some t → PG X (.Name x pos) (tTg C t) := fun {k} hk hh hv => by
        simp only [Option.map_eq_some_iff] at hv
        obtain ⟨i, hi, rfl⟩ := hv
        have hi := ixOf_ok hi
        rw [← o.N] at hi
        rw [← o.sc] at hk
        rcases hh with rfl | ⟨rfl, hf⟩
        · exact tg_name o.hN hi (.inl hk) (.inr hk)
        · exact tg_name o.hN hi (.inr hk) (.inl hf)
      split at h
      · rename_i hk; exact fin hk (.inl rfl) h
      · rename_i hk
        split at h
        · rename_i hb; exact fin hk (.inr ⟨rfl, by rw [o.fnB, hb]⟩) h
        · rename_i sc hb
          split at h
          · rename_i hc; exact fin hk (.inr ⟨rfl, by rw [o.fnB, hb]; exact hc⟩) h
          · cases h
      · cases h
    | Tuple es kk pos =>
      simp only [cTg, Option.map_eq_some_iff] at h
      obtain ⟨ts, h1, rfl⟩ := h
      obtain ⟨p1, p2, p3⟩ := many es ts h1
      exact tg_tup o.K o.calm p1 p2 p3
    | _ => simp [cTg] at h
/-! what is walked -/
def isTup : Expr → Bool
  | .Tuple .. => true
  | _ => false
def cI (rec : Gm → Expr → Option E) (Γ : Gm) (tg : Expr) (e : Expr) : Option I :=
  match e with
  | .Call (.Name x _) args [] _ =>
    if odd x || args.any isSt || !(Γ.bts.contains x) || Γ.sc.names.lookup x != some .globalImplicit then (rec Γ e).map .e
    else match args with
      | [a] => if x = "range" then (rec Γ a).map .r1 else if x = "enumerate" ∧ isTup tg = true then (rec Γ a).map .enum else (rec Γ e).map .e
      | [a, b] => if x = "range" then match rec Γ a, rec Γ b with
          | some a', some b' => some (.r2 a' b')
          | _, _ => none
        else if x = "zip" ∧ isTup tg = true then match rec Γ a, rec Γ b with
          | some a', some b' => some (.zip a' b')
          | _, _ => none
        else (rec Γ e).map .e
      | _ => (rec Γ e).map .e
  | e => (rec Γ e).map .e
theorem PI_e {tg e : Expr} {e' : E} (o : XOk C X Γ W n g) (h : PE X e (tD C W g e')) : PI X tg e (tI C W g (.e e')) := by
  refine ⟨fun pins sh σ H R I q => ?_⟩
  obtain ⟨ξ, ω, ρ, s, er, sr, q⟩ := q
  simp only [evI] at q
  cases he : evE g e' ρ s with
  | no => rw [he] at q; exact False.elim q
  | ex x s1 => exact (pi_list (tg := tg) h).run pins sh σ H R I ⟨ξ, ω, ρ, s, er, sr, by rw [he] at q ⊢; exact q⟩
  | ok d s1 =>
    rw [he] at q
    cases hv : vS s1 d with
    | none => simp only [Out.bind, hv] at q; exact False.elim q
    | some ds =>
      simp only [Out.bind, hv] at q
      by_cases ht : ∃ ds, d = .tup ds
      · obtain ⟨es, rfl⟩ := ht
        refine (pi_tup (tg := tg) h).run pins sh σ H R I ⟨ξ, ω, ρ, s, er, sr, ?_⟩
        rw [he]
        intro ω' H' e1 r1 v rv
        cases rv with
        | @tup a vs _ h1 h2 => exact ⟨a, rfl, ⟨vs, by rw [← o.K]; exact h1⟩, by rw [← o.K]; exact q ω' H' e1 r1 _ [.ref a] (.cons (.tup h1 h2) .nil) jok_tup⟩
      · refine (pi_list (tg := tg) h).run pins sh σ H R I ⟨ξ, ω, ρ, s, er, sr, ?_⟩
        rw [he]
        intro ω' H' e1 r1 v rv
        have hl : (∃ ds, d = .lst ds) ∨ ∃ n, d = .obj n := by
          cases d with
          | lst ds => exact .inl ⟨ds, rfl⟩
          | obj k => exact .inr ⟨k, rfl⟩
          | tup ds => exact absurd ⟨ds, rfl⟩ ht
          | _ => cases hv
        have e2 : vL s1 d = some ds := by rcases hl with ⟨es, rfl⟩ | ⟨k, rfl⟩ <;> exact hv
        obtain ⟨a, vs, rfl, h1, h2⟩ := vL_ok r1 rv e2
        exact ⟨a, rfl, ⟨vs, SqL.of h1⟩, by rw [← o.K]; exact q ω' H' e1 r1 _ [.ref a] (.cons rv .nil) (jok_list hl)⟩
theorem PI_r1 {tg a : Expr} {a' : E} {p pos : Pos} (o : XOk C X Γ W n g) (hg : Gl X "range") (hm : X.mg "range" = none) (hs : isSt a = false) (h : PE X a (tD C W g a')) : PI X tg (.Call (.Name "range" p) [a] [] pos) (tI C W g (.r1 a')) := by
  have hA : PA X [a] (tCons (tD C W g a') tNil) := pa_cons h pa_nil (star_cons hs)
  refine mono_PI (pi_range1 hg hm hA (star_cons hs)) fun σ H R q => ?_
  obtain ⟨ξ, ω, ρ, s, er, sr, q⟩ := q
  simp only [evI] at q
  refine tD.go er sr q.bind fun d s1 ω' H' v e1 r1 er1 k rv => ?_
  cases rv with
  | int j =>
    simp only at k
    split at k
    · rename_i hb
      exact ⟨j, rfl, (abs62 hb).1, (abs62 hb).2, k.here r1 _ [] .nil jok_rng⟩
    · exact False.elim k
  | _ => exact False.elim k
theorem PI_r2 {tg a b : Expr} {a' b' : E} {p pos : Pos} (o : XOk C X Γ W n g) (hg : Gl X "range") (hm : X.mg "range" = none) (hs : isSt a = false) (hs2 : isSt b = false) (h : PE X a (tD C W g a')) (h2 : PE X b (tD C W g b')) : PI X tg (.Call (.Name "range" p) [a, b] [] pos) (tI C W g (.r2 a' b')) := by
  have hA : PA X [a, b] (tCons (tD C W g a') (tCons (tD C W g b') tNil)) := pa_cons h (pa_cons h2 pa_nil (star_cons hs2)) (star_cons hs)
  refine mono_PI (pi_range2 hg hm hA (by rw [star_cons hs, star_cons hs2]; rfl) (by rw [star_cons hs2]; rfl)) fun σ H R q => ?_
  obtain ⟨ξ, ω, ρ, s, er, sr, q⟩ := q
  simp only [evI] at q
  refine tD.go er sr q.bind fun d s1 ω1 H1 v e1 r1 er1 k1 rv => ?_
  refine tD.go er1 r1 (PO.bind k1) fun d2 s2 ω2 H2 v2 e2 r2 er2 k2 rv2 => ?_
  cases rv <;> cases rv2 <;> try exact False.elim k2
  rename_i i j
  simp only at k2
  split at k2
  · rename_i hb
    simp only [Bool.and_eq_true] at hb
    exact ⟨i, j, rfl, ⟨(abs62 hb.1).1, (abs62 hb.1).2, (abs62 hb.2).1, (abs62 hb.2).2⟩, k2.here r2 _ [] .nil jok_rng⟩
  · exact False.elim k2
theorem listKind {d : D} {ds : List D} (h : vL s d = some ds) : (∃ ds, d = .lst ds) ∨ ∃ n, d = .obj n := by
  cases d with
  | lst ds => exact .inl ⟨ds, rfl⟩
  | obj k => exact .inr ⟨k, rfl⟩
  | _ => cases h
theorem PI_enum {a : Expr} {elts : List Expr} {kk : Nat} {tpos : Pos} {a' : E} {p pos : Pos} (o : XOk C X Γ W n g) (hg : Gl X "enumerate") (hm : X.mg "enumerate" = none) (hs : isSt a = false) (h : PE X a (tD C W g a')) :
    PI X (.Tuple elts kk tpos) (.Call (.Name "enumerate" p) [a] [] pos) (tI C W g (.enum a')) := by
  have hA : PA X [a] (tCons (tD C W g a') tNil) := pa_cons h pa_nil (star_cons hs)
  refine mono_PI (pi_enumG hg hm hA (star_cons hs)) fun σ H R q => ?_
  obtain ⟨ξ, ω, ρ, s, er, sr, q⟩ := q
  simp only [evI] at q
  refine tD.go er sr q.bind fun d s1 ω' H' v e1 r1 er1 k rv => ?_
  cases hv : vS s1 d with
  | none => simp only [hv] at k; exact False.elim k
  | some ds =>
    simp only [hv] at k
    obtain ⟨b, vs, rfl, h1, h2⟩ := vS_G r1 rv hv
    exact ⟨kindD d, b, vs, rfl, by rw [← o.K]; exact h1, by rw [← o.K]; exact k.here r1 _ [.ref b] (.cons rv .nil) jok_enumG⟩
theorem PI_zip {a b : Expr} {elts : List Expr} {kk : Nat} {tpos : Pos} {a' b' : E} {p pos : Pos} (o : XOk C X Γ W n g) (hg : Gl X "zip") (hm : X.mg "zip" = none) (hs : isSt a = false) (hs2 : isSt b = false) (h : PE X a (tD C W g a')) (h2 : PE X b (tD C W g b')) :
    PI X (.Tuple elts kk tpos) (.Call (.Name "zip" p) [a, b] [] pos) (tI C W g (.zip a' b')) := by
  have hA : PA X [a, b] (tCons (tD C W g a') (tCons (tD C W g b') tNil)) := pa_cons h (pa_cons h2 pa_nil (star_cons hs2)) (star_cons hs)
  refine mono_PI (pi_zipG hg hm hA (star_cons hs) (star_any (by simp [hs2]))) fun σ H R q => ?_
  obtain ⟨ξ, ω, ρ, s, er, sr, q⟩ := q
  simp only [evI] at q
  refine tD.go er sr q.bind fun d s1 ω1 H1 v e1 r1 er1 k1 rv => ?_
  refine tD.go er1 r1 (PO.bind k1) fun d2 s2 ω2 H2 v2 e2 r2 er2 k2 rv2 => ?_
  have rv1 := rv.ext r1 e2
  cases hv : vS s2 d with
  | none => simp only [hv] at k2; exact False.elim k2
  | some ds =>
    cases hw : vS s2 d2 with
    | none => simp only [hv, hw] at k2; exact False.elim k2
    | some es =>
      simp only [hv, hw] at k2
      obtain ⟨c, vs, rfl, h1, h2⟩ := vS_G r2 rv1 hv
      obtain ⟨c2, ws, rfl, h3, h4⟩ := vS_G r2 rv2 hw
      exact ⟨kindD d, kindD d2, c, c2, vs, ws, rfl, by rw [← o.K]; exact h1, by rw [← o.K]; exact h3, by rw [← o.K]; exact k2.here r2 _ [.ref c, .ref c2] (.cons rv1 (.cons rv2 .nil)) jok_zipG⟩
theorem cI_ok {tg e : Expr} {it : I} (R : RecOk C n g rec) (o : XOk C X Γ W n g) (h : cI rec Γ tg e = some it) : PI X tg e (tI C W g it) := by
  have dflt : ∀ e : Expr, (rec Γ e).map I.e = some it → PI X tg e (tI C W g it) := fun e h => by
    simp only [Option.map_eq_some_iff] at h
    obtain ⟨e', h1, rfl⟩ := h
    exact PI_e o (R X Γ W e e' o h1).1
  unfold cI at h
  split at h
  · rename_i x p args pos
    split at h
    · exact dflt _ h
    · rename_i hc
      simp only [Bool.or_eq_true, not_or, Bool.not_eq_true, Bool.not_eq_eq_eq_not, Bool.not_false, bne_iff_ne, ne_eq, Decidable.not_not, bne_eq_false_iff_eq] at hc
      obtain ⟨⟨⟨h1, h2⟩, h3⟩, h4⟩ := hc
      have hg : Gl X x := gl_of o h4
      have hm : X.mg x = none := o.bts x (by simpa using h3)
      split at h
      · rename_i a
        have hs : isSt a = false := by simpa using h2
        split at h
        · rename_i hx
          subst hx
          simp only [Option.map_eq_some_iff] at h
          obtain ⟨a', e1, rfl⟩ := h
          exact PI_r1 o hg hm hs (R X Γ W a a' o e1).1
        · split at h
          · rename_i hx
            obtain ⟨hx, ht⟩ := hx
            subst hx
            simp only [Option.map_eq_some_iff] at h
            obtain ⟨a', e1, rfl⟩ := h
            cases tg with
            | Tuple es k tp => exact PI_enum o hg hm hs (R X Γ W a a' o e1).1
            | _ => cases ht
          · exact dflt _ h
      · rename_i a b
        have hs : isSt a = false ∧ isSt b = false := by simpa using h2
        split at h
        · rename_i hx
          subst hx
          split at h
          · rename_i a' b' e1 e2
            cases h
            exact PI_r2 o hg hm hs.1 hs.2 (R X Γ W a a' o e1).1 (R X Γ W b b' o e2).1
          · cases h
        · split at h
          · rename_i hx
            obtain ⟨hx, ht⟩ := hx
            subst hx
            split at h
            · rename_i a' b' e1 e2
              cases h
              cases tg with
              | Tuple es k tp => exact PI_zip o hg hm hs.1 hs.2 (R X Γ W a a' o e1).1 (R X Γ W b b' o e2).1
              | _ => cases ht
            · cases h
          · exact dflt _ h
      · exact dflt _ h
  · exact dflt _ h
/-! comprehensions -/
def tgNames : Nat → Expr → Option (List Str)
  | 0, _ => none
  | _ + 1, .Name x _ => some [x]
  | k + 1, .Tuple es _ _ => many k es
  | _ + 1, _ => none
where many (k : Nat) : List Expr → Option (List Str)
  | [] => some []
  | e :: es => match tgNames k e, many k es with
    | some xs, some ys => some (xs ++ ys)
    | _, _ => none
def ownOf (N : List Str) : List Str → Option (List (Str × Nat))
  | [] => some []
  | x :: xs => match ixOf x N, ownOf N xs with
    | some i, some r => some ((x, i) :: r)
    | _, _ => none
theorem ownOf_ok {N : List Str} : ∀ {xs : List Str} {own : List (Str × Nat)}, ownOf N xs = some own → ∀ p ∈ own, N[p.2]? = some p.1
  | [], own, h, p, hp => by cases h; cases hp
  | x :: xs, own, h, p, hp => by
    simp only [ownOf] at h
    split at h
    · rename_i i r h1 h2
      cases h
      rcases List.mem_cons.mp hp with rfl | hp
      · exact ixOf_ok h1
      · exact ownOf_ok h2 p hp
    · cases h
def blkB (N : List Str) (sc scope : Scope) (own : List (Str × Nat)) : Bool :=
  decide (scope.kind = .function) && scope.names.all (fun y => decide (scope.names.lookup y.1 = some y.2)) &&
  scope.names.all (fun y => !decide (y.2 = .free) || decide (sc.names.lookup y.1 = some .cell) || decide (sc.names.lookup y.1 = some .free)) &&
  scope.names.all (fun y => !(decide (y.2 = .local) || decide (y.2 = .cell)) || (own.map (·.1)).contains y.1 || !(N.contains y.1))
theorem blkB_ok {N : List Str} {sc scope : Scope} {own : List (Str × Nat)} (ho : ∀ p ∈ own, N[p.2]? = some p.1) (h : blkB N sc scope own = true) : BlkOk N sc scope own := by
  unfold blkB at h
  simp only [Bool.and_eq_true, decide_eq_true_eq, List.all_eq_true, Bool.or_eq_true, Bool.not_eq_true', decide_eq_false_iff_not] at h
  obtain ⟨⟨⟨h1, h2⟩, h3⟩, h4⟩ := h
  refine ⟨h1, h2, ho, fun y hy e => ?_, fun y hy e => ?_⟩
  · rcases h3 y hy with (z | z) | z
    · exact absurd e z
    · exact .inl z
    · exact .inr z
  · rcases h4 y hy with (z | z) | z
    · simp only [Bool.or_eq_false_iff, decide_eq_false_iff_not] at z
      rcases e with e | e
      · exact absurd e z.1
      · exact absurd e z.2
    · exact .inl (by simpa using z)
    · exact .inr (by simpa using z)
def atMut (Γ : Gm) (p : Pos) : Bool := Γ.muts.contains (p.line, p.col)
def cComp (rec : Gm → Expr → Option E) (Γ : Gm) (elt : Expr) (gs : List Comprehension) (scope : Scope) (pos : Pos) : Option E :=
  match gs with
  | [⟨tg, iter, ifs, a⟩] =>
    if a ≠ 0 ∨ notSet iter = false then none else
    match (tgNames 9 tg).bind (ownOf Γ.N), cTg (Γ.inB scope) 9 tg, cI rec Γ tg iter, rec (Γ.inB scope) elt with
    | some own, some t, some it, some e' =>
      if blkB Γ.N Γ.sc scope own && tgIn (own.map (·.2)) t then
        match ifs with
        | [] => some (.comp (atMut Γ pos) (own.map (·.2)) t it (.lit (.bl true)) e')
        | [c] => (rec (Γ.inB scope) c).map fun c' => .comp (atMut Γ pos) (own.map (·.2)) t it c' e'
        | _ => none
      else none
    | _, _, _, _ => none
  | _ => none
/-- what the rules of comprehensions want -/
structure LcOk (C : RC) (X : Cx) (W : WX) (g : G) (elt tg iter : Expr) (ifs : List Expr) (scope : Scope) (own : List (Str × Nat)) (t : Tg) (it : I) (c e : E) : Prop where
  hi : PI X tg iter (tI C W g it)
  ok : BlkOk X.N X.env.scope scope own
  hg : ∀ (s : Shared) (H : Hp) (Ca : Addr) (cl : List (Str × Addr)) (fp : List Addr), PG (X.blk s H scope (compEnvC scope cl Ca X.env) fp) tg (tTg C t)
  ht : ∀ (s : Shared) (H : Hp) (Ca : Addr) (cl : List (Str × Addr)) (fp : List Addr), PTs (X.blk s H scope (compEnvC scope cl Ca X.env) fp) ifs (tT C W0 g c)
  he : ∀ (s : Shared) (H : Hp) (Ca : Addr) (cl : List (Str × Addr)) (fp : List Addr), PE (X.blk s H scope (compEnvC scope cl Ca X.env) fp) elt (tD C W0 g e)
  hs : ∀ x, foldedSetIterable iter X.env x = pure x
  hown : tgIn (own.map (·.2)) t = true
theorem tYes_ok {Q : Bool → Hp → Prop} (h : tT C W g (.lit (.bl true)) σ H Q) : tYes σ H Q := by
  obtain ⟨ξ, ω, ρ, s, er, sr, h⟩ := h
  simp only [evE] at h
  obtain ⟨b, h1, h2⟩ := h.here sr
  cases h1
  exact h2
theorem mono_PTs {X : Cx} {es : List Expr} {t t' : TT} (h : PTs X es t) (m : ∀ σ H Q, t' σ H Q → t σ H Q) : PTs X es t' := ⟨fun pins s σ H Q I q => h.run pins s σ H Q I (m σ H Q q)⟩
theorem cComp_ok {elt : Expr} {gs : List Comprehension} {scope : Scope} {pos : Pos} {e' : E} (R : RecOk C n g rec) (o : XOk C X Γ W n g) (h : cComp rec Γ elt gs scope pos = some e') :
    ∃ tg iter ifs own t it c e m, gs = [⟨tg, iter, ifs, 0⟩] ∧ LcOk C X W g elt tg iter ifs scope own t it c e ∧ e' = .comp m (own.map (·.2)) t it c e := by
  unfold cComp at h
  split at h
  · rename_i tg iter ifs a
    split at h
    · cases h
    · rename_i ha
      have ha0 : a = 0 := Classical.byContradiction fun z => ha (.inl z)
      have hns : notSet iter = true := by
        cases hq : notSet iter with
        | true => rfl
        | false => exact absurd (.inr hq) ha
      subst ha0
      split at h
      · rename_i own t it el h1 h2 h3 h4
        split at h
        · rename_i hb
          simp only [Bool.and_eq_true] at hb
          obtain ⟨xs, _, ho⟩ := Option.bind_eq_some_iff.mp h1
          have base : ∀ c, (∀ (s : Shared) (H : Hp) (Ca : Addr) (cl : List (Str × Addr)) (fp : List Addr), PTs (X.blk s H scope (compEnvC scope cl Ca X.env) fp) ifs (tT C W0 g c)) → LcOk C X W g elt tg iter ifs scope own t it c el := fun c hc =>
            ⟨cI_ok R o h3, by rw [o.N, o.sc]; exact blkB_ok (ownOf_ok ho) hb.1, fun s H Ca cl fp => cTg_ok (o.inB s H scope Ca cl fp) 9 tg t h2, hc, fun s H Ca cl fp => (R _ _ _ elt el (o.inB s H scope Ca cl fp) h4).1, notSet_fold hns, hb.2⟩
          split at h
          · cases h
            exact ⟨tg, iter, [], own, t, it, _, el, _, rfl, base _ fun s H Ca cl fp => mono_PTs pts_nil fun σ H Q q => tYes_ok q, rfl⟩
          · rename_i c
            simp only [Option.map_eq_some_iff] at h
            obtain ⟨c', hc, rfl⟩ := h
            exact ⟨tg, iter, [c], own, t, it, c', el, _, rfl, base _ fun s H Ca cl fp => pts_one (R _ _ _ c c' (o.inB s H scope Ca cl fp) hc).2, rfl⟩
          · cases h
        · cases h
      · cases h
  · cases h
theorem lc_PE {elt tg iter : Expr} {ifs : List Expr} {scope : Scope} {own : List (Str × Nat)} {t : Tg} {it : I} {c e : E} {m : Bool} {pos : Pos} (o : XOk C X Γ W n g) (L : LcOk C X W g elt tg iter ifs scope own t it c e) :
    PE X (.ListComp elt [⟨tg, iter, ifs, 0⟩] scope pos) (tD C W g (.comp m (own.map (·.2)) t it c e)) :=
  mono_PE (pe_lc o.calm o.hN L.hi L.ok L.hg L.ht L.he L.hs) fun σ H Q q => comp_ok L.hown q
end
end BS

/-! Core11: expressions of the text, whole -/
namespace BS
open PySem PySem.Spec PyProof.Rows L2

section
variable {C : RC} {ξ ξ' : Addr → Prop} {ω ω' ω'' : List Addr} {H H' H'' : Hp} {s s' : Sto} {σ σ' : L2.St} {ρ ρ' : Env} {W : WX} {g : G} {X : Cx} {Γ : Gm} {n : Nat} {rec : Gm → Expr → Option E}
theorem PO.ext {α : Type} {o : Out α} {k : α → Sto → List Addr → Hp → Prop} (e : Ext ω H ω' H') (h : PO C ξ ω H σ W o k) : PO C ξ ω' H' σ W o k := by
  cases o with
  | no => exact h
  | ex x s => exact fun cls dx ω'' H'' e' => h cls dx ω'' H'' (e.trans e')
  | ok a s => exact fun ω'' H'' e' => h ω'' H'' (e.trans e')
/-! and, or -/
def cBool (rec : Gm → Expr → Option E) (Γ : Gm) (op : BoolOp) : List Expr → Option E
  | [] => none
  | [a] => rec Γ a
  | a :: b :: r => match rec Γ a, cBool rec Γ op (b :: r) with
    | some x, some y => some (match op with | .And => .and_ x y | .Or => .or_ x y)
    | _, _ => none
theorem and_PE {a b : E} {Q : VK} (hK : C.K = X.K) (h : tD C W g (.and_ a b) σ H Q) : tAndT X.K (tD C W g a) (tD C W g b) σ H Q := by
  obtain ⟨ξ, ω, ρ, s, er, sr, h⟩ := h
  simp only [evE] at h
  refine tD.go er sr h.bind fun d s1 ω1 H1 v e1 r1 er1 k1 rv => ?_
  cases ht : truD s1 d with
  | none => simp only [ht] at k1; exact False.elim k1
  | some q =>
    refine ⟨q, tru_of hK r1 rv ht, ?_⟩
    cases q with
    | true => simp only [ht] at k1; rw [if_pos rfl]; exact tD.mk er1 r1 k1
    | false => simp only [ht] at k1; rw [if_neg Bool.false_ne_true]; exact k1.here r1 v rv
theorem or_PE {a b : E} {Q : VK} (hK : C.K = X.K) (h : tD C W g (.or_ a b) σ H Q) : tOrT X.K (tD C W g a) (tD C W g b) σ H Q := by
  obtain ⟨ξ, ω, ρ, s, er, sr, h⟩ := h
  simp only [evE] at h
  refine tD.go er sr h.bind fun d s1 ω1 H1 v e1 r1 er1 k1 rv => ?_
  cases ht : truD s1 d with
  | none => simp only [ht] at k1; exact False.elim k1
  | some q =>
    refine ⟨q, tru_of hK r1 rv ht, ?_⟩
    cases q with
    | true => simp only [ht] at k1; rw [if_pos rfl]; exact k1.here r1 v rv
    | false => simp only [ht] at k1; rw [if_neg Bool.false_ne_true]; exact tD.mk er1 r1 k1
theorem and_PT {a b : E} {Q : Bool → Hp → Prop} (h : tT C W g (.and_ a b) σ H Q) : tAnd (tT C W g a) (tT C W g b) σ H Q := by
  obtain ⟨ξ, ω, ρ, s, er, sr, h⟩ := h
  simp only [evE] at h
  refine ⟨ξ, ω, ρ, s, er, sr, h.bind.mono fun d s1 ω1 H1 _ e1 r1 k1 => ?_⟩
  cases ht : truD s1 d with
  | none => simp only [ht] at k1; exact False.elim k1
  | some q =>
    refine ⟨q, rfl, ?_⟩
    cases q with
    | true => simp only [ht] at k1; rw [if_pos rfl]; exact ⟨ξ, ω1, ρ, s1, er.ext sr e1, r1, k1⟩
    | false =>
      simp only [ht] at k1; rw [if_neg Bool.false_ne_true]
      obtain ⟨b, h1, h2⟩ := k1.here r1
      rw [ht] at h1; cases h1; exact h2
theorem or_PT {a b : E} {Q : Bool → Hp → Prop} (h : tT C W g (.or_ a b) σ H Q) : tOr (tT C W g a) (tT C W g b) σ H Q := by
  obtain ⟨ξ, ω, ρ, s, er, sr, h⟩ := h
  simp only [evE] at h
  refine ⟨ξ, ω, ρ, s, er, sr, h.bind.mono fun d s1 ω1 H1 _ e1 r1 k1 => ?_⟩
  cases ht : truD s1 d with
  | none => simp only [ht] at k1; exact False.elim k1
  | some q =>
    refine ⟨q, rfl, ?_⟩
    cases q with
    | true =>
      simp only [ht] at k1; rw [if_pos rfl]
      obtain ⟨b, h1, h2⟩ := k1.here r1
      rw [ht] at h1; cases h1; exact h2
    | false => simp only [ht] at k1; rw [if_neg Bool.false_ne_true]; exact ⟨ξ, ω1, ρ, s1, er.ext sr e1, r1, k1⟩
theorem cBool_ok (R : RecOk C n g rec) (o : XOk C X Γ W n g) {op : BoolOp} {pos : Pos} : ∀ {es : List Expr} {e' : E}, cBool rec Γ op es = some e' → PE X (.BoolOp op es pos) (tD C W g e') ∧ PW X (.BoolOp op es pos) (tT C W g e')
  | [], _, h => by cases h
  | [a], e', h => by
    obtain ⟨p1, p2⟩ := R X Γ W a e' o h
    cases op with
    | And => exact ⟨pe_one p1, pw_and1 p2⟩
    | Or => exact ⟨pe_one p1, pw_or1 p2⟩
  | a :: b :: r, e', h => by
    simp only [cBool] at h
    split at h
    · rename_i x y h1 h2
      obtain ⟨p1, p2⟩ := R X Γ W a x o h1
      obtain ⟨q1, q2⟩ := cBool_ok R o h2
      cases op with
      | And => cases h; exact ⟨mono_PE (pe_andT p1 q1) fun σ H Q q => and_PE o.K q, mono_PW (pw_and p2 q2) fun σ H Q q => and_PT q⟩
      | Or => cases h; exact ⟨mono_PE (pe_orT p1 q1) fun σ H Q q => or_PE o.K q, mono_PW (pw_or p2 q2) fun σ H Q q => or_PT q⟩
    · cases h
/-! not, if-else -/
theorem not_PE {a : E} {Q : VK} (hK : C.K = X.K) (h : tD C W g (.not_ a) σ H Q) : tNotT X.K (tD C W g a) σ H Q := by
  obtain ⟨ξ, ω, ρ, s, er, sr, h⟩ := h
  simp only [evE] at h
  refine tD.go er sr h.bind fun d s1 ω1 H1 v e1 r1 er1 k1 rv => ?_
  cases ht : truD s1 d with
  | none => simp only [ht] at k1; exact False.elim k1
  | some q => simp only [ht] at k1; exact ⟨q, tru_of hK r1 rv ht, k1.here r1 _ (.bl _)⟩
theorem not_PT {a : E} {Q : Bool → Hp → Prop} (h : tT C W g (.not_ a) σ H Q) : tNot (tT C W g a) σ H Q := by
  obtain ⟨ξ, ω, ρ, s, er, sr, h⟩ := h
  simp only [evE] at h
  refine ⟨ξ, ω, ρ, s, er, sr, h.bind.mono fun d s1 ω1 H1 _ e1 r1 k1 => ?_⟩
  cases ht : truD s1 d with
  | none => simp only [ht] at k1; exact False.elim k1
  | some q =>
    simp only [ht] at k1
    obtain ⟨b, h1, h2⟩ := k1.here r1
    cases h1
    exact ⟨q, rfl, h2⟩
theorem iteE_PE {c a b : E} {Q : VK} (h : tD C W g (.ite c a b) σ H Q) : tIf (tT C W g c) (tD C W g a) (tD C W g b) σ H Q := by
  obtain ⟨ξ, ω, ρ, s, er, sr, h⟩ := h
  simp only [evE] at h
  refine ⟨ξ, ω, ρ, s, er, sr, h.bind.mono fun d s1 ω1 H1 _ e1 r1 k1 => ?_⟩
  cases ht : truD s1 d with
  | none => simp only [ht] at k1; exact False.elim k1
  | some q =>
    refine ⟨q, rfl, ?_⟩
    cases q with
    | true => simp only [ht] at k1; rw [if_pos rfl]; exact tD.mk (er.ext sr e1) r1 k1
    | false => simp only [ht] at k1; rw [if_neg Bool.false_ne_true]; exact tD.mk (er.ext sr e1) r1 k1
def tIfT (t ta tb : TT) : TT := fun σ H Q => t σ H fun c H1 => if c = true then ta σ H1 Q else tb σ H1 Q
theorem pt_ifExp {c a b : Expr} {pos : Pos} {tc ta tb : TT} (hc : PT X c tc) (ha : PT X a ta) (hb : PT X b tb) : PT X (.IfExp c a b pos) (tIfT tc ta tb) := by
  refine ⟨fun pins s σ H Q I h => ?_⟩
  show wpAny _ _ (PySem.isTrue (.IfExp c a b pos) X.env _) _ _ _
  simp only [PySem.isTrue]
  refine wpAny_bind (thn (hc.run pins s σ H _ I h) fun d s1 ⟨H1, I1, q1⟩ => ?_)
  cases d with
  | true => exact ha.run pins s1 σ H1 Q I1 q1
  | false => exact hb.run pins s1 σ H1 Q I1 q1
theorem iteE_PT {c a b : E} {Q : Bool → Hp → Prop} (h : tT C W g (.ite c a b) σ H Q) : tIfT (tT C W g c) (tT C W g a) (tT C W g b) σ H Q := by
  obtain ⟨ξ, ω, ρ, s, er, sr, h⟩ := h
  simp only [evE] at h
  refine ⟨ξ, ω, ρ, s, er, sr, h.bind.mono fun d s1 ω1 H1 _ e1 r1 k1 => ?_⟩
  cases ht : truD s1 d with
  | none => simp only [ht] at k1; exact False.elim k1
  | some q =>
    refine ⟨q, rfl, ?_⟩
    cases q with
    | true => simp only [ht] at k1; rw [if_pos rfl]; exact ⟨ξ, ω1, ρ, s1, er.ext sr e1, r1, k1⟩
    | false => simp only [ht] at k1; rw [if_neg Bool.false_ne_true]; exact ⟨ξ, ω1, ρ, s1, er.ext sr e1, r1, k1⟩
/-! chains, minus, None -/
theorem chain_PE {p q : Pr} {a b c : E} {Q : VK} (h : tD C W g (.chain p q a b c) σ H Q) : tChain (rP C p) (rP C q) (tD C W g a) (tD C W g b) (tD C W g c) σ H Q := by
  obtain ⟨ξ, ω, ρ, s, er, sr, h⟩ := h
  simp only [evE] at h
  refine tD.go er sr h.bind fun x s1 ω1 H1 v e1 r1 er1 k1 rv => ?_
  refine tD.go er1 r1 (PO.bind k1) fun y s2 ω2 H2 v2 e2 r2 er2 k2 rv2 => ?_
  cases hp : prim s2 p [x, y] with
  | none => simp only [hp] at k2; exact False.elim k2
  | some d =>
    refine ⟨ξ, ω2, s2, x, y, d, r2, rv.ext r1 e2, rv2, hp, fun w ω3 H3 e3 r3 rw' => ?_⟩
    cases rw' with
    | bl t =>
      refine ⟨t, rfl, ?_⟩
      cases t with
      | true =>
        simp only [hp] at k2
        rw [if_pos rfl]
        refine tD.go (er2.ext r2 e3) r3 (PO.ext e3 (PO.bind k2)) fun z s4 ω4 H4 v4 e4 r4 er4 k4 rv4 => ?_
        cases hq : prim s4 q [y, z] with
        | none => rw [hq] at k4; exact False.elim k4
        | some r =>
          rw [hq] at k4
          exact ⟨ξ, ω4, s4, y, z, r, r4, (rv2.ext r2 e3).ext r3 e4, rv4, hq, fun v ω' H' e r rv => k4 ω' H' e r v rv⟩
      | false =>
        simp only [hp] at k2
        rw [if_neg Bool.false_ne_true]
        exact k2 ω3 H3 e3 r3 _ (.bl _)
    | _ => simp only [hp] at k2; exact False.elim k2
theorem chain_bl {p q : Pr} {a b c : E} {d : D} (hq : boolPr q = true) (h : evE g (.chain p q a b c) ρ s = .ok d s') : ∃ t, d = .bl t := by
  simp only [evE] at h
  cases ha : evE g a ρ s with
  | no => rw [ha] at h; cases h
  | ex => rw [ha] at h; cases h
  | ok x s1 =>
    simp only [ha, Out.bind] at h
    cases hb : evE g b ρ s1 with
    | no => rw [hb] at h; cases h
    | ex => rw [hb] at h; cases h
    | ok y s2 =>
      simp only [hb] at h
      split at h
      · cases hc : evE g c ρ s2 with
        | no => rw [hc] at h; cases h
        | ex => rw [hc] at h; cases h
        | ok z s3 =>
          simp only [hc] at h
          cases hr : prim s3 q [y, z] with
          | none => rw [hr] at h; cases h
          | some r => rw [hr] at h; cases h; exact boolPr_ok hq hr
      · cases h; exact ⟨_, rfl⟩
      · cases h
theorem tT_bl {e : E} {te : TE} {Q : Bool → Hp → Prop} (hb : ∀ ρ s d s', evE g e ρ s = .ok d s' → ∃ t, d = .bl t) (hm : ∀ σ H Q, tD C W g e σ H Q → te σ H Q) (h : tT C W g e σ H Q) : tTest te σ H Q := by
  obtain ⟨ξ, ω, ρ, s, er, sr, h⟩ := h
  refine hm _ _ _ ⟨ξ, ω, ρ, s, er, sr, h.mono fun d s' ω' H' ho e r k v rv => ?_⟩
  obtain ⟨b, h1, h2⟩ := k
  obtain ⟨t, rfl⟩ := hb ρ s d s' ho
  cases h1
  cases rv
  exact ⟨_, rfl, h2⟩
theorem neg_PE {a : E} {Q : VK} (h : tD C W g (.pr .neg [a]) σ H Q) : tUn (rU fun i => .int (-i)) (tD C W g a) σ H Q := by
  obtain ⟨ξ, ω, ρ, s, er, sr, h⟩ := op1_ok h
  refine ⟨ξ, ω, ρ, s, er, sr, h.mono fun d s' ω' H' _ e r k v rv => ?_⟩
  obtain ⟨ξ2, ω2, s2, d2, r2, sr2, hr, hp, fin⟩ := k v rv
  cases hr with
  | int i => cases hp; exact ⟨i, rfl, fin.int sr2⟩
  | _ => cases hp
theorem isN_PE {a : E} {Q : VK} {b : Bool} (h : tD C W g (.pr (if b then .isN else .notN) [a]) σ H Q) : tOp (fun x y H Q => y = .non ∧ Q (.bl (if b then decide (x = .non) else !decide (x = .non))) H) (tD C W g a) (tC .non) σ H Q := by
  obtain ⟨ξ, ω, ρ, s, er, sr, h⟩ := op1_ok h
  refine ⟨ξ, ω, ρ, s, er, sr, h.mono fun d s' ω' H' _ e r k v rv => ?_⟩
  obtain ⟨ξ2, ω2, s2, d2, r2, sr2, hr, hp, fin⟩ := k v rv
  refine ⟨rfl, ?_⟩
  have key : ∀ t : Bool, (t = decide (v = .non)) → r2 = .bl (if b then t else !t) → Q (.bl (if b then decide (v = .non) else !decide (v = .non))) H' := fun t e1 e2 => by
    subst e1 e2
    exact fin.bl sr2
  cases b <;> cases hr <;> first
    | (cases hp; exact key true (by simp) rfl)
    | (cases hp; exact key false (by simp) rfl)
end
end BS

/-! Core12: one step of the reading of expressions -/
namespace BS
open PySem PySem.Spec PyProof.Rows L2

section
variable {C : RC} {ξ ξ' : Addr → Prop} {ω ω' ω'' : List Addr} {H H' H'' : Hp} {s s' : Sto} {σ σ' : L2.St} {ρ ρ' : Env} {W : WX} {g : G} {X : Cx} {Γ : Gm} {n : Nat} {rec : Gm → Expr → Option E}
def cConst : Const → Option Lit
  | .none => some .non
  | .bool b => some (.bl b)
  | .int i => some (.int i)
  | .str x => some (.str x)
  | _ => none
theorem const_PE {c : Const} {k : Nat} {pos : Pos} {l : Lit} (h : cConst c = some l) : PE X (.Constant c k pos) (tD C W g (.lit l)) := by
  cases c <;> first | (cases h; done) | cases h
  · exact mono_PE pe_non fun σ H Q q => lit_ok q _ fun _ _ _ _ => .non
  · exact mono_PE pe_bl fun σ H Q q => lit_ok q _ fun _ _ _ _ => .bl _
  · exact mono_PE pe_int fun σ H Q q => lit_ok q _ fun _ _ _ _ => .int _
  · exact mono_PE pe_str fun σ H Q q => lit_ok q _ fun _ _ _ _ => .str _
/-! slices -/
def cPart (rec : Gm → Expr → Option E) (Γ : Gm) : Option Expr → Option (Bool × E)
  | none => some (false, .lit .non)
  | some e => (rec Γ e).map fun x => (true, x)
def tPartB (C : RC) (W : WX) (g : G) : Bool → E → TO
  | false, _ => tNoPart
  | true, e => tPart (tD C W g e)
theorem cPart_ok (R : RecOk C n g rec) (o : XOk C X Γ W n g) {e : Option Expr} {b : Bool} {x : E} (h : cPart rec Γ e = some (b, x)) : L2.PO X e (tPartB C W g b x) ∧ (b = false → x = .lit .non) := by
  cases e with
  | none => cases h; exact ⟨po_none, fun _ => rfl⟩
  | some e =>
    simp only [cPart, Option.map_eq_some_iff] at h
    obtain ⟨a, h1, h2⟩ := h
    cases h2
    exact ⟨po_some (R X Γ W e x o h1).1, fun z => nomatch z⟩
/-- one bound -/
theorem part_go {b : Bool} {e : E} {Q : Option Int → Hp → Prop} {K : D → Sto → List Addr → Hp → Prop} (hb : b = false → e = .lit .non) (er : ERel C ξ ω H σ ρ) (sr : SRel C ξ ω H s)
    (h : PO C ξ ω H σ W ((evE g e ρ s)) K) (need : ∀ d s' ω' H', K d s' ω' H' → ∃ l, bnd b d = some l)
    (m : ∀ d s' ω' H' l, Ext ω H ω' H' → SRel C ξ ω' H' s' → ERel C ξ ω' H' σ ρ → K d s' ω' H' → bnd b d = some l → Q l H') : tPartB C W g b e σ H Q := by
  cases b with
  | false =>
    obtain rfl := hb rfl
    simp only [evE] at h
    have k := h.here sr
    exact m _ _ _ _ none Ext.refl sr er k rfl
  | true =>
    refine tD.go er sr h fun d s1 ω1 H1 v e1 r1 er1 k1 rv => ?_
    obtain ⟨l, hl⟩ := need _ _ _ _ k1
    cases rv with
    | int i => exact ⟨i, rfl, m _ _ _ _ (some i) e1 r1 er1 k1 rfl⟩
    | _ => cases hl
theorem slc_PE {hl hh m : Bool} {a lo hi : E} {Q : VK} (hlo : hl = false → lo = .lit .non) (hhi : hh = false → hi = .lit .non) (h : tD C W g (.slc m hl hh a lo hi) σ H Q) :
    tSl (fun x l u H Q => if m then rSlcL C x l u H Q else rSlcP C x l u H Q) (tD C W g a) (tPartB C W g hl lo) (tPartB C W g hh hi) σ H Q := by
  obtain ⟨ξ, ω, ρ, s, er, sr, h⟩ := h
  simp only [evE] at h
  refine tD.go er sr h.bind fun d s1 ω1 H1 v e1 r1 er1 k1 rv => ?_
  refine part_go hlo er1 r1 (PO.bind k1) (fun d s' ω' H' k => ?_) fun x s2 ω2 H2 l e2 r2 er2 k2 hx => ?_
  · cases hb : bnd hl d with
    | none => simp only [hb] at k; exact False.elim k
    | some l => exact ⟨l, rfl⟩
  simp only [hx] at k2
  refine part_go hhi er2 r2 (PO.bind k2) (fun d s' ω' H' k => ?_) fun y s3 ω3 H3 u e3 r3 er3 k3 hy => ?_
  · cases hb : bnd hh d with
    | none => simp only [hb] at k; exact False.elim k
    | some l => exact ⟨l, rfl⟩
  simp only [hy] at k3
  have rv3 := (rv.ext r1 e2).ext r2 e3
  cases m with
  | true =>
    simp only [if_true] at k3 ⊢
    cases hv : vL s3 d with
    | none => simp only [hv] at k3; exact False.elim k3
    | some ds => simp only [hv] at k3; exact ⟨ξ, ω3, s3, d, ds, r3, rv3, hv, mkL_fin r3 k3⟩
  | false =>
    simp only [Bool.false_eq_true, if_false] at k3 ⊢
    cases hv : slcD s3 l u d with
    | none => rw [hv] at k3; exact False.elim k3
    | some r => rw [hv] at k3; exact ⟨ξ, ω3, s3, d, r, r3, rv3, hv, fun v ω' H' e r rv => k3 ω' H' e r v rv⟩
/-! methods that change a list -/
def notCall0 : Expr → Bool
  | .Call (.Name _ _) [] [] _ => false
  | _ => true
theorem base_of {e : Expr} {f : Str} {env : PySem.Env} (h : notCall0 e = true) : attributeBase e f env (eval e env) = eval e env := by
  unfold notCall0 at h
  split at h
  · cases h
  · rename_i hn
    unfold attributeBase
    split
    · rename_i x p q
      exact absurd rfl (hn x p q)
    · rfl
def rM (C : RC) (W : WX) (σ : L2.St) (p : Pm) : V → List V → Hp → VK → Prop := fun x vs H Q => ∃ ξ ω s d e, SRel C ξ ω H s ∧ Rep C ξ ω H x d ∧ Reps C ξ ω H vs e ∧ PO C ξ ω H σ W (primM s p (d :: e)) fun r _ ω' H' => ∀ v, Rep C ξ ω' H' v r → Q v H'
theorem pm_PE {p : Pm} {a : E} {es : List E} {Q : VK} (h : tD C W g (.pm p a es) σ H Q) : tBM X.K "list" (rM C W σ p) (tD C W g a) (tDs C W g es) σ H Q := by
  obtain ⟨ξ, ω, ρ, s, er, sr, h⟩ := h
  simp only [evE] at h
  refine tD.go er sr h.bind fun d s1 ω1 H1 v e1 r1 er1 k1 rv => ?_
  cases hb : isObjL s1 d with
  | false => simp only [hb] at k1; exact False.elim k1
  | true =>
    simp only [hb] at k1
    obtain ⟨ds, hv⟩ := Option.isSome_iff_exists.mp hb
    obtain ⟨b, vs, rfl, h1, h2⟩ := vL_ok r1 rv hv
    refine ⟨.inl ⟨rfl, vs, SqL.of h1⟩, tDs.mk er1 r1 ((PO.bind k1).mono fun es' s2 ω2 H2 _ e2 r2 k2 ws rw' => ?_)⟩
    exact ⟨ξ, ω2, s2, _, es', r2, rv.ext r1 e2, rw', k2⟩
theorem lstEn_PE {m : Bool} {a : E} {Q : VK} (hK : C.K = X.K) (h : tD C W g (.pl m .enum [a]) σ H Q) : tLstEn X.K (tCons (tD C W g a) tNil) σ H Q := by
  obtain ⟨ξ, ω, ρ, s, er, sr, h⟩ := h
  simp only [evE, mapOut_one, bind_assoc] at h
  refine tD.go er sr h.bind fun d s1 ω1 H1 v e1 r1 er1 k1 rv => ?_
  simp only [Out.bind, primL] at k1
  cases hv : vS s1 d with
  | none => rw [hv] at k1; exact False.elim k1
  | some es =>
    simp only [hv, Option.map_some] at k1
    obtain ⟨k, b, xs, rfl, h1, h2⟩ := vS_G0 hK r1 rv hv
    refine ⟨k, b, xs, rfl, h1, fun H2 S as g hS hal => ?_⟩
    obtain ⟨H3, e4, hS3, ex, sr3, rp⟩ := enL_split r1 h2 g hS hal
    rw [e4]
    exact mkL_fin sr3 (PO.ext ex k1) S _ hS3 rp
theorem rgOk_of {a b : Int} (h : (decide (0 ≤ a) && Nat.ble a.natAbs 16777216 && decide (0 ≤ b) && Nat.ble b.natAbs 16777216) = true) : RgOk a b := by
  simp only [Bool.and_eq_true, decide_eq_true_eq] at h
  obtain ⟨⟨⟨h1, h2⟩, h3⟩, h4⟩ := h
  have h2 := Nat.le_of_ble_eq_true h2
  have h4 := Nat.le_of_ble_eq_true h4
  exact RgOk.of_le h1 (by omega) (by omega) h3
theorem lstRg1_PE {m : Bool} {a : E} {Q : VK} (h : tD C W g (.pl m .rng1 [a]) σ H Q) : tLstRg (tRg1 (tD C W g a)) σ H Q := by
  obtain ⟨ξ, ω, ρ, s, er, sr, h⟩ := h
  simp only [evE, mapOut_one, bind_assoc] at h
  refine tD.go er sr h.bind fun d s1 ω1 H1 v e1 r1 er1 k1 rv => ?_
  cases rv with
  | int j =>
    simp only [Out.bind, primL] at k1
    split at k1
    · rename_i r hr
      split at hr
      · rename_i hb
        cases hr
        exact ⟨j, rfl, rgOk_of (by simpa using hb), fun q hq => mkL_fin r1 k1 q _ hq (rngD_reps 0 j)⟩
      · cases hr
    · exact False.elim k1
  | _ => exact False.elim k1
theorem lstRg2_PE {m : Bool} {a b : E} {Q : VK} (h : tD C W g (.pl m .rng2 [a, b]) σ H Q) : tLstRg (tRg2 (tD C W g a) (tD C W g b)) σ H Q := by
  obtain ⟨ξ, ω, ρ, s, er, sr, h⟩ := h
  simp only [evE, mapOut_two, bind_assoc] at h
  refine tD.go er sr h.bind fun d s1 ω1 H1 v e1 r1 er1 k1 rv => ?_
  refine tD.go er1 r1 (PO.bind k1) fun d2 s2 ω2 H2 v2 e2 r2 er2 k2 rv2 => ?_
  cases rv <;> cases rv2 <;> try exact False.elim k2
  rename_i i j
  simp only [Out.bind, primL] at k2
  split at k2
  · rename_i r hr
    split at hr
    · rename_i hb
      cases hr
      exact ⟨i, j, rfl, rfl, rgOk_of (by simpa using hb), fun q hq => mkL_fin r2 k2 q _ hq (rngD_reps i j)⟩
    · cases hr
  · exact False.elim k2
/-! one step -/
def cCall (rec : Gm → Expr → Option E) (Γ : Gm) (f : Expr) (args : List Expr) (pos : Pos) : Option E :=
  match f with
  | .Name x _ =>
    if odd x then none else
    if Γ.sc.names.lookup x = some .globalImplicit then
      match cEs rec Γ args with
      | none => match args with
        | [a, .Name T _] => if x = "isinstance" ∧ Γ.bts.contains x = true ∧ Γ.bts.contains T = true ∧ Γ.sc.names.lookup T = some .globalImplicit ∧ odd T = false ∧ isSt a = false then
            match tyOf T with
            | some T' => (rec Γ a).map fun a' => .pr (.ist T') [a']
            | none => none
          else none
        | [.Call (.Name y _) [a] [] _] =>
          if x = "list" ∧ Γ.bts.contains x = true ∧ Γ.bts.contains y = true ∧ Γ.sc.names.lookup y = some .globalImplicit ∧ odd y = false ∧ isSt a = false then
            if y = "enumerate" then (rec Γ a).map fun a' => .pl (atMut Γ pos) .enum [a']
            else if y = "range" then (rec Γ a).map fun a' => .pl (atMut Γ pos) .rng1 [a']
            else none
          else none
        | [.Call (.Name y _) [a, b] [] _] =>
          if x = "list" ∧ Γ.bts.contains x = true ∧ Γ.bts.contains y = true ∧ Γ.sc.names.lookup y = some .globalImplicit ∧ odd y = false ∧ isSt a = false ∧ isSt b = false ∧ y = "range" then
            match rec Γ a, rec Γ b with
            | some a', some b' => some (.pl (atMut Γ pos) .rng2 [a', b'])
            | _, _ => none
          else none
        | _ => none
      | some es =>
        if Γ.self = some x then some (.self es)
        else match Γ.fns.lookup x with
          | some fd => some (.call fd es)
          | none =>
            if Γ.bts.contains x = true then
              if x = "list" ∧ args.length = 1 then some (.pl (atMut Γ pos) .toL es)
              else if args.isEmpty then none
              else match bltOf x args.length with
                | some (_, p) => some (.pr p es)
                | none => none
            else none
    else none
  | .Attribute o m apos =>
    if notCall0 o && (apos.endLine == pos.line) then
      match rec Γ o, cEs rec Γ args with
      | some o', some es => if m = "append" ∧ args.length = 1 then some (.pm .append o' es) else if m = "pop" ∧ args.length = 0 then some (.pm .pop o' es) else if m = "index" ∧ args.length = 1 then some (.pm .index o' es) else none
      | _, _ => none
    else none
  | _ => none
where tyOf (T : Str) : Option String :=
  if T = "int" then some "int" else if T = "bool" then some "bool" else if T = "tuple" then some "tuple" else if T = "str" then some "str" else if T = "list" then some "list" else none
theorem tyOf_ok {T : Str} {T' : String} (h : cCall.tyOf T = some T') : bootBuiltins T = some (.type T') := by
  unfold cCall.tyOf at h
  split at h
  · rename_i e; cases h; rw [e]; decide +kernel
  split at h
  · rename_i e; cases h; rw [e]; decide +kernel
  split at h
  · rename_i e; cases h; rw [e]; decide +kernel
  split at h
  · rename_i e; cases h; rw [e]; decide +kernel
  split at h
  · rename_i e; cases h; rw [e]; decide +kernel
  · cases h
theorem ist_PE {a : E} {T : String} {Q : VK} (h : tD C W g (.pr (.ist T) [a]) σ H Q) : tCB (rIst C T) (tCons (tD C W g a) (tCons (tC (.ty T)) tNil)) σ H Q := by
  obtain ⟨ξ, ω, ρ, s, er, sr, h⟩ := op1_ok h
  refine ⟨ξ, ω, ρ, s, er, sr, h.mono fun d s' ω' H' _ e r k v rv => ?_⟩
  obtain ⟨ξ2, ω2, s2, d2, r2, sr2, hr, hp, fin⟩ := k v rv
  exact ⟨ξ2, ω2, s2, v, d2, r2, rfl, sr2, hr, hp, fin⟩
theorem cCall_ok {f : Expr} {args : List Expr} {pos : Pos} {e' : E} (R : RecOk C n g rec) (o : XOk C X Γ W n g) (h : cCall rec Γ f args pos = some e') : PE X (.Call f args [] pos) (tD C W g e') := by
  unfold cCall at h
  split at h
  · rename_i x p
    split at h
    · cases h
    rename_i hx
    split at h
    · rename_i hk
      have hg : Gl X x := gl_of o hk
      split at h
      · split at h
        · rename_i a T q hq
          split at h
          · rename_i hc
            obtain ⟨c1, c2, c3, c4, c5, c6⟩ := hc
            subst c1
            split at h
            · rename_i T' hT
              simp only [Option.map_eq_some_iff] at h
              obtain ⟨a', h1, rfl⟩ := h
              have hx5 : ¬ odd T = true := by rw [c5]; exact Bool.false_ne_true
              obtain ⟨d1, d2, d3⟩ := odd_of hx5
              have pT : PE X (.Name T q) (tC (.ty T')) := pe_bltn (v := .ty T') (gl_of o c4) (o.bts T (by simpa using c3)) (tyOf_ok hT) rfl d3 d1
              have pA : PA X [a, .Name T q] (tCons (tD C W g a') (tCons (tC (.ty T')) tNil)) := pa_cons (R X Γ W a a' o h1).1 (pa_cons pT pa_nil (star_cons rfl)) (star_cons c6)
              exact mono_PE (blt_call (b := .blt "isinstance") o hx hg (o.bts _ (by simpa using c2)) PyProof.Rows.boot_isinstance (c_ist o.K) pA (by simp only [List.all_cons, c6]; rfl)) fun σ H Q q => ist_PE q
            · cases h
          · cases h
        · rename_i y q a q2 hq
          split at h
          · rename_i hc
            obtain ⟨c1, c2, c3, c4, c5, c6⟩ := hc
            subst c1
            have hy5 : ¬ odd y = true := by rw [c5]; exact Bool.false_ne_true
            have gy := gl_of o c4
            have my := o.bts y (by simpa using c3)
            have ml := o.bts _ (by simpa using c2)
            split at h
            · rename_i ey
              subst ey
              simp only [Option.map_eq_some_iff] at h
              obtain ⟨a', h1, rfl⟩ := h
              exact mono_PE (pe_lstEn o.calm hg ml gy my (pa_cons (R X Γ W a a' o h1).1 pa_nil (star_cons c6)) (star_cons c6)) fun σ H Q q => lstEn_PE o.K q
            · split at h
              · rename_i ey
                subst ey
                simp only [Option.map_eq_some_iff] at h
                obtain ⟨a', h1, rfl⟩ := h
                exact mono_PE (pe_listRg o.calm hg ml (prg_1 gy my (R X Γ W a a' o h1).1 (star_cons c6))) fun σ H Q q => lstRg1_PE q
              · cases h
          · cases h
        · rename_i y q a b q2 hq
          split at h
          · rename_i hc
            obtain ⟨c1, c2, c3, c4, c5, c6, c7, c8⟩ := hc
            subst c1 c8
            have gy := gl_of o c4
            have my := o.bts _ (by simpa using c3)
            have ml := o.bts _ (by simpa using c2)
            split at h
            · rename_i a' b' h1 h2
              cases h
              exact mono_PE (pe_listRg o.calm hg ml (prg_2 gy my (R X Γ W a a' o h1).1 (R X Γ W b b' o h2).1 (star_cons c6) (star_cons c7) (star_any (by simp [c7])))) fun σ H Q q => lstRg2_PE q
            · cases h
          · cases h
        · cases h
      · rename_i es hes
        obtain ⟨pA, st, hl⟩ := cEs_ok R o hes
        split at h
        · rename_i hs
          cases h
          exact fn_call o hx hg (o.self x hs) pA st hl fun ρ s => rfl
        · split at h
          · rename_i fd hf
            cases h
            exact fn_call o hx hg (o.call x fd (lookup_mem hf)) pA st hl fun ρ s => rfl
          · split at h
            · rename_i hb
              have hm : X.mg x = none := o.bts x (by simpa using hb)
              split at h
              · rename_i hc
                obtain ⟨c1, c2⟩ := hc
                cases h
                cases args with
                | nil => cases c2
                | cons a as => exact mono_PE (blt_call (b := .ty "list") o hx hg hm (by rw [c1]; decide +kernel) (c_toL o.K) pA st) fun σ H Q q => argsL_ok q
              · split at h
                · cases h
                · rename_i hne
                  split at h
                  · rename_i b pr hbl
                    cases h
                    obtain ⟨b1, b2⟩ := bltOf_ok o hbl
                    cases args with
                    | nil => exact absurd rfl hne
                    | cons a as => exact mono_PE (blt_call o hx hg hm b1 b2 pA st) fun σ H Q q => args_ok q
                  · cases h
            · cases h
    · cases h
  · rename_i ob m apos
    split at h
    · rename_i hc
      simp only [Bool.and_eq_true] at hc
      split at h
      · rename_i o' es h1 h2
        obtain ⟨pA, st, hl⟩ := cEs_ok R o h2
        have pO := (R X Γ W ob o' o h1).1
        split at h
        · rename_i hm
          obtain ⟨m1, m2⟩ := hm
          subst m1
          cases h
          match args, m2 with
          | [a], _ =>
            have hsa : isSt a = false := by simpa using st
            refine ⟨fun pins sh σ H Q I q => (pe_bm PySem.F.plainAttrs_list PySem.F.slot_list_append PySem.F.type_list_append (r := rM C W σ .append) m_append pO pA (base_of hc.1) ?_ hc.2 (star_cons hsa) rfl).run pins sh σ H Q I (pm_PE q)⟩
            rw [star_cons hsa]
            rfl
        · split at h
          · rename_i hm
            obtain ⟨m1, m2⟩ := hm
            subst m1
            cases h
            match args, m2 with
            | [], _ =>
              have e0 : es = [] := List.eq_nil_of_length_eq_zero hl.symm
              subst e0
              refine ⟨fun pins sh σ H Q I q => (pe_bm0 PySem.F.plainAttrs_list PySem.F.slot_list_pop PySem.F.type_list_pop (r := rM C W σ .pop) m_pop pO (base_of hc.1) hc.2).run pins sh σ H Q I ?_⟩
              obtain ⟨ξ, ω, ρ, s, er, sr, q⟩ := pm_PE (X := X) q
              exact ⟨ξ, ω, ρ, s, er, sr, q.mono fun d s' ω' H' _ e r k v rv => ⟨(k v rv).1, nilA_ok (k v rv).2⟩⟩
          · split at h
            · rename_i hm
              obtain ⟨m1, m2⟩ := hm
              subst m1
              cases h
              match args, m2 with
              | [a], _ =>
                have hsa : isSt a = false := by simpa using st
                have hu : X.A.units + 65 < cLine := by have := o.hr.un; omega
                refine ⟨fun pins sh σ H Q I q => (pe_bm PySem.F.plainAttrs_list PySem.F.slot_list_index PySem.F.type_list_index (r := rM C W σ .index) (m_index o.K hu) pO pA (base_of hc.1) ?_ hc.2 (star_cons hsa) rfl).run pins sh σ H Q I (pm_PE q)⟩
                rw [star_cons hsa]
                rfl
            · cases h
      · cases h
    · cases h
  · cases h
def cStep (rec : Gm → Expr → Option E) (Γ : Gm) : Expr → Option E
  | .Constant c _ _ => (cConst c).map .lit
  | .Name x _ => cName Γ x
  | .BinOp a op b pos =>
    if atMut Γ pos then match op, rec Γ a, rec Γ b with
      | .Mult, some a', some b' => some (.pl true .mul [a', b'])
      | _, _, _ => none
    else match binPr op, rec Γ a, rec Γ b with
      | some p, some a', some b' => some (.pr p [a', b'])
      | _, _, _ => none
  | .UnaryOp .USub a _ => (rec Γ a).map fun a' => .pr .neg [a']
  | .UnaryOp .Not a _ => (rec Γ a).map .not_
  | .BoolOp op es _ => cBool rec Γ op es
  | .IfExp c a b _ => match rec Γ c, rec Γ a, rec Γ b with
    | some c', some a', some b' => some (.ite c' a' b')
    | _, _, _ => none
  | .Compare a [op] [b] _ => match op, b with
    | .Is, .Constant .none _ _ => (rec Γ a).map fun a' => .pr .isN [a']
    | .IsNot, .Constant .none _ _ => (rec Γ a).map fun a' => .pr .notN [a']
    | op, b => if notSet b then match isPr op, rec Γ a, rec Γ b with
        | some p, some a', some b' => some (.pr p [a', b'])
        | _, _, _ => none
      else none
  | .Compare a [op, op'] [b, c] _ => if notSet c then match cmpPr op, cmpPr op', rec Γ a, rec Γ b, rec Γ c with
      | some p, some q, some a', some b', some c' => some (.chain p q a' b' c')
      | _, _, _, _, _ => none
    else none
  | .Tuple es _ _ => if es.length ≤ 16777216 then (cEs rec Γ es).map .tup else none
  | .List es pos => if es.length ≤ 16777216 then (cEs rec Γ es).map (.lst (atMut Γ pos)) else none
  | .Subscript a (.Slice lo hi none _) pos => match rec Γ a, cPart rec Γ lo, cPart rec Γ hi with
    | some a', some (hl, l), some (hh, h) => some (.slc (atMut Γ pos) hl hh a' l h)
    | _, _, _ => none
  | .Subscript a i _ => if notSl i then match rec Γ a, rec Γ i with
      | some a', some i' => some (.pr .ix [a', i'])
      | _, _ => none
    else none
  | .ListComp elt gs scope pos => cComp rec Γ elt gs scope pos
  | .Call f args [] pos => cCall rec Γ f args pos
  | _ => none
where isPr (op : CmpOp) : Option Pr := match op with
  | .Is => some .isB
  | .IsNot => some .notB
  | op => cmpPr op
theorem isPr_ok {op : CmpOp} {p : Pr} (o : XOk C X Γ W n g) (h : cStep.isPr op = some p) : OpR X (compareOp op) (rP C p) ∧ boolPr p = true := by
  cases op <;> first
    | (cases h; exact ⟨v_isB, rfl⟩)
    | (cases h; exact ⟨v_notB, rfl⟩)
    | (have h' := h; simp only [cStep.isPr] at h'; exact ⟨cmpPr_ok o h', cmpPr_bool h'⟩)
theorem cStep_ok (R : RecOk C n g rec) : RecOk C n g (cStep rec) := by
  intro X Γ W e e' o h
  have pl : plainT e = true → PE X e (tD C W g e') → Both C X W g e e' := fun hp h => ⟨h, PT_of o h hp⟩
  unfold cStep at h
  split at h
  · -- constants
    simp only [Option.map_eq_some_iff] at h
    obtain ⟨l, h1, rfl⟩ := h
    exact pl rfl (const_PE h1)
  · exact pl rfl (name_PE o h)
  · -- a op b
    rename_i a op b pos
    split at h
    · split at h
      · rename_i a' b' h1 h2
        cases h
        exact pl rfl (mono_PE (pe_op v_lmul (R X Γ W a a' o h1).1 (R X Γ W b b' o h2).1) fun σ H Q q => lmul_ok q)
      · cases h
    · split at h
      · rename_i p a' b' h0 h1 h2
        cases h
        exact pl rfl (mono_PE (pe_op (binPr_ok o.K h0) (R X Γ W a a' o h1).1 (R X Γ W b b' o h2).1) fun σ H Q q => op2_ok q)
      · cases h
  · simp only [Option.map_eq_some_iff] at h
    obtain ⟨a', h1, rfl⟩ := h
    exact pl rfl (mono_PE (pe_un un_neg (R X Γ W _ a' o h1).1) fun σ H Q q => neg_PE q)
  · simp only [Option.map_eq_some_iff] at h
    obtain ⟨a', h1, rfl⟩ := h
    obtain ⟨p1, p2⟩ := R X Γ W _ a' o h1
    exact ⟨mono_PE (pe_notT p1) fun σ H Q q => not_PE o.K q, mono_PT (pt_not p2) fun σ H Q q => not_PT q⟩
  · obtain ⟨p1, p2⟩ := cBool_ok R o h
    exact ⟨p1, p2.pt⟩
  · split at h
    · rename_i c' a' b' h1 h2 h3
      cases h
      obtain ⟨c1, c2⟩ := R X Γ W _ c' o h1
      obtain ⟨a1, a2⟩ := R X Γ W _ a' o h2
      obtain ⟨b1, b2⟩ := R X Γ W _ b' o h3
      exact ⟨mono_PE (pe_ifExp c2 a1 b1) fun σ H Q q => iteE_PE q, mono_PT (pt_ifExp c2 a2 b2) fun σ H Q q => iteE_PT q⟩
    · cases h
  · -- a comparison
    rename_i a op b pos
    split at h
    · simp only [Option.map_eq_some_iff] at h
      obtain ⟨a', h1, rfl⟩ := h
      have p1 := (R X Γ W _ a' o h1).1
      exact ⟨mono_PE (pe_cmpR op_isN p1 pe_non rfl) fun σ H Q q => isN_PE (b := true) q, mono_PT (pt_cmpR op_isN p1 pe_non rfl) fun σ H Q q => tT_test rfl (fun σ H Q q => isN_PE (b := true) q) q⟩
    · simp only [Option.map_eq_some_iff] at h
      obtain ⟨a', h1, rfl⟩ := h
      have p1 := (R X Γ W _ a' o h1).1
      exact ⟨mono_PE (pe_cmpR op_notN p1 pe_non rfl) fun σ H Q q => isN_PE (b := false) q, mono_PT (pt_cmpR op_notN p1 pe_non rfl) fun σ H Q q => tT_test rfl (fun σ H Q q => isN_PE (b := false) q) q⟩
    · split at h
      · rename_i hs
        split at h
        · rename_i p a' b' h0 h1 h2
          cases h
          obtain ⟨o1, o2⟩ := isPr_ok o h0
          exact ⟨mono_PE (pe_cmpR o1 (R X Γ W _ a' o h1).1 (R X Γ W _ b' o h2).1 (notSet_mark hs)) fun σ H Q q => op2_ok q,
            mono_PT (pt_cmpR o1 (R X Γ W _ a' o h1).1 (R X Γ W _ b' o h2).1 (notSet_mark hs)) fun σ H Q q => tT_test o2 (fun σ H Q q => op2_ok q) q⟩
        · cases h
      · cases h
  · -- a chain
    split at h
    · rename_i hs
      split at h
      · rename_i p q a' b' c' h1 h2 h3 h4 h5
        cases h
        have a1 := (R X Γ W _ a' o h3).1
        have b1 := (R X Γ W _ b' o h4).1
        have c1 := (R X Γ W _ c' o h5).1
        exact ⟨mono_PE (pe_chain (cmpPr_ok o h1) (cmpPr_ok o h2) a1 b1 c1 (notSet_mark hs)) fun σ H Q q => chain_PE q,
          mono_PT (pt_chain (cmpPr_ok o h1) (cmpPr_ok o h2) a1 b1 c1 (notSet_mark hs)) fun σ H Q q => tT_bl (fun ρ s d s' => chain_bl (cmpPr_bool h2)) (fun σ H Q q => chain_PE q) q⟩
      · cases h
    · cases h
  · split at h
    · rename_i hz
      simp only [Option.map_eq_some_iff] at h
      obtain ⟨es, h1, rfl⟩ := h
      obtain ⟨pA, st, hl⟩ := cEs_ok R o h1
      exact pl rfl (mono_PE (pe_tup pA) fun σ H Q q => tup_ok q (by rw [← hl, sizeLine_eq]; exact hz))
    · cases h
  · split at h
    · rename_i hz
      simp only [Option.map_eq_some_iff] at h
      obtain ⟨es, h1, rfl⟩ := h
      obtain ⟨pA, st, hl⟩ := cEs_ok R o h1
      exact pl rfl (mono_PE (pe_lst pA) fun σ H Q q => lst_ok q (by rw [← hl, sizeLine_eq]; exact hz))
    · cases h
  · split at h
    · rename_i a' hl l hh hx h1 h2 h3
      cases h
      obtain ⟨l1, l2⟩ := cPart_ok R o h2
      obtain ⟨u1, u2⟩ := cPart_ok R o h3
      have sl : ∀ m : Bool, SlR X (fun x l u H Q => if m then rSlcL C x l u H Q else rSlcP C x l u H Q) := by
        intro m
        cases m with
        | true => exact sl_L
        | false => exact sl_P o.K
      exact pl rfl (mono_PE (pe_slice (sl _) (R X Γ W _ a' o h1).1 l1 u1) fun σ H Q q => slc_PE l2 u2 q)
    · cases h
  · split at h
    · rename_i hs
      split at h
      · rename_i a' i' h1 h2
        cases h
        exact pl rfl (mono_PE (pe_ix (v_ix o.K) (R X Γ W _ a' o h1).1 (R X Γ W _ i' o h2).1 (notSl_ix hs)) fun σ H Q q => op2_ok q)
      · cases h
    · cases h
  · obtain ⟨tg, iter, ifs, own, t, it, c, el, m, rfl, L, rfl⟩ := cComp_ok R o h
    exact pl rfl (lc_PE o L)
  · exact pl rfl (cCall_ok R o h)
  · cases h
def cE : Nat → Gm → Expr → Option E
  | 0 => fun _ _ => none
  | k + 1 => cStep (cE k)
theorem cE_ok : ∀ k : Nat, RecOk C n g (cE k)
  | 0 => fun _ _ _ _ _ _ h => nomatch h
  | k + 1 => cStep_ok (cE_ok k)
end
end BS

/-! Core13: statements of the text -/
namespace BS
open PySem PySem.Spec PyProof.Rows L2

/-! small facts about stores -/
def notComp : Expr → Bool
  | .ListComp .. | .SetComp .. | .DictComp .. => false
  | _ => true
def isName : Expr → Bool
  | .Name .. => true
  | _ => false
theorem sw_plain {e : Expr} {t : Option Expr} {l : Nat} {env : PySem.Env} (h : notComp e = true) : swapsWith e t l env = pure false := by
  cases e <;> first | rfl | cases h
theorem sw_other {e t : Expr} {l : Nat} {env : PySem.Env} (h : isName t = false) : swapsWith e (some t) l env = pure false := by
  cases e <;> first | rfl | (cases t <;> first | rfl | cases h)
theorem sws_plain {e t : Expr} {l : Nat} {env : PySem.Env} (h : notComp e = true) : swapsWithSole [t] e l env = pure false := sw_plain h
theorem sws_other {e t : Expr} {l : Nat} {env : PySem.Env} (h : isName t = false) : swapsWithSole [t] e l env = pure false := sw_other h
theorem ss_plain {t e : Expr} {env : PySem.Env} (h : isTup e = false) : swappedStores [t] e env = pure none := by
  unfold swappedStores
  split
  · rename_i ts vs hm
    exfalso
    split at hm
    · cases h
    · cases h
    · cases hm
  · rfl
theorem ss_sub {o i e : Expr} {p : Pos} {env : PySem.Env} : swappedStores [.Subscript o i p] e env = pure none := by
  cases e <;> rfl
theorem ae_one {t : Expr} {env : PySem.Env} (h : isSt t = false) : (assignEach [t] env).map (·.2) = [assign t env] := by
  rw [asg_star h]; rfl
def parB (es : List Expr) : Bool := !(es.any isSt) && !(es.all (foldedForSure 8)) && !(es.all (constantsAlone 8))
theorem st_any {es : List Expr} : (es.any fun | .Starred .. => true | _ => false) = es.any isSt := by
  induction es with
  | nil => rfl
  | cons e es ih => cases e <;> simp [isSt, ih]
def nameAt (env : PySem.Env) (line : Nat) : Expr → Option Str
  | .Name id pos => if env.kindOf id == some NameKind.local && pos.line == line then some id else none
  | _ => none
theorem ss_gen {ts vs : List Expr} {names : List Str} {kt k2 : Nat} {pt pt2 : Pos} {env : PySem.Env} (c1 : (!(ts.length == 2 || ts.length == 3) || vs.length != ts.length || env.blockKind != .function) = false) (hp : parB vs = true)
    (hn : ts.filterMap (nameAt env ((ts.head?.map (·.pos.line)).getD 0)) = names) (c3 : (names.length != ts.length || names.eraseDups.length != names.length) = false) :
    swappedStores [.Tuple ts kt pt] (.Tuple vs k2 pt2) env = pure (some names) := by
  simp only [parB, Bool.and_eq_true, Bool.not_eq_true'] at hp
  obtain ⟨⟨h1, h2⟩, h3⟩ := hp
  unfold swappedStores
  dsimp only
  refine (if_neg (by rw [c1]; exact Bool.false_ne_true)).trans ?_
  refine (if_neg ?_).trans ?_
  · rw [show (vs.any _) = vs.any isSt from congrArg (fun f => vs.any f) (funext fun e => by cases e <;> rfl), h1]
    exact Bool.false_ne_true
  generalize hm : List.filterMap _ ts = ns
  have e : ns = names := by
    rw [← hm, ← hn]
    exact congrArg (fun f => List.filterMap f ts) (funext fun e => by cases e <;> rfl)
  subst e
  refine (if_neg (by rw [c3]; exact Bool.false_ne_true)).trans ?_
  refine (if_neg (by rw [h2]; exact Bool.false_ne_true)).trans ?_
  exact if_neg (by rw [h3]; exact Bool.false_ne_true)
theorem dups2 {x y : Str} (h : x ≠ y) : [x, y].eraseDups = [x, y] := by
  have e : (y == x) = false := by simpa using Ne.symm h
  have one : [y].eraseDups = [y] := by rw [List.eraseDups_cons]; rfl
  rw [List.eraseDups_cons]
  simp [e, Ne.symm h, one]
theorem dups3 {x y z : Str} (h : x ≠ y) (h2 : x ≠ z) (h3 : y ≠ z) : [x, y, z].eraseDups = [x, y, z] := by
  rw [List.eraseDups_cons]
  have : List.filter (fun b => !b == x) [y, z] = [y, z] := by simp [Ne.symm h, Ne.symm h2]
  rw [this, dups2 h3]
theorem nameAt_ok {env : PySem.Env} {l : Nat} {x : Str} {p : Pos} (h : env.scope.names.lookup x = some .local) (hl : (p.line == l) = true) : nameAt env l (.Name x p) = some x := by
  have k : env.kindOf x = some .local := h
  unfold nameAt
  simp only
  rw [k, hl]
  rfl
theorem ss_two {x y : Str} {px py pt : Pos} {a b : Expr} {kt k2 : Nat} {pt2 : Pos} {env : PySem.Env} (hk : env.scope.kind = .function) (hx : env.scope.names.lookup x = some .local) (hy : env.scope.names.lookup y = some .local)
    (hl : (py.line == px.line) = true) (hxy : x ≠ y) (hp : parB [a, b] = true) :
    swappedStores [.Tuple [.Name x px, .Name y py] kt pt] (.Tuple [a, b] k2 pt2) env = pure (some [x, y]) := by
  have hb : env.blockKind = .function := by unfold Env.blockKind; rw [hk]; rfl
  refine ss_gen (by rw [hb]; rfl) hp ?_ (by rw [dups2 hxy]; rfl)
  show List.filterMap (nameAt env px.line) _ = _
  rw [List.filterMap_cons_some (nameAt_ok hx (beq_self_eq_true _)), List.filterMap_cons_some (nameAt_ok hy hl)]
  rfl
theorem ss_three {x y z : Str} {px py pz pt : Pos} {a b c : Expr} {kt k2 : Nat} {pt2 : Pos} {env : PySem.Env} (hk : env.scope.kind = .function) (hx : env.scope.names.lookup x = some .local) (hy : env.scope.names.lookup y = some .local) (hz : env.scope.names.lookup z = some .local)
    (hl : (py.line == px.line) = true) (hl2 : (pz.line == px.line) = true) (hxy : x ≠ y) (hxz : x ≠ z) (hyz : y ≠ z) (hp : parB [a, b, c] = true) :
    swappedStores [.Tuple [.Name x px, .Name y py, .Name z pz] kt pt] (.Tuple [a, b, c] k2 pt2) env = pure (some [x, y, z]) := by
  have hb : env.blockKind = .function := by unfold Env.blockKind; rw [hk]; rfl
  refine ss_gen (by rw [hb]; rfl) hp ?_ (by rw [dups3 hxy hxz hyz]; rfl)
  show List.filterMap (nameAt env px.line) _ = _
  rw [List.filterMap_cons_some (nameAt_ok hx (beq_self_eq_true _)), List.filterMap_cons_some (nameAt_ok hy hl), List.filterMap_cons_some (nameAt_ok hz hl2)]
  rfl
theorem ss_folded {ts es : List Expr} {kt k2 : Nat} {pt pt2 : Pos} {env : PySem.Env} (hf : es.all (foldedForSure 8) = true) : swappedStores [.Tuple ts kt pt] (.Tuple es k2 pt2) env = pure none := by
  unfold swappedStores
  dsimp only
  split
  · rfl
  · split
    · rfl
    · split
      · rfl
      · rfl
section
variable {C : RC} {W : WX} {g : G} {X : Cx} {Γ : Gm} {n : Nat} {rec : Gm → Expr → Option E}
/-! assignments -/
def locIx (Γ : Gm) (x : Str) : Option Nat := if Γ.sc.names.lookup x = some .local then ixOf x Γ.N else none
theorem locIx_ok {x : Str} {i : Nat} (o : XOk C X Γ W n g) (h : locIx Γ x = some i) : X.N[i]? = some x ∧ X.env.scope.names.lookup x = some .local := by
  unfold locIx at h
  split at h
  · rename_i hk
    exact ⟨by rw [o.N]; exact ixOf_ok h, by rw [o.sc]; exact hk⟩
  · cases h
theorem ix_ne {N : List Str} {i j : Nat} {x y : Str} (hi : N[i]? = some x) (hj : N[j]? = some y) (h : x ≠ y) : i ≠ j := fun e => by
  subst e
  rw [hi] at hj
  exact h (Option.some.inj hj)
/-- any target that is no name, any value that is no tuple; a name, a value that is no comprehension -/
def cAsg (rec : Gm → Expr → Option E) (Γ : Gm) (t e : Expr) (pos : Pos) : Option S :=
  match t with
  | .Name y py => match e with
    | .ListComp elt gs scope cpos =>
      if (py.line == cpos.line) && !(scope.names.any fun (n, k) => n == y && (k == .local || k == .cell)) && (Γ.sc.kind == .function) then
        match locIx Γ y, cComp rec Γ elt gs scope cpos with
        | some i, some e' => some (.set (.v i) e')
        | _, _ => none
      else none
    | e => if notComp e then match cTg Γ 1 t, rec Γ e with
        | some t', some e' => some (.set t' e')
        | _, _ => none
      else none
  | .Tuple ts _ _ => match e with
    | .Tuple es _ _ =>
      if parB es && (Γ.sc.kind == .function) then
        match ts, es with
        | [.Name x px, .Name y py], [_, _] => if (py.line == px.line) && (x != y) then match locIx Γ x, locIx Γ y, cEs rec Γ es with
            | some i, some j, some es' => some (.par [i, j] es')
            | _, _, _ => none
          else none
        | [.Name x px, .Name y py, .Name z pz], [_, _, _] => if (py.line == px.line) && (pz.line == px.line) && (x != y) && (x != z) && (y != z) then match locIx Γ x, locIx Γ y, locIx Γ z, cEs rec Γ es with
            | some i, some j, some l, some es' => some (.par [i, j, l] es')
            | _, _, _, _ => none
          else none
        | _, _ => none
      else if es.all (foldedForSure 8) then match cTg Γ 6 t, rec Γ e with
        | some t', some e' => some (.set t' e')
        | _, _ => none
      else none
    | e => if notComp e then match cTg Γ 6 t, rec Γ e with
        | some t', some e' => some (.set t' e')
        | _, _ => none
      else none
  | .Subscript o i _ => if notSl i && notComp e then match rec Γ o, rec Γ i, rec Γ e with
      | some o', some i', some e' => some (.setIx o' i' e')
      | _, _, _ => none
    else none
  | _ => none
theorem sk_of {Γ : Gm} (o : XOk C X Γ W n g) (h : (Γ.sc.kind == ScopeKind.function) = true) : X.env.scope.kind = .function := by
  rw [o.sc]; simpa using h
theorem two_ok {i j : Nat} {es : List E} {D : Ends} {σ : L2.St} {H : Hp} (h : tS C W g (.par [i, j] es) D σ H) : tPar i j (tDs C W g es) D σ H := by
  have key : ∀ (vs : List V) (H1 : Hp), (∃ ξ ω s ds ρ ρ', SRel C ξ ω H1 s ∧ Reps C ξ ω H1 vs ds ∧ ERel C ξ ω H1 σ ρ ∧ asgs ([i, j].map Tg.v) ds ρ = some ρ' ∧ ∀ σ', ERel C ξ ω H1 σ' ρ' → D.nx σ' H1) → ∃ v w, vs = [v, w] ∧ D.nx ((σ.set i (some v)).set j (some w)) H1 := by
    rintro vs H1 ⟨ξ, ω, s, ds, ρ, ρ', sr, rv, er, ha, q⟩
    match ds, ha with
    | [d, e], ha =>
      simp only [List.map, asgs, asg, Option.some.injEq] at ha
      subst ha
      obtain ⟨v, w, rfl, h1, h2⟩ := rv.two
      exact ⟨v, w, rfl, q _ ((er.set h1).set h2)⟩
    | [], ha => simp [asgs] at ha
    | [_], ha => simp [asgs, asg] at ha
    | _ :: _ :: _ :: _, ha => simp [asgs, asg] at ha
  obtain ⟨ξ, ω, ρ, s, er, sr, h⟩ := par_ok h
  exact ⟨ξ, ω, ρ, s, er, sr, h.mono fun ds s' ω' H' _ e r k vs rv => key vs H' (k vs rv)⟩
theorem Reps.three {ξ : Addr → Prop} {ω : List Addr} {H : Hp} {vs : List V} {d e f : D} (h : Reps C ξ ω H vs [d, e, f]) : ∃ v w u, vs = [v, w, u] ∧ Rep C ξ ω H v d ∧ Rep C ξ ω H w e ∧ Rep C ξ ω H u f := by
  cases h with
  | cons h q =>
    obtain ⟨w, u, rfl, h1, h2⟩ := q.two
    exact ⟨_, w, u, rfl, h, h1, h2⟩
theorem three_ok {i j l : Nat} {es : List E} {D : Ends} {σ : L2.St} {H : Hp} (h : tS C W g (.par [i, j, l] es) D σ H) : tPar3 i j l (tDs C W g es) D σ H := by
  have key : ∀ (vs : List V) (H1 : Hp), (∃ ξ ω s ds ρ ρ', SRel C ξ ω H1 s ∧ Reps C ξ ω H1 vs ds ∧ ERel C ξ ω H1 σ ρ ∧ asgs ([i, j, l].map Tg.v) ds ρ = some ρ' ∧ ∀ σ', ERel C ξ ω H1 σ' ρ' → D.nx σ' H1) → ∃ u v w, vs = [u, v, w] ∧ D.nx (((σ.set i (some u)).set j (some v)).set l (some w)) H1 := by
    rintro vs H1 ⟨ξ, ω, s, ds, ρ, ρ', sr, rv, er, ha, q⟩
    match ds, ha with
    | [d, e, f], ha =>
      simp only [List.map, asgs, asg, Option.some.injEq] at ha
      subst ha
      obtain ⟨v, w, u, rfl, h1, h2, h3⟩ := rv.three
      exact ⟨v, w, u, rfl, q _ (((er.set h1).set h2).set h3)⟩
    | [], ha => simp [asgs] at ha
    | [_], ha => simp [asgs, asg] at ha
    | [_, _], ha => simp [asgs, asg] at ha
    | _ :: _ :: _ :: _ :: _, ha => simp [asgs, asg] at ha
  obtain ⟨ξ, ω, ρ, s, er, sr, h⟩ := par_ok h
  exact ⟨ξ, ω, ρ, s, er, sr, h.mono fun ds s' ω' H' _ e r k vs rv => key vs H' (k vs rv)⟩
theorem cAsg_ok {t e : Expr} {pos : Pos} {s : S} (R : RecOk C n g rec) (o : XOk C X Γ W n g) (h : cAsg rec Γ t e pos = some s) : PS X (.Assign [t] e pos) (tS C W g s) := by
  have plain : ∀ {k t' e'}, isTup e = false → notComp e = true → isSt t = false → cTg Γ k t = some t' → rec Γ e = some e' → PS X (.Assign [t] e pos) (tS C W g (.set t' e')) := fun {k t' e'} h1 h2 h3 h4 h5 =>
    mono_PS (ps_asg (R X Γ W e e' o h5).1 (cTg_ok o k t t' h4) (sws_plain h2) (ss_plain h1) (ae_one h3)) fun D σ H q => set_ok q
  unfold cAsg at h
  split at h
  · rename_i y py
    split at h
    · rename_i elt gs scope cpos
      split at h
      · rename_i hc
        simp only [Bool.and_eq_true, Bool.not_eq_true'] at hc
        split at h
        · rename_i i e' h1 h2
          cases h
          obtain ⟨l1, l2⟩ := locIx_ok o h1
          obtain ⟨tg, iter, ifs, own, t', it, c, el, m, rfl, L, rfl⟩ := cComp_ok R o h2
          exact mono_PS (ps_setLc o.calm o.hN l1 l2 (sw_true (sk_of o hc.2) l2 hc.1.1 hc.1.2) L.hi L.ok L.hg L.ht L.he L.hs) fun D σ H q => setN_ok (fun σ H Q q => comp_ok L.hown q) q
        · cases h
      · cases h
    · split at h
      · rename_i hc
        split at h
        · rename_i t' e' h1 h2
          cases h
          have p := cTg_ok o 1 _ t' h1
          refine mono_PS (t := tAsg (tD C W g e') (tTg C t')) ⟨fun pins s σ H D I q => ?_⟩ fun D σ H q => set_ok q
          refine wpAny_Assign_stores (thn ((R X Γ W e e' o h2).1.run pins s σ H _ I q) fun v s1 ⟨x, H1, I1, r1, q1⟩ => ?_) (sws_plain hc) (by cases e <;> rfl)
          rw [ae_one rfl]
          exact thn (p.run pins s1 σ H1 x v _ I1 r1 q1) fun _ s2 q => q
        · cases h
      · cases h
  · rename_i ts kt pt
    split at h
    · rename_i es k2 pt2
      split at h
      · rename_i hc
        simp only [Bool.and_eq_true] at hc
        have hk := sk_of o hc.2
        split at h
        · rename_i x px y py a b
          split at h
          · rename_i hl
            simp only [Bool.and_eq_true, bne_iff_ne, ne_eq] at hl
            split at h
            · rename_i i j es' h1 h2 h3
              cases h
              obtain ⟨i1, i2⟩ := locIx_ok o h1
              obtain ⟨j1, j2⟩ := locIx_ok o h2
              exact mono_PS (ps_par o.calm o.hN i1 j1 (ix_ne i1 j1 hl.2) i2 j2 (cEs_ok R o h3).1 (ss_two hk i2 j2 hl.1 hl.2 hc.1) (sws_other rfl)) fun D σ H q => two_ok q
            · cases h
          · cases h
        · rename_i x px y py z pz a b c
          split at h
          · rename_i hl
            simp only [Bool.and_eq_true, bne_iff_ne, ne_eq] at hl
            obtain ⟨⟨⟨⟨l1, l2⟩, l3⟩, l4⟩, l5⟩ := hl
            split at h
            · rename_i i j l es' h1 h2 h2' h3
              cases h
              obtain ⟨i1, i2⟩ := locIx_ok o h1
              obtain ⟨j1, j2⟩ := locIx_ok o h2
              obtain ⟨z1, z2⟩ := locIx_ok o h2'
              exact mono_PS (ps_par3 o.calm o.hN i1 j1 z1 (ix_ne i1 j1 l3) (ix_ne i1 z1 l4) (ix_ne j1 z1 l5) i2 j2 z2 (cEs_ok R o h3).1 (ss_three hk i2 j2 z2 l1 l2 l3 l4 l5 hc.1) (sws_other rfl)) fun D σ H q => three_ok q
            · cases h
          · cases h
        · cases h
      · split at h
        · rename_i hf
          split at h
          · rename_i t' e' h1 h2
            cases h
            exact mono_PS (ps_asg (R X Γ W _ e' o h2).1 (cTg_ok o 6 _ t' h1) (sws_other rfl) (ss_folded hf) (ae_one rfl)) fun D σ H q => set_ok q
          · cases h
        · cases h
    · rename_i hne
      split at h
      · rename_i hc
        split at h
        · rename_i t' e' h1 h2
          cases h
          have ht : isTup e = false := by cases e <;> first | rfl | exact absurd rfl (hne _ _ _)
          exact plain ht hc rfl h1 h2
        · cases h
      · cases h
  · rename_i ob i p
    split at h
    · rename_i hc
      simp only [Bool.and_eq_true] at hc
      split at h
      · rename_i o' i' e' h1 h2 h3
        cases h
        have ha : ∀ v, assign (.Subscript ob i p) X.env v = (do
            let ov ← holding [v] (eval ob X.env)
            let iv ← holding [v, ov] (eval i X.env)
            standAt p
            holding [v, ov, iv] (setItem ov iv v)
            release [v, ov, iv] []) := by
          have hi := hc.1
          cases i <;> first | (intro v; rfl) | cases hi
        exact mono_PS (ps_asg (R X Γ W e e' o h3).1 (pg_sub (R X Γ W ob o' o h1).1 (R X Γ W i i' o h2).1 set_P ha) (sws_plain hc.2) ss_sub (ae_one rfl)) fun D σ H q => setIx_ok q
      · cases h
    · cases h
  · cases h
/-! statements -/
def cS (rec : Gm → Expr → Option E) (Γ : Gm) : Nat → Stmt → Option S
  | 0, _ => none
  | _ + 1, .Pass _ => some .pass
  | _ + 1, .Break _ => some .brk
  | _ + 1, .Continue _ => some .cont
  | _ + 1, .Raise _ _ _ => some .never
  | _ + 1, .Expr e _ => if notComp e then (rec Γ e).map .ex else none
  | _ + 1, .Return none _ => some (.ret (.lit .non))
  | _ + 1, .Return (some e) _ => (rec Γ e).map .ret
  | _ + 1, .Assign [t] e pos => cAsg rec Γ t e pos
  | k + 1, .If c a b _ => match rec Γ c, cSs k a, cSs k b with
    | some c', some a', some b' => some (.ite c' a' b')
    | _, _, _ => none
  | k + 1, .For tg it b [] _ => match cTg Γ 6 tg, cI rec Γ tg it, cSs k b with
    | some t', some it', some b' => if notSet it then some (.for_ t' it' b') else none
    | _, _, _ => none
  | k + 1, .While c b [] _ => match rec Γ c, cSs k b with
    | some c', some b' => some (.while_ c' b')
    | _, _ => none
  | _ + 1, _ => none
where cSs (k : Nat) : List Stmt → Option (List S)
  | [] => some []
  | t :: ts => match cS rec Γ k t, cSs k ts with
    | some t', some ts' => some (t' :: ts')
    | _, _ => none
theorem cS_ok (R : RecOk C n g rec) (o : XOk C X Γ W n g) : ∀ (k : Nat), (∀ (t : Stmt) (t' : S), cS rec Γ k t = some t' → PS X t (tS C W g t')) ∧ (∀ (ts : List Stmt) (ts' : List S), cS.cSs rec Γ k ts = some ts' → PSs X ts (tSs C W g ts')) := by
  intro k
  induction k with
  | zero =>
    refine ⟨fun t t' h => by simp [cS] at h, fun ts ts' h => ?_⟩
    cases ts with
    | nil => simp only [cS.cSs, Option.some.injEq] at h; subst h; exact mono_PSs pss_nil fun D σ H q => nil_ok q
    | cons t ts => simp [cS.cSs, cS] at h
  | succ k ih =>
    have one : ∀ (t : Stmt) (t' : S), cS rec Γ (k + 1) t = some t' → PS X t (tS C W g t') := by
      intro t t' h
      unfold cS at h
      split at h
      · rename_i e; exact absurd e (Nat.succ_ne_zero k)
      · cases h; exact mono_PS ps_pass fun D σ H q => pass_ok q
      · cases h; exact mono_PS ps_break fun D σ H q => brk_ok q
      · cases h; exact mono_PS ps_continue fun D σ H q => cont_ok q
      · cases h; exact mono_PS ps_never fun D σ H q => never_ok q
      · split at h
        · rename_i e pos hc
          simp only [Option.map_eq_some_iff] at h
          obtain ⟨e', h1, rfl⟩ := h
          exact mono_PS (ps_expr (R X Γ W _ e' o h1).1 (sw_plain hc)) fun D σ H q => ex_ok q
        · cases h
      · cases h
        refine mono_PS ps_retN fun D σ H q => ?_
        obtain ⟨ξ, ω, ρ, s, er, sr, q⟩ := q
        exact q .non ω H Ext.refl sr .non
      · simp only [Option.map_eq_some_iff] at h
        obtain ⟨e', h1, rfl⟩ := h
        exact mono_PS (ps_ret (R X Γ W _ e' o h1).1) fun D σ H q => ret_ok q
      · exact cAsg_ok R o h
      · split at h
        · rename_i k' c a b pos hk o1 o2 o3 e' a' b' h1 h2 h3
          cases h
          cases hk
          exact mono_PS (ps_if (R X Γ W _ _ o h1).2 (ih.2 _ _ h2) (ih.2 _ _ h3)) fun D σ H q => ite_ok q
        · cases h
      · split at h
        · rename_i k' tg it b pos hk o1 o2 o3 t' it' b' h1 h2 h3
          cases hk
          split at h
          · rename_i hs
            cases h
            exact mono_PS (ps_for o.pass o.calm (cI_ok R o h2) (cTg_ok o 6 _ _ h1) (ih.2 _ _ h3) (notSet_fold hs)) fun D σ H q => for_ok q
          · cases h
        · cases h
      · split at h
        · rename_i k' c b pos hk o1 o2 c' b' h1 h2
          cases hk
          cases h
          exact mono_PS (ps_while o.pass (R X Γ W _ _ o h1).2 (ih.2 _ _ h2)) fun D σ H q => while_ok q
        · cases h
      · cases h
    refine ⟨one, fun ts => ?_⟩
    induction ts with
    | nil => intro ts' h; simp only [cS.cSs, Option.some.injEq] at h; subst h; exact mono_PSs pss_nil fun D σ H q => nil_ok q
    | cons t ts iht =>
      intro ts' h
      simp only [cS.cSs] at h
      split at h
      · rename_i t' ts1 h1 h2
        cases h
        exact mono_PSs (pss_cons (one t t' h1) (iht ts1 h2)) fun D σ H q => seq_ok q
      · cases h
end
end BS

/-! Core14: functions, the whole module -/
namespace BS
open PySem PySem.Spec PyProof.Rows L2

/-- one function of the text: its name, its def, its parameters, all its names, what it is in the small language -/
structure Ent where
  x : Str
  st : Stmt
  ps : List Str
  N : List Str
  fd : FD
structure Md where
  ents : List Ent
  gls : List (Str × Lit)
  gts : List (Str × List Lit)
  bts : List Str
  muts : List (Nat × Nat)
def Md.fns (M : Md) : List (Str × FD) := M.ents.map fun e => (e.x, e.fd)
def Md.gm (M : Md) (e : Ent) : Gm := ⟨e.N, defScope e.st, none, M.fns, M.gls, M.gts, M.bts, some e.x, M.muts⟩
def compB2 (M : Md) (e : Ent) : Option FD := (cS.cSs (cE 40) (M.gm e) 60 (defBody e.st)).map (FD.mk e.x e.ps.length e.N.length)
structure EntOk (M : Md) (e : Ent) : Prop where
  sc : FnScope e.N e.ps (defScope e.st)
  bd : ∀ (kV doc pm : Value) (an : Option Addr) (cdv ct : Value) (us : List Value), us.length = e.ps.length → bindArgs (PySem.W.fnOf e.x e.x (defArgs e.st) (defBody e.st) (defScope e.st) .none kV doc pm an cdv ct) ⟨us, []⟩ = pure (e.ps.zip us)
  co : compB2 M e = some e.fd
def FnAt (C : RC) (P : Program) (w : World) (base : Heap) (n : Nat) (x : Str) (F : List D → Sto → Out D) : Prop :=
  ∃ (f : Addr) (fd : FuncData) (ps : List Str), C.mg x = some (.ref f) ∧ PySem.W.keepIn C.K (.ref f) = true ∧ Binds C.K fd ps [] ∧ FnOk P w C.K C.mg base (CX P w) n f fd ps (spD C ps.length F) ∧ ∀ ds s, F ds s ≠ .no → ds.length = ps.length
structure MdOk (C : RC) (M : Md) : Prop where
  fns : C.fns = M.fns
  fn : ∀ e ∈ M.ents, ∃ (f : Addr) (fd : FuncData), C.mg e.x = some (.ref f) ∧ FunD C.K e.x e.x (defArgs e.st) (defBody e.st) (defScope e.st) [] [] f fd
  bts : ∀ x ∈ M.bts, C.mg x = none
  gls : ∀ x l, (x, l) ∈ M.gls → ∃ u, C.mg x = some u ∧ RelV (litV l) u
  gts : ∀ x ls, (x, ls) ∈ M.gts → ∃ (a : Addr) (o : Obj) (its : Array Value) (k : Nat), C.mg x = some (.ref a) ∧ C.K.lookup a = some o ∧ o.cls = .type "tuple" ∧ o.data = .seq its k ∧ its.size ≤ sizeLine ∧ Vals (ls.map litV) its.toList
theorem PO.no_ {C : RC} {ξ : Addr → Prop} {ω : List Addr} {H : Hp} {σ : L2.St} {W : WX} {K : D → Sto → List Addr → Hp → Prop} (h : PO C ξ ω H σ W .no K) : False := h
def FD.np : FD → Nat
  | .mk _ np _ _ => np
theorem callN_len {W n : Nat} {fd : FD} {ds : List D} {s : Sto} (h : callN W n fd ds s ≠ .no) : ds.length = fd.np := by
  cases n with
  | zero => exact absurd (by cases fd; rfl) h
  | succ n =>
    cases fd with
    | mk x np ns body =>
      simp only [callN] at h
      split at h
      · assumption
      · exact absurd rfl h
theorem start_rel {C : RC} {ξ : Addr → Prop} {ω : List Addr} {H : Hp} {vs : List V} {ds : List D} {N : List Str} (h : Reps C ξ ω H vs ds) : ERel C ξ ω H (L2.start N vs) (ds.map some ++ List.replicate (N.length - ds.length) none) := by
  have hl := h.length
  refine ⟨by unfold L2.start; simp [hl], fun i d e => ?_⟩
  unfold L2.start
  by_cases hi : i < ds.length
  · rw [List.getElem?_append_left (by simpa using hi), List.getElem?_map] at e
    cases q : ds[i]? with
    | none => rw [q] at e; cases e
    | some d' =>
      rw [q] at e
      cases e
      obtain ⟨v, h1, h2⟩ := h.get q
      refine ⟨v, ?_, h2⟩
      rw [List.getElem?_append_left (by simp [hl]; exact hi), List.getElem?_map, h1]
      rfl
  · rw [List.getElem?_append_right (by simpa using hi)] at e
    have := List.mem_of_getElem? e
    rw [List.mem_replicate] at this
    cases this.2
section
variable {C : RC} {M : Md} {P : Program} {w : World} {base : Heap} {W : Nat}
/-- as fn_all, for the def's own object -/
theorem fnOk_at_ (hM : MdOk C M) (hE : ∀ e ∈ M.ents, EntOk M e) (n : Nat) (ih : ∀ e ∈ M.ents, FnAt C P w base n e.x (callN W n e.fd)) {e : Ent} (he : e ∈ M.ents) {f : Addr} {fd : FuncData} (F : FunD C.K e.x e.x (defArgs e.st) (defBody e.st) (defScope e.st) [] [] f fd) :
    FnOk P w C.K C.mg base (L2.CX P w) (n + 1) f fd e.ps (spD C e.ps.length (callN W (n + 1) e.fd)) := by
  obtain ⟨S, bd, co⟩ := hE e he
  unfold compB2 at co
  simp only [Option.map_eq_some_iff] at co
  obtain ⟨body, hbody, hfd⟩ := co
  refine FunD.ok F S (fun vs H Q E h => h.1) fun cdv A outer s H vs Q E hr h => ?_
  refine ⟨tSs C (fun cls d _ H => E cls d H) ⟨callN W n, callN W n e.fd, W⟩ body, ?_, ?_⟩
  · refine (cS_ok (Γ := M.gm e) (n := n) (cE_ok 40) ?_ 60).2 _ _ hbody
    exact {
      N := rfl
      nd := S.nd
      sc := rfl
      fnB := fun _ => rfl
      calm := rfl
      hr := hr
      tk := takes_of (E₁ := fun e' s'' => L2.CX P w outer H s E e' s'') rfl rfl rfl rfl
      K := rfl
      mg := rfl
      fns := hM.fns
      call := fun x fd hx => by
        obtain ⟨e', he', q⟩ := List.mem_map.mp hx
        cases q
        exact ih e' he'
      self := fun x hx => by
        cases hx
        exact ih e he
      bts := hM.bts
      gls := hM.gls
      gts := hM.gts
      pass := passes_of (K := fun e s'' => L2.CX P w outer H s E e s'') (E₁ := fun e' s'' => L2.CX P w outer H s E e' s'') rfl }
  · obtain ⟨hl, ξ, ω, s', ds, hv, sr, q⟩ := h
    refine ⟨ξ, ω, _, s', start_rel hv, sr, ?_⟩
    rw [← hfd] at q ⊢
    simp only [callN] at q
    have hd : ds.length = e.ps.length := by rw [← hv.length]; exact hl
    rw [if_pos hd] at q
    cases ho : evSs ⟨callN W n, callN W n (.mk e.x e.ps.length e.N.length body), W⟩ body (ds.map some ++ List.replicate (e.N.length - e.ps.length) none) s' with
    | no => rw [ho] at q; exact q.elim
    | ex x ρ s1 =>
      rw [hd, ho]
      rw [ho] at q
      exact fun cls dx σ' ω' H' e r er z => q cls dx ω' H' e r z
    | fl fl s1 =>
      rw [hd, ho]
      rw [ho] at q
      cases fl with
      | next ρ => exact fun σ' ω' H' e r er => q ω' H' e r _ .non
      | ret d => exact fun v ω' H' e r rv => q ω' H' e r v rv
      | brk ρ => exact q.elim
      | cont ρ => exact q.elim
theorem fn_all (hM : MdOk C M) (hE : ∀ e ∈ M.ents, EntOk M e) : ∀ (n : Nat), ∀ e ∈ M.ents, FnAt C P w base n e.x (callN W n e.fd) := by
  intro n
  induction n with
  | zero =>
    intro e he
    obtain ⟨f, fd, h1, F⟩ := hM.fn e he
    refine ⟨f, fd, e.ps, h1, F.kp, FunD.bindsN F (hE e he).bd, ⟨fun vs H Q E h => h.1, fun A outer s H args us vs Q E hr h0 hb hv h => ?_⟩, fun ds s h => absurd (by cases e.fd; rfl) h⟩
    obtain ⟨_, ξ, ω, s', ds, _, _, q⟩ := h
    have e0 : callN W 0 e.fd ds s' = .no := by cases e.fd; rfl
    rw [e0] at q
    exact q.elim
  | succ n ih =>
    intro e he
    obtain ⟨f, fd, h1, F⟩ := hM.fn e he
    obtain ⟨S, bd, co⟩ := hE e he
    unfold compB2 at co
    simp only [Option.map_eq_some_iff] at co
    obtain ⟨body, hbody, hfd⟩ := co
    have hlen : ∀ ds s, callN W (n + 1) e.fd ds s ≠ .no → ds.length = e.ps.length := fun ds s h => by
      have := callN_len h
      rw [← hfd] at this
      exact this
    exact ⟨f, fd, e.ps, h1, F.kp, FunD.bindsN F bd, fnOk_at_ hM hE n ih he F, hlen⟩
theorem fnOk_at (hM : MdOk C M) (hE : ∀ e ∈ M.ents, EntOk M e) {e : Ent} {f : Addr} {fd : FuncData} (F : FunD C.K e.x e.x (defArgs e.st) (defBody e.st) (defScope e.st) [] [] f fd) (n : Nat) (he : e ∈ M.ents) :
    FnOk P w C.K C.mg base (L2.CX P w) n f fd e.ps (spD C e.ps.length (callN W n e.fd)) := by
  cases n with
  | zero =>
    refine ⟨fun vs H Q E h => h.1, fun A outer s H args us vs Q E hr h0 hb hv h => ?_⟩
    obtain ⟨_, ξ, ω, s', ds, _, _, q⟩ := h
    have e0 : callN W 0 e.fd ds s' = .no := by cases e.fd; rfl
    rw [e0] at q
    exact q.elim
  | succ n => exact fnOk_at_ hM hE n (fn_all hM hE n) he F
end
end BS

/-! Core15: from the head's facts to the module; the law's end -/
namespace BS
open PySem PySem.Spec PyProof.Rows L2

def litDv : Lit → He.Dv | .non => .non | .bl b => .bl b | .int i => .int i | .str x => .str x
theorem litDv_v {K : PySem.W.Frag} : ∀ l : Lit, (litDv l).v K = litV l
  | .non => rfl
  | .bl _ => rfl
  | .int _ => rfl
  | .str _ => rfl
def glFa : Str × Lit → He.Fa
  | (x, .int i) => .int x i
  | (x, .str z) => .str x z
  | (x, _) => .glo x
def litIS : Lit → Bool
  | .int _ => true
  | .str _ => true
  | _ => false
def Ent.dd (e : Ent) : He.DefD := ⟨(e.x, none), e.x, e.x, defArgs e.st, defBody e.st, defScope e.st, [], []⟩
def Md.fa (M : Md) : List He.Fa := M.ents.map (fun e => .glo e.x) ++ (M.bts.map .free ++ (M.gls.map glFa ++ M.gts.map fun p => .glo p.1))
def Md.dds (M : Md) : List He.DefD := M.ents.map Ent.dd
def Md.ex (M : Md) (K : PySem.W.Frag) : Bool := M.gts.all fun p => He.tupB K p.1 (p.2.map litDv)
theorem md_ok {M : Md} {K : PySem.W.Frag} {h : Heap} {w : World} {mg : Str → Option Value} (X : K.In h) (G : h.Ns mainGlobals mg) (c : He.SaysX M.fa M.dds [] [] M.ex w h K) (hl : M.gls.all (fun p => litIS p.2) = true) :
    MdOk ⟨K, mg, M.fns, fun _ => none⟩ M where
  fns := rfl
  fn := fun e he => by
    have cd : He.SaysD M.fa M.dds K := congrArg (fun z : He.AlT => z.1) c.t
    obtain ⟨fd, F⟩ := He.SaysD.defs cd (d := e.dd) (List.mem_map_of_mem he)
    have hf := He.SaysD.facts cd (f := .glo e.x) (List.mem_append_left _ (List.mem_map.mpr ⟨e, he, rfl⟩))
    exact ⟨_, fd, He.glo_ok X G hf, F⟩
  bts := fun x hx => by
    have cd : He.SaysD M.fa M.dds K := congrArg (fun z : He.AlT => z.1) c.t
    exact He.free_ok X G (He.SaysD.facts cd (f := .free x) (List.mem_append_right _ (List.mem_append_left _ (List.mem_map.mpr ⟨x, hx, rfl⟩))))
  gls := fun x l hx => by
    have cd : He.SaysD M.fa M.dds K := congrArg (fun z : He.AlT => z.1) c.t
    have hf := He.SaysD.facts cd (f := glFa (x, l)) (List.mem_append_right _ (List.mem_append_right _ (List.mem_append_left _ (List.mem_map.mpr ⟨_, hx, rfl⟩))))
    have hi := List.all_eq_true.mp hl _ hx
    cases l with
    | int i =>
      obtain ⟨t, e⟩ := He.int_ok X G hf
      exact ⟨_, e, t, rfl⟩
    | str z =>
      obtain ⟨t, e⟩ := He.str_ok X G hf
      exact ⟨_, e, t, rfl⟩
    | _ => cases hi
  gts := fun x ls hx => by
    have cd : He.SaysD M.fa M.dds K := congrArg (fun z : He.AlT => z.1) c.t
    have hf := He.SaysD.facts cd (f := .glo x) (List.mem_append_right _ (List.mem_append_right _ (List.mem_append_right _ (List.mem_map.mpr ⟨_, hx, rfl⟩))))
    have ht := List.all_eq_true.mp c.more _ hx
    have e : (ls.map litDv).map (He.Dv.v K) = ls.map litV := by rw [List.map_map]; exact List.map_congr_left fun l _ => litDv_v l
    have q := He.tupB_ok ht fun _ => none
    rw [e] at q
    rcases q with q | ⟨o, its, n, h1, h2, h3, h4, h5⟩
    · rcases q with q | ⟨o, q⟩ <;> cases q
    · exact ⟨_, o, its, n, He.glo_ok X G hf, h1, h2, h3, h4, h5⟩
theorem sp_law {C : RC} {n k W : Nat} {fd : FD} (hlaw : ∀ ns : List Int, ns.length ≤ n → ∃ s', callN W k fd [.scr ns] [] = .ok (.bl true) s') (H : Hp) (a : Addr) (ns : List Int) (hl : ns.length ≤ n) (hO : Only H) (hS : SqL C.K H a (ns.map V.int)) :
    spD C 1 (callN W k fd) [.ref a] H (fun v _ => v = .bl true) fun _ _ _ => False := by
  refine ⟨rfl, fun _ => False, [], [], [.scr ns], .cons (.scr ?_) .nil, ⟨rfl, List.nodup_nil, (fun _ h => nomatch h), (fun _ h => False.elim h), (fun n a o h => by simp at h)⟩, ?_⟩
  · rcases hS with (h | ⟨o, h⟩) | h
    · rcases hO a with q | ⟨o, xs, q⟩
      · rw [q] at h; cases h
      · rw [q] at h; cases h
    · exact .inl ⟨o, h⟩
    · exact .inr h
  · obtain ⟨s', e⟩ := hlaw ns hl
    rw [e]
    intro ω' H' _ _ v rv
    cases rv
    rfl
/-- the law's def, from the head's facts -/
theorem law_fn {M : Md} {K : PySem.W.Frag} {h : Heap} {P : Program} {w : World} {mg : Str → Option Value} {f : Addr} {e : Ent} {x : Str} {n k W : Nat} (X : K.In h) (G : h.Ns mainGlobals mg) (c : He.SaysX M.fa M.dds [] [] M.ex w h K) (hl : M.gls.all (fun p => litIS p.2) = true)
    (hE : ∀ e ∈ M.ents, EntOk M e) (he : e ∈ M.ents) (hps : e.ps = [x]) (hf : mg e.x = some (.ref f)) (hlaw : ∀ ns : List Int, ns.length ≤ n → ∃ s', callN W k e.fd [.scr ns] [] = .ok (.bl true) s') :
    ∃ (K : PySem.W.Frag) (fd : FuncData) (sp : Sp), K.In h ∧ (∀ (s : Shared) (u : Value), BindsTo s fd ⟨[u], []⟩ [(x, u)]) ∧
        (∀ (H : Hp) (a : Addr) (ns : List Int), ns.length ≤ n → Only H → SqL K H a (ns.map V.int) → sp [.ref a] H (fun v _ => v = .bl true) fun _ _ _ => False) ∧
        ∀ base : Heap, K.In base → base.Ns mainGlobals mg → FnOk P w K mg base (L2.CX P w) k f fd [x] sp := by
  have hM := md_ok X G c hl
  obtain ⟨f', fd, h1, F⟩ := hM.fn e he
  have ef : f' = f := by
    have q : (some (Value.ref f') : Option Value) = some (.ref f) := h1.symm.trans hf
    cases q
    rfl
  subst ef
  refine ⟨K, fd, spD ⟨K, mg, M.fns, fun _ => none⟩ 1 (callN W k e.fd), X, fun s u => ?_, fun H a ns q hO hS => sp_law hlaw H a ns q hO hS, fun base _ _ => ?_⟩
  · have b := FunD.bindsA F (ps := e.ps) (hE e he).bd s [u] (by rw [hps]; rfl)
    rw [hps] at b
    exact b
  · -- the promise, over any base
    have key : ∀ k', FnOk P w K mg base (L2.CX P w) k' f' fd e.ps (spD ⟨K, mg, M.fns, fun _ => none⟩ e.ps.length (callN W k' e.fd)) := fun k' => fnOk_at hM hE F k' he
    have := key k
    rw [hps] at this
    exact this
/-- the law's end; exceptions as the layer has them -/
theorem walk_own {l : PySem.W.OpenLaw} {n k : Nat} {q : Program} {loose : List Str} {XP : (Str → Option Value) → Heap → Prop} {YP : World → Heap → Prop} {d : DefRec} {x : Str} (hn : l.most = some n) (hsz : n ≤ sizeLine) (nodef : d.params.defaults = []) (room : Room k callerA)
    (F : ∀ (w : World) (mg : Str → Option Value) (f : Addr) (h : Heap), YP w h → h.Ns mainGlobals mg → mg d.name = some (.ref f) → ∃ (K : PySem.W.Frag) (fd : FuncData) (sp : Sp), K.In h ∧ (∀ (s : Shared) (u : Value), BindsTo s fd ⟨[u], []⟩ [(x, u)]) ∧
        (∀ (H : Hp) (a : Addr) (ns : List Int), ns.length ≤ n → Only H → SqL K H a (ns.map V.int) → sp [.ref a] H (fun v _ => v = .bl true) fun _ _ _ => False) ∧
        ∀ base : Heap, K.In base → base.Ns mainGlobals mg → FnOk l.prog w K mg base (L2.CX l.prog w) k f fd [x] sp) : PySem.W.WalkO q loose XP YP l.row.toRowW d [] (fun f vs => PySem.call f vs) :=
  Att.attach_call hn nodef fun w s₀ s₁ mg mb f o pm cd doc a vs ns G Y ho hd hcd hmg hobj hints hlen hg => by
    obtain ⟨K, fd, sp, KX, hb, hsp, hF⟩ := F w mg f _ Y G.T.g hmg
    refine law_call KX G.T.g G.T.b G.T.builtins G.T.nolimit hg hobj hints (Nat.le_trans hlen hsz) room hF hb (fun H hO hS => hsp H a ns hlen hO hS) fun H e s' hc => ?_
    obtain ⟨_, _, _, _, _, _, _, _, _, _, _, _, z⟩ := hc
    exact z.elim
end BS

/-! Ev1: reckoning with the evaluator -/
namespace BS
open PySem
section
variable {α β : Type}
def Out.sat (o : Out α) (P : α → Sto → Prop) : Prop := match o with
  | .ok a s => P a s
  | _ => False
@[simp] theorem sat_ok {a : α} {s : Sto} {P : α → Sto → Prop} : (Out.ok a s).sat P = P a s := rfl
@[simp] theorem sat_no {P : α → Sto → Prop} : (Out.no : Out α).sat P = False := rfl
@[simp] theorem sat_ex {x : Exn} {s : Sto} {P : α → Sto → Prop} : (Out.ex x s : Out α).sat P = False := rfl
@[simp] theorem bind_ok {a : α} {s : Sto} {f : α → Sto → Out β} : (Out.ok a s).bind f = f a s := rfl
@[simp] theorem bind_no {f : α → Sto → Out β} : (Out.no : Out α).bind f = .no := rfl
@[simp] theorem bind_if {c : Prop} [Decidable c] {a b : Out α} {f : α → Sto → Out β} : (if c then a else b).bind f = if c then a.bind f else b.bind f := by split <;> rfl
theorem sat_bind {o : Out α} {f : α → Sto → Out β} {P : β → Sto → Prop} : (o.bind f).sat P = o.sat fun a s => (f a s).sat P := by cases o <;> rfl
theorem Out.sat.mono {o : Out α} {P Q : α → Sto → Prop} (h : o.sat P) (m : ∀ a s, P a s → Q a s) : o.sat Q := by
  cases o with
  | ok a s => exact m a s h
  | _ => exact h
theorem Out.sat.bind {o : Out α} {f : α → Sto → Out β} {P : α → Sto → Prop} {Q : β → Sto → Prop} (h : o.sat P) (m : ∀ a s, P a s → (f a s).sat Q) : (o.bind f).sat Q := by
  rw [sat_bind]
  exact h.mono m
theorem Out.sat.get {o : Out α} {P : α → Sto → Prop} (h : o.sat P) : ∃ a s, o = .ok a s ∧ P a s := by
  cases o with
  | ok a s => exact ⟨a, s, rfl, h⟩
  | _ => exact h.elim
def tst (o : Option Bool) (n a b : α) : α := match o with
  | some true => a
  | some false => b
  | none => n
/-- a choice by a bool, kept from simp's own ways -/
def ifB (c : Bool) (a b : α) : α := match c with
  | true => a
  | false => b
@[simp] theorem ifB_true {a b : α} : ifB true a b = a := rfl
@[simp] theorem ifB_false {a b : α} : ifB false a b = b := rfl
@[simp] theorem ifB_same {c : Bool} {a : α} : ifB c a a = a := by cases c <;> rfl
@[simp] theorem ifB_not {c : Bool} {a b : α} : ifB (!c) a b = ifB c b a := by cases c <;> rfl
@[simp] theorem bind_ifB {c : Bool} {a b : Out α} {f : α → Sto → Out β} : (ifB c a b).bind f = ifB c (a.bind f) (b.bind f) := by cases c <;> rfl
theorem sat_ifB {c : Bool} {a b : Out α} {P : α → Sto → Prop} : (ifB c a b).sat P = ifB c (a.sat P) (b.sat P) := by cases c <;> rfl
@[simp] theorem tst_some {c : Bool} {n a b : α} : tst (some c) n a b = ifB c a b := by cases c <;> rfl
def tstD (o : Option D) (n a b : α) : α := match o with
  | some (.bl true) => a
  | some (.bl false) => b
  | _ => n
@[simp] theorem tstD_some {c : Bool} {n a b : α} : tstD (some (.bl c)) n a b = ifB c a b := by cases c <;> rfl
@[simp] theorem ofO_some {a : α} {s : Sto} : ofO s (some a) = .ok a s := rfl
end
def SO.sat (o : SO) (Q : Flow → Sto → Prop) : Prop := match o with
  | .fl f s => Q f s
  | _ => False
@[simp] theorem ssat_fl {f : Flow} {s : Sto} {Q : Flow → Sto → Prop} : (SO.fl f s).sat Q = Q f s := rfl
theorem SO.sat.mono {o : SO} {P Q : Flow → Sto → Prop} (h : o.sat P) (m : ∀ a s, P a s → Q a s) : o.sat Q := by
  cases o with
  | fl a s => exact m a s h
  | _ => exact h
@[simp] theorem so_ok {ρ : Env} {d : D} {s : Sto} {f : D → Sto → SO} : (Out.ok d s).so ρ f = f d s := rfl
@[simp] theorem so_if {ρ : Env} {c : Prop} [Decidable c] {a b : Out D} {f : D → Sto → SO} : (if c then a else b).so ρ f = if c then a.so ρ f else b.so ρ f := by split <;> rfl
@[simp] theorem so_ifB {ρ : Env} {c : Bool} {a b : Out D} {f : D → Sto → SO} : (ifB c a b).so ρ f = ifB c (a.so ρ f) (b.so ρ f) := by cases c <;> rfl
theorem so_bind {ρ : Env} {α : Type} {o : Out α} {f : α → Sto → Out D} {k : D → Sto → SO} : (o.bind f).so ρ k = match o with | .ok a s => (f a s).so ρ k | .ex x s => .ex x ρ s | .no => .no := by cases o <;> rfl
theorem so_sat {ρ : Env} {o : Out D} {f : D → Sto → SO} {Q : Flow → Sto → Prop} : (o.so ρ f).sat Q = o.sat fun d s => (f d s).sat Q := by cases o <;> rfl
theorem Out.sat.so {ρ : Env} {o : Out D} {f : D → Sto → SO} {P : D → Sto → Prop} {Q : Flow → Sto → Prop} (h : o.sat P) (m : ∀ a s, P a s → (f a s).sat Q) : (o.so ρ f).sat Q := by
  rw [so_sat]
  exact h.mono m
def SO.seq (o : SO) (f : Env → Sto → SO) : SO := match o with
  | .fl (.next ρ) s => f ρ s
  | o => o
@[simp] theorem seq_next {ρ : Env} {s : Sto} {f : Env → Sto → SO} : (SO.fl (.next ρ) s).seq f = f ρ s := rfl
@[simp] theorem seq_ret {d : D} {s : Sto} {f : Env → Sto → SO} : (SO.fl (.ret d) s).seq f = .fl (.ret d) s := rfl
@[simp] theorem seq_brk {ρ : Env} {s : Sto} {f : Env → Sto → SO} : (SO.fl (.brk ρ) s).seq f = .fl (.brk ρ) s := rfl
@[simp] theorem seq_cont {ρ : Env} {s : Sto} {f : Env → Sto → SO} : (SO.fl (.cont ρ) s).seq f = .fl (.cont ρ) s := rfl
@[simp] theorem seq_if {c : Prop} [Decidable c] {a b : SO} {f : Env → Sto → SO} : (if c then a else b).seq f = if c then a.seq f else b.seq f := by split <;> rfl
@[simp] theorem seq_ifB {c : Bool} {a b : SO} {f : Env → Sto → SO} : (ifB c a b).seq f = ifB c (a.seq f) (b.seq f) := by cases c <;> rfl
theorem seq_so {ρ : Env} {o : Out D} {k : D → Sto → SO} {f : Env → Sto → SO} : (o.so ρ k).seq f = o.so ρ fun d s => (k d s).seq f := by cases o <;> rfl
theorem seq_sat {o : SO} {f : Env → Sto → SO} {Q : Flow → Sto → Prop} : (o.seq f).sat Q = o.sat fun fl s => match fl with | .next ρ => (f ρ s).sat Q | x => Q x s := by
  cases o with
  | fl fl s => cases fl <;> rfl
  | _ => rfl
/-- a body's end -/
def fin (o : SO) : Out D := match o with
  | .fl (.next _) s => .ok .non s
  | .fl (.ret d) s => .ok d s
  | .fl _ _ => .no
  | .ex x _ s => .ex x s
  | .no => .no
@[simp] theorem fin_next {ρ : Env} {s : Sto} : fin (.fl (.next ρ) s) = .ok .non s := rfl
@[simp] theorem fin_ret {d : D} {s : Sto} : fin (.fl (.ret d) s) = .ok d s := rfl
@[simp] theorem fin_if {c : Prop} [Decidable c] {a b : SO} : fin (if c then a else b) = if c then fin a else fin b := by split <;> rfl
@[simp] theorem fin_ifB {c : Bool} {a b : SO} : fin (ifB c a b) = ifB c (fin a) (fin b) := by cases c <;> rfl
theorem fin_so {ρ : Env} {o : Out D} {k : D → Sto → SO} : fin (o.so ρ k) = o.bind fun d s => fin (k d s) := by cases o <;> rfl
theorem fin_sat {o : SO} {P : D → Sto → Prop} : (fin o).sat P = o.sat fun fl s => match fl with | .next _ => P .non s | .ret d => P d s | _ => False := by
  cases o with
  | fl fl s => cases fl <;> rfl
  | _ => rfl
def gOf (W n : Nat) (fd : FD) : G := ⟨callN W n, callN W n fd, W⟩
@[simp] theorem gOf_call {W n : Nat} {fd : FD} : (gOf W n fd).call = callN W n := rfl
@[simp] theorem gOf_self {W n : Nat} {fd : FD} : (gOf W n fd).self = callN W n fd := rfl
@[simp] theorem gOf_W {W n : Nat} {fd : FD} : (gOf W n fd).W = W := rfl
theorem call1 {W n np ns : Nat} {fd : FD} {x : Str} {body : List S} {ds : List D} {s : Sto} (h : fd = .mk x np ns body) (hl : ds.length = np) :
    callN W (n + 1) fd ds s = fin (evSs (gOf W n fd) body (ds.map some ++ List.replicate (ns - np) none) s) := by
  subst h
  simp only [callN]
  rw [if_pos hl, ← hl]
  show _ = fin (evSs ⟨callN W n, callN W n _, W⟩ body (ds.map some ++ List.replicate (ns - ds.length) none) s)
  unfold fin
  rfl
/-- a bound of a range -/
def rngOk (j : Int) : Bool := Nat.blt j.natAbs (2 ^ 62)
/-! expressions, told for simp -/
section
variable {g : G} {ρ : Env} {s : Sto}
@[simp] theorem evE_lit {l : Lit} : evE g (.lit l) ρ s = .ok l.d s := rfl
@[simp] theorem evE_gtup {x : Str} {ls : List Lit} : evE g (.gtup x ls) ρ s = .ok (.tup (ls.map Lit.d)) s := rfl
@[simp] theorem evE_v {i : Nat} : evE g (.v i) ρ s = match ρ[i]? with | some (some d) => .ok d s | _ => .no := rfl
@[simp] theorem evE_pr {p : Pr} {es : List E} : evE g (.pr p es) ρ s = (evEs g es ρ s).bind fun ds s1 => ofO s1 (prim s1 p ds) := rfl
@[simp] theorem evE_pl {m : Bool} {p : Pl} {es : List E} : evE g (.pl m p es) ρ s = (evEs g es ρ s).bind fun ds s1 => match primL s1 p ds with | some r => mkL m r s1 | none => .no := rfl
@[simp] theorem evE_pm {p : Pm} {a : E} {es : List E} : evE g (.pm p a es) ρ s = (evE g a ρ s).bind fun d s1 => match isObjL s1 d with | true => (evEs g es ρ s1).bind fun ds s2 => primM s2 p (d :: ds) | false => .no := rfl
@[simp] theorem evE_and {a b : E} : evE g (.and_ a b) ρ s = (evE g a ρ s).bind fun d s1 => tst (truD s1 d) .no (evE g b ρ s1) (.ok d s1) := by
  rfl
@[simp] theorem evE_or {a b : E} : evE g (.or_ a b) ρ s = (evE g a ρ s).bind fun d s1 => tst (truD s1 d) .no (.ok d s1) (evE g b ρ s1) := by
  rfl
@[simp] theorem evE_not {a : E} : evE g (.not_ a) ρ s = (evE g a ρ s).bind fun d s1 => match truD s1 d with | some b => .ok (.bl (!b)) s1 | none => .no := rfl
@[simp] theorem evE_ite {c a b : E} : evE g (.ite c a b) ρ s = (evE g c ρ s).bind fun d s1 => tst (truD s1 d) .no (evE g a ρ s1) (evE g b ρ s1) := by
  rfl
@[simp] theorem evE_chain {p q : Pr} {a b c : E} : evE g (.chain p q a b c) ρ s = (evE g a ρ s).bind fun x s1 => (evE g b ρ s1).bind fun y s2 => tstD (prim s2 p [x, y]) .no ((evE g c ρ s2).bind fun z s3 => ofO s3 (prim s3 q [y, z])) (.ok (.bl false) s2) := by
  rfl
@[simp] theorem evE_slc {m hl hh : Bool} {a lo hi : E} : evE g (.slc m hl hh a lo hi) ρ s = (evE g a ρ s).bind fun d s1 => (evE g lo ρ s1).bind fun x s2 => match bnd hl x with
    | none => .no
    | some l => (evE g hi ρ s2).bind fun y s3 => match bnd hh y with
      | none => .no
      | some h => if m = true then (match vL s3 d with | some ds => mkL true (cutD ds l h) s3 | none => .no) else ofO s3 (slcD s3 l h d) := rfl
@[simp] theorem evE_tup {es : List E} : evE g (.tup es) ρ s = (evEs g es ρ s).bind fun ds s1 => .ok (.tup ds) s1 := rfl
@[simp] theorem evE_lst {m : Bool} {es : List E} : evE g (.lst m es) ρ s = (evEs g es ρ s).bind fun ds s1 => mkL m ds s1 := rfl
@[simp] theorem evE_call {f : FD} {es : List E} : evE g (.call f es) ρ s = (evEs g es ρ s).bind fun ds s1 => g.call f ds s1 := rfl
@[simp] theorem evE_self {es : List E} : evE g (.self es) ρ s = (evEs g es ρ s).bind fun ds s1 => g.self ds s1 := rfl
@[simp] theorem evEs_nil : evEs g [] ρ s = .ok [] s := rfl
@[simp] theorem evEs_cons {e : E} {es : List E} : evEs g (e :: es) ρ s = (evE g e ρ s).bind fun d s1 => (evEs g es ρ s1).bind fun ds s2 => .ok (d :: ds) s2 := rfl
@[simp] theorem evI_e {a : E} : evI g (.e a) ρ s = (evE g a ρ s).bind fun d s1 => match vS s1 d with | some _ => .ok (.seq d) s1 | none => .no := rfl
theorem evI_r1 {a : E} : evI g (.r1 a) ρ s = (evE g a ρ s).bind fun d s1 => match d with
    | .int j => if rngOk j = true then .ok (.rng 0 j.toNat) s1 else .no
    | _ => .no := rfl
theorem evI_r2 {a b : E} : evI g (.r2 a b) ρ s = (evE g a ρ s).bind fun d s1 => (evE g b ρ s1).bind fun d2 s2 => match d, d2 with
    | .int i, .int j => if (rngOk i && rngOk j) = true then .ok (.rng i (j - i).toNat) s2 else .no
    | _, _ => .no := rfl
@[simp] theorem evI_enum {a : E} : evI g (.enum a) ρ s = (evE g a ρ s).bind fun d s1 => match vS s1 d with | some _ => .ok (.enum d) s1 | none => .no := rfl
@[simp] theorem evI_zip {a b : E} : evI g (.zip a b) ρ s = (evE g a ρ s).bind fun d s1 => (evE g b ρ s1).bind fun d2 s2 => match vS s2 d, vS s2 d2 with | some _, some _ => .ok (.zip d d2) s2 | _, _ => .no := rfl
/-! statements -/
@[simp] theorem evS_ex {e : E} : evS g (.ex e) ρ s = (evE g e ρ s).so ρ fun _ s1 => .fl (.next ρ) s1 := rfl
@[simp] theorem evS_ret {e : E} : evS g (.ret e) ρ s = (evE g e ρ s).so ρ fun d s1 => .fl (.ret d) s1 := rfl
@[simp] theorem evS_setv {i : Nat} {e : E} : evS g (.set (.v i) e) ρ s = (evE g e ρ s).so ρ fun d s1 => .fl (.next (ρ.set i (some d))) s1 := rfl
@[simp] theorem evS_sett {ts : List Tg} {e : E} : evS g (.set (.tup ts) e) ρ s = (evE g e ρ s).so ρ fun d s1 => match asg (.tup ts) d ρ with | some ρ1 => .fl (.next ρ1) s1 | none => .no := rfl
@[simp] theorem evS_par {ts : List Nat} {es : List E} : evS g (.par ts es) ρ s = match evEs g es ρ s with
    | .ok ds s1 => (match asgs (ts.map Tg.v) ds ρ with | some ρ1 => .fl (.next ρ1) s1 | none => .no)
    | .ex x s1 => .ex x ρ s1
    | .no => .no := rfl
@[simp] theorem evS_setIx {o i e : E} : evS g (.setIx o i e) ρ s = (evE g e ρ s).so ρ fun d s1 => (evE g o ρ s1).so ρ fun x s2 => (evE g i ρ s2).so ρ fun y s3 => match setIx s3 x y d with | some s4 => .fl (.next ρ) s4 | none => .no := rfl
@[simp] theorem evS_ite {c : E} {a b : List S} : evS g (.ite c a b) ρ s = (evE g c ρ s).so ρ fun d s1 => tst (truD s1 d) .no (evSs g a ρ s1) (evSs g b ρ s1) := by
  rfl
@[simp] theorem evS_pass : evS g .pass ρ s = .fl (.next ρ) s := rfl
@[simp] theorem evS_brk : evS g .brk ρ s = .fl (.brk ρ) s := rfl
@[simp] theorem evS_cont : evS g .cont ρ s = .fl (.cont ρ) s := rfl
@[simp] theorem evSs_nil : evSs g [] ρ s = .fl (.next ρ) s := rfl
@[simp] theorem evSs_cons {t : S} {ts : List S} : evSs g (t :: ts) ρ s = (evS g t ρ s).seq fun ρ1 s1 => evSs g ts ρ1 s1 := by
  show (match evS g t ρ s with | .fl (.next ρ1) s1 => evSs g ts ρ1 s1 | o => o) = _
  cases evS g t ρ s with
  | fl f s1 => cases f <;> rfl
  | _ => rfl
@[simp] theorem evS_while {c : E} {b : List S} : evS g (.while_ c b) ρ s = whileLoop (fun ρ s => evE g c ρ s) (fun ρ s => evSs g b ρ s) g.W ρ s := rfl
/-! what is walked, where the store plays no part -/
def itemsOf : Src → Option (List D)
  | .seq (.tup ds) => some ds
  | .seq (.lst ds) => some ds
  | .rng lo n => some ((List.range n).map fun i => D.int (lo + (i : Nat)))
  | .enum (.tup ds) => some (enumD 0 ds)
  | .enum (.lst ds) => some (enumD 0 ds)
  | .zip (.tup a) (.tup b) => some (List.zipWith (fun x y => D.tup [x, y]) a b)
  | .zip (.tup a) (.lst b) => some (List.zipWith (fun x y => D.tup [x, y]) a b)
  | .zip (.lst a) (.tup b) => some (List.zipWith (fun x y => D.tup [x, y]) a b)
  | .zip (.lst a) (.lst b) => some (List.zipWith (fun x y => D.tup [x, y]) a b)
  | _ => none
theorem enumD_get : ∀ (ds : List D) (k i : Nat), (enumD k ds)[i]? = ds[i]?.map fun x => D.tup [.int ((k + i : Nat) : Int), x]
  | [], k, i => by simp [enumD]
  | d :: ds, k, 0 => by simp [enumD]
  | d :: ds, k, i + 1 => by
    simp only [enumD, List.getElem?_cons_succ]
    rw [enumD_get ds (k + 1) i]
    have e : k + 1 + i = k + (i + 1) := by omega
    rw [e]
@[simp] theorem enumD_len : ∀ (ds : List D) (k : Nat), (enumD k ds).length = ds.length
  | [], _ => rfl
  | d :: ds, k => by simp [enumD, enumD_len ds]
def trnOf : Option D → Trn
  | some x => .it x
  | none => .stop
theorem at_items {src : Src} {xs : List D} (h : itemsOf src = some xs) (i : Nat) (hi : i ≤ xs.length) : src.at s i = trnOf xs[i]? := by
  have zp : ∀ a b : List D, xs = List.zipWith (fun x y => D.tup [x, y]) a b → (match a[i]?, b[i]? with | some x, some y => Trn.it (.tup [x, y]) | _, _ => if (decide (i ≤ a.length) && decide (i ≤ b.length)) = true then .stop else .no) = trnOf xs[i]? := by
    rintro a b rfl
    rw [List.length_zipWith] at hi
    rw [List.getElem?_zipWith]
    cases ha : a[i]? with
    | none => cases hb : b[i]? with
      | none => simp [trnOf]; omega
      | some y => simp [trnOf]; omega
    | some x => cases hb : b[i]? with
      | none => simp [trnOf]; omega
      | some y => rfl
  have en : ∀ ds : List D, xs = enumD 0 ds → (match ds[i]? with | some x => Trn.it (.tup [.int i, x]) | none => if i = ds.length then .stop else .no) = trnOf xs[i]? := by
    rintro ds rfl
    rw [enumD_len] at hi
    rw [enumD_get]
    cases hd : ds[i]? with
    | none =>
      have := List.getElem?_eq_none_iff.mp hd
      simp only [Option.map_none, trnOf]
      rw [if_pos (by omega)]
    | some x => simp [trnOf]
  match src, h with
  | .seq (.tup ds), h => cases h; simp only [Src.at, vS]; cases xs[i]? <;> rfl
  | .seq (.lst ds), h => cases h; simp only [Src.at, vS]; cases xs[i]? <;> rfl
  | .rng lo n, h =>
    cases h
    simp only [Src.at, List.getElem?_map, List.getElem?_range']
    by_cases hn : i < n
    · rw [if_pos hn, List.getElem?_range hn]; rfl
    · rw [if_neg hn, List.getElem?_eq_none (by simpa using hn)]; rfl
  | .enum (.tup ds), h => cases h; exact en ds rfl
  | .enum (.lst ds), h => cases h; exact en ds rfl
  | .zip (.tup a) (.tup b), h => cases h; exact zp a b rfl
  | .zip (.tup a) (.lst b), h => cases h; exact zp a b rfl
  | .zip (.lst a) (.tup b), h => cases h; exact zp a b rfl
  | .zip (.lst a) (.lst b), h => cases h; exact zp a b rfl
theorem most_items {src : Src} {xs : List D} (h : itemsOf src = some xs) : xs.length ≤ src.most s := by
  match src, h with
  | .seq (.tup ds), h => cases h; exact Nat.le_refl _
  | .seq (.lst ds), h => cases h; exact Nat.le_refl _
  | .rng lo n, h => cases h; simp [Src.most]
  | .enum (.tup ds), h => cases h; simp [Src.most, vS]
  | .enum (.lst ds), h => cases h; simp [Src.most, vS]
  | .zip (.tup a) (.tup b), h => cases h; simp [Src.most, vS]; omega
  | .zip (.tup a) (.lst b), h => cases h; simp [Src.most, vS]; omega
  | .zip (.lst a) (.tup b), h => cases h; simp [Src.most, vS]; omega
  | .zip (.lst a) (.lst b), h => cases h; simp [Src.most, vS]; omega
/-- a for over items -/
def forItems (tg : Tg) (b : Env → Sto → SO) : List D → Env → Sto → SO
  | [], ρ, s => .fl (.next ρ) s
  | d :: ds, ρ, s => match asg tg d ρ with
    | none => .no
    | some ρ1 => match b ρ1 s with
      | .fl (.next ρ') s' => forItems tg b ds ρ' s'
      | .fl (.cont ρ') s' => forItems tg b ds ρ' s'
      | .fl (.brk ρ') s' => .fl (.next ρ') s'
      | .fl (.ret d) s' => .fl (.ret d) s'
      | .ex x ρ' s' => .ex x ρ' s'
      | .no => .no
theorem for_items {src : Src} {xs : List D} {tg : Tg} {b : Env → Sto → SO} (h : itemsOf src = some xs) : ∀ (k i : Nat) (ρ : Env) (s : Sto), xs.length ≤ i + k → i ≤ xs.length → forLoop src tg b k i ρ s = forItems tg b (xs.drop i) ρ s := by
  intro k
  induction k with
  | zero =>
    intro i ρ s h1 h2
    have e : i = xs.length := by omega
    subst e
    unfold forLoop
    rw [at_items h _ (Nat.le_refl _), List.getElem?_eq_none (Nat.le_refl _), List.drop_length]
    rfl
  | succ k ih =>
    intro i ρ s h1 h2
    unfold forLoop
    rw [at_items h i h2]
    cases hx : xs[i]? with
    | none =>
      have e := List.getElem?_eq_none_iff.mp hx
      rw [List.drop_eq_nil_of_le e]
      rfl
    | some x =>
      have hi : i < xs.length := (List.getElem?_eq_some_iff.mp hx).1
      have e : xs.drop i = x :: xs.drop (i + 1) := by
        rw [List.drop_eq_getElem_cons hi]
        congr 1
        exact (List.getElem?_eq_some_iff.mp hx).2
      rw [e]
      simp only [trnOf, forItems]
      cases asg tg x ρ with
      | none => rfl
      | some ρ1 =>
        dsimp only
        cases b ρ1 s with
        | fl f s' =>
          cases f with
          | next ρ' => exact ih (i + 1) ρ' s' (by omega) hi
          | cont ρ' => exact ih (i + 1) ρ' s' (by omega) hi
          | _ => rfl
        | _ => rfl
def forSrc (src : Src) (tg : Tg) (b : Env → Sto → SO) (ρ : Env) (s : Sto) : SO := forLoop src tg b (src.most s) 0 ρ s
theorem forSrc_items {src : Src} {xs : List D} {tg : Tg} {b : Env → Sto → SO} (h : itemsOf src = some xs) : forSrc src tg b ρ s = forItems tg b xs ρ s := for_items h _ 0 ρ s (by rw [Nat.zero_add]; exact most_items h) (Nat.zero_le _)
theorem evS_for {t : Tg} {it : I} {b : List S} : evS g (.for_ t it b) ρ s = match evI g it ρ s with
    | .ok src s1 => forSrc src t (fun ρ s => evSs g b ρ s) ρ s1
    | .ex x s1 => .ex x ρ s1
    | .no => .no := rfl
theorem for_inv {tg : Tg} {b : Env → Sto → SO} {Q : Flow → Sto → Prop} {xs : List D} (I : Nat → Env → Sto → Prop) (h0 : I 0 ρ s)
    (step : ∀ (i : Nat) (x : D) (ρ : Env) (s : Sto), xs[i]? = some x → I i ρ s → ∃ ρ1, asg tg x ρ = some ρ1 ∧ (b ρ1 s).sat fun fl s' => match fl with
      | .next ρ' => I (i + 1) ρ' s'
      | .cont ρ' => I (i + 1) ρ' s'
      | .brk ρ' => Q (.next ρ') s'
      | .ret d => Q (.ret d) s')
    (hend : ∀ ρ s, I xs.length ρ s → Q (.next ρ) s) : (forItems tg b xs ρ s).sat Q := by
  have key : ∀ (ys : List D) (i : Nat) (ρ : Env) (s : Sto), xs.drop i = ys → i ≤ xs.length → I i ρ s → (forItems tg b ys ρ s).sat Q := by
    intro ys
    induction ys with
    | nil =>
      intro i ρ s e hi h
      have : i = xs.length := by have := List.drop_eq_nil_iff.mp e; omega
      subst this
      exact hend ρ s h
    | cons y ys ih =>
      intro i ρ s e hi h
      have hx : xs[i]? = some y := by
        have q : (xs.drop i)[0]? = some y := by rw [e]; rfl
        rwa [List.getElem?_drop, Nat.add_zero] at q
      have hl : i < xs.length := (List.getElem?_eq_some_iff.mp hx).1
      obtain ⟨ρ1, e1, h1⟩ := step i y ρ s hx h
      have e2 : xs.drop (i + 1) = ys := by rw [← List.drop_drop, e]; rfl
      simp only [forItems, e1]
      cases hb : b ρ1 s with
      | fl f s' =>
        rw [hb] at h1
        cases f with
        | next ρ' => exact ih (i + 1) ρ' s' e2 hl h1
        | cont ρ' => exact ih (i + 1) ρ' s' e2 hl h1
        | brk ρ' => exact h1
        | ret d => exact h1
      | _ => rw [hb] at h1; exact h1.elim
  exact key xs 0 ρ s rfl (Nat.zero_le _) h0
/-- a comprehension over items -/
def compItems (b : D → Sto → Out (Option D)) : List D → List D → Sto → Out (List D)
  | [], acc, s => .ok acc.reverse s
  | d :: ds, acc, s => match b d s with
    | .ok none s' => compItems b ds acc s'
    | .ok (some y) s' => if acc.length < sizeLine then compItems b ds (y :: acc) s' else .no
    | _ => .no
def compSrc (src : Src) (b : Nat → D → Sto → Out (Option D)) (s : Sto) : Out (List D) := compLoop src b (src.most s) 0 [] s
theorem comp_items {src : Src} {xs : List D} {b : D → Sto → Out (Option D)} (h : itemsOf src = some xs) : ∀ (k i : Nat) (acc : List D) (s : Sto), xs.length ≤ i + k → i ≤ xs.length → compLoop src (fun _ => b) k i acc s = compItems b (xs.drop i) acc s := by
  intro k
  induction k with
  | zero =>
    intro i acc s h1 h2
    have e : i = xs.length := by omega
    subst e
    unfold compLoop
    rw [at_items h _ (Nat.le_refl _), List.getElem?_eq_none (Nat.le_refl _), List.drop_length]
    rfl
  | succ k ih =>
    intro i acc s h1 h2
    unfold compLoop
    rw [at_items h i h2]
    cases hx : xs[i]? with
    | none =>
      have e := List.getElem?_eq_none_iff.mp hx
      rw [List.drop_eq_nil_of_le e]
      rfl
    | some x =>
      have hi : i < xs.length := (List.getElem?_eq_some_iff.mp hx).1
      have e : xs.drop i = x :: xs.drop (i + 1) := by
        rw [List.drop_eq_getElem_cons hi]
        congr 1
        exact (List.getElem?_eq_some_iff.mp hx).2
      rw [e]
      simp only [trnOf, compItems]
      cases b x s with
      | ok o s' =>
        cases o with
        | none => exact ih (i + 1) acc s' (by omega) hi
        | some y =>
          dsimp only
          split
          · exact ih (i + 1) (y :: acc) s' (by omega) hi
          · rfl
      | _ => rfl
theorem compSrc_items {src : Src} {xs : List D} {b : D → Sto → Out (Option D)} (h : itemsOf src = some xs) : compSrc src (fun _ => b) s = compItems b xs [] s := comp_items h _ 0 [] s (by rw [Nat.zero_add]; exact most_items h) (Nat.zero_le _)
/-- where the body changes nothing -/
theorem compItems_pure {b : D → Sto → Out (Option D)} {f : D → Option D} : ∀ (xs acc : List D), (∀ x ∈ xs, b x s = .ok (f x) s) → acc.length + xs.length ≤ sizeLine → compItems b xs acc s = .ok (acc.reverse ++ xs.filterMap f) s
  | [], acc, _, _ => by simp [compItems]
  | x :: xs, acc, h, hl => by
    have h1 := h x List.mem_cons_self
    have hl' : acc.length + xs.length + 1 ≤ sizeLine := by simpa [Nat.add_assoc] using hl
    simp only [compItems, h1]
    cases hf : f x with
    | none =>
      dsimp only
      rw [compItems_pure xs acc (fun y hy => h y (List.mem_cons_of_mem _ hy)) (by omega)]
      simp [hf]
    | some y =>
      dsimp only
      rw [if_pos (by omega), compItems_pure xs (y :: acc) (fun z hz => h z (List.mem_cons_of_mem _ hz)) (by simp; omega)]
      simp [hf]
theorem evE_comp {m : Bool} {own : List Nat} {tg : Tg} {it : I} {c e : E} : evE g (.comp m own tg it c e) ρ s = (evI g it ρ s).bind fun src s1 =>
    (compSrc src (fun i => compB tg (wipeE ρ own) (fun ρ s => evE g c ρ s) (fun ρ s => evE g e ρ s) i) s1).bind fun ds s2 => mkL m ds s2 := rfl
end
end BS

/-! Ev2: operations on data, told for simp -/
namespace BS
open PySem
section
variable {s : Sto}
/-- not an object of the store, not the script -/
def pl : D → Bool
  | .obj _ | .scr _ | .fn _ => false
  | _ => true
@[simp] theorem pl_non : pl .non = true := rfl
@[simp] theorem pl_bl {b : Bool} : pl (.bl b) = true := rfl
@[simp] theorem pl_int {i : Int} : pl (.int i) = true := rfl
@[simp] theorem pl_str {x : Str} : pl (.str x) = true := rfl
@[simp] theorem pl_tup {ds : List D} : pl (.tup ds) = true := rfl
@[simp] theorem pl_lst {ds : List D} : pl (.lst ds) = true := rfl
def isI : D → Bool | .int _ | .bl _ => true | _ => false
def isB : D → Bool | .bl _ => true | _ => false
def isT : D → Bool | .tup _ => true | _ => false
def isSt_ : D → Bool | .str _ => true | _ => false
def isLs : D → Bool | .lst _ => true | _ => false
theorem ist_int {v : D} (h : pl v = true) : prim s (.ist "int") [v] = some (.bl (isI v)) := by
  have k : istD s "int" v = some (isI v) := by
    cases v <;> first | (cases h; done) | (simp only [istD, isI]; decide +kernel)
  show (istD s "int" v).map D.bl = _
  rw [k]
  rfl
theorem ist_bool {v : D} (h : pl v = true) : prim s (.ist "bool") [v] = some (.bl (isB v)) := by
  have k : istD s "bool" v = some (isB v) := by
    cases v <;> first | (cases h; done) | (simp only [istD, isB]; decide +kernel)
  show (istD s "bool" v).map D.bl = _
  rw [k]
  rfl
theorem ist_tuple {v : D} (h : pl v = true) : prim s (.ist "tuple") [v] = some (.bl (isT v)) := by
  have k : istD s "tuple" v = some (isT v) := by
    cases v <;> first | (cases h; done) | (simp only [istD, isT]; decide +kernel)
  show (istD s "tuple" v).map D.bl = _
  rw [k]
  rfl
theorem ist_str {v : D} (h : pl v = true) : prim s (.ist "str") [v] = some (.bl (isSt_ v)) := by
  have k : istD s "str" v = some (isSt_ v) := by
    cases v <;> first | (cases h; done) | (simp only [istD, isSt_]; decide +kernel)
  show (istD s "str" v).map D.bl = _
  rw [k]
  rfl
@[simp] theorem ist_int_non : prim s (.ist "int") [.non] = some (.bl false) := ist_int rfl
@[simp] theorem ist_int_bl {b : Bool} : prim s (.ist "int") [.bl b] = some (.bl true) := ist_int rfl
@[simp] theorem ist_int_int {b : Int} : prim s (.ist "int") [.int b] = some (.bl true) := ist_int rfl
@[simp] theorem ist_int_str {b : Str} : prim s (.ist "int") [.str b] = some (.bl false) := ist_int rfl
@[simp] theorem ist_int_tup {b : List D} : prim s (.ist "int") [.tup b] = some (.bl false) := ist_int rfl
@[simp] theorem ist_int_lst {b : List D} : prim s (.ist "int") [.lst b] = some (.bl false) := ist_int rfl
@[simp] theorem ist_bool_non : prim s (.ist "bool") [.non] = some (.bl false) := ist_bool rfl
@[simp] theorem ist_bool_bl {b : Bool} : prim s (.ist "bool") [.bl b] = some (.bl true) := ist_bool rfl
@[simp] theorem ist_bool_int {b : Int} : prim s (.ist "bool") [.int b] = some (.bl false) := ist_bool rfl
@[simp] theorem ist_bool_str {b : Str} : prim s (.ist "bool") [.str b] = some (.bl false) := ist_bool rfl
@[simp] theorem ist_bool_tup {b : List D} : prim s (.ist "bool") [.tup b] = some (.bl false) := ist_bool rfl
@[simp] theorem ist_bool_lst {b : List D} : prim s (.ist "bool") [.lst b] = some (.bl false) := ist_bool rfl
@[simp] theorem ist_tuple_non : prim s (.ist "tuple") [.non] = some (.bl false) := ist_tuple rfl
@[simp] theorem ist_tuple_bl {b : Bool} : prim s (.ist "tuple") [.bl b] = some (.bl false) := ist_tuple rfl
@[simp] theorem ist_tuple_int {b : Int} : prim s (.ist "tuple") [.int b] = some (.bl false) := ist_tuple rfl
@[simp] theorem ist_tuple_str {b : Str} : prim s (.ist "tuple") [.str b] = some (.bl false) := ist_tuple rfl
@[simp] theorem ist_tuple_tup {b : List D} : prim s (.ist "tuple") [.tup b] = some (.bl true) := ist_tuple rfl
@[simp] theorem ist_tuple_lst {b : List D} : prim s (.ist "tuple") [.lst b] = some (.bl false) := ist_tuple rfl
@[simp] theorem ist_str_non : prim s (.ist "str") [.non] = some (.bl false) := ist_str rfl
@[simp] theorem ist_str_bl {b : Bool} : prim s (.ist "str") [.bl b] = some (.bl false) := ist_str rfl
@[simp] theorem ist_str_int {b : Int} : prim s (.ist "str") [.int b] = some (.bl false) := ist_str rfl
@[simp] theorem ist_str_str {b : Str} : prim s (.ist "str") [.str b] = some (.bl true) := ist_str rfl
@[simp] theorem ist_str_tup {b : List D} : prim s (.ist "str") [.tup b] = some (.bl false) := ist_str rfl
@[simp] theorem ist_str_lst {b : List D} : prim s (.ist "str") [.lst b] = some (.bl false) := ist_str rfl
@[simp] theorem p_add_int {a b : Int} : prim s .add [.int a, .int b] = some (.int (a + b)) := rfl
@[simp] theorem p_add_tup {a b : List D} : prim s .add [.tup a, .tup b] = if a.length + b.length ≤ sizeLine then some (.tup (a ++ b)) else none := rfl
@[simp] theorem p_sub_int {a b : Int} : prim s .sub [.int a, .int b] = some (.int (a - b)) := rfl
@[simp] theorem p_neg_int {a : Int} : prim s .neg [.int a] = some (.int (-a)) := rfl
@[simp] theorem p_abs_int {a : Int} : prim s .abs [.int a] = some (.int (if a < 0 then -a else a)) := rfl
@[simp] theorem p_toInt_int {a : Int} : prim s .toInt [.int a] = some (.int a) := rfl
@[simp] theorem p_toInt_bl {a : Bool} : prim s .toInt [.bl a] = some (.int (if a = true then 1 else 0)) := rfl
theorem p_mul_int {a b : Int} (h : mulOk a b = true) : prim s .mul [.int a, .int b] = some (.int (a * b)) := by
  show mulD s (.int a) (.int b) = _
  simp only [mulD]
  rw [if_pos h]
theorem p_mod_int {a b : Int} (h : 0 < b) : prim s .mod [.int a, .int b] = some (.int (a % b)) := by
  show (if 0 < b then some (a % b) else none).map D.int = _
  rw [if_pos h]
  rfl
theorem p_div_int {a b : Int} (h : 0 < b) (h2 : b.natAbs.log2 < 9000) : prim s .fdiv [.int a, .int b] = some (.int (a / b)) := by
  show (if (decide (0 < b) && decide (b.natAbs.log2 < 9000)) = true then some (a / b) else none).map D.int = _
  rw [if_pos (by simp [h, h2])]
  rfl
@[simp] theorem p_le_int {a b : Int} : prim s .le [.int a, .int b] = some (.bl (decide (a ≤ b))) := rfl
@[simp] theorem p_lt_int {a b : Int} : prim s .lt [.int a, .int b] = some (.bl (decide (a < b))) := rfl
@[simp] theorem p_gt_int {a b : Int} : prim s .gt [.int a, .int b] = some (.bl (decide (b < a))) := rfl
@[simp] theorem p_ge_int {a b : Int} : prim s .ge [.int a, .int b] = some (.bl (decide (b ≤ a))) := rfl
@[simp] theorem p_eq {x y : D} : prim s .eq [x, y] = (eqv s x y).map .bl := rfl
@[simp] theorem p_ne {x y : D} : prim s .ne [x, y] = (eqv s x y).map fun b => .bl (!b) := rfl
@[simp] theorem p_isin {x y : D} : prim s .isin [x, y] = (inD s x y).map .bl := rfl
@[simp] theorem p_notin {x y : D} : prim s .notin [x, y] = (inD s x y).map fun b => .bl (!b) := rfl
@[simp] theorem p_isN {x : D} : prim s .isN [x] = some (.bl (match x with | .non => true | _ => false)) := rfl
@[simp] theorem p_notN {x : D} : prim s .notN [x] = some (.bl (match x with | .non => false | _ => true)) := rfl
@[simp] theorem p_len_tup {ds : List D} : prim s .len [.tup ds] = some (.int ds.length) := rfl
@[simp] theorem p_len_lst {ds : List D} : prim s .len [.lst ds] = some (.int ds.length) := rfl
@[simp] theorem p_len_scr {ns : List Int} : prim s .len [.scr ns] = some (.int ns.length) := rfl
@[simp] theorem p_ix_tup {ds : List D} {i : Int} : prim s .ix [.tup ds, .int i] = L2.atI ds i := rfl
@[simp] theorem p_ix_lst {ds : List D} {i : Int} : prim s .ix [.lst ds, .int i] = L2.atI ds i := rfl
@[simp] theorem p_ix_scr {ns : List Int} {i : Int} : prim s .ix [.scr ns, .int i] = (L2.atI ns i).map .int := rfl
@[simp] theorem p_min {a b : Int} : prim s .min2 [.int a, .int b] = some (.int (if b < a then b else a)) := rfl
@[simp] theorem p_max {a b : Int} : prim s .max2 [.int a, .int b] = some (.int (if b > a then b else a)) := rfl
@[simp] theorem p_toTup_lst {ds : List D} : prim s .toTup [.lst ds] = some (.tup ds) := rfl
@[simp] theorem p_toTup_tup {ds : List D} : prim s .toTup [.tup ds] = some (.tup ds) := rfl
@[simp] theorem truD_bl {b : Bool} : truD s (.bl b) = some b := rfl
@[simp] theorem mkL_false {ds : List D} : mkL false ds s = .ok (.lst ds) s := rfl
@[simp] theorem litd_int {i : Int} : (Lit.int i).d = .int i := rfl
@[simp] theorem litd_str {i : Str} : (Lit.str i).d = .str i := rfl
@[simp] theorem litd_bl {i : Bool} : (Lit.bl i).d = .bl i := rfl
@[simp] theorem litd_non : (Lit.non).d = .non := rfl
theorem atI_nat {α : Type} {xs : List α} (k : Nat) : L2.atI xs (k : Int) = xs[k]? := by
  unfold L2.atI L2.ixN
  rw [if_pos (Int.natCast_nonneg k)]
  by_cases h : k < xs.length
  · rw [if_pos (by omega)]; rfl
  · rw [if_neg (by omega), List.getElem?_eq_none (by omega)]; rfl
@[simp] theorem atI_0 {α : Type} {xs : List α} : L2.atI xs 0 = xs[0]? := atI_nat 0
@[simp] theorem atI_1 {α : Type} {xs : List α} : L2.atI xs 1 = xs[1]? := atI_nat 1
@[simp] theorem atI_2 {α : Type} {xs : List α} : L2.atI xs 2 = xs[2]? := atI_nat 2
@[simp] theorem atI_3 {α : Type} {xs : List α} : L2.atI xs 3 = xs[3]? := atI_nat 3
@[simp] theorem and_bl {p q : Bool} : ifB p (Out.ok (D.bl q) s) (.ok (.bl p) s) = .ok (.bl (p && q)) s := by cases p <;> rfl
@[simp] theorem and_bl2 {p q : Bool} : ifB p (Out.ok (D.bl q) s) (.ok (.bl false) s) = .ok (.bl (p && q)) s := by cases p <;> rfl
@[simp] theorem or_bl {p q : Bool} : ifB p (Out.ok (D.bl p) s) (.ok (.bl q) s) = .ok (.bl (p || q)) s := by cases p <;> rfl
@[simp] theorem or_bl2 {p q : Bool} : ifB p (Out.ok (D.bl true) s) (.ok (.bl q) s) = .ok (.bl (p || q)) s := by cases p <;> rfl
@[simp] theorem asg_v {i : Nat} {d : D} {ρ : Env} : asg (.v i) d ρ = some (ρ.set i (some d)) := rfl
@[simp] theorem asg_t {ts : List Tg} {ds : List D} {ρ : Env} : asg (.tup ts) (.tup ds) ρ = asgs ts ds ρ := rfl
@[simp] theorem asgs_nil {ρ : Env} : asgs [] [] ρ = some ρ := rfl
@[simp] theorem asgs_cons {i : Nat} {ts : List Tg} {d : D} {ds : List D} {ρ : Env} : asgs (.v i :: ts) (d :: ds) ρ = asgs ts ds (ρ.set i (some d)) := rfl
end
end BS

/-! Ev3: well-made data; comprehensions -/
namespace BS
open PySem
def okD (L : Nat) : Nat → D → Bool
  | 0 => fun d => match d with
    | .non => true
    | .bl _ => true
    | .int _ => true
    | .str x => PyData.strOk x
    | _ => false
  | k + 1 => fun d => match d with
    | .non => true
    | .bl _ => true
    | .int _ => true
    | .str x => PyData.strOk x
    | .tup ds => decide (ds.length ≤ L) && ds.all (okD L k)
    | .lst ds => decide (ds.length ≤ L) && ds.all (okD L k)
    | _ => false
theorem okD_pl {L k : Nat} {d : D} (h : okD L k d = true) : pl d = true := by
  cases k <;> cases d <;> first | rfl | (simp [okD] at h)
theorem okD_succ {L : Nat} : ∀ {k : Nat} {d : D}, okD L k d = true → okD L (k + 1) d = true
  | 0, d, h => by cases d <;> first | rfl | exact h | (simp [okD] at h)
  | k + 1, d, h => by
    cases d with
    | tup ds =>
      simp only [okD, Bool.and_eq_true, List.all_eq_true] at h ⊢
      exact ⟨h.1, fun x hx => okD_succ (h.2 x hx)⟩
    | lst ds =>
      simp only [okD, Bool.and_eq_true, List.all_eq_true] at h ⊢
      exact ⟨h.1, fun x hx => okD_succ (h.2 x hx)⟩
    | _ => first | rfl | exact h | (simp [okD] at h)
theorem okD_le {L k j : Nat} {d : D} (h : okD L k d = true) (hk : k ≤ j) : okD L j d = true := by
  induction hk with
  | refl => exact h
  | step _ ih => exact okD_succ ih
theorem okD_L {L L' : Nat} (hL : L ≤ L') : ∀ {k : Nat} {d : D}, okD L k d = true → okD L' k d = true
  | 0, d, h => by cases d <;> first | rfl | exact h | (simp [okD] at h)
  | k + 1, d, h => by
    cases d with
    | tup ds =>
      simp only [okD, Bool.and_eq_true, List.all_eq_true, decide_eq_true_eq] at h ⊢
      exact ⟨Nat.le_trans h.1 hL, fun x hx => okD_L hL (h.2 x hx)⟩
    | lst ds =>
      simp only [okD, Bool.and_eq_true, List.all_eq_true, decide_eq_true_eq] at h ⊢
      exact ⟨Nat.le_trans h.1 hL, fun x hx => okD_L hL (h.2 x hx)⟩
    | _ => first | rfl | exact h | (simp [okD] at h)
theorem okD_tup {L k : Nat} {ds : List D} (h : okD L k (.tup ds) = true) : ds.length ≤ L ∧ ∀ x ∈ ds, okD L (k - 1) x = true := by
  cases k with
  | zero => simp [okD] at h
  | succ k =>
    simp only [okD, Bool.and_eq_true, List.all_eq_true, decide_eq_true_eq] at h
    exact h
theorem okD_tupI {L k : Nat} {ds : List D} (h1 : ds.length ≤ L) (h2 : ∀ x ∈ ds, okD L k x = true) : okD L (k + 1) (.tup ds) = true := by
  simp only [okD, Bool.and_eq_true, List.all_eq_true, decide_eq_true_eq]
  exact ⟨h1, h2⟩
theorem okD_lstI {L k : Nat} {ds : List D} (h1 : ds.length ≤ L) (h2 : ∀ x ∈ ds, okD L k x = true) : okD L (k + 1) (.lst ds) = true := by
  simp only [okD, Bool.and_eq_true, List.all_eq_true, decide_eq_true_eq]
  exact ⟨h1, h2⟩
theorem pysOk {k : Nat} {ds : List D} (h : ∀ x ∈ ds, ∃ p, pyD x = some p ∧ p.canLay0 = true ∧ p.depth ≤ k) : ∃ ps, pyDs ds = some ps ∧ PyData.canLayAll0 ps = true ∧ PyData.depthAll ps ≤ k ∧ ps.length = ds.length := by
  induction ds with
  | nil => exact ⟨[], rfl, rfl, Nat.zero_le _, rfl⟩
  | cons d ds ih =>
    obtain ⟨p, h1, h2, h3⟩ := h d List.mem_cons_self
    obtain ⟨ps, h4, h5, h6, h7⟩ := ih fun x hx => h x (List.mem_cons_of_mem _ hx)
    refine ⟨p :: ps, by simp only [pyDs, h1, h4], by simp only [PyData.canLayAll0, h2, h5]; rfl, ?_, by simp [h7]⟩
    simp only [PyData.depthAll]
    omega
theorem okD_py {L : Nat} : ∀ {k : Nat} {d : D}, okD L k d = true → ∃ p, pyD d = some p ∧ p.canLay0 = true ∧ p.depth ≤ k
  | 0, d, h => by
    cases d with
    | non => exact ⟨_, rfl, rfl, Nat.zero_le _⟩
    | bl b => exact ⟨_, rfl, rfl, Nat.zero_le _⟩
    | int i => exact ⟨_, rfl, rfl, Nat.zero_le _⟩
    | str x => exact ⟨_, rfl, h, Nat.zero_le _⟩
    | _ => simp [okD] at h
  | k + 1, d, h => by
    cases d with
    | non => exact ⟨_, rfl, rfl, Nat.zero_le _⟩
    | bl b => exact ⟨_, rfl, rfl, Nat.zero_le _⟩
    | int i => exact ⟨_, rfl, rfl, Nat.zero_le _⟩
    | str x => exact ⟨_, rfl, h, Nat.zero_le _⟩
    | tup ds =>
      simp only [okD, Bool.and_eq_true, List.all_eq_true] at h
      obtain ⟨ps, h1, h2, h3, _⟩ := pysOk fun x hx => okD_py (h.2 x hx)
      exact ⟨.tuple ps, by simp only [pyD, h1]; rfl, h2, by simp only [PyData.depth]; omega⟩
    | lst ds =>
      simp only [okD, Bool.and_eq_true, List.all_eq_true] at h
      obtain ⟨ps, h1, h2, h3, _⟩ := pysOk fun x hx => okD_py (h.2 x hx)
      exact ⟨.list ps, by simp only [pyD, h1]; rfl, h2, by simp only [PyData.depth]; omega⟩
    | _ => simp [okD] at h
theorem okD_shp {L k : Nat} {d : D} (h : okD L k d = true) (hk : k ≤ 64) : ∃ p, pyD d = some p ∧ shp d = some p := by
  obtain ⟨p, h1, h2, h3⟩ := okD_py h
  refine ⟨p, h1, ?_⟩
  unfold shp
  rw [h1]
  have : SeqAt.shaped p = true := by
    unfold SeqAt.shaped
    rw [h2]
    simp; omega
  simp [this]
theorem und_pl {s : Sto} {d : D} (h : pl d = true) : und s d = d := by cases d <;> first | rfl | cases h
theorem eqvOk {s : Sto} {L k : Nat} {x y : D} {p q : PyData} (hx : okD L k x = true) (hy : okD L k y = true) (hk : k ≤ 64) (ep : pyD x = some p) (eq : pyD y = some q) : eqv s x y = some (PyData.eqv p q) := by
  obtain ⟨p', e1, e2⟩ := okD_shp hx hk
  obtain ⟨q', e3, e4⟩ := okD_shp hy hk
  rw [ep] at e1; cases e1
  rw [eq] at e3; cases e3
  unfold eqv
  rw [und_pl (okD_pl hx), und_pl (okD_pl hy), e2, e4]
@[simp] theorem eqv_int {s : Sto} {a b : Int} : eqv s (.int a) (.int b) = some (a == b) := rfl
@[simp] theorem eqv_bl {s : Sto} {a b : Bool} : eqv s (.bl a) (.bl b) = some (a == b) := rfl
theorem eqv_str {s : Sto} {a b : Str} (ha : PyData.strOk a = true) (hb : PyData.strOk b = true) : eqv s (.str a) (.str b) = some (a == b) :=
  eqvOk (L := 0) (k := 0) (x := .str a) (y := .str b) ha hb (by decide) rfl rfl
/-- against the empty list, the empty tuple -/
theorem eqv_nilL {s : Sto} {L k : Nat} {ds : List D} (h : okD L k (.lst ds) = true) (hk : k ≤ 64) : eqv s (.lst ds) (.lst []) = some ds.isEmpty := by
  obtain ⟨p, e1, _⟩ := okD_shp h hk
  have hn : okD L k (.lst []) = true := by cases k with | zero => simp [okD] at h | succ k => exact okD_lstI (Nat.zero_le _) fun _ z => nomatch z
  rw [eqvOk h hn hk e1 rfl]
  cases ds with
  | nil => cases e1; rfl
  | cons d ds =>
    simp only [pyD, pyDs] at e1
    split at e1
    · cases e1; rfl
    · cases e1
theorem eqv_nilT {s : Sto} {L k : Nat} {ds : List D} (h : okD L k (.tup ds) = true) (hk : k ≤ 64) : eqv s (.tup ds) (.tup []) = some ds.isEmpty := by
  obtain ⟨p, e1, _⟩ := okD_shp h hk
  have hn : okD L k (.tup []) = true := by cases k with | zero => simp [okD] at h | succ k => exact okD_tupI (Nat.zero_le _) fun _ z => nomatch z
  rw [eqvOk h hn hk e1 rfl]
  cases ds with
  | nil => cases e1; rfl
  | cons d ds =>
    simp only [pyD, pyDs] at e1
    split at e1
    · cases e1; rfl
    · cases e1
theorem eqv_any {ds : List D} {f : D → PyData} {p : PyData} : (ds.map f).any (fun z => PyData.eqv z p) = ds.any fun d => PyData.eqv (f d) p := by
  rw [List.any_map]; rfl
/-- a word among words -/
theorem in_strs {s : Sto} {x : Str} {ws : List Str} (hx : PyData.strOk x = true) (hw : ws.all PyData.strOk = true) : inD s (.str x) (.tup (ws.map D.str)) = some (ws.any (· == x)) := by
  unfold inD
  obtain ⟨p, e1, e2⟩ := okD_shp (L := 0) (k := 0) (d := .str x) hx (by decide)
  cases e1
  have e3 : pyDs (ws.map D.str) = some (ws.map PyData.str) := by
    clear hw
    induction ws with
    | nil => rfl
    | cons w ws ih => simp only [List.map, pyDs, pyD, ih]
  have e4 : SeqAt.shaped (.list (ws.map PyData.str)) = true := by
    have h0 : okD ws.length 1 (.lst (ws.map D.str)) = true := okD_lstI (by simp) fun d hd => by
      obtain ⟨w, h1, rfl⟩ := List.mem_map.mp hd
      exact List.all_eq_true.mp hw w h1
    obtain ⟨q, h1, h2⟩ := okD_shp h0 (by decide)
    simp only [pyD, e3, Option.map] at h1
    cases h1
    unfold shp at h2
    simp only [pyD, e3, Option.map] at h2
    split at h2
    · assumption
    · cases h2
  have e5 : (ws.map D.str).map (und s) = ws.map D.str := by rw [List.map_map]; rfl
  simp only [und, e2, vS, e5, e3, e4, if_true]
  congr 1
  rw [List.any_map]
  rfl
/-- a number among numbers -/
theorem in_ints {s : Sto} {x : Int} {ns : List Int} : inD s (.int x) (.tup (ns.map D.int)) = some (ns.any (· == x)) := by
  unfold inD
  have e3 : pyDs (ns.map D.int) = some (ns.map PyData.int) := by
    induction ns with
    | nil => rfl
    | cons w ws ih => simp only [List.map, pyDs, pyD, ih]
  have e4 : SeqAt.shaped (.list (ns.map PyData.int)) = true := by
    have h0 : okD ns.length 1 (.lst (ns.map D.int)) = true := okD_lstI (by simp) fun d hd => by
      obtain ⟨w, h1, rfl⟩ := List.mem_map.mp hd
      rfl
    obtain ⟨q, h1, h2⟩ := okD_shp h0 (by decide)
    simp only [pyD, e3, Option.map] at h1
    cases h1
    unfold shp at h2
    simp only [pyD, e3, Option.map] at h2
    split at h2
    · assumption
    · cases h2
  have e2 : shp (.int x) = some (.int x) := rfl
  have e5 : (ns.map D.int).map (und s) = ns.map D.int := by rw [List.map_map]; rfl
  simp only [und, e2, vS, e5, e3, e4, if_true]
  congr 1
  rw [List.any_map]
  rfl
/-! comprehensions -/
section
variable {g : G} {ρ : Env} {s : Sto}
/-- what an iterable gives -/
def Gives (g : G) (it : I) (ρ : Env) (s : Sto) (xs : List D) : Prop := ∃ src, evI g it ρ s = .ok src s ∧ itemsOf src = some xs
theorem gv_tup {a : E} {xs : List D} (h : evE g a ρ s = .ok (.tup xs) s) : Gives g (.e a) ρ s xs := ⟨.seq (.tup xs), by rw [evI_e, h]; rfl, rfl⟩
theorem gv_lst {a : E} {xs : List D} (h : evE g a ρ s = .ok (.lst xs) s) : Gives g (.e a) ρ s xs := ⟨.seq (.lst xs), by rw [evI_e, h]; rfl, rfl⟩
theorem rng_fits {k : Nat} (hk : k ≤ 16777216) : rngOk (k : Int) = true := by
  unfold rngOk
  rw [Int.natAbs_natCast]
  exact Nat.ble_eq_true_of_le (Nat.le_trans (Nat.succ_le_succ hk) (by decide))
theorem gv_r1 {a : E} {k : Nat} (h : evE g a ρ s = .ok (.int (k : Int)) s) (hk : k ≤ 16777216) : Gives g (.r1 a) ρ s ((List.range k).map fun i => D.int (i : Nat)) := by
  refine ⟨.rng 0 k, ?_, ?_⟩
  · rw [evI_r1, h]
    simp only [bind_ok]
    rw [if_pos (rng_fits hk), Int.toNat_natCast]
  · simp [itemsOf]
def seqD (k : Bool) (xs : List D) : D := if k = true then .lst xs else .tup xs
theorem gv_zip {a b : E} {xs ys : List D} {k l : Bool} (h1 : evE g a ρ s = .ok (seqD k xs) s) (h2 : evE g b ρ s = .ok (seqD l ys) s) : Gives g (.zip a b) ρ s (List.zipWith (fun x y => D.tup [x, y]) xs ys) := by
  refine ⟨.zip (seqD k xs) (seqD l ys), ?_, ?_⟩
  · rw [evI_zip, h1]
    simp only [bind_ok, h2]
    cases k <;> cases l <;> rfl
  · cases k <;> cases l <;> rfl
theorem gv_enum {a : E} {xs : List D} {k : Bool} (h : evE g a ρ s = .ok (seqD k xs) s) : Gives g (.enum a) ρ s (enumD 0 xs) := by
  refine ⟨.enum (seqD k xs), ?_, ?_⟩
  · rw [evI_enum, h]
    cases k <;> rfl
  · cases k <;> rfl
theorem comp_pure {m : Bool} {own : List Nat} {tg : Tg} {it : I} {c e : E} {xs : List D} {f : D → Option D} (hI : Gives g it ρ s xs) (hl : xs.length ≤ sizeLine)
    (hb : ∀ x ∈ xs, ∃ ρ1, asg tg x (wipeE ρ own) = some ρ1 ∧ ((evE g c ρ1 s).bind fun b s' => match truD s' b with
      | some true => (evE g e ρ1 s').bind fun y s'' => .ok (some y) s''
      | some false => .ok none s'
      | none => .no) = .ok (f x) s) : evE g (.comp m own tg it c e) ρ s = mkL m (xs.filterMap f) s := by
  obtain ⟨src, h1, h2⟩ := hI
  rw [evE_comp, h1]
  simp only [bind_ok]
  have e : (fun (i : Nat) => compB tg (wipeE ρ own) (fun ρ s => evE g c ρ s) (fun ρ s => evE g e ρ s) i) = fun (_ : Nat) => compB tg (wipeE ρ own) (fun ρ s => evE g c ρ s) (fun ρ s => evE g e ρ s) 0 := rfl
  rw [e, compSrc_items h2, compItems_pure (f := f) xs [] (fun x hx => ?_) (by simpa using hl)]
  · rfl
  · obtain ⟨ρ1, a1, a2⟩ := hb x hx
    unfold compB
    rw [a1]
    exact a2
theorem comp_map {m : Bool} {own : List Nat} {tg : Tg} {it : I} {e : E} {xs : List D} (f : D → D) (hI : Gives g it ρ s xs) (hl : xs.length ≤ sizeLine)
    (hb : ∀ x ∈ xs, ∃ ρ1, asg tg x (wipeE ρ own) = some ρ1 ∧ evE g e ρ1 s = .ok (f x) s) : evE g (.comp m own tg it (.lit (.bl true)) e) ρ s = mkL m (xs.map f) s := by
  rw [comp_pure (f := fun x => some (f x)) hI hl fun x hx => ?_]
  · congr 1
    induction xs with
    | nil => rfl
    | cons x xs ih => simp
  · obtain ⟨ρ1, a1, a2⟩ := hb x hx
    exact ⟨ρ1, a1, by simp [a2]⟩
theorem comp_filter {m : Bool} {own : List Nat} {tg : Tg} {it : I} {c e : E} {xs : List D} (p : D → Bool) (f : D → D) (hI : Gives g it ρ s xs) (hl : xs.length ≤ sizeLine)
    (hb : ∀ x ∈ xs, ∃ ρ1, asg tg x (wipeE ρ own) = some ρ1 ∧ evE g c ρ1 s = .ok (.bl (p x)) s ∧ (p x = true → evE g e ρ1 s = .ok (f x) s)) : evE g (.comp m own tg it c e) ρ s = mkL m ((xs.filter p).map f) s := by
  rw [comp_pure (f := fun x => if p x = true then some (f x) else none) hI hl fun x hx => ?_]
  · congr 1
    clear hb hI hl
    induction xs with
    | nil => rfl
    | cons x xs ih => by_cases h : p x = true <;> simp [h, ih]
  · obtain ⟨ρ1, a1, a2, a3⟩ := hb x hx
    refine ⟨ρ1, a1, ?_⟩
    rw [a2]
    cases hp : p x with
    | true => simp [a3 hp]
    | false => simp
theorem all_map {xs : List D} {p : D → Bool} : prim s .all [.lst (xs.map fun x => D.bl (p x))] = some (.bl (xs.all p)) := by
  have e0 : ∀ zs : List D, prim s .all [.lst zs] = (boolsD zs).map fun bs => D.bl (bs.all id) := fun _ => rfl
  rw [e0]
  have : boolsD (xs.map fun x => D.bl (p x)) = some (xs.map p) := by
    induction xs with
    | nil => rfl
    | cons x xs ih => simp only [List.map, boolsD, ih]; rfl
  rw [this]
  simp
theorem any_map {xs : List D} {p : D → Bool} : prim s .any [.lst (xs.map fun x => D.bl (p x))] = some (.bl (xs.any p)) := by
  have e0 : ∀ zs : List D, prim s .any [.lst zs] = (boolsD zs).map fun bs => D.bl (bs.any id) := fun _ => rfl
  rw [e0]
  have : boolsD (xs.map fun x => D.bl (p x)) = some (xs.map p) := by
    induction xs with
    | nil => rfl
    | cons x xs ih => simp only [List.map, boolsD, ih]; rfl
  rw [this]
  simp
theorem sum_ints {ns : List Int} : prim s .sum [.lst (ns.map D.int)] = some (.int ns.sum) := by
  have e0 : ∀ zs : List D, prim s .sum [.lst zs] = (intsD zs).map fun ms => D.int ms.sum := fun _ => rfl
  rw [e0]
  have : intsD (ns.map D.int) = some ns := by
    induction ns with
    | nil => rfl
    | cons x xs ih => simp only [List.map, intsD, ih]; rfl
  rw [this]
  rfl
/-- kept from simp's own ways with lists -/
def mapBl (p : D → Bool) (xs : List D) : List D := xs.map fun x => D.bl (p x)
def allB (p : D → Bool) (xs : List D) : Bool := xs.all p
def anyB (p : D → Bool) (xs : List D) : Bool := xs.any p
def pairs (xs ys : List D) : List D := List.zipWith (fun x y => D.tup [x, y]) xs ys
theorem allB_iff {p : D → Bool} {xs : List D} : allB p xs = true ↔ ∀ x ∈ xs, p x = true := List.all_eq_true
theorem allB_false {p : D → Bool} {xs : List D} : allB p xs = false ↔ ∃ x ∈ xs, p x = false := by
  unfold allB; simp
@[simp] theorem allB_nil {p : D → Bool} : allB p [] = true := rfl
theorem allB_cons {p : D → Bool} {x : D} {xs : List D} : allB p (x :: xs) = (p x && allB p xs) := rfl
@[simp] theorem all_bl {p : D → Bool} {xs : List D} : prim s .all [.lst (mapBl p xs)] = some (.bl (allB p xs)) := all_map
@[simp] theorem any_bl {p : D → Bool} {xs : List D} : prim s .any [.lst (mapBl p xs)] = some (.bl (anyB p xs)) := any_map
theorem comp_bl {m : Bool} {own : List Nat} {tg : Tg} {it : I} {e : E} {xs : List D} (p : D → Bool) (hI : Gives g it ρ s xs) (hl : xs.length ≤ sizeLine)
    (hb : ∀ x ∈ xs, ∃ ρ1, asg tg x (wipeE ρ own) = some ρ1 ∧ evE g e ρ1 s = .ok (.bl (p x)) s) : evE g (.comp m own tg it (.lit (.bl true)) e) ρ s = mkL m (mapBl p xs) s := comp_map _ hI hl hb
theorem mem_pairs {x : D} : ∀ {as bs : List D}, x ∈ pairs as bs → ∃ a b, x = .tup [a, b] ∧ a ∈ as ∧ b ∈ bs
  | a :: as, b :: bs, h => by
    have h : x ∈ D.tup [a, b] :: pairs as bs := h
    rcases List.mem_cons.mp h with rfl | h
    · exact ⟨a, b, rfl, List.mem_cons_self, List.mem_cons_self⟩
    · obtain ⟨c, d, e, h1, h2⟩ := mem_pairs h
      exact ⟨c, d, e, List.mem_cons_of_mem _ h1, List.mem_cons_of_mem _ h2⟩
  | [], _, h => nomatch h
  | _ :: _, [], h => nomatch h
theorem pairs_len {as bs : List D} : (pairs as bs).length ≤ as.length := by unfold pairs; rw [List.length_zipWith]; omega
theorem gv_pairs {a b : E} {xs ys : List D} (k l : Bool) (h1 : evE g a ρ s = .ok (seqD k xs) s) (h2 : evE g b ρ s = .ok (seqD l ys) s) : Gives g (.zip a b) ρ s (pairs xs ys) := gv_zip h1 h2
theorem cut_from {xs : List D} (m : Nat) : cutD xs (some (m : Int)) none = xs.drop m := by
  unfold cutD
  rw [HT.sIx_nat, HT.sIx_none]
  by_cases h : m ≤ xs.length
  · rw [Nat.min_eq_left h, List.take_of_length_le (by simp)]
  · rw [Nat.min_eq_right (by omega), List.drop_eq_nil_of_le (Nat.le_refl _), List.drop_eq_nil_of_le (by omega)]
    simp
theorem cut_to {xs : List D} (m : Nat) : cutD xs none (some (m : Int)) = xs.take m := by
  unfold cutD
  rw [HT.sIx_nat, HT.sIx_none]
  by_cases h : m ≤ xs.length
  · rw [Nat.min_eq_left h]; simp
  · rw [Nat.min_eq_right (by omega), List.take_of_length_le (by simp), List.take_of_length_le (by omega)]; simp
/-! the same over typed things -/
section
variable {α : Type}
theorem compItems_T {b : D → Sto → Out (Option D)} {f : α → Option D} {enc : α → D} : ∀ (ts : List α) (acc : List D), (∀ t ∈ ts, b (enc t) s = .ok (f t) s) → acc.length + ts.length ≤ sizeLine → compItems b (ts.map enc) acc s = .ok (acc.reverse ++ ts.filterMap f) s
  | [], acc, _, _ => by simp [compItems]
  | x :: xs, acc, h, hl => by
    have h1 := h x List.mem_cons_self
    have hl' : acc.length + xs.length + 1 ≤ sizeLine := by simpa [Nat.add_assoc] using hl
    simp only [List.map, compItems, h1]
    cases hf : f x with
    | none =>
      dsimp only
      rw [compItems_T xs acc (fun y hy => h y (List.mem_cons_of_mem _ hy)) (by omega)]
      simp [hf]
    | some y =>
      dsimp only
      rw [if_pos (by omega), compItems_T xs (y :: acc) (fun z hz => h z (List.mem_cons_of_mem _ hz)) (by simp; omega)]
      simp [hf]
def mapT (f : α → D) (ts : List α) : List D := ts.map f
def allT (p : α → Bool) (ts : List α) : Bool := ts.all p
def mapBlT (p : α → Bool) (ts : List α) : List D := ts.map fun t => D.bl (p t)
theorem comp_T {m : Bool} {own : List Nat} {tg : Tg} {it : I} {e : E} {ts : List α} (enc : α → D) (f : α → D) (hI : Gives g it ρ s (mapT enc ts)) (hl : ts.length ≤ sizeLine)
    (hb : ∀ t ∈ ts, ∃ ρ1, asg tg (enc t) (wipeE ρ own) = some ρ1 ∧ evE g e ρ1 s = .ok (f t) s) : evE g (.comp m own tg it (.lit (.bl true)) e) ρ s = mkL m (mapT f ts) s := by
  obtain ⟨src, h1, h2⟩ := hI
  rw [evE_comp, h1]
  simp only [bind_ok]
  have e0 : (fun (i : Nat) => compB tg (wipeE ρ own) (fun ρ s => evE g (.lit (.bl true)) ρ s) (fun ρ s => evE g e ρ s) i) = fun (_ : Nat) => compB tg (wipeE ρ own) (fun ρ s => evE g (.lit (.bl true)) ρ s) (fun ρ s => evE g e ρ s) 0 := rfl
  rw [e0, compSrc_items h2]
  unfold mapT
  rw [compItems_T (f := fun t => some (f t)) ts [] (fun t ht => ?_) (by simpa using hl)]
  · simp
  · obtain ⟨ρ1, a1, a2⟩ := hb t ht
    unfold compB
    rw [a1]
    simp [a2]
theorem comp_blT {m : Bool} {own : List Nat} {tg : Tg} {it : I} {e : E} {ts : List α} (enc : α → D) (p : α → Bool) (hI : Gives g it ρ s (mapT enc ts)) (hl : ts.length ≤ sizeLine)
    (hb : ∀ t ∈ ts, ∃ ρ1, asg tg (enc t) (wipeE ρ own) = some ρ1 ∧ evE g e ρ1 s = .ok (.bl (p t)) s) : evE g (.comp m own tg it (.lit (.bl true)) e) ρ s = mkL m (mapBlT p ts) s := comp_T enc _ hI hl hb
@[simp] theorem all_blT {p : α → Bool} {ts : List α} : prim s .all [.lst (mapBlT p ts)] = some (.bl (allT p ts)) := by
  have e0 : ∀ zs : List D, prim s .all [.lst zs] = (boolsD zs).map fun bs => D.bl (bs.all id) := fun _ => rfl
  rw [e0]
  have : boolsD (mapBlT p ts) = some (ts.map p) := by
    unfold mapBlT
    induction ts with
    | nil => rfl
    | cons x xs ih => simp only [List.map, boolsD, ih]; rfl
  rw [this]
  simp [allT]
def intL (ns : List Int) : List D := ns.map D.int
@[simp] theorem sum_intL {ns : List Int} : prim s .sum [.lst (intL ns)] = some (.int ns.sum) := sum_ints
theorem in_intL {x : Int} {ns : List Int} : inD s (.int x) (.tup (intL ns)) = some (ns.any (· == x)) := in_ints
@[simp] theorem intL_len {ns : List Int} : (intL ns).length = ns.length := List.length_map ..
theorem mapT_int {f : α → Int} {ts : List α} : mapT (fun t => D.int (f t)) ts = intL (ts.map f) := by unfold mapT intL; rw [List.map_map]; rfl
end
theorem evS_forG {t : Tg} {it : I} {b : List S} {xs : List D} (h : Gives g it ρ s xs) : evS g (.for_ t it b) ρ s = forItems t (fun ρ s => evSs g b ρ s) xs ρ s := by
  obtain ⟨src, h1, h2⟩ := h
  rw [evS_for, h1]
  exact forSrc_items h2
/-- a loop that ends with False at the first item that is not so -/
theorem for_allR {tg : Tg} {b : Env → Sto → SO} {p : D → Bool} (R : Env → Prop) : ∀ (xs : List D) (ρ : Env), R ρ → (∀ x ∈ xs, ∀ ρ, R ρ → ∃ ρ1 ρ', asg tg x ρ = some ρ1 ∧ R ρ' ∧ b ρ1 s = ifB (p x) (.fl (.next ρ') s) (.fl (.ret (.bl false)) s)) →
    ∃ ρ', R ρ' ∧ forItems tg b xs ρ s = ifB (allB p xs) (.fl (.next ρ') s) (.fl (.ret (.bl false)) s)
  | [], ρ, h0, _ => ⟨ρ, h0, rfl⟩
  | x :: xs, ρ, h0, hb => by
    obtain ⟨ρ1, ρ', e1, r1, e2⟩ := hb x List.mem_cons_self ρ h0
    simp only [forItems, e1, e2, allB_cons]
    cases p x with
    | false => exact ⟨ρ', r1, rfl⟩
    | true => exact for_allR R xs ρ' r1 fun y hy => hb y (List.mem_cons_of_mem _ hy)
end
end BS

/-! Ev4: statement by statement -/
namespace BS
open PySem
/-- what is left of a block, not yet opened -/
def rest (g : G) (ts : List S) (ρ : Env) (s : Sto) : SO := evSs g ts ρ s
theorem evSs_step {g : G} {t : S} {ts : List S} {ρ : Env} {s : Sto} : evSs g (t :: ts) ρ s = (evS g t ρ s).seq (rest g ts) := evSs_cons
theorem rest_cons {g : G} {t : S} {ts : List S} {ρ : Env} {s : Sto} : rest g (t :: ts) ρ s = (evS g t ρ s).seq (rest g ts) := evSs_cons
@[simp] theorem rest_nil {g : G} {ρ : Env} {s : Sto} : rest g [] ρ s = .fl (.next ρ) s := rfl
theorem rest_eq {g : G} {ts : List S} {ρ : Env} {s : Sto} : rest g ts ρ s = evSs g ts ρ s := rfl
end BS

/-! Ev5: walks over objects of the store; folds -/
namespace BS
open PySem
/-- what src gives at the store s -/
def Walk (s : Sto) (src : Src) (xs : List D) : Prop := (∀ i, i ≤ xs.length → src.at s i = trnOf xs[i]?) ∧ xs.length ≤ src.most s
theorem walk_items {s : Sto} {src : Src} {xs : List D} (h : itemsOf src = some xs) : Walk s src xs := ⟨fun i hi => at_items h i hi, most_items h⟩
theorem vS_obj {s : Sto} {m : Nat} {ds : List D} (h : s[m]? = some (Ob.lst ds)) : vS s (.obj m) = some ds := by simp only [vS, vL, h]
theorem vL_obj {s : Sto} {m : Nat} {ds : List D} (h : s[m]? = some (Ob.lst ds)) : vL s (.obj m) = some ds := by simp only [vL, h]
theorem walk_obj {s : Sto} {m : Nat} {ds : List D} (h : s[m]? = some (Ob.lst ds)) : Walk s (.seq (.obj m)) ds := by
  refine ⟨fun i hi => ?_, by simp [Src.most, vS_obj h]⟩
  simp only [Src.at, vS_obj h]
  cases ds[i]? <;> rfl
theorem walk_enum {s : Sto} {m : Nat} {ds : List D} (h : s[m]? = some (Ob.lst ds)) : Walk s (.enum (.obj m)) (enumD 0 ds) := by
  refine ⟨fun i hi => ?_, by simp [Src.most, vS_obj h]⟩
  rw [enumD_len] at hi
  simp only [Src.at, vS_obj h]
  rw [enumD_get]
  cases hd : ds[i]? with
  | none =>
    have := List.getElem?_eq_none_iff.mp hd
    simp only [Option.map_none, trnOf]
    rw [if_pos (by omega)]
  | some x => simp [trnOf]
/-- zip of an object and a tuple -/
theorem walk_zipO {s : Sto} {m : Nat} {ds es : List D} (h : s[m]? = some (Ob.lst ds)) : Walk s (.zip (.obj m) (.tup es)) (List.zipWith (fun x y => D.tup [x, y]) ds es) := by
  have q := walk_items (s := s) (src := .zip (.lst ds) (.tup es)) (xs := List.zipWith (fun x y => D.tup [x, y]) ds es) rfl
  refine ⟨fun i hi => ?_, ?_⟩
  · rw [← q.1 i hi]
    simp only [Src.at, vS_obj h]
    rfl
  · have e : Src.most s (.zip (.obj m) (.tup es)) = ds.length := by show ((vS s (.obj m)).map (·.length)).getD 0 = _; rw [vS_obj h]; rfl
    rw [e, List.length_zipWith]
    omega
theorem comp_walk {s : Sto} {src : Src} {xs : List D} {b : D → Sto → Out (Option D)} {f : D → Option D} (w : Walk s src xs) (hb : ∀ x ∈ xs, b x s = .ok (f x) s) : ∀ (k i : Nat) (acc : List D), xs.length ≤ i + k → i ≤ xs.length → acc.length + xs.length ≤ sizeLine + i →
    compLoop src (fun _ => b) k i acc s = .ok (acc.reverse ++ (xs.drop i).filterMap f) s := by
  intro k
  induction k with
  | zero =>
    intro i acc h1 h2 h3
    have e : i = xs.length := by omega
    subst e
    unfold compLoop
    rw [w.1 _ (Nat.le_refl _), List.getElem?_eq_none (Nat.le_refl _), List.drop_length]
    simp [trnOf]
  | succ k ih =>
    intro i acc h1 h2 h3
    unfold compLoop
    rw [w.1 i h2]
    cases hx : xs[i]? with
    | none =>
      have e := List.getElem?_eq_none_iff.mp hx
      rw [List.drop_eq_nil_of_le e]
      simp [trnOf]
    | some x =>
      have hi : i < xs.length := (List.getElem?_eq_some_iff.mp hx).1
      have e : xs.drop i = x :: xs.drop (i + 1) := by
        rw [List.drop_eq_getElem_cons hi]
        congr 1
        exact (List.getElem?_eq_some_iff.mp hx).2
      rw [e]
      simp only [trnOf, hb x (List.mem_of_getElem? hx)]
      cases hf : f x with
      | none =>
        dsimp only
        rw [ih (i + 1) acc (by omega) hi (by omega)]
        simp [hf]
      | some y =>
        dsimp only
        rw [if_pos (by omega), ih (i + 1) (y :: acc) (by omega) hi (by simp; omega)]
        simp [hf]
theorem compSrc_walk {s : Sto} {src : Src} {xs : List D} {b : D → Sto → Out (Option D)} {f : D → Option D} (w : Walk s src xs) (hb : ∀ x ∈ xs, b x s = .ok (f x) s) (hl : xs.length ≤ sizeLine) : compSrc src (fun _ => b) s = .ok (xs.filterMap f) s := by
  unfold compSrc
  rw [comp_walk w hb _ 0 [] (by have := w.2; omega) (Nat.zero_le _) (by simpa using hl)]
  simp
section
variable {g : G} {ρ : Env} {s : Sto}
/-- a comprehension over any walk, its parts changing nothing -/
theorem comp_pureW {m : Bool} {own : List Nat} {tg : Tg} {it : I} {c e : E} {src : Src} {xs : List D} {f : D → Option D} (hI : evI g it ρ s = .ok src s) (w : Walk s src xs) (hl : xs.length ≤ sizeLine)
    (hb : ∀ x ∈ xs, ∃ ρ1, asg tg x (wipeE ρ own) = some ρ1 ∧ ((evE g c ρ1 s).bind fun b s' => match truD s' b with
      | some true => (evE g e ρ1 s').bind fun y s'' => .ok (some y) s''
      | some false => .ok none s'
      | none => .no) = .ok (f x) s) : evE g (.comp m own tg it c e) ρ s = mkL m (xs.filterMap f) s := by
  rw [evE_comp, hI]
  simp only [bind_ok]
  have e : (fun (i : Nat) => compB tg (wipeE ρ own) (fun ρ s => evE g c ρ s) (fun ρ s => evE g e ρ s) i) = fun (_ : Nat) => compB tg (wipeE ρ own) (fun ρ s => evE g c ρ s) (fun ρ s => evE g e ρ s) 0 := rfl
  rw [e, compSrc_walk (f := f) w (fun x hx => ?_) hl]
  · rfl
  · obtain ⟨ρ1, a1, a2⟩ := hb x hx
    unfold compB
    rw [a1]
    exact a2
theorem comp_mapW {m : Bool} {own : List Nat} {tg : Tg} {it : I} {e : E} {src : Src} {xs : List D} (f : D → D) (hI : evI g it ρ s = .ok src s) (w : Walk s src xs) (hl : xs.length ≤ sizeLine)
    (hb : ∀ x ∈ xs, ∃ ρ1, asg tg x (wipeE ρ own) = some ρ1 ∧ evE g e ρ1 s = .ok (f x) s) : evE g (.comp m own tg it (.lit (.bl true)) e) ρ s = mkL m (xs.map f) s := by
  rw [comp_pureW (f := fun x => some (f x)) hI w hl fun x hx => ?_]
  · congr 1
    clear hb hl w
    induction xs with
    | nil => rfl
    | cons x xs ih => simp
  · obtain ⟨ρ1, a1, a2⟩ := hb x hx
    exact ⟨ρ1, a1, by simp [a2]⟩
/-- a for whose walk stays as it is -/
theorem for_walk {src : Src} {xs : List D} {tg : Tg} {b : Env → Sto → SO} {Q : Flow → Sto → Prop} (I : Nat → Env → Sto → Prop) (hw : ∀ i ρ s, I i ρ s → Walk s src xs) (h0 : I 0 ρ s)
    (step : ∀ (i : Nat) (x : D) (ρ : Env) (s : Sto), xs[i]? = some x → I i ρ s → ∃ ρ1, asg tg x ρ = some ρ1 ∧ (b ρ1 s).sat fun fl s' => match fl with
      | .next ρ' => I (i + 1) ρ' s'
      | .cont ρ' => I (i + 1) ρ' s'
      | .brk ρ' => Q (.next ρ') s'
      | .ret d => Q (.ret d) s')
    (hend : ∀ ρ s, I xs.length ρ s → Q (.next ρ) s) : (forSrc src tg b ρ s).sat Q := by
  have key : ∀ (k i : Nat) (ρ : Env) (s : Sto), xs.length ≤ i + k → i ≤ xs.length → I i ρ s → (forLoop src tg b k i ρ s).sat Q := by
    intro k
    induction k with
    | zero =>
      intro i ρ s h1 h2 h
      have e : i = xs.length := by omega
      subst e
      unfold forLoop
      rw [(hw _ _ _ h).1 _ (Nat.le_refl _), List.getElem?_eq_none (Nat.le_refl _)]
      exact hend ρ s h
    | succ k ih =>
      intro i ρ s h1 h2 h
      unfold forLoop
      rw [(hw _ _ _ h).1 i h2]
      cases hx : xs[i]? with
      | none =>
        have e : i = xs.length := by have := List.getElem?_eq_none_iff.mp hx; omega
        subst e
        exact hend ρ s h
      | some x =>
        have hi : i < xs.length := (List.getElem?_eq_some_iff.mp hx).1
        obtain ⟨ρ1, e1, q⟩ := step i x ρ s hx h
        simp only [trnOf, e1]
        cases hb : b ρ1 s with
        | fl f s' =>
          rw [hb] at q
          cases f with
          | next ρ' => exact ih (i + 1) ρ' s' (by omega) hi q
          | cont ρ' => exact ih (i + 1) ρ' s' (by omega) hi q
          | brk ρ' => exact q
          | ret d => exact q
        | _ => rw [hb] at q; exact q.elim
  exact key _ 0 ρ s (by have := (hw _ _ _ h0).2; omega) (Nat.zero_le _) h0
/-- a for that carries a value -/
theorem for_fold {α β : Type} {tg : Tg} {b : Env → Sto → SO} (enc : α → D) (f : β → α → β) (R : β → Env → Prop) : ∀ (ts : List α) (v : β) (ρ : Env), R v ρ → (∀ t ∈ ts, ∀ v ρ, R v ρ → ∃ ρ1 ρ', asg tg (enc t) ρ = some ρ1 ∧ b ρ1 s = .fl (.next ρ') s ∧ R (f v t) ρ') →
    ∃ ρ', R (ts.foldl f v) ρ' ∧ forItems tg b (ts.map enc) ρ s = .fl (.next ρ') s
  | [], v, ρ, h, _ => ⟨ρ, h, rfl⟩
  | t :: ts, v, ρ, h, hb => by
    obtain ⟨ρ1, ρ', e1, e2, h'⟩ := hb t List.mem_cons_self v ρ h
    obtain ⟨ρ2, q1, q2⟩ := for_fold enc f R ts (f v t) ρ' h' fun t' ht => hb t' (List.mem_cons_of_mem _ ht)
    refine ⟨ρ2, q1, ?_⟩
    simp only [List.map_cons, forItems, e1, e2]
    exact q2
/-- the same, the turns counted -/
theorem for_foldI {α β : Type} {tg : Tg} {b : Env → Sto → SO} (enc : α → D) (f : β → α → β) (R : Nat → β → Env → Prop) : ∀ (ts : List α) (i : Nat) (v : β) (ρ : Env), R i v ρ → (∀ j t, ts[j]? = some t → ∀ v ρ, R (i + j) v ρ → ∃ ρ1 ρ', asg tg (enc t) ρ = some ρ1 ∧ b ρ1 s = .fl (.next ρ') s ∧ R (i + j + 1) (f v t) ρ') →
    ∃ ρ', R (i + ts.length) (ts.foldl f v) ρ' ∧ forItems tg b (ts.map enc) ρ s = .fl (.next ρ') s
  | [], i, v, ρ, h, _ => ⟨ρ, h, rfl⟩
  | t :: ts, i, v, ρ, h, hb => by
    obtain ⟨ρ1, ρ', e1, e2, h'⟩ := hb 0 t rfl v ρ h
    obtain ⟨ρ2, q1, q2⟩ := for_foldI enc f R ts (i + 1) (f v t) ρ' h' fun j t' ht v ρ hR => by
      have := hb (j + 1) t' (by simpa using ht) v ρ (by rw [show i + (j + 1) = i + 1 + j by omega]; exact hR)
      rw [show i + (j + 1) + 1 = i + 1 + j + 1 by omega] at this
      exact this
    refine ⟨ρ2, by rw [List.length_cons, show i + (ts.length + 1) = i + 1 + ts.length by omega]; exact q1, ?_⟩
    simp only [List.map_cons, forItems, e1, e2]
    exact q2
theorem gv_r2 {a b : E} {lo hi : Nat} (h1 : evE g a ρ s = .ok (.int (lo : Nat)) s) (h2 : evE g b ρ s = .ok (.int (hi : Nat)) s) (hl : lo ≤ 16777216) (hh : hi ≤ 16777216) : Gives g (.r2 a b) ρ s ((List.range' lo (hi - lo)).map fun i => D.int (i : Nat)) := by
  refine ⟨.rng (lo : Nat) (hi - lo), ?_, ?_⟩
  · rw [evI_r2, h1]
    simp only [bind_ok, h2]
    rw [if_pos (by rw [rng_fits hl, rng_fits hh]; rfl)]
    congr 2
    omega
  · simp only [itemsOf]
    congr 1
    rw [List.range'_eq_map_range, List.map_map]
    apply List.map_congr_left
    intro i _
    simp
/-- a for that returns at the first hit -/
theorem for_find {α : Type} {tg : Tg} {b : Env → Sto → SO} (enc : α → D) (h : α → Option D) (R : Env → Prop) : ∀ (ts : List α) (ρ : Env), R ρ → (∀ t ∈ ts, ∀ ρ, R ρ → ∃ ρ1 ρ', asg tg (enc t) ρ = some ρ1 ∧ R ρ' ∧ b ρ1 s = match h t with | some d => .fl (.ret d) s | none => .fl (.next ρ') s) →
    ∃ ρ', R ρ' ∧ forItems tg b (ts.map enc) ρ s = match ts.findSome? h with | some d => .fl (.ret d) s | none => .fl (.next ρ') s
  | [], ρ, hr, _ => ⟨ρ, hr, rfl⟩
  | t :: ts, ρ, hr, hb => by
    obtain ⟨ρ1, ρ', e1, r', e2⟩ := hb t List.mem_cons_self ρ hr
    cases ht : h t with
    | some d =>
      rw [ht] at e2
      refine ⟨ρ', r', ?_⟩
      simp only [List.map_cons, forItems, e1, e2, List.findSome?_cons, ht]
    | none =>
      rw [ht] at e2
      obtain ⟨ρ2, q1, q2⟩ := for_find enc h R ts ρ' r' fun t' ht' => hb t' (List.mem_cons_of_mem _ ht')
      refine ⟨ρ2, q1, ?_⟩
      simp only [List.map_cons, forItems, e1, e2, List.findSome?_cons, ht]
      exact q2
end
end BS

namespace BS
open PySem
-- LOOSE (["BoardError", "InvalidRack", "InvalidNumbers", "InvalidScript", "LARGEST", "is_number", "is_tuple", "is_board", "is_good_rack", "wide_of", "are_good_numbers", "is_put", "is_deed", "is_good_script", "summed", "need_rack", "need_numbers", "need_script", "first_standing", "changed", "peg_line", "load_on", "beneath", "broken", "pegs_of", "plain_deed", "settled", "done", "standing_by", "story"] : List PySem.Str) ++ (["end_of", "_law_source", "_law_draw", "_law_of", "_law_sum", "_law_wide", "_law_rack", "_law_numbers", "_law_script", "_law_peg", "_law_fall", "_law_deed", "_law_load", "_law_settle", "_law_run"] : List PySem.Str)
def f_is_number : FD := .mk "is_number" 3 3 [
  .ret (.and_ (.pr (.ist "int") [.v 0]) (.and_ (.not_ (.pr (.ist "bool") [.v 0])) (.chain .le .le (.v 1) (.v 0) (.v 2))))]
def f_is_tuple : FD := .mk "is_tuple" 3 3 [
  .ret (.and_ (.pr (.ist "tuple") [.v 0]) (.chain .le .le (.v 1) (.pr .len [.v 0]) (.v 2)))]
def c_is_board_1 : E := .comp false [1] (.v 1) (.e (.v 0)) (.lit (.bl true)) (.call f_is_number [.v 1, .lit (.int 0), .lit (.int 12)])
def f_is_board : FD := .mk "is_board" 1 2 [
  .ite (.or_ (.not_ (.call f_is_tuple [.v 0, .lit (.int 2), .lit (.int 2)])) (.not_ (.pr .all [c_is_board_1]))) [
    .ret (.lit (.bl false))] [],
  .ret (.pr .lt [.pr .ix [.v 0, .lit (.int 0)], .pr .ix [.v 0, .lit (.int 1)]])]
def c_is_good_rack_1 : E := .comp false [1] (.v 1) (.e (.pr .ix [.v 0, .lit (.int 1)])) (.lit (.bl true)) (.call f_is_board [.v 1])
def f_is_good_rack : FD := .mk "is_good_rack" 1 2 [
  .ite (.or_ (.not_ (.call f_is_tuple [.v 0, .lit (.int 2), .lit (.int 2)])) (.or_ (.not_ (.call f_is_number [.pr .ix [.v 0, .lit (.int 0)], .lit (.int 1), .lit (.int 4)])) (.not_ (.call f_is_tuple [.pr .ix [.v 0, .lit (.int 1)], .lit (.int 1), .lit (.int 3)])))) [
    .ret (.lit (.bl false))] [],
  .ret (.pr .all [c_is_good_rack_1])]
def f_wide_of : FD := .mk "wide_of" 1 1 [
  .ret (.pr .add [.pr .ix [.v 0, .lit (.int 0)], .pr .len [.pr .ix [.v 0, .lit (.int 1)]]])]
def c_are_good_numbers_1 : E := .comp false [2] (.v 2) (.e (.v 1)) (.lit (.bl true)) (.call f_is_number [.v 2, .lit (.int 1), .lit (.int 1000000000000)])
def f_are_good_numbers : FD := .mk "are_good_numbers" 2 3 [
  .ret (.and_ (.call f_is_tuple [.v 1, .call f_wide_of [.v 0], .call f_wide_of [.v 0]]) (.pr .all [c_are_good_numbers_1]))]
def f_is_put : FD := .mk "is_put" 2 4 [
  .ite (.or_ (.pr .ne [.pr .len [.v 1], .lit (.int 4)]) (.or_ (.not_ (.call f_is_number [.pr .ix [.v 1, .lit (.int 1)], .lit (.int 0), .pr .sub [.pr .ix [.v 0, .lit (.int 0)], .lit (.int 1)]])) (.not_ (.call f_is_number [.pr .ix [.v 1, .lit (.int 2)], .lit (.int 0), .pr .sub [.pr .len [.pr .ix [.v 0, .lit (.int 1)]], .lit (.int 1)]])))) [
    .ret (.lit (.bl false))] [],
  .set (.tup [.v 2, .v 3]) (.pr .ix [.pr .ix [.v 0, .lit (.int 1)], .pr .ix [.v 1, .lit (.int 2)]]),
  .ret (.call f_is_number [.pr .ix [.v 1, .lit (.int 3)], .v 2, .v 3])]
def f_is_deed : FD := .mk "is_deed" 2 2 [
  .ite (.or_ (.not_ (.call f_is_tuple [.v 1, .lit (.int 2), .lit (.int 4)])) (.not_ (.pr (.ist "str") [.pr .ix [.v 1, .lit (.int 0)]]))) [
    .ret (.lit (.bl false))] [],
  .ite (.pr .eq [.pr .ix [.v 1, .lit (.int 0)], .lit (.str "put")]) [
    .ret (.call f_is_put [.v 0, .v 1])] [],
  .ite (.pr .eq [.pr .ix [.v 1, .lit (.int 0)], .lit (.str "off")]) [
    .ret (.and_ (.pr .eq [.pr .len [.v 1], .lit (.int 2)]) (.call f_is_number [.pr .ix [.v 1, .lit (.int 1)], .lit (.int 0), .pr .sub [.pr .ix [.v 0, .lit (.int 0)], .lit (.int 1)]]))] [],
  .ret (.and_ (.pr .isin [.pr .ix [.v 1, .lit (.int 0)], .tup [.lit (.str "prop"), .lit (.str "bare"), .lit (.str "hang")]]) (.and_ (.pr .eq [.pr .len [.v 1], .lit (.int 2)]) (.call f_is_number [.pr .ix [.v 1, .lit (.int 1)], .lit (.int 0), .pr .sub [.pr .len [.pr .ix [.v 0, .lit (.int 1)]], .lit (.int 1)]])))]
def c_is_good_script_1 : E := .comp false [2] (.v 2) (.e (.v 1)) (.lit (.bl true)) (.call f_is_deed [.v 0, .v 2])
def f_is_good_script : FD := .mk "is_good_script" 2 3 [
  .ret (.and_ (.call f_is_tuple [.v 1, .lit (.int 0), .lit (.int 6)]) (.pr .all [c_is_good_script_1]))]
def c_summed_1 : E := .comp false [2, 3] (.tup [.v 2, .v 3]) (.zip (.v 0) (.v 1)) (.lit (.bl true)) (.pr .mul [.v 2, .v 3])
def f_summed : FD := .mk "summed" 2 4 [
  .ret (.pr .sum [c_summed_1])]
def f_need_rack : FD := .mk "need_rack" 1 1 [
  .ite (.not_ (.call f_is_good_rack [.v 0])) [
    .never] []]
def f_need_numbers : FD := .mk "need_numbers" 2 2 [
  .ite (.not_ (.call f_are_good_numbers [.v 0, .v 1])) [
    .never] []]
def f_need_script : FD := .mk "need_script" 2 2 [
  .ite (.not_ (.call f_is_good_script [.v 0, .v 1])) [
    .never] []]
def f_first_standing : FD := .mk "first_standing" 1 2 [
  .set (.v 1) (.pr .len [.pr .ix [.v 0, .lit (.int 1)]]),
  .ret (.tup [.pr .mul [.tup [.tup []], .pr .ix [.v 0, .lit (.int 0)]], .pr .mul [.tup [.lit (.bl true)], .v 1], .pr .mul [.tup [.lit (.bl false)], .v 1], .tup []])]
def f_changed : FD := .mk "changed" 3 3 [
  .ret (.pr .add [.pr .add [.slc false false true (.v 0) (.lit (.non)) (.v 1), .tup [.v 2]], .slc false true false (.v 0) (.pr .add [.v 1, .lit (.int 1)]) (.lit (.non))])]
def b_peg_line_1 : List S := [
  .set (.v 6) (.call f_changed [.v 6, .v 7, .ite (.pr .eq [.v 3, .lit (.str "left")]) (.pr .sub [.v 8, .v 5]) (.pr .sub [.v 4, .v 8])])]
def f_peg_line : FD := .mk "peg_line" 4 9 [
  .set (.tup [.v 4, .v 5]) (.pr .ix [.pr .ix [.v 0, .lit (.int 1)], .v 1]),
  .set (.v 6) (.pr .mul [.tup [.lit (.int 0)], .call f_wide_of [.v 0]]),
  .for_ (.tup [.v 7, .v 8]) (.e (.v 2)) b_peg_line_1,
  .ret (.call f_changed [.v 6, .pr .add [.pr .ix [.v 0, .lit (.int 0)], .v 1], .pr .sub [.v 5, .v 4]])]
def c_load_on_1 : E := .comp false [3, 4] (.tup [.v 3, .v 4]) (.e (.v 2)) (.and_ (.pr .eq [.pr .len [.v 4], .lit (.int 2)]) (.pr .eq [.pr .ix [.v 4, .lit (.int 0)], .v 1])) (.tup [.v 3, .pr .ix [.v 4, .lit (.int 1)]])
def f_load_on : FD := .mk "load_on" 2 5 [
  .set (.v 2) (.pl false .enum [.v 0]),
  .ret (.pr .toTup [c_load_on_1])]
def b_beneath_1 : List S := [
  .set (.tup [.v 5, .v 6]) (.pr .ix [.pr .ix [.v 0, .lit (.int 1)], .v 4]),
  .ite (.and_ (.pr .ix [.v 1, .v 4]) (.chain .le .le (.v 5) (.v 3) (.v 6))) [
    .ret (.tup [.v 4, .v 3])] []]
def f_beneath : FD := .mk "beneath" 4 7 [
  .for_ (.v 4) (.r2 (.pr .add [.v 2, .lit (.int 1)]) (.pr .len [.pr .ix [.v 0, .lit (.int 1)]])) b_beneath_1,
  .ret (.tup [.v 3])]
def b_broken_1 : List S := [
  .set (.v 4) (.call f_changed [.v 4, .v 8, .call f_beneath [.v 0, .v 5, .v 2, .v 9]])]
def f_broken : FD := .mk "broken" 4 10 [
  .set (.tup [.v 4, .v 5, .v 6, .v 7]) (.v 1),
  .set (.v 5) (.call f_changed [.v 5, .v 2, .lit (.bl false)]),
  .for_ (.tup [.v 8, .v 9]) (.e (.call f_load_on [.v 4, .v 2])) b_broken_1,
  .ret (.tup [.v 4, .v 5, .v 6, .pr .add [.v 7, .tup [.tup [.v 2, .v 3]]]])]
def c_pegs_of_1 : E := .comp false [9] (.v 9) (.e (.tup [.lit (.str "left"), .lit (.str "right")])) (.lit (.bl true)) (.tup [.v 7, .v 9, .call f_peg_line [.v 0, .v 7, .v 8, .v 9]])
def b_pegs_of_1 : List S := [
  .set (.v 8) (.call f_load_on [.v 2, .v 7]),
  .ite (.and_ (.pr .ix [.v 3, .v 7]) (.and_ (.not_ (.pr .ix [.v 4, .v 7])) (.pr .ne [.v 8, .tup []]))) [
    .set (.v 6) (.pr .add [.v 6, c_pegs_of_1])] []]
def f_pegs_of : FD := .mk "pegs_of" 2 10 [
  .set (.tup [.v 2, .v 3, .v 4, .v 5]) (.v 1),
  .set (.v 6) (.lst false []),
  .for_ (.v 7) (.r1 (.pr .len [.pr .ix [.v 0, .lit (.int 1)]])) b_pegs_of_1,
  .ret (.v 6)]
def f_plain_deed : FD := .mk "plain_deed" 3 8 [
  .set (.tup [.v 3, .v 4, .v 5, .v 6]) (.v 1),
  .ite (.pr .eq [.pr .ix [.v 2, .lit (.int 0)], .lit (.str "put")]) [
    .set (.v 7) (.ite (.pr .ix [.v 4, .pr .ix [.v 2, .lit (.int 2)]]) (.tup [.pr .ix [.v 2, .lit (.int 2)], .pr .ix [.v 2, .lit (.int 3)]]) (.tup [.pr .ix [.v 2, .lit (.int 3)]])),
    .ret (.tup [.call f_changed [.v 3, .pr .ix [.v 2, .lit (.int 1)], .v 7], .v 4, .v 5, .v 6])] [],
  .ite (.pr .eq [.pr .ix [.v 2, .lit (.int 0)], .lit (.str "off")]) [
    .ret (.tup [.call f_changed [.v 3, .pr .ix [.v 2, .lit (.int 1)], .tup []], .v 4, .v 5, .v 6])] [],
  .ite (.pr .eq [.pr .ix [.v 2, .lit (.int 0)], .lit (.str "hang")]) [
    .ret (.tup [.v 3, .call f_changed [.v 4, .pr .ix [.v 2, .lit (.int 1)], .lit (.bl true)], .v 5, .v 6])] [],
  .ret (.tup [.v 3, .v 4, .call f_changed [.v 5, .pr .ix [.v 2, .lit (.int 1)], .pr .eq [.pr .ix [.v 2, .lit (.int 0)], .lit (.str "prop")]], .v 6])]
def b_settled_1 : List S := [
  .ite (.and_ (.not_ (.v 3)) (.pr .lt [.call f_summed [.v 6, .v 1], .lit (.int 0)])) [
    .par [2, 3] [.call f_broken [.v 0, .v 2, .v 4, .v 5], .lit (.bl true)]] []]
def b_settled_2 : List S := [
  .set (.v 3) (.lit (.bl false)),
  .for_ (.tup [.v 4, .v 5, .v 6]) (.e (.call f_pegs_of [.v 0, .v 2])) b_settled_1]
def f_settled : FD := .mk "settled" 3 7 [
  .set (.v 3) (.lit (.bl true)),
  .while_ (.v 3) b_settled_2,
  .ret (.v 2)]
def f_done : FD := .mk "done" 4 4 [
  .ret (.call f_settled [.v 0, .v 1, .call f_plain_deed [.v 0, .v 2, .v 3]])]
def b_standing_by_1 : List S := [
  .set (.v 3) (.call f_done [.v 0, .v 1, .v 3, .v 4])]
def f_standing_by : FD := .mk "standing_by" 3 5 [
  .set (.v 3) (.call f_first_standing [.v 0]),
  .for_ (.v 4) (.e (.v 2)) b_standing_by_1,
  .ret (.v 3)]
def f_story : FD := .mk "story" 3 3 [
  .ex (.call f_need_rack [.v 0]),
  .ex (.call f_need_numbers [.v 0, .v 1]),
  .ex (.call f_need_script [.v 0, .v 2]),
  .ret (.pr .ix [.call f_standing_by [.v 0, .v 1, .v 2], .lit (.int 3)])]
def f_end_of : FD := .mk "end_of" 3 3 [
  .ex (.call f_need_rack [.v 0]),
  .ex (.call f_need_numbers [.v 0, .v 1]),
  .ex (.call f_need_script [.v 0, .v 2]),
  .ret (.slc false false true (.call f_standing_by [.v 0, .v 1, .v 2]) (.lit (.non)) (.lit (.int 2)))]
def f__law_source : FD := .mk "_law_source" 2 3 [
  .set (.v 2) (.lit (.int 0)),
  .ite (.pr .lt [.v 1, .pr .len [.v 0]]) [
    .set (.v 2) (.pr .abs [.pr .toInt [.pr .ix [.v 0, .v 1]]])] [],
  .ite (.pr .lt [.v 2, .pr .pow [.lit (.int 10), .lit (.int 18)]]) [
    .ret (.lst true [.lit (.int 0), .pr .add [.lit (.int 1), .pr .mod [.pr .toInt [.pr .add [.pr .mul [.v 2, .lit (.int 7919)], .pr .mul [.lit (.int 104729), .v 1]]], .lit (.int 2147483646)]]])] [],
  .ret (.lst true [.v 2, .pr .add [.lit (.int 1), .pr .mod [.pr .toInt [.pr .add [.v 2, .v 1]], .lit (.int 2147483646)]]])]
def f__law_draw : FD := .mk "_law_draw" 2 3 [
  .ite (.pr .gt [.pr .ix [.v 0, .lit (.int 0)], .lit (.int 0)]) [
    .set (.v 2) (.pr .mod [.pr .toInt [.pr .ix [.v 0, .lit (.int 0)]], .v 1]),
    .setIx (.v 0) (.lit (.int 0)) (.pr .fdiv [.pr .ix [.v 0, .lit (.int 0)], .v 1]),
    .ret (.v 2)] [],
  .setIx (.v 0) (.lit (.int 1)) (.pr .mod [.pr .toInt [.pr .mul [.pr .ix [.v 0, .lit (.int 1)], .lit (.int 48271)]], .lit (.int 2147483647)]),
  .ret (.pr .mod [.pr .toInt [.pr .fdiv [.pr .mod [.pr .toInt [.pr .mul [.pr .ix [.v 0, .lit (.int 1)], .pr .ix [.v 0, .lit (.int 1)]]], .lit (.int 2147483629)], .lit (.int 64)]], .v 1])]
def f__law_of : FD := .mk "_law_of" 2 2 [
  .ret (.pr .ix [.v 1, .call f__law_draw [.v 0, .pr .len [.v 1]]])]
def c__law_sum_1 : E := .comp false [2, 3] (.tup [.v 2, .v 3]) (.zip (.v 0) (.v 1)) (.lit (.bl true)) (.pr .mul [.v 2, .v 3])
def f__law_sum : FD := .mk "_law_sum" 2 4 [
  .ret (.pr .sum [c__law_sum_1])]
def f__law_wide : FD := .mk "_law_wide" 1 1 [
  .ret (.pr .add [.pr .ix [.v 0, .lit (.int 0)], .pr .len [.pr .ix [.v 0, .lit (.int 1)]]])]
def b__law_rack_1 : List S := [
  .set (.v 5) (.call f__law_draw [.v 0, .lit (.int 4)]),
  .set (.v 3) (.pr .add [.v 3, .tup [.tup [.v 5, .pr .add [.pr .add [.v 5, .lit (.int 1)], .call f__law_draw [.v 0, .lit (.int 5)]]]]])]
def f__law_rack : FD := .mk "_law_rack" 3 6 [
  .set (.v 3) (.tup []),
  .for_ (.v 4) (.r1 (.pr .add [.lit (.int 1), .call f__law_draw [.v 0, .v 2]])) b__law_rack_1,
  .ret (.tup [.pr .add [.lit (.int 1), .call f__law_draw [.v 0, .v 1]], .v 3])]
def b__law_numbers_1 : List S := [
  .set (.v 2) (.pr .add [.v 2, .tup [.call f__law_of [.v 0, .lst false [.lit (.int 1), .lit (.int 2), .lit (.int 2), .lit (.int 3), .lit (.int 4), .pr .add [.lit (.int 1), .call f__law_draw [.v 0, .lit (.int 9)]]]]]])]
def f__law_numbers : FD := .mk "_law_numbers" 2 4 [
  .set (.v 2) (.tup []),
  .for_ (.v 3) (.r1 (.call f__law_wide [.v 1])) b__law_numbers_1,
  .ret (.v 2)]
def b__law_script_1 : List S := [
  .set (.v 5) (.call f__law_draw [.v 0, .pr .len [.pr .ix [.v 1, .lit (.int 1)]]]),
  .set (.v 6) (.call f__law_draw [.v 0, .pr .ix [.v 1, .lit (.int 0)]]),
  .set (.tup [.v 7, .v 8]) (.pr .ix [.pr .ix [.v 1, .lit (.int 1)], .v 5]),
  .set (.v 9) (.pr .add [.v 7, .call f__law_draw [.v 0, .pr .add [.pr .sub [.v 8, .v 7], .lit (.int 1)]]]),
  .set (.v 10) (.call f__law_of [.v 0, .lst false [.lit (.str "put"), .lit (.str "put"), .lit (.str "put"), .lit (.str "put"), .lit (.str "off"), .lit (.str "prop"), .lit (.str "bare"), .lit (.str "hang")]]),
  .set (.v 11) (.ite (.pr .eq [.v 10, .lit (.str "off")]) (.tup [.v 10, .v 6]) (.tup [.v 10, .v 5])),
  .set (.v 11) (.ite (.pr .eq [.v 10, .lit (.str "put")]) (.tup [.v 10, .v 6, .v 5, .v 9]) (.v 11)),
  .set (.v 3) (.pr .add [.v 3, .tup [.v 11]])]
def f__law_script : FD := .mk "_law_script" 3 12 [
  .set (.v 3) (.tup []),
  .for_ (.v 4) (.r1 (.call f__law_draw [.v 0, .pr .add [.v 2, .lit (.int 1)]])) b__law_script_1,
  .ret (.v 3)]
def b__law_peg_1 : List S := [
  .set (.v 9) (.ite (.pr .eq [.v 3, .lit (.str "left")]) (.pr .sub [.v 5, .v 8]) (.pr .sub [.v 8, .v 4])),
  .setIx (.v 6) (.v 7) (.pr .sub [.pr .ix [.v 6, .v 7], .v 9])]
def f__law_peg : FD := .mk "_law_peg" 4 10 [
  .set (.tup [.v 4, .v 5]) (.pr .ix [.pr .ix [.v 0, .lit (.int 1)], .v 1]),
  .set (.v 6) (.pl true .mul [.lst true [.lit (.int 0)], .call f__law_wide [.v 0]]),
  .setIx (.v 6) (.pr .add [.pr .ix [.v 0, .lit (.int 0)], .v 1]) (.pr .sub [.v 5, .v 4]),
  .for_ (.tup [.v 7, .v 8]) (.e (.v 2)) b__law_peg_1,
  .ret (.v 6)]
def b__law_fall_1 : List S := [
  .ite (.and_ (.pr .gt [.v 4, .v 2]) (.and_ (.pr .ix [.v 1, .v 4]) (.chain .le .le (.v 5) (.v 3) (.v 6)))) [
    .ret (.tup [.v 4, .v 3])] []]
def f__law_fall : FD := .mk "_law_fall" 4 7 [
  .for_ (.tup [.v 4, .tup [.v 5, .v 6]]) (.enum (.pr .ix [.v 0, .lit (.int 1)])) b__law_fall_1,
  .ret (.tup [.v 3])]
def f__law_deed : FD := .mk "_law_deed" 2 3 [
  .ite (.pr .eq [.pr .ix [.v 1, .lit (.int 0)], .lit (.str "put")]) [
    .set (.v 2) (.tup [.pr .ix [.v 1, .lit (.int 2)], .pr .ix [.v 1, .lit (.int 3)]]),
    .setIx (.pr .ix [.v 0, .lit (.int 0)]) (.pr .ix [.v 1, .lit (.int 1)]) (.ite (.pr .ix [.pr .ix [.v 0, .lit (.int 1)], .pr .ix [.v 1, .lit (.int 2)]]) (.v 2) (.slc false true false (.v 2) (.lit (.int 1)) (.lit (.non))))] [
    .ite (.pr .eq [.pr .ix [.v 1, .lit (.int 0)], .lit (.str "off")]) [
      .setIx (.pr .ix [.v 0, .lit (.int 0)]) (.pr .ix [.v 1, .lit (.int 1)]) (.tup [])] [
      .ite (.pr .eq [.pr .ix [.v 1, .lit (.int 0)], .lit (.str "hang")]) [
        .setIx (.pr .ix [.v 0, .lit (.int 1)]) (.pr .ix [.v 1, .lit (.int 1)]) (.lit (.bl true))] [
        .setIx (.pr .ix [.v 0, .lit (.int 2)]) (.pr .ix [.v 1, .lit (.int 1)]) (.pr .eq [.pr .ix [.v 1, .lit (.int 0)], .lit (.str "prop")])]]]]
def b__law_load_1 : List S := [
  .ite (.and_ (.pr .eq [.pr .len [.v 4], .lit (.int 2)]) (.pr .eq [.pr .ix [.v 4, .lit (.int 0)], .v 1])) [
    .ex (.pm .append (.v 2) [.tup [.v 3, .pr .ix [.v 4, .lit (.int 1)]]])] []]
def f__law_load : FD := .mk "_law_load" 2 5 [
  .set (.v 2) (.lst true []),
  .for_ (.tup [.v 3, .v 4]) (.enum (.v 0)) b__law_load_1,
  .ret (.v 2)]
def b__law_settle_1 : List S := [
  .ite (.and_ (.pr .isN [.v 7]) (.pr .ne [.v 6, .lst false []])) [
    .set (.v 9) (.call f__law_peg [.v 0, .v 5, .v 6, .v 8]),
    .ite (.pr .notin [.v 9, .v 4]) [
      .ex (.pm .append (.v 4) [.v 9])] [],
    .ite (.and_ (.pr .isN [.v 3]) (.pr .ge [.pm .index (.v 4) [.v 9], .pr .len [.v 2]])) [
      .ret (.lit (.bl false))] [],
    .ite (.pr .isN [.v 3]) [
      .set (.v 10) (.pr .ix [.v 2, .pm .index (.v 4) [.v 9]])] [
      .set (.v 10) (.pr .ge [.call f__law_sum [.v 9, .v 3], .lit (.int 0)])],
    .set (.v 7) (.ite (.v 10) (.lit (.non)) (.v 8))] []]
def b__law_settle_2 : List S := [
  .setIx (.pr .ix [.v 1, .lit (.int 0)]) (.v 11) (.call f__law_fall [.v 0, .pr .ix [.v 1, .lit (.int 1)], .pr .sub [.v 5, .lit (.int 1)], .v 12])]
def b__law_settle_3 : List S := [
  .par [6, 7] [.call f__law_load [.pr .ix [.v 1, .lit (.int 0)], .v 5], .lit (.non)],
  .ite (.or_ (.not_ (.pr .ix [.pr .ix [.v 1, .lit (.int 1)], .v 5])) (.pr .ix [.pr .ix [.v 1, .lit (.int 2)], .v 5])) [
    .set (.v 6) (.lst false [])] [],
  .for_ (.v 8) (.e (.lst false [.lit (.str "left"), .lit (.str "right")])) b__law_settle_1,
  .set (.v 5) (.pr .add [.v 5, .lit (.int 1)]),
  .ite (.pr .notN [.v 7]) [
    .setIx (.pr .ix [.v 1, .lit (.int 1)]) (.pr .sub [.v 5, .lit (.int 1)]) (.lit (.bl false)),
    .ex (.pm .append (.pr .ix [.v 1, .lit (.int 3)]) [.tup [.pr .sub [.v 5, .lit (.int 1)], .v 7]]),
    .for_ (.tup [.v 11, .v 12]) (.e (.v 6)) b__law_settle_2,
    .set (.v 5) (.lit (.int 0))] []]
def f__law_settle : FD := .mk "_law_settle" 5 13 [
  .set (.v 5) (.lit (.int 0)),
  .while_ (.pr .lt [.v 5, .pr .len [.pr .ix [.v 0, .lit (.int 1)]]]) b__law_settle_3,
  .ret (.lit (.bl true))]
def b__law_run_1 : List S := [
  .ex (.call f__law_deed [.v 5, .v 7]),
  .ite (.not_ (.call f__law_settle [.v 0, .v 5, .v 2, .v 3, .v 6])) [
    .ret (.tup [.lit (.non), .tup [], .tup [], .v 6])] []]
def f__law_run : FD := .mk "_law_run" 4 8 [
  .set (.v 4) (.pr .len [.pr .ix [.v 0, .lit (.int 1)]]),
  .par [5, 6] [.lst false [.pl true .mul [.lst true [.tup []], .pr .ix [.v 0, .lit (.int 0)]], .pl true .mul [.lst true [.lit (.bl true)], .v 4], .pl true .mul [.lst true [.lit (.bl false)], .v 4], .lst true []], .lst true []],
  .for_ (.v 7) (.e (.v 1)) b__law_run_1,
  .ret (.tup [.tup [.pr .toTup [.pr .ix [.v 5, .lit (.int 0)]], .pr .toTup [.pr .ix [.v 5, .lit (.int 1)]]], .pr .toTup [.pr .ix [.v 5, .lit (.int 3)]], .pr .toTup [.pr .ix [.v 5, .lit (.int 2)]], .v 6])]
def b_law_1 : List S := [
  .set (.v 4) (.call f__law_rack [.v 2, .lit (.int 4), .lit (.int 3)]),
  .par [5, 6] [.call f__law_numbers [.v 2, .v 4], .call f__law_script [.v 2, .v 4, .lit (.int 6)]],
  .set (.tup [.v 7, .v 8, .v 9, .v 10]) (.call f__law_run [.v 4, .v 6, .tup [], .v 5]),
  .ite (.pr .ne [.call f_story [.v 4, .v 5, .v 6], .v 8]) [
    .ret (.lit (.bl false))] [],
  .ite (.pr .ne [.call f_end_of [.v 4, .v 5, .v 6], .v 7]) [
    .ret (.lit (.bl false))] []]
def b_law_2 : List S := [
  .set (.v 2) (.call f__law_source [.v 0, .v 1]),
  .for_ (.v 3) (.r1 (.lit (.int 6))) b_law_1]
def f_law : FD := .mk "law" 1 14 [
  .for_ (.v 1) (.r1 (.pr .add [.lit (.int 1), .pr .min2 [.pr .len [.v 0], .lit (.int 10)]])) b_law_2,
  .set (.tup [.v 4, .v 11]) (.tup [.tup [.lit (.int 2), .tup [.tup [.lit (.int 0), .lit (.int 4)], .tup [.lit (.int 1), .lit (.int 3)]]], .tup [.tup [.lit (.str "put"), .lit (.int 0), .lit (.int 0), .lit (.int 1)]]]),
  .ite (.pr .ne [.call f_story [.v 4, .tup [.lit (.int 8), .lit (.int 1), .lit (.int 2), .lit (.int 5)], .v 11], .tup [.tup [.lit (.int 0), .lit (.str "left")], .tup [.lit (.int 1), .lit (.str "left")]]]) [
    .ret (.lit (.bl false))] [],
  .ite (.pr .ne [.call f_end_of [.v 4, .tup [.lit (.int 4), .lit (.int 1), .lit (.int 2), .lit (.int 5)], .v 11], .tup [.tup [.tup [.lit (.int 1), .lit (.int 1)], .tup []], .tup [.lit (.bl false), .lit (.bl true)]]]) [
    .ret (.lit (.bl false))] [],
  .set (.v 12) (.pr .add [.pr .add [.tup [.tup [.lit (.str "prop"), .lit (.int 0)]], .v 11], .tup [.tup [.lit (.str "bare"), .lit (.int 0)], .tup [.lit (.str "hang"), .lit (.int 0)]]]),
  .ite (.pr .ne [.call f_end_of [.v 4, .tup [.lit (.int 8), .lit (.int 1), .lit (.int 2), .lit (.int 5)], .v 12], .tup [.tup [.tup [.lit (.int 1)], .tup []], .tup [.lit (.bl true), .lit (.bl false)]]]) [
    .ret (.lit (.bl false))] [],
  .set (.v 13) (.tup [.lit (.int 1), .tup [.tup [.lit (.int 0), .lit (.int 2)]]]),
  .ret (.pr .eq [.call f_story [.v 13, .tup [.lit (.int 3), .lit (.int 2)], .tup [.tup [.lit (.str "put"), .lit (.int 0), .lit (.int 0), .lit (.int 1)], .tup [.lit (.str "put"), .lit (.int 0), .lit (.int 0), .lit (.int 2)]]], .tup [.tup [.lit (.int 0), .lit (.str "right")]]])]


end BS

namespace BS
open PySem
/-! P1: what racks.py's functions answer -/
variable {W n : Nat} {s : Sto} {L k : Nat}
theorem call1' {W n np ns : Nat} {fd : FD} {x : Str} {body : List S} {ds : List D} {s : Sto} (h : fd = .mk x np ns body) (hl : ds.length = np) {ρ : Env} (hρ : ds.map some ++ List.replicate (ns - np) none = ρ) :
    callN W (n + 1) fd ds s = fin (evSs (gOf W n fd) body ρ s) := by rw [call1 h hl, hρ]
def isNum (v : D) (a b : Int) : Bool := match v with
  | .int i => decide (a ≤ i) && decide (i ≤ b)
  | _ => false
def isTupL (v : D) (a b : Int) : Bool := match v with
  | .tup ds => decide (a ≤ ds.length) && decide (ds.length ≤ b)
  | _ => false
def isWord (v : D) (ws : List Str) : Bool := match v with
  | .str x => ws.any (· == x)
  | _ => false
theorem s_is_number {v : D} {a b : Int} (h : pl v = true) : callN W (n + 1) f_is_number [v, .int a, .int b] s = .ok (.bl (isNum v a b)) s := by
  rw [call1 (fd := f_is_number) rfl rfl]
  cases v <;> first | (cases h; done) | simp [ist_int, ist_bool, h, isI, isB, isNum]
theorem s_is_tuple {v : D} {a b : Int} (h : pl v = true) : callN W (n + 1) f_is_tuple [v, .int a, .int b] s = .ok (.bl (isTupL v a b)) s := by
  rw [call1 (fd := f_is_tuple) rfl rfl]
  cases v <;> first | (cases h; done) | simp [ist_tuple, h, isT, isTupL]
def ltD2 (x y : D) : Bool := match x, y with
  | .int a, .int b => decide (a < b)
  | _, _ => false
def gBoard : D → Bool
  | .tup [x, y] => isNum x 0 12 && isNum y 0 12 && ltD2 x y
  | _ => false
theorem isTup2 {v : D} (h : isTupL v 2 2 = true) : ∃ x y, v = .tup [x, y] := by
  cases v <;> first | (cases h; done) | skip
  rename_i ds
  simp only [isTupL, Bool.and_eq_true, decide_eq_true_eq] at h
  match ds, h with
  | [x, y], _ => exact ⟨x, y, rfl⟩
  | [], h => simp at h
  | [_], h => simp at h
  | _ :: _ :: _ :: _, h => simp at h; omega
theorem isNum_int {v : D} {a b : Int} (h : isNum v a b = true) : ∃ i, v = .int i ∧ a ≤ i ∧ i ≤ b := by
  cases v <;> first | (cases h; done) | skip
  simp only [isNum, Bool.and_eq_true, decide_eq_true_eq] at h
  exact ⟨_, rfl, h.1, h.2⟩
theorem p_all2 {a b : Bool} : prim s .all [.lst [.bl a, .bl b]] = some (.bl (a && b)) := by cases a <;> cases b <;> rfl
theorem s_is_board {v : D} (h : okD L k v = true) (hL : L ≤ sizeLine) : callN W (n + 2) f_is_board [v] s = .ok (.bl (gBoard v)) s := by
  rw [call1 (fd := f_is_board) rfl rfl]
  cases ht : isTupL v 2 2 with
  | false =>
    have e : gBoard v = false := by
      cases v <;> first | rfl | skip
      rename_i ds
      match ds, ht with
      | [x, y], ht => simp [isTupL] at ht
      | [], _ => rfl
      | [_], _ => rfl
      | _ :: _ :: _ :: _, _ => rfl
    simp [s_is_tuple (okD_pl h), ht, e]
  | true =>
    obtain ⟨x, y, rfl⟩ := isTup2 ht
    have hx := okD_tup h
    have hc : ∀ ρ0, evE (gOf W (n + 1) f_is_board) c_is_board_1 [some (.tup [x, y]), ρ0] s = .ok (.lst [D.bl (isNum x 0 12), D.bl (isNum y 0 12)]) s := fun ρ0 =>
      comp_map (xs := [x, y]) (fun x => D.bl (isNum x 0 12)) (gv_tup rfl) (by simp [sizeLine_eq]) fun z hz => ⟨_, rfl, by simp [wipeE, s_is_number (okD_pl (hx.2 z hz))]⟩
    simp [s_is_tuple (okD_pl h), ht, hc, p_all2]
    cases h1 : isNum x 0 12
    · simp [gBoard, h1]
    cases h2 : isNum y 0 12
    · simp [gBoard, h1, h2]
    obtain ⟨a, rfl, _⟩ := isNum_int h1
    obtain ⟨b, rfl, _⟩ := isNum_int h2
    simp [gBoard, h1, h2, ltD2]

variable {W n : Nat} {s : Sto} {L k : Nat}
def gRack : D → Bool
  | .tup [t, .tup bs] => isNum t 1 4 && (decide (1 ≤ bs.length) && decide (bs.length ≤ 3)) && allB gBoard bs
  | _ => false
theorem s_is_good_rack {v : D} (h : okD L k v = true) (hL : L ≤ sizeLine) : callN W (n + 3) f_is_good_rack [v] s = .ok (.bl (gRack v)) s := by
  rw [call1 (fd := f_is_good_rack) rfl rfl]
  cases ht : isTupL v 2 2 with
  | false =>
    have e : gRack v = false := by
      cases v <;> first | rfl | skip
      rename_i ds
      match ds, ht with
      | [x, y], ht => simp [isTupL] at ht
      | [], _ => rfl
      | [_], _ => rfl
      | _ :: b :: _ :: _, _ => cases b <;> simp [gRack]
    simp [s_is_tuple (okD_pl h), ht, e]
  | true =>
    obtain ⟨x, y, rfl⟩ := isTup2 ht
    have hx := okD_tup h
    have ox := hx.2 x (by simp)
    have oy := hx.2 y (by simp)
    simp [s_is_tuple (okD_pl h), ht, s_is_number (okD_pl ox), s_is_tuple (okD_pl oy)]
    cases h1 : isNum x 1 4 with
    | false => simp; cases y <;> simp [gRack, h1]
    | true =>
      cases h2 : isTupL y 1 3 with
      | false =>
        simp
        cases y <;> first | rfl | skip
        rename_i bs
        simp only [gRack, h1]
        simp [isTupL] at h2
        cases bs with
        | nil => rfl
        | cons b bs => simp at h2 ⊢; intro h3; have := h2 (by omega); omega
      | true =>
        cases y <;> first | (cases h2; done) | skip
        rename_i bs
        have hb := okD_tup oy
        have hc : ∀ ρ0, evE (gOf W (n + 2) f_is_good_rack) c_is_good_rack_1 [some (.tup [x, .tup bs]), ρ0] s = .ok (.lst (mapBl gBoard bs)) s := fun ρ0 =>
          comp_bl (xs := bs) gBoard (gv_tup (by simp)) (by have := hb.1; omega) fun z hz => ⟨_, rfl, by simp [wipeE, s_is_board (hb.2 z hz) hL]⟩
        simp [hc, gRack, h1]
        simp [isTupL] at h2
        intro _
        exact ⟨by omega, by omega⟩

variable {W n : Nat} {s : Sto} {L k : Nat}
theorem isTupL_tup {ds : List D} {a b : Int} : isTupL (.tup ds) a b = (decide (a ≤ ds.length) && decide (ds.length ≤ b)) := rfl
theorem isTupL_no {v : D} {a b : Int} (h : isTupL v a b = true) : ∃ ds, v = .tup ds ∧ a ≤ ds.length ∧ ds.length ≤ b := by
  cases v <;> first | (cases h; done) | skip
  rename_i ds
  simp only [isTupL, Bool.and_eq_true, decide_eq_true_eq] at h
  exact ⟨ds, rfl, h.1, h.2⟩
def ltP : D → Bool
  | .tup [x, y] => ltD2 x y
  | _ => false
/-- rising -/
def incr (ds : List D) : Bool := allB ltP (pairs ds (ds.drop 1))
def gLot (w : Int) : D → Bool
  | .tup ds => allB (fun x => isNum x 0 (w - 1)) ds && incr ds
  | _ => false
theorem incr_cons {x y : D} {ds : List D} : incr (x :: y :: ds) = (ltD2 x y && incr (y :: ds)) := rfl
theorem allN_up {w : Int} : ∀ (es : List D) (lo j : Int), allB (fun x => isNum x lo (w - 1)) (.int j :: es) = true → incr (.int j :: es) = true → allB (fun x => isNum x j (w - 1)) (.int j :: es) = true
  | [], lo, j, h, _ => by
    simp only [allB_cons, isNum, Bool.and_eq_true, decide_eq_true_eq] at h ⊢
    exact ⟨⟨Int.le_refl _, h.1.2⟩, rfl⟩
  | e :: es, lo, j, h, hi => by
    rw [allB_cons, Bool.and_eq_true] at h
    obtain ⟨h1, h2⟩ := h
    have h3 := h2
    rw [allB_cons, Bool.and_eq_true] at h3
    obtain ⟨m, rfl, h5, h6⟩ := isNum_int h3.1
    rw [incr_cons, Bool.and_eq_true] at hi
    have hjm : j < m := of_decide_eq_true hi.1
    have q := allN_up es lo m h2 hi.2
    rw [allB_iff] at q ⊢
    intro x hx
    rcases List.mem_cons.mp hx with rfl | hx
    · simp [isNum]; omega
    · obtain ⟨c, rfl, c1, c2⟩ := isNum_int (q x hx)
      simp [isNum]; omega
/-- rising numbers below w are w at most -/
theorem incr_len : ∀ (ds : List D) (lo w : Int), allB (fun x => isNum x lo (w - 1)) ds = true → incr ds = true → (ds.length : Int) ≤ max (w - lo) 0
  | [], lo, w, _, _ => by simp; omega
  | [x], lo, w, h, _ => by
    rw [allB_cons, Bool.and_eq_true] at h
    obtain ⟨i, _, h1, h2⟩ := isNum_int h.1
    simp; omega
  | x :: y :: ds, lo, w, h, hi => by
    rw [allB_cons, Bool.and_eq_true] at h
    obtain ⟨i, rfl, h1, h2⟩ := isNum_int h.1
    have h3 := h.2
    rw [allB_cons, Bool.and_eq_true] at h3
    obtain ⟨j, rfl, h4, h5⟩ := isNum_int h3.1
    rw [incr_cons, Bool.and_eq_true] at hi
    have hij : i < j := of_decide_eq_true hi.1
    have := incr_len (.int j :: ds) j w (allN_up ds lo j h.2 hi.2) hi.2
    simp at this ⊢
    omega
theorem s_wide_of {t : Int} {bs : List D} : callN W (n + 1) f_wide_of [.tup [.int t, .tup bs]] s = .ok (.int (t + bs.length)) s := by
  rw [call1 (fd := f_wide_of) rfl rfl]
  simp
theorem s_law_wide {t : Int} {bs : List D} : callN W (n + 1) f__law_wide [.tup [.int t, .tup bs]] s = .ok (.int (t + bs.length)) s := by
  rw [call1 (fd := f__law_wide) rfl rfl]
  simp
variable {W n : Nat} {s : Sto} {L k : Nat}
def fw : List Str := ["more", "atleast", "same"]
theorem fw_ok : fw.all PyData.strOk = true := by decide +kernel
def gFact (w : Int) : D → Bool
  | .tup [a, b, c] => isWord a fw && (gLot w b && gLot w c)
  | _ => false
theorem isTup3 {v : D} (h : isTupL v 3 3 = true) : ∃ x y z, v = .tup [x, y, z] := by
  obtain ⟨ds, rfl, h1, h2⟩ := isTupL_no h
  match ds, h1, h2 with
  | [x, y, z], _, _ => exact ⟨x, y, z, rfl⟩
  | [], h1, _ => simp at h1
  | [_], h1, _ => simp at h1
  | [_, _], h1, _ => simp at h1
  | _ :: _ :: _ :: _ :: _, _, h2 => simp at h2; omega
theorem gFact_no {w : Int} {v : D} (h : isTupL v 3 3 = false) : gFact w v = false := by
  cases v <;> first | rfl | skip
  rename_i ds
  match ds, h with
  | [x, y, z], h => simp [isTupL] at h
  | [], _ => rfl
  | [_], _ => rfl
  | [_, _], _ => rfl
  | _ :: _ :: _ :: _ :: _, _ => rfl
def gFacts (w : Int) (m : Int) : D → Bool
  | .tup fs => decide ((fs.length : Int) ≤ m) && allB (gFact w) fs
  | _ => false
def gNums (w : Int) : D → Bool
  | .tup ds => decide ((ds.length : Int) = w) && allB (fun x => isNum x 1 1000000000000) ds
  | _ => false
theorem s_are_good_numbers {t : Int} {bs : List D} {v : D} (h : okD L k v = true) (hL : L ≤ sizeLine) : callN W (n + 4) f_are_good_numbers [.tup [.int t, .tup bs], v] s = .ok (.bl (gNums (t + bs.length) v)) s := by
  rw [call1 (fd := f_are_good_numbers) rfl rfl]
  simp [s_is_tuple (okD_pl h), s_wide_of]
  cases v <;> first | (simp [isTupL, gNums]; done) | skip
  rename_i ds
  have hx := okD_tup h
  have hlen : ds.length ≤ sizeLine := by have := hx.1; omega
  have hc : ∀ ρ2, evE (gOf W (n + 3) f_are_good_numbers) c_are_good_numbers_1 [some (.tup [.int t, .tup bs]), some (.tup ds), ρ2] s = .ok (.lst (mapBl (fun x => isNum x 1 1000000000000) ds)) s := fun ρ2 =>
    comp_bl (xs := ds) _ (gv_tup rfl) hlen fun z hz => ⟨_, rfl, by simp [wipeE, s_is_number (okD_pl (hx.2 z hz))]⟩
  simp [hc, gNums, isTupL]
  congr 1
  rw [Bool.eq_iff_iff]
  simp
  omega
/-- a rack's boards -/
def bdD (bd : Int × Int) : D := .tup [.int bd.1, .int bd.2]
structure Rk where
  t : Nat
  bs : List (Int × Int)
def Rk.d (r : Rk) : D := .tup [.int r.t, .tup (r.bs.map bdD)]
def Rk.w (r : Rk) : Nat := r.t + r.bs.length
structure Rk.ok (r : Rk) : Prop where
  t1 : 1 ≤ r.t
  t4 : r.t ≤ 4
  b1 : 1 ≤ r.bs.length
  b3 : r.bs.length ≤ 3
  bd : ∀ b ∈ r.bs, 0 ≤ b.1 ∧ b.1 < b.2 ∧ b.2 ≤ 12
def gPut (r : Rk) : D → Bool
  | .tup [_, b, c, d] => isNum b 0 (r.t - 1) && (match c with
    | .int i => match (if 0 ≤ i then r.bs[i.toNat]? else none) with
      | some bd => isNum d bd.1 bd.2
      | none => false
    | _ => false)
  | _ => false
theorem len_ne_int {ds : List D} {m : Nat} : eqv s (.int ds.length) (.int (m : Int)) = some (decide (ds.length = m)) := by
  rw [eqv_int]
  congr 1
  rw [Bool.eq_iff_iff]
  simp
  omega
theorem s_is_put {r : Rk} {ds : List D} (hr : r.ok) (h : okD L k (.tup ds) = true) : callN W (n + 2) f_is_put [r.d, .tup ds] s = .ok (.bl (gPut r (.tup ds))) s := by
  rw [call1 (fd := f_is_put) rfl rfl]
  have e4 : eqv s (.int ds.length) (.int 4) = some (decide (ds.length = 4)) := len_ne_int (m := 4)
  by_cases h4 : ds.length = 4
  · match ds, h4 with
    | [a, b, c, d], _ =>
      have hx := okD_tup h
      have ob := hx.2 b (by simp)
      have oc := hx.2 c (by simp)
      have od := hx.2 d (by simp)
      simp [Rk.d, s_is_number (okD_pl ob), s_is_number (okD_pl oc)]
      cases h1 : isNum b 0 (r.t - 1) with
      | false => simp [gPut, h1]
      | true =>
        cases h2 : isNum c 0 (r.bs.length - 1) with
        | false =>
          simp [gPut, h1]
          cases c <;> first | rfl | skip
          rename_i i _
          simp [isNum] at h2
          by_cases h0 : 0 ≤ i
          · have := h2 h0
            have e : r.bs[i.toNat]? = none := List.getElem?_eq_none (by omega)
            simp [h0, e]
          · simp [h0]
        | true =>
          obtain ⟨i, rfl, i0, i1⟩ := isNum_int h2
          obtain ⟨m, rfl⟩ := Int.eq_ofNat_of_zero_le i0
          have hm : m < r.bs.length := by omega
          have e : r.bs[m]? = some r.bs[m] := List.getElem?_eq_getElem hm
          simp [gPut, h1, atI_nat, e, bdD, s_is_number (okD_pl od)]
  · have e : gPut r (.tup ds) = false := by
      match ds, h4 with
      | [], _ => rfl
      | [_], _ => rfl
      | [_, _], _ => rfl
      | [_, _, _], _ => rfl
      | [_, _, _, _], h => simp at h
      | _ :: _ :: _ :: _ :: _ :: _, _ => rfl
    simp [e4, h4, e]

variable {W n : Nat} {s : Sto} {L k : Nat}
def sw : List Str := ["prop", "bare", "hang"]
theorem sw_ok : sw.all PyData.strOk = true := by decide +kernel
theorem sOk_put : PyData.strOk "put" = true := by decide +kernel
theorem sOk_off : PyData.strOk "off" = true := by decide +kernel
def gDeed (r : Rk) : D → Bool
  | .tup [.str w, b] => ifB (w == ("off" : Str)) (isNum b 0 (r.t - 1)) (sw.any (· == w) && isNum b 0 (r.bs.length - 1))
  | .tup [.str w, b, c, d] => (w == ("put" : Str)) && gPut r (.tup [.str w, b, c, d])
  | _ => false
theorem okD_str {x : Str} (h : okD L k (.str x) = true) : PyData.strOk x = true := by cases k <;> exact h
theorem isSt_ex {x : D} (h : isSt_ x = true) : ∃ w, x = .str w := by
  cases x <;> first | (cases h; done) | exact ⟨_, rfl⟩
theorem put_not_off {w : Str} (h : (w == ("put" : Str)) = true) : (w == ("off" : Str)) = false ∧ sw.any (· == w) = false := by
  have e : w = "put" := by simpa using h
  subst e
  exact ⟨by decide +kernel, by decide +kernel⟩
theorem s_is_deed {r : Rk} {v : D} (hr : r.ok) (h : okD L k v = true) : callN W (n + 3) f_is_deed [r.d, v] s = .ok (.bl (gDeed r v)) s := by
  rw [call1 (fd := f_is_deed) rfl rfl]
  cases h1 : isTupL v 2 4 with
  | false =>
    have e : gDeed r v = false := by
      cases v <;> first | rfl | skip
      rename_i ds
      match ds, h1 with
      | [], _ => rfl
      | [_], _ => simp [gDeed]
      | [_, _], h => simp [isTupL] at h
      | [_, _, _], h => simp [isTupL] at h
      | [_, _, _, _], h => simp [isTupL] at h
      | _ :: _ :: _ :: _ :: _ :: _, _ => simp [gDeed]
    simp [s_is_tuple (okD_pl h), h1, e]
  | true =>
    obtain ⟨ds, rfl, l1, l2⟩ := isTupL_no h1
    obtain ⟨a, b, rest, rfl⟩ : ∃ a b rest, ds = a :: b :: rest := by
      match ds, l1 with
      | a :: b :: rest, _ => exact ⟨a, b, rest, rfl⟩
      | [], l1 => simp at l1
      | [_], l1 => simp at l1
    have hx := okD_tup h
    have o0 := hx.2 a (by simp)
    have o1 := okD_pl (hx.2 b (by simp))
    have lr : rest.length ≤ 2 := by simp at l2; omega
    cases h2 : isSt_ a with
    | false =>
      have e : gDeed r (.tup (a :: b :: rest)) = false := by
        match rest, lr with
        | [], _ => cases a <;> first | rfl | (cases h2; done)
        | [c], _ => cases a <;> rfl
        | [c, d], _ => cases a <;> first | rfl | (cases h2; done)
      simp [s_is_tuple (okD_pl h), h1, ist_str (okD_pl o0), h2, e]
    | true =>
      obtain ⟨w, rfl⟩ := isSt_ex h2
      have ow : PyData.strOk w = true := okD_str o0
      have q1 : eqv s (.str w) (.str "put") = some (w == ("put" : Str)) := eqv_str ow sOk_put
      have q2 : eqv s (.str w) (.str "off") = some (w == ("off" : Str)) := eqv_str ow sOk_off
      have q3 : inD s (.str w) (.tup [.str "prop", .str "bare", .str "hang"]) = some (sw.any (· == w)) := in_strs (ws := sw) ow sw_ok
      have hp := s_is_put (W := W) (n := n) (s := s) hr h
      match rest, lr with
      | [], _ =>
        simp [s_is_tuple (okD_pl h), h1, ist_str, isSt_, q1, q2, q3, hp]
        simp [Rk.d, s_is_number o1]
        cases a1 : (w == ("put" : Str)) with
        | true =>
          obtain ⟨b1, b2⟩ := put_not_off a1
          simp [gDeed, gPut, b1, b2]
        | false => cases a2 : (w == ("off" : Str)) <;> simp [gDeed, a2]
      | [c], _ =>
        simp [s_is_tuple (okD_pl h), h1, ist_str, isSt_, q1, q2, q3, hp]
        cases a1 : (w == ("put" : Str)) <;> cases a2 : (w == ("off" : Str)) <;> simp [gDeed, gPut]
      | [c, d], _ =>
        simp [s_is_tuple (okD_pl h), h1, ist_str, isSt_, q1, q2, q3, hp]
        cases a1 : (w == ("put" : Str)) <;> cases a2 : (w == ("off" : Str)) <;> simp [gDeed, a1]
def gScript (r : Rk) : D → Bool
  | .tup ds => decide (ds.length ≤ 6) && allB (gDeed r) ds
  | _ => false
theorem s_is_good_script {r : Rk} {v : D} (hr : r.ok) (h : okD L k v = true) (hL : L ≤ sizeLine) : callN W (n + 4) f_is_good_script [r.d, v] s = .ok (.bl (gScript r v)) s := by
  rw [call1 (fd := f_is_good_script) rfl rfl]
  simp [s_is_tuple (okD_pl h)]
  cases v <;> first | (simp [isTupL, gScript]; done) | skip
  rename_i ds
  have hx := okD_tup h
  have hlen : ds.length ≤ sizeLine := by have := hx.1; omega
  have hc : ∀ ρ2, evE (gOf W (n + 3) f_is_good_script) c_is_good_script_1 [some r.d, some (.tup ds), ρ2] s = .ok (.lst (mapBl (gDeed r) ds)) s := fun ρ2 =>
    comp_bl (xs := ds) _ (gv_tup rfl) hlen fun z hz => ⟨_, rfl, by simp [wipeE, s_is_deed hr (hx.2 z hz)]⟩
  simp [hc, gScript, isTupL]
  congr 1
  rw [Bool.eq_iff_iff]
  simp
  omega
/-! what is asked of the outside -/
theorem gBoard_bd {b : Int × Int} (h : 0 ≤ b.1 ∧ b.1 < b.2 ∧ b.2 ≤ 12) : gBoard (bdD b) = true := by
  simp [gBoard, bdD, isNum, ltD2]; omega
theorem gRack_rk {r : Rk} (hr : r.ok) : gRack r.d = true := by
  simp only [gRack, Rk.d, Bool.and_eq_true, allB_iff]
  refine ⟨⟨?_, ?_⟩, fun x hx => ?_⟩
  · have := hr.t1; have := hr.t4; simp [isNum]; omega
  · have := hr.b1; have := hr.b3; simp; omega
  · obtain ⟨b, hb, rfl⟩ := List.mem_map.mp hx
    exact gBoard_bd (hr.bd b hb)
theorem rk_ok {r : Rk} (hr : r.ok) : okD 6 3 r.d = true := by
  refine okD_tupI (by simp) fun x hx => ?_
  simp at hx
  rcases hx with rfl | rfl
  · rfl
  · refine okD_tupI (by have := hr.b3; simp; omega) fun x hx => ?_
    obtain ⟨b, hb, rfl⟩ := List.mem_map.mp hx
    refine okD_tupI (by simp) fun x hx => ?_
    simp at hx
    rcases hx with rfl | rfl <;> rfl
theorem s_need_rack {r : Rk} (hr : r.ok) : callN W (n + 4) f_need_rack [r.d] s = .ok .non s := by
  rw [call1 (fd := f_need_rack) rfl rfl]
  simp [s_is_good_rack (rk_ok hr) (by simp [sizeLine_eq]), gRack_rk hr]
variable {W n : Nat} {s : Sto} {L k : Nat}
structure Fc where
  w : Str
  a : List Int
  b : List Int
def fcD (f : Fc) : D := .tup [.str f.w, .tup (intL f.a), .tup (intL f.b)]
def cf (f : Fc) (i : Int) : Int := (if f.a.any (· == i) = true then 1 else 0) - (if f.b.any (· == i) = true then 1 else 0)
def lineOf (r : Rk) (f : Fc) : List Int := (List.range r.w).map fun i => cf f (i : Nat)
def dot (xs ys : List Int) : Int := (List.zipWith (· * ·) xs ys).sum
def isSo (w : Str) (far : Int) : Bool := ifB (w == ("same" : Str)) (far == 0) (ifB (w == ("more" : Str)) (decide (0 < far)) (decide (0 ≤ far)))
theorem wide_rk {r : Rk} : callN W (n + 1) f_wide_of [r.d] s = .ok (.int (r.w : Nat)) s := by
  have := s_wide_of (W := W) (n := n) (s := s) (t := r.t) (bs := r.bs.map bdD)
  rw [List.length_map] at this
  exact this
theorem law_wide_rk {r : Rk} : callN W (n + 1) f__law_wide [r.d] s = .ok (.int (r.w : Nat)) s := by
  have := s_law_wide (W := W) (n := n) (s := s) (t := r.t) (bs := r.bs.map bdD)
  rw [List.length_map] at this
  exact this
theorem Rk.ok.w7 {r : Rk} (h : r.ok) : r.w ≤ 7 := by have := h.t4; have := h.b3; unfold Rk.w; omega
def rngL (m : Nat) : List D := mapT (fun i : Nat => D.int (i : Nat)) (List.range m)
theorem ofB_int {b : Bool} : ifB b (Out.ok (D.int 1) s) (.ok (.int 0) s) = .ok (.int (if b = true then 1 else 0)) s := by cases b <;> rfl
theorem dot_z {xs ys : List Int} : List.zipWith (fun x y => D.tup [x, y]) (intL xs) (intL ys) = mapT (fun p : Int × Int => D.tup [.int p.1, .int p.2]) (xs.zip ys) := by
  unfold intL mapT
  rw [List.zip, List.map_zipWith, List.zipWith_map]
theorem s_sum_line {fd : FD} {c : E} {xs ys : List Int} {ρ1 ρ2 : Option D} {k : Bool} (hc : c = .comp false [2, 3] (.tup [.v 2, .v 3]) (.zip (.v 0) (.v 1)) (.lit (.bl true)) (.pr .mul [.v 2, .v 3]))
    (hx : ∀ x ∈ xs, x.natAbs < 2 ^ 64) (hl : xs.length ≤ sizeLine) : evE (gOf W n fd) c [some (seqD k (intL xs)), some (.tup (intL ys)), ρ1, ρ2] s = .ok (.lst (intL (List.zipWith (· * ·) xs ys))) s := by
  subst hc
  have := comp_T (g := gOf W n fd) (ρ := [some (seqD k (intL xs)), some (.tup (intL ys)), ρ1, ρ2]) (s := s) (m := false) (own := [2, 3]) (tg := .tup [.v 2, .v 3]) (it := .zip (.v 0) (.v 1)) (e := .pr .mul [.v 2, .v 3])
      (ts := xs.zip ys) (fun p : Int × Int => D.tup [.int p.1, .int p.2]) (fun p : Int × Int => D.int (p.1 * p.2)) (by rw [← dot_z]; exact gv_zip (k := k) (l := false) rfl rfl) (by simp [List.length_zip]; omega)
      fun p hp => ⟨_, rfl, by
        have h1 := hx p.1 (List.of_mem_zip hp).1
        have h2 : mulOk p.1 p.2 = true := by unfold mulOk; simp [h1]
        simp [wipeE, p_mul_int h2]⟩
  rw [mapT_int] at this
  rw [this, List.zip, List.map_zipWith]
  rfl
theorem s_summed {xs ys : List Int} (hx : ∀ x ∈ xs, x.natAbs < 2 ^ 64) (hl : xs.length ≤ sizeLine) : callN W (n + 1) f_summed [.tup (intL xs), .tup (intL ys)] s = .ok (.int (dot xs ys)) s := by
  rw [call1 (fd := f_summed) rfl rfl]
  have hc := fun ρ1 ρ2 => s_sum_line (W := W) (n := n) (s := s) (fd := f_summed) (c := c_summed_1) (ρ1 := ρ1) (ρ2 := ρ2) (k := false) (ys := ys) rfl hx hl
  simp only [seqD, Bool.false_eq_true, if_false] at hc
  simp [hc, dot]
theorem sOk_same : PyData.strOk "same" = true := by decide +kernel
theorem sOk_more : PyData.strOk "more" = true := by decide +kernel
theorem sOk_atl : PyData.strOk "atleast" = true := by decide +kernel
def keepsB (r : Rk) (fs : List Fc) (ns : List Int) : Bool := allT (fun f => isSo f.w (dot (lineOf r f) ns)) fs
theorem cf_small {f : Fc} {i : Int} : (cf f i).natAbs < 2 ^ 64 := by
  unfold cf
  split <;> split <;> decide
theorem line_small {r : Rk} {f : Fc} : ∀ x ∈ lineOf r f, x.natAbs < 2 ^ 64 := by
  intro x hx
  obtain ⟨i, _, rfl⟩ := List.mem_map.mp hx
  exact cf_small
theorem line_len {r : Rk} {f : Fc} : (lineOf r f).length = r.w := by simp [lineOf]
variable {W n : Nat} {s : Sto} {L k : Nat}
/-! the outer functions at good things; the law's own -/
theorem fcD_ok {f : Fc} {m : Nat} (hw : PyData.strOk f.w = true) (h3 : 3 ≤ m) (ha : f.a.length ≤ m) (hb : f.b.length ≤ m) : okD m 2 (fcD f) = true := by
  refine okD_tupI h3 fun x hx => ?_
  simp at hx
  rcases hx with rfl | rfl | rfl
  · exact hw
  · refine okD_tupI (by simpa using ha) fun x hx => ?_
    obtain ⟨i, _, rfl⟩ := List.mem_map.mp hx
    rfl
  · refine okD_tupI (by simpa using hb) fun x hx => ?_
    obtain ⟨i, _, rfl⟩ := List.mem_map.mp hx
    rfl
/-- well-made facts for a rack -/
structure Fc.ok (w : Nat) (f : Fc) : Prop where
  wd : fw.any (· == f.w) = true
  a : gLot w (.tup (intL f.a)) = true
  b : gLot w (.tup (intL f.b)) = true
theorem gLot_len {w : Nat} {ns : List Int} (h : gLot w (.tup (intL ns)) = true) : ns.length ≤ w := by
  simp only [gLot, Bool.and_eq_true] at h
  have := incr_len (intL ns) 0 w h.1 h.2
  simp at this
  omega
theorem fw_str {x : Str} (h : fw.any (· == x) = true) : PyData.strOk x = true := by
  obtain ⟨y, hy, e⟩ := List.any_eq_true.mp h
  have e : y = x := by simpa using e
  subst e
  exact List.all_eq_true.mp fw_ok y hy
theorem Fc.ok.okD {w : Nat} {f : Fc} (h : f.ok w) (hw : w ≤ 7) : okD 7 2 (fcD f) = true :=
  fcD_ok (fw_str h.wd) (by omega) (by have := gLot_len h.a; omega) (by have := gLot_len h.b; omega)
theorem gFact_fc {w : Nat} {f : Fc} (h : f.ok w) : gFact w (fcD f) = true := by
  simp only [fcD, gFact, isWord, h.wd, h.a, h.b]; rfl
theorem facts_ok {w : Nat} {fs : List Fc} (hw : w ≤ 7) (h : ∀ f ∈ fs, f.ok w) (hl : fs.length ≤ 6) : okD 7 3 (.tup (mapT fcD fs)) = true := by
  refine okD_tupI (by unfold mapT; simp; omega) fun x hx => ?_
  obtain ⟨f, hf, rfl⟩ := List.mem_map.mp hx
  exact (h f hf).okD hw
theorem gFacts_fc {w : Nat} {fs : List Fc} (h : ∀ f ∈ fs, f.ok w) (hl : fs.length ≤ 6) : gFacts w 6 (.tup (mapT fcD fs)) = true := by
  simp only [gFacts, Bool.and_eq_true, decide_eq_true_eq]
  refine ⟨by unfold mapT; simp; omega, allB_iff.mpr fun x hx => ?_⟩
  obtain ⟨f, hf, rfl⟩ := List.mem_map.mp hx
  exact gFact_fc (h f hf)
structure NumsOk (w : Nat) (ns : List Int) : Prop where
  len : ns.length = w
  bd : ∀ i ∈ ns, 1 ≤ i ∧ i ≤ 1000000000000
theorem nums_ok {w : Nat} {ns : List Int} (hw : w ≤ 7) (h : NumsOk w ns) : okD 7 1 (.tup (intL ns)) = true := by
  refine okD_tupI (by simp [h.len, hw]) fun x hx => ?_
  obtain ⟨i, _, rfl⟩ := List.mem_map.mp hx
  rfl
theorem gNums_ns {w : Nat} {ns : List Int} (h : NumsOk w ns) : gNums w (.tup (intL ns)) = true := by
  simp only [gNums, Bool.and_eq_true, decide_eq_true_eq]
  refine ⟨by simp [h.len], allB_iff.mpr fun x hx => ?_⟩
  obtain ⟨i, hi, rfl⟩ := List.mem_map.mp hx
  have := h.bd i hi
  simp [isNum]; omega
theorem s7 : 7 ≤ sizeLine := by rw [sizeLine_eq]; decide
theorem gN_rk {r : Rk} {v : D} (h : okD L k v = true) (hL : L ≤ sizeLine) : callN W (n + 4) f_are_good_numbers [r.d, v] s = .ok (.bl (gNums r.w v)) s := by
  have := s_are_good_numbers (W := W) (n := n) (s := s) (t := r.t) (bs := r.bs.map bdD) h hL
  rw [List.length_map] at this
  exact this
variable {W n : Nat} {s : Sto} {L k : Nat}
theorem len2 {ds : List D} (h : ds.length = 2) : ∃ x y, ds = [x, y] := by
  match ds, h with
  | [x, y], _ => exact ⟨x, y, rfl⟩
theorem len3 {ds : List D} (h : ds.length = 3) : ∃ x y z, ds = [x, y, z] := by
  match ds, h with
  | [x, y, z], _ => exact ⟨x, y, z, rfl⟩
theorem gBoard_ne {ds : List D} (h : ds.length ≠ 2) : gBoard (.tup ds) = false := by
  match ds, h with
  | [], _ => rfl
  | [_], _ => rfl
  | [_, _], h => simp at h
  | _ :: _ :: _ :: _, _ => rfl
theorem gRack_ne {ds : List D} (h : ds.length ≠ 2) : gRack (.tup ds) = false := by
  match ds, h with
  | [], _ => rfl
  | [_], _ => rfl
  | [_, _], h => simp at h
  | _ :: b :: _ :: _, _ => cases b <;> simp [gRack]
variable {W n : Nat} {s : Sto} {L k : Nat}
theorem filter_empty {p : D → Bool} {xs : List D} : (xs.filter fun x => !p x).isEmpty = allB p xs := by
  unfold allB
  induction xs with
  | nil => rfl
  | cons x xs ih => cases h : p x <;> simp [h, ih]
theorem okD_filter {L k : Nat} {p : D → Bool} {xs : List D} (h : okD L (k + 1) (.tup xs) = true) : okD L (k + 1) (.lst (xs.filter p)) = true := by
  have hx := okD_tup h
  exact okD_lstI (Nat.le_trans (List.length_filter_le ..) hx.1) fun x hx' => hx.2 x (List.mem_filter.mp hx').1
/-- [x for x in value if not p(x)] against [] -/
theorem eqv_filter {p : D → Bool} {xs : List D} (h : okD L k (.tup xs) = true) (hk : k ≤ 64) : eqv s (.lst (xs.filter fun x => !p x)) (.lst []) = some (allB p xs) := by
  cases k with
  | zero => simp [okD] at h
  | succ k => rw [eqv_nilL (okD_filter h) hk, filter_empty]
def fltN (p : D → Bool) (xs : List D) : List D := xs.filter fun x => !p x
theorem comp_flt {g : G} {ρ : Env} {m : Bool} {own : List Nat} {tg : Tg} {it : I} {c e : E} {xs : List D} (p : D → Bool) (hI : Gives g it ρ s xs) (hl : xs.length ≤ sizeLine)
    (hb : ∀ x ∈ xs, ∃ ρ1, asg tg x (wipeE ρ own) = some ρ1 ∧ evE g c ρ1 s = .ok (.bl (!p x)) s ∧ evE g e ρ1 s = .ok x s) : evE g (.comp m own tg it c e) ρ s = mkL m (fltN p xs) s := by
  rw [comp_filter (fun x => !p x) id hI hl fun x hx => ?_]
  · rw [List.map_id]; rfl
  · obtain ⟨ρ1, h1, h2, h3⟩ := hb x hx
    exact ⟨ρ1, h1, h2, fun _ => h3⟩
theorem eqv_flt {p : D → Bool} {xs : List D} (h : okD L k (.tup xs) = true) (hk : k ≤ 64) : eqv s (.lst (fltN p xs)) (.lst []) = some (allB p xs) := eqv_filter h hk
/-- [1 for one, other in zip(value, value[1:]) if one >= other] against [] -/
theorem comp_ones {g : G} {ρ : Env} {own : List Nat} {tg : Tg} {it : I} {c : E} {xs : List D} (p : D → Bool) (hI : Gives g it ρ s xs) (hl : xs.length ≤ sizeLine)
    (hb : ∀ x ∈ xs, ∃ ρ1, asg tg x (wipeE ρ own) = some ρ1 ∧ evE g c ρ1 s = .ok (.bl (!p x)) s) : evE g (.comp false own tg it c (.lit (.int 1))) ρ s = .ok (.lst ((fltN p xs).map fun _ => .int 1)) s := by
  rw [comp_filter (fun x => !p x) (fun _ => .int 1) hI hl fun x hx => ?_]
  · rfl
  · obtain ⟨ρ1, h1, h2⟩ := hb x hx
    exact ⟨ρ1, h1, h2, fun _ => rfl⟩
def ones (xs : List D) : List D := xs.map fun _ => .int 1
theorem eqv_ones {p : D → Bool} {xs : List D} : eqv s (.lst (ones (fltN p xs))) (.lst []) = some (allB p xs) := by
  have h : okD (ones (fltN p xs)).length 1 (.lst (ones (fltN p xs))) = true := okD_lstI (Nat.le_refl _) fun x hx => by
    obtain ⟨_, _, rfl⟩ := List.mem_map.mp hx
    rfl
  rw [eqv_nilL h (by decide)]
  congr 1
  unfold ones
  rw [List.isEmpty_map]
  exact filter_empty
variable {W n : Nat} {s : Sto} {L k : Nat}
theorem in_24 {m : Nat} : inD s (.int (m : Int)) (.tup [.int 2, .int 4]) = some (decide (m = 2) || decide (m = 4)) := by
  have := in_ints (s := s) (x := m) (ns := [2, 4])
  simp only [List.map] at this
  rw [this]
  congr 1
  rw [Bool.eq_iff_iff]
  simp
  omega
theorem gDeed_len {r : Rk} {ds : List D} (h2 : ds.length ≠ 2) (h4 : ds.length ≠ 4) : gDeed r (.tup ds) = false := by
  match ds, h2, h4 with
  | [], _, _ => rfl
  | [_], _, _ => simp [gDeed]
  | [_, _], h, _ => simp at h
  | [_, _, _], _, _ => simp [gDeed]
  | [_, _, _, _], _, h => simp at h
  | _ :: _ :: _ :: _ :: _ :: _, _, _ => simp [gDeed]
variable {W n : Nat} {s : Sto} {L k : Nat}
/-- the source stands: two numbers -/
def Srce (s : Sto) (m : Nat) : Prop := ∃ a b : Int, s[m]? = some (Ob.lst [.int a, .int b]) ∧ 0 ≤ a ∧ 0 ≤ b ∧ b < 4294967296
theorem p_ix_obj {m : Nat} {ds : List D} {i : Int} (h : s[m]? = some (Ob.lst ds)) : prim s .ix [.obj m, .int i] = L2.atI ds i := by
  show ((vL s (.obj m)).bind fun ds => L2.atI ds i) = _
  simp only [vL, h]
  rfl
theorem setIx_0 {m : Nat} {a b d : D} (h : s[m]? = some (Ob.lst [a, b])) : setIx s (.obj m) (.int 0) d = some (s.set m (.lst [d, b])) := by
  simp only [setIx, h]
  rfl
theorem setIx_1 {m : Nat} {a b d : D} (h : s[m]? = some (Ob.lst [a, b])) : setIx s (.obj m) (.int 1) d = some (s.set m (.lst [a, d])) := by
  simp only [setIx, h]
  rfl
theorem get_set {m : Nat} {o o' : Ob} (h : s[m]? = some o) : (s.set m o')[m]? = some o' := by
  rw [List.getElem?_set_self (List.getElem?_eq_some_iff.mp h).1]
theorem mulOk_l {a b : Int} (h : a.natAbs < 2 ^ 64) : mulOk a b = true := by unfold mulOk; simp [h]
theorem mulOk_r {a b : Int} (h : b.natAbs < 2 ^ 64) : mulOk a b = true := by unfold mulOk; simp [h]
theorem log_small {b : Int} (h : b.natAbs < 2 ^ 64) : b.natAbs.log2 < 9000 := by
  by_cases h0 : b.natAbs = 0
  · rw [h0]; decide
  · have := (Nat.log2_lt h0).mpr h
    omega
theorem draw_sat {m : Nat} {many : Int} (hs : Srce s m) (h0 : 0 < many) (h1 : many < 4294967296) :
    (callN W (n + 1) f__law_draw [.obj m, .int many] s).sat fun d s' => ∃ r : Nat, d = .int r ∧ (r : Int) < many ∧ Srce s' m := by
  obtain ⟨a, b, hm, ha, hb, hb2⟩ := hs
  rw [call1 (fd := f__law_draw) rfl rfl]
  have hl := log_small (b := many) (by omega)
  simp [p_ix_obj hm]
  by_cases hp : 0 < a
  · simp [hp, p_mod_int h0, p_ix_obj hm, p_div_int h0 hl, setIx_0 hm]
    refine ⟨(a % many).toNat, ?_, ?_, a / many, b, get_set hm, Int.ediv_nonneg ha (by omega), hb, hb2⟩
    · rw [Int.toNat_of_nonneg (Int.emod_nonneg _ (by omega))]
    · rw [Int.toNat_of_nonneg (Int.emod_nonneg _ (by omega))]; exact Int.emod_lt_of_pos _ h0
  · have hb' : b.natAbs < 2 ^ 64 := by omega
    simp [hp, p_mul_int (mulOk_l hb'), p_mod_int (a := b * 48271) (b := 2147483647) (by decide), setIx_1 hm]
    have n1 := Int.emod_nonneg (b * 48271) (b := 2147483647) (by decide)
    have n2 := Int.emod_lt_of_pos (b * 48271) (b := 2147483647) (by decide)
    generalize b * 48271 % 2147483647 = c at n1 n2
    have hc : c.natAbs < 2 ^ 64 := by omega
    have hm2 := get_set (o' := Ob.lst [.int a, .int c]) hm
    simp [p_ix_obj hm2, p_mul_int (mulOk_l hc), p_mod_int (a := c * c) (b := 2147483629) (by decide), p_div_int (a := c * c % 2147483629) (b := 64) (by decide) (by decide), p_mod_int h0]
    refine ⟨(c * c % 2147483629 / 64 % many).toNat, ?_, ?_, a, c, hm2, ha, n1, by omega⟩
    · rw [Int.toNat_of_nonneg (Int.emod_nonneg _ (by omega))]
    · rw [Int.toNat_of_nonneg (Int.emod_nonneg _ (by omega))]; exact Int.emod_lt_of_pos _ h0

variable {W n : Nat} {s : Sto} {L k : Nat}
section
variable {g : G} {ρ : Env}
theorem for_sat {t : Tg} {it : I} {b : List S} {Q : Flow → Sto → Prop} (h : (evI g it ρ s).sat fun src s1 => ∃ xs, itemsOf src = some xs ∧ (forItems t (fun ρ s => evSs g b ρ s) xs ρ s1).sat Q) : (evS g (.for_ t it b) ρ s).sat Q := by
  obtain ⟨src, s1, e, xs, h1, h2⟩ := h.get
  rw [evS_for, e]
  show (forSrc src t _ ρ s1).sat Q
  rw [forSrc_items h1]
  exact h2
theorem r1_sat {e : E} {P : Src → Sto → Prop} (h : (evE g e ρ s).sat fun d s1 => ∃ m : Nat, d = .int (m : Nat) ∧ m ≤ 16777216 ∧ P (.rng 0 m) s1) : (evI g (.r1 e) ρ s).sat P := by
  rw [evI_r1]
  refine h.bind fun d s1 hd => ?_
  obtain ⟨m, rfl, hm, hp⟩ := hd
  simp only
  rw [if_pos (rng_fits hm), Int.toNat_natCast]
  exact hp
end
theorem source_sat {ns : List Int} {k : Nat} (hk : k ≤ 100) : (callN W (n + 1) f__law_source [.scr ns, .int (k : Nat)] s).sat fun d s' => d = .obj s.length ∧ Srce s' s.length := by
  rw [call1 (fd := f__law_source) rfl rfl]
  have key : ∀ c : Int, 0 ≤ c → (fin (evSs (gOf W n f__law_source) [
  .ite (.pr .lt [.v 2, .pr .pow [.lit (.int 10), .lit (.int 18)]]) [
    .ret (.lst true [.lit (.int 0), .pr .add [.lit (.int 1), .pr .mod [.pr .toInt [.pr .add [.pr .mul [.v 2, .lit (.int 7919)], .pr .mul [.lit (.int 104729), .v 1]]], .lit (.int 2147483646)]]])] [],
  .ret (.lst true [.v 2, .pr .add [.lit (.int 1), .pr .mod [.pr .toInt [.pr .add [.v 2, .v 1]], .lit (.int 2147483646)]]])] [some (.scr ns), some (.int (k : Nat)), some (.int c)] s)).sat fun d s' => d = .obj s.length ∧ Srce s' s.length := by
    intro c hc
    have e : prim s .pow [.int 10, .int 18] = some (.int 1000000000000000000) := rfl
    have n1 := fun z : Int => Int.emod_nonneg z (b := 2147483646) (by decide)
    have n2 := fun z : Int => Int.emod_lt_of_pos z (b := 2147483646) (by decide)
    have last : ∀ a b : Int, (s ++ [Ob.lst [.int a, .int b]])[s.length]? = some (Ob.lst [.int a, .int b]) := fun a b => by simp
    simp [e, p_mul_int (a := c) (b := 7919) (mulOk_r (by decide)), p_mul_int (a := 104729) (mulOk_l (by decide)), p_mod_int (b := 2147483646) (by decide), mkL]
    cases h : decide (c < 1000000000000000000) with
    | true =>
      simp
      refine ⟨0, _, last _ _, by decide, ?_, ?_⟩
      · have := n1 (c * 7919 + 104729 * k); omega
      · have := n2 (c * 7919 + 104729 * k); omega
    | false =>
      simp
      refine ⟨c, _, last _ _, hc, ?_, ?_⟩
      · have := n1 (c + k); omega
      · have := n2 (c + k); omega
  by_cases h : k < ns.length
  · have e : L2.atI ns (k : Int) = some ns[k] := by rw [atI_nat]; exact List.getElem?_eq_getElem h
    have h' : (k : Int) < ns.length := by omega
    have q := key (if ns[k] < 0 then -ns[k] else ns[k]) (by split <;> omega)
    simp [h', e]
    simpa using q
  · have h' : ¬ (k : Int) < ns.length := by omega
    have q := key 0 (by decide)
    simp [h']
    simpa using q
theorem of_sat {m : Nat} {ds : List D} (hs : Srce s m) (h0 : 0 < ds.length) (h1 : ds.length < 4294967296) : (callN W (n + 2) f__law_of [.obj m, .lst ds] s).sat fun d s' => d ∈ ds ∧ Srce s' m := by
  rw [call1 (fd := f__law_of) rfl rfl]
  simp only [fin_sat]
  simp [so_sat, sat_bind, seq_so]
  refine (draw_sat (many := ds.length) hs (by omega) (by omega)).mono fun d s1 h => ?_
  obtain ⟨r, rfl, hr, hs1⟩ := h
  have hr' : r < ds.length := by omega
  simp [atI_nat, List.getElem?_eq_getElem hr']
  exact hs1

variable {W n : Nat} {s : Sto} {L k : Nat}
theorem rack_sat {m : Nat} (hs : Srce s m) : (callN W (n + 2) f__law_rack [.obj m, .int 4, .int 3] s).sat fun d s' => ∃ r : Rk, d = r.d ∧ r.ok ∧ Srce s' m := by
  rw [call1 (fd := f__law_rack) rfl rfl, fin_sat]
  simp [seq_sat]
  refine for_sat (r1_sat ?_)
  simp [sat_bind]
  refine (draw_sat (many := 3) hs (by decide) (by decide)).mono fun d s1 h => ?_
  obtain ⟨r, rfl, hr, hs1⟩ := h
  simp
  refine ⟨1 + r, by omega, by omega, _, rfl, ?_⟩
  refine for_inv (fun i ρ s => ∃ (bs : List (Int × Int)) (o1 o2 : Option D), ρ = [some (.obj m), some (.int 4), some (.int 3), some (.tup (bs.map bdD)), o1, o2] ∧ bs.length = i ∧ (∀ b ∈ bs, 0 ≤ b.1 ∧ b.1 < b.2 ∧ b.2 ≤ 12) ∧ Srce s m) ⟨[], none, none, rfl, rfl, (fun _ h => nomatch h), hs1⟩ ?_ ?_
  · rintro i x ρ s hx ⟨bs, o1, o2, rfl, hb, hbd, hs⟩
    have hi : i < 1 + r := by
      have := (List.getElem?_eq_some_iff.mp hx).1
      simpa using this
    refine ⟨_, rfl, ?_⟩
    unfold b__law_rack_1
    simp [seq_sat, so_sat, sat_bind]
    refine (draw_sat (many := 4) hs (by decide) (by decide)).mono fun d s1 h => ?_
    obtain ⟨l, rfl, hl, hs1⟩ := h
    simp [sat_bind, so_sat]
    refine (draw_sat (many := 5) hs1 (by decide) (by decide)).mono fun d s2 h => ?_
    obtain ⟨q, rfl, hq, hs2⟩ := h
    have hsz : bs.length + 1 ≤ sizeLine := by rw [sizeLine_eq]; omega
    simp [hsz]
    refine ⟨bs ++ [((l : Int), (l : Int) + 1 + q)], by simp [bdD], by simp [hb], fun a b hab => ?_, hs2⟩
    simp at hab
    rcases hab with h | ⟨rfl, rfl⟩
    · exact hbd _ h
    · omega
  · rintro ρ s ⟨bs, o1, o2, rfl, hb, hbd, hs⟩
    simp [so_sat, sat_bind]
    refine (draw_sat (many := 4) hs (by decide) (by decide)).mono fun d s1 h => ?_
    obtain ⟨t, rfl, ht, hs1⟩ := h
    simp at hb
    simp
    exact ⟨⟨1 + t, bs⟩, by simp [Rk.d], ⟨by simp, by simp; omega, by simp; omega, by simp; omega, hbd⟩, hs1⟩

variable {W n : Nat} {s : Sto} {L k : Nat}
theorem numbers_sat {m : Nat} {r : Rk} (hr : r.ok) (hs : Srce s m) : (callN W (n + 3) f__law_numbers [.obj m, r.d] s).sat fun d s' => ∃ ns : List Int, d = .tup (intL ns) ∧ NumsOk r.w ns ∧ Srce s' m := by
  rw [call1 (fd := f__law_numbers) rfl rfl, fin_sat]
  simp [seq_sat]
  refine for_sat (r1_sat ?_)
  simp [law_wide_rk]
  have hw := hr.w7
  refine ⟨r.w, by simp, by omega, _, rfl, ?_⟩
  refine for_inv (fun i ρ s => ∃ (ns : List Int) (o : Option D), ρ = [some (.obj m), some r.d, some (.tup (intL ns)), o] ∧ ns.length = i ∧ (∀ i ∈ ns, 1 ≤ i ∧ i ≤ 1000000000000) ∧ Srce s m) ⟨[], none, rfl, rfl, (fun _ h => nomatch h), hs⟩ ?_ ?_
  · rintro i x ρ s hx ⟨ns, o, rfl, hb, hbd, hs⟩
    have hi : i < r.w := by
      have := (List.getElem?_eq_some_iff.mp hx).1
      simpa using this
    refine ⟨_, rfl, ?_⟩
    unfold b__law_numbers_1
    simp [seq_sat, so_sat, sat_bind]
    refine (draw_sat (many := 9) hs (by decide) (by decide)).mono fun d s1 h => ?_
    obtain ⟨q, rfl, hq, hs1⟩ := h
    simp [sat_bind, so_sat]
    refine (of_sat hs1 (by simp) (by simp)).mono fun d s2 h => ?_
    obtain ⟨hd, hs2⟩ := h
    have hsz : ns.length + 1 ≤ sizeLine := by rw [sizeLine_eq]; omega
    obtain ⟨j, rfl, j1, j2⟩ : ∃ j : Int, d = .int j ∧ 1 ≤ j ∧ j ≤ 1000000000000 := by
      simp at hd
      rcases hd with rfl | rfl | rfl | rfl | rfl <;> exact ⟨_, rfl, by omega, by omega⟩
    simp [hsz]
    refine ⟨ns ++ [j], by simp [intL], by simp [hb], fun a hab => ?_, hs2⟩
    simp at hab
    rcases hab with h | rfl
    · exact hbd _ h
    · exact ⟨j1, j2⟩
  · rintro ρ s ⟨ns, o, rfl, hb, hbd, hs⟩
    simp at hb
    simp
    exact ⟨ns, rfl, ⟨hb, hbd⟩, hs⟩
theorem incr_snoc : ∀ {ns : List Int} {j : Int}, incr (intL ns) = true → (∀ i ∈ ns, i < j) → incr (intL (ns ++ [j])) = true
  | [], j, _, _ => rfl
  | [a], j, _, h => by
    have := h a (by simp)
    show (ltD2 (.int a) (.int j) && incr [.int j]) = true
    simp [ltD2, this]; rfl
  | a :: b :: ns, j, h, hl => by
    have h : (ltD2 (.int a) (.int b) && incr (intL (b :: ns))) = true := h
    rw [Bool.and_eq_true] at h
    show (ltD2 (.int a) (.int b) && incr (intL ((b :: ns) ++ [j]))) = true
    rw [Bool.and_eq_true]
    exact ⟨h.1, incr_snoc h.2 fun i hi => hl i (List.mem_cons_of_mem _ hi)⟩
/-- rising numbers below w -/
structure LotOk (w : Nat) (ns : List Int) : Prop where
  up : incr (intL ns) = true
  bd : ∀ i ∈ ns, 0 ≤ i ∧ i < w
theorem LotOk.g {w : Nat} {ns : List Int} (h : LotOk w ns) : gLot w (.tup (intL ns)) = true := by
  simp only [gLot, Bool.and_eq_true, h.up, and_true]
  refine allB_iff.mpr fun x hx => ?_
  obtain ⟨i, hi, rfl⟩ := List.mem_map.mp hx
  have := h.bd i hi
  simp [isNum]; omega
variable {W n : Nat} {s : Sto} {L k : Nat}
theorem l_sum {xs ys : List Int} (hx : ∀ x ∈ xs, x.natAbs < 2 ^ 64) (hl : xs.length ≤ sizeLine) : callN W (n + 1) f__law_sum [.lst (intL xs), .tup (intL ys)] s = .ok (.int (dot xs ys)) s := by
  rw [call1 (fd := f__law_sum) rfl rfl]
  have hc := fun ρ1 ρ2 => s_sum_line (W := W) (n := n) (s := s) (fd := f__law_sum) (c := c__law_sum_1) (ρ1 := ρ1) (ρ2 := ρ2) (k := true) (ys := ys) rfl hx hl
  simp only [seqD, if_true] at hc
  simp [hc, dot]
variable {W n : Nat} {s : Sto} {L k : Nat}
theorem lot_one {w : Nat} {i : Int} (h0 : 0 ≤ i) (h1 : i < w) : LotOk w [i] := ⟨rfl, fun j hj => by simp at hj; omega⟩
theorem fact_end {m : Nat} {r : Rk} {a b : List Int} {w : Str} (ha : LotOk r.w a) (hb : LotOk r.w b) (hw : fw.any (· == w) = true) : (⟨w, a, b⟩ : Fc).ok r.w := ⟨hw, ha.g, hb.g⟩
variable {W n : Nat} {s : Sto} {L k : Nat}
theorem str_ok {x : Str} {L k : Nat} (h : PyData.strOk x = true) : okD L k (.str x) = true := by cases k <;> exact h
theorem int_ok {x : Int} {L k : Nat} : okD L k (.int x) = true := by cases k <;> rfl
theorem script_sat {m : Nat} {r : Rk} (hr : r.ok) (hs : Srce s m) : (callN W (n + 3) f__law_script [.obj m, r.d, .int 6] s).sat fun d s' => okD 7 2 d = true ∧ Srce s' m := by
  rw [call1 (fd := f__law_script) rfl rfl, fin_sat]
  simp [seq_sat]
  refine for_sat (r1_sat ?_)
  simp [sat_bind]
  refine (draw_sat (many := 7) hs (by decide) (by decide)).mono fun d s2 h => ?_
  obtain ⟨q, rfl, hq, hs2⟩ := h
  refine ⟨q, by simp, by omega, _, rfl, ?_⟩
  refine for_inv (fun i ρ s => ∃ (ds : List D) (o4 o5 o6 o7 o8 o9 o10 o11 : Option D), ρ = [some (.obj m), some r.d, some (.int 6), some (.tup ds), o4, o5, o6, o7, o8, o9, o10, o11] ∧ ds.length = i ∧ (∀ x ∈ ds, okD 7 1 x = true) ∧ Srce s m) ⟨[], none, none, none, none, none, none, none, none, rfl, rfl, (fun _ h => nomatch h), hs2⟩ ?_ ?_
  · rintro i x0 ρ s hx ⟨ds, o4, o5, o6, o7, o8, o9, o10, o11, rfl, hb, hbd, hs⟩
    have hi : i < q := by
      have := (List.getElem?_eq_some_iff.mp hx).1
      simpa using this
    have t1 := hr.t1
    have t4 := hr.t4
    have b1' := hr.b1
    have b3 := hr.b3
    refine ⟨_, rfl, ?_⟩
    unfold b__law_script_1
    have two : ∀ (w : Str) (j : Int), PyData.strOk w = true → okD 7 1 (.tup [.str w, .int j]) = true := fun w j ow => okD_tupI (by simp) fun x hx => by
      simp at hx
      rcases hx with rfl | rfl
      · exact ow
      · rfl
    have four : ∀ (w : Str) (i j l : Int), PyData.strOk w = true → okD 7 1 (.tup [.str w, .int i, .int j, .int l]) = true := fun w i j l ow => okD_tupI (by simp) fun x hx => by
      simp at hx
      rcases hx with rfl | rfl | rfl | rfl
      · exact ow
      · rfl
      · rfl
      · rfl
    have snoc : ∀ x : D, okD 7 1 x = true → ∀ y ∈ ds ++ [x], okD 7 1 y = true := fun x hx y hy => by
      rcases List.mem_append.mp hy with h | h
      · exact hbd _ h
      · rw [List.mem_singleton.mp h]; exact hx
    have hsz : ds.length + 1 ≤ sizeLine := by rw [sizeLine_eq]; omega
    simp [-evSs_cons, evSs_step, seq_sat, so_sat, sat_bind, Rk.d]
    refine (draw_sat (many := r.bs.length) hs (by omega) (by omega)).mono fun d s1 h => ?_
    obtain ⟨sh, rfl, hsh, hs1⟩ := h
    rw [rest_cons]
    simp [-evSs_cons, seq_sat, so_sat, sat_bind]
    refine (draw_sat (many := r.t) hs1 (by omega) (by omega)).mono fun d s2 h => ?_
    obtain ⟨th, rfl, hth, hs2⟩ := h
    have hsh' : sh < r.bs.length := by omega
    have e : r.bs[sh]? = some r.bs[sh] := List.getElem?_eq_getElem hsh'
    have bd := hr.bd r.bs[sh] (List.getElem_mem hsh')
    rw [rest_cons]
    simp [-evSs_cons, seq_sat, so_sat, sat_bind, atI_nat, e, bdD]
    rw [rest_cons]
    simp [-evSs_cons, seq_sat, so_sat, sat_bind]
    refine (draw_sat (many := r.bs[sh].2 - r.bs[sh].1 + 1) hs2 (by omega) (by omega)).mono fun d s3 h => ?_
    obtain ⟨pl, rfl, hpl, hs3⟩ := h
    simp [so_sat]
    rw [rest_cons]
    simp [-evSs_cons, seq_sat, so_sat, sat_bind]
    refine (of_sat hs3 (by simp) (by simp)).mono fun d s4 h => ?_
    obtain ⟨hd, hs4⟩ := h
    obtain ⟨w, rfl, ow⟩ : ∃ w : Str, d = .str w ∧ PyData.strOk w = true := by
      simp at hd
      rcases hd with rfl | rfl | rfl | rfl | rfl <;> exact ⟨_, rfl, by decide +kernel⟩
    have q1 : eqv s4 (.str w) (.str "put") = some (w == ("put" : Str)) := eqv_str ow sOk_put
    have q2 : eqv s4 (.str w) (.str "off") = some (w == ("off" : Str)) := eqv_str ow sOk_off
    rw [rest_cons]
    simp [-evSs_cons, seq_sat, so_sat, sat_bind, q2]
    have last : ∀ x : D, okD 7 1 x = true → (rest (gOf W (n + 2) f__law_script) [.set (.v 11) (.ite (.pr .eq [.v 10, .lit (.str "put")]) (.tup [.v 10, .v 6, .v 5, .v 9]) (.v 11)), .set (.v 3) (.pr .add [.v 3, .tup [.v 11]])]
        [some (.obj m), some (.tup [.int r.t, .tup (r.bs.map bdD)]), some (.int 6), some (.tup ds), some x0, some (.int sh), some (.int th), some (.int r.bs[sh].1), some (.int r.bs[sh].2), some (.int (r.bs[sh].1 + pl)), some (.str w), some x] s4).sat fun fl s' =>
          match fl with
          | .next ρ' => ∃ ds' o4 o5 o6 o7 o8 o9 o10 o11, ρ' = [some (.obj m), some (.tup [.int r.t, .tup (r.bs.map bdD)]), some (.int 6), some (.tup ds'), o4, o5, o6, o7, o8, o9, o10, o11] ∧ ds'.length = i + 1 ∧ (∀ x ∈ ds', okD 7 1 x = true) ∧ Srce s' m
          | _ => False := by
      intro x hx
      rw [rest_cons]
      simp [-evSs_cons, seq_sat, so_sat, sat_bind, q1]
      cases hp : (w == ("put" : Str)) with
      | true =>
        simp
        rw [rest_cons]
        simp [-evSs_cons, seq_sat, so_sat, sat_bind, hsz]
        exact ⟨hb, fun y hy => snoc _ (four w th sh (r.bs[sh].1 + pl) ow) y (by simpa using hy), hs4⟩
      | false =>
        simp
        rw [rest_cons]
        simp [-evSs_cons, seq_sat, so_sat, sat_bind, hsz]
        exact ⟨hb, fun y hy => snoc _ hx y (by simpa using hy), hs4⟩
    cases ho : (w == ("off" : Str)) with
    | true =>
      simp
      refine (last _ (two w th ow)).mono fun fl s' h => ?_
      cases fl with
      | next ρ' =>
        obtain ⟨ds', o4, o5, o6, o7, o8, o9, o10, o11, h1, h2⟩ := h
        exact ⟨ds', ⟨_, _, _, _, _, _, _, _, h1⟩, h2⟩
      | _ => exact h.elim
    | false =>
      simp
      refine (last _ (two w sh ow)).mono fun fl s' h => ?_
      cases fl with
      | next ρ' =>
        obtain ⟨ds', o4, o5, o6, o7, o8, o9, o10, o11, h1, h2⟩ := h
        exact ⟨ds', ⟨_, _, _, _, _, _, _, _, h1⟩, h2⟩
      | _ => exact h.elim
  · rintro ρ s ⟨ds, o4, o5, o6, o7, o8, o9, o10, o11, rfl, hb, hbd, hs⟩
    simp at hb
    simp
    exact ⟨okD_tupI (by omega) hbd, hs⟩

end BS

namespace BS
open PySem
variable {W n : Nat} {s : Sto} {L k : Nat}
/-! where things are; what breaks -/
inductive Po | off | flr (p : Int) | on (k : Nat) (p : Int)
  deriving DecidableEq
def Po.d : Po → D
  | .off => .tup []
  | .flr p => .tup [.int p]
  | .on k p => .tup [.int (k : Nat), .int p]
def wyD (b : Bool) : D := .str (bif b then "left" else "right")
structure St where
  wh : List Po
  hg : List Bool
  pr : List Bool
  st : List (Nat × Bool)
def brD (x : Nat × Bool) : D := .tup [.int (x.1 : Nat), wyD x.2]
def whD (l : List Po) : List D := l.map Po.d
def blD (l : List Bool) : List D := l.map D.bl
def stD (l : List (Nat × Bool)) : List D := l.map brD
def St.d (s : St) : D := .tup [.tup (whD s.wh), .tup (blD s.hg), .tup (blD s.pr), .tup (stD s.st)]
def Po.fit (r : Rk) : Po → Prop
  | .on k p => k < r.bs.length ∧ 0 ≤ p ∧ p ≤ 12
  | _ => True
structure St.ok (r : Rk) (s : St) : Prop where
  wh : s.wh.length = r.t
  hg : s.hg.length = r.bs.length
  pr : s.pr.length = r.bs.length
  pl : ∀ x ∈ s.wh, x.fit r
/-- the pairs on a shelf -/
def onB (k : Nat) : Nat × Po → Option (Nat × Int)
  | (i, .on k' p) => if k' = k then some (i, p) else none
  | _ => none
def enumF {α : Type} : Nat → List α → List (Nat × α)
  | _, [] => []
  | i, x :: xs => (i, x) :: enumF (i + 1) xs
def loadF (wh : List Po) (k : Nat) : List (Nat × Int) := (enumF 0 wh).filterMap (onB k)
def ldD (x : Nat × Int) : D := .tup [.int (x.1 : Nat), .int x.2]
theorem enumD_F {α : Type} (f : α → D) : ∀ (l : List α) (k : Nat), enumD k (l.map f) = (enumF k l).map fun x => D.tup [.int (x.1 : Nat), f x.2]
  | [], _ => rfl
  | x :: xs, k => by simp [enumD, enumF, enumD_F f xs (k + 1)]
theorem enumF_len {α : Type} : ∀ (l : List α) (k : Nat), (enumF k l).length = l.length
  | [], _ => rfl
  | x :: xs, k => by simp [enumF, enumF_len xs]
theorem enumF_mem {α : Type} {x : Nat × α} : ∀ {l : List α} {k : Nat}, x ∈ enumF k l → k ≤ x.1 ∧ x.1 < k + l.length
  | y :: ys, k, h => by
    simp only [enumF, List.mem_cons] at h
    rcases h with rfl | h
    · simp
    · have := enumF_mem h
      simp; omega
theorem enumF_nodup {α : Type} : ∀ (l : List α) (k : Nat), ((enumF k l).map (·.1)).Nodup
  | [], _ => by simp [enumF]
  | x :: xs, k => by
    simp only [enumF, List.map_cons, List.nodup_cons]
    refine ⟨fun h => ?_, enumF_nodup xs (k + 1)⟩
    obtain ⟨y, h1, h2⟩ := List.mem_map.mp h
    have := enumF_mem h1
    omega
theorem loadF_mem {wh : List Po} {k : Nat} {x : Nat × Int} (h : x ∈ loadF wh k) : x.1 < wh.length := by
  unfold loadF at h
  obtain ⟨y, h1, h2⟩ := List.mem_filterMap.mp h
  have := enumF_mem h1
  obtain ⟨i, p⟩ := y
  cases p with
  | on k' q =>
    simp only [onB] at h2
    split at h2
    · cases h2; simpa using this.2
    · cases h2
  | _ => cases h2
theorem loadF_fit {r : Rk} {wh : List Po} {k : Nat} {x : Nat × Int} (hp : ∀ x ∈ wh, x.fit r) (h : x ∈ loadF wh k) : 0 ≤ x.2 ∧ x.2 ≤ 12 := by
  unfold loadF at h
  obtain ⟨⟨i, p⟩, h1, h2⟩ := List.mem_filterMap.mp h
  have hm : ∀ (l : List Po) (j : Nat), (i, p) ∈ enumF j l → p ∈ l := by
    intro l
    induction l with
    | nil => intro j h; cases h
    | cons y ys ih =>
      intro j h
      simp only [enumF, List.mem_cons] at h
      rcases h with h | h
      · cases h; exact List.mem_cons_self
      · exact List.mem_cons_of_mem _ (ih _ h)
  have hf := hp p (hm _ _ h1)
  cases p with
  | on k' q =>
    simp only [onB] at h2
    split at h2
    · cases h2; exact hf.2
    · cases h2
  | _ => cases h2
theorem onB_fst {k : Nat} {y : Nat × Po} {x : Nat × Int} (h : onB k y = some x) : x.1 = y.1 := by
  obtain ⟨i, p⟩ := y
  cases p with
  | on k' q =>
    simp only [onB] at h
    split at h
    · cases h; rfl
    · cases h
  | _ => cases h
theorem loadF_nodup (wh : List Po) (k : Nat) : ((loadF wh k).map (·.1)).Nodup := by
  have key : ∀ l : List (Nat × Po), (l.map (·.1)).Nodup → ((l.filterMap (onB k)).map (·.1)).Nodup := by
    intro l
    induction l with
    | nil => intro _; simp
    | cons y ys ih =>
      intro h
      simp only [List.map_cons, List.nodup_cons] at h
      cases hy : onB k y with
      | none => rw [List.filterMap_cons_none hy]; exact ih h.2
      | some x =>
        rw [List.filterMap_cons_some hy]
        simp only [List.map_cons, List.nodup_cons]
        refine ⟨fun hm => ?_, ih h.2⟩
        obtain ⟨z, h1, h2⟩ := List.mem_map.mp hm
        obtain ⟨y', h3, h4⟩ := List.mem_filterMap.mp h1
        apply h.1
        rw [← onB_fst hy, ← h2, onB_fst h4]
        exact List.mem_map_of_mem h3
  exact key _ (enumF_nodup wh 0)
theorem loadF_len (wh : List Po) (k : Nat) : (loadF wh k).length ≤ wh.length := by
  unfold loadF
  exact Nat.le_trans (List.length_filterMap_le _ _) (by rw [enumF_len]; exact Nat.le_refl _)
/-- changed -/
theorem s_changed {ds : List D} {i : Nat} {d : D} (hi : i < ds.length) (hl : ds.length ≤ sizeLine) : callN W (n + 1) f_changed [.tup ds, .int (i : Nat), d] s = .ok (.tup (ds.set i d)) s := by
  rw [call1 (fd := f_changed) rfl rfl]
  have c1 : cutD ds none (some (i : Int)) = ds.take i := cut_to i
  have c2 : cutD ds (some ((i : Int) + 1)) none = ds.drop (i + 1) := cut_from (i + 1)
  have m1 : min i ds.length = i := Nat.min_eq_left (by omega)
  have z1 : i + 1 ≤ sizeLine := by omega
  have z2 : i + 1 + (ds.length - (i + 1)) ≤ sizeLine := by omega
  simp [bnd, slcD, c1, c2, m1, z1, z2]
  rw [List.set_eq_take_append_cons_drop, if_pos hi]
theorem len_pos_d {p : Po} : prim s .len [p.d] = some (.int (match p with | .off => 0 | .flr _ => 1 | .on _ _ => 2)) := by
  cases p <;> rfl
theorem s_load_on {wh : List Po} {k : Nat} (hl : wh.length ≤ sizeLine) : callN W (n + 1) f_load_on [.tup (whD wh), .int (k : Nat)] s = .ok (.tup ((loadF wh k).map ldD)) s := by
  rw [call1 (fd := f_load_on) rfl rfl]
  have hc : ∀ ρ1 ρ2, evE (gOf W n f_load_on) c_load_on_1 [some (.tup (whD wh)), some (.int (k : Nat)), some (.lst (enumD 0 (whD wh))), ρ1, ρ2] s = .ok (.lst ((loadF wh k).map ldD)) s := fun ρ1 ρ2 => by
    unfold c_load_on_1
    rw [comp_pure (xs := (enumF 0 wh).map fun x => D.tup [.int (x.1 : Nat), x.2.d]) (f := fun d => match d with | .tup [.int i, .tup [.int k', .int p]] => if k' = (k : Int) then some (.tup [.int i, .int p]) else none | _ => none) ?_ ?_ ?_]
    · rw [mkL_false]
      congr 2
      unfold loadF
      rw [List.filterMap_map]
      generalize enumF 0 wh = l
      induction l with
      | nil => rfl
      | cons y ys ih =>
        obtain ⟨i, p⟩ := y
        cases p with
        | off => rw [List.filterMap_cons_none (by rfl), List.filterMap_cons_none (by rfl)]; exact ih
        | flr q => rw [List.filterMap_cons_none (by rfl), List.filterMap_cons_none (by rfl)]; exact ih
        | on k' q =>
          by_cases hk : k' = k
          · rw [List.filterMap_cons_some (b := D.tup [.int (i : Nat), .int q]) (by simp [Po.d, hk]), List.filterMap_cons_some (b := (i, q)) (by simp [onB, hk]), List.map_cons, ih]
            rfl
          · rw [List.filterMap_cons_none (by simp [Po.d]; omega), List.filterMap_cons_none (by simp [onB, hk])]; exact ih
    · refine gv_lst ?_
      simp [whD, enumD_F]
    · simp [enumF_len]; exact hl
    · intro x hx
      obtain ⟨⟨i, p⟩, h1, rfl⟩ := List.mem_map.mp hx
      refine ⟨_, rfl, ?_⟩
      cases p with
      | off => simp [Po.d, wipeE]
      | flr q => simp [Po.d, wipeE]
      | on k' q =>
        simp [Po.d, wipeE]
        by_cases hk : k' = k
        · subst hk; simp
        · have : ((k' : Int) == (k : Int)) = false := by simp; omega
          simp [this]
          omega
  have e : primL s .enum [.tup (whD wh)] = some (enumD 0 (whD wh)) := rfl
  simp [e, hc]
end BS

namespace BS
open PySem
variable {W n : Nat} {s : Sto} {L k : Nat}
/-- a rack's board -/
def bdOf (r : Rk) (k : Nat) : Int × Int := r.bs.getD k (0, 0)
theorem bdOf_get {r : Rk} {k : Nat} (hk : k < r.bs.length) : r.bs[k]? = some (bdOf r k) := by
  unfold bdOf
  rw [List.getD_eq_getElem?_getD, List.getElem?_eq_getElem hk]
  rfl
theorem bdOf_ok {r : Rk} (hr : r.ok) {k : Nat} (hk : k < r.bs.length) : 0 ≤ (bdOf r k).1 ∧ (bdOf r k).1 < (bdOf r k).2 ∧ (bdOf r k).2 ≤ 12 :=
  hr.bd _ (List.mem_of_getElem? (bdOf_get hk))
theorem ix_board {r : Rk} {k : Nat} (hk : k < r.bs.length) : L2.atI (r.bs.map bdD) (k : Int) = some (bdD (bdOf r k)) := by
  rw [atI_nat, List.getElem?_map, bdOf_get hk]
  rfl
def pegCo (b : Int × Int) (left : Bool) (p : Int) : Int := bif left then p - b.2 else b.1 - p
def pegF (r : Rk) (k : Nat) (load : List (Nat × Int)) (left : Bool) : List Int :=
  ((load.foldl (fun f x => f.set x.1 (pegCo (bdOf r k) left x.2)) (List.replicate r.w 0)).set (r.t + k) ((bdOf r k).2 - (bdOf r k).1))
theorem eqv_left {b : Bool} : eqv s (wyD b) (.str "left") = some b := by
  cases b
  · exact eqv_str (a := "right") (b := "left") (by decide +kernel) (by decide +kernel)
  · exact eqv_str (a := "left") (b := "left") (by decide +kernel) (by decide +kernel)
theorem p_add_lstE {a b : List D} : prim s .add [.lst a, .lst b] = if a.length + b.length ≤ sizeLine then some (.lst (a ++ b)) else none := rfl
theorem p_mul_rep {d : D} {w : Nat} (h1 : 1 ≤ w) (h2 : w ≤ 1000) : prim s .mul [.tup [d], .int (w : Nat)] = some (.tup (List.replicate w d)) := by
  show mulD s (.tup [d]) (.int (w : Nat)) = _
  have e : (List.replicate w [d]).flatten = List.replicate w d := by
    clear h1 h2
    induction w with
    | zero => rfl
    | succ w ih => rw [List.replicate_succ, List.flatten_cons, ih]; rfl
  simp only [mulD]
  by_cases hw : (w : Int) = 1
  · rw [if_pos hw]
    have : w = 1 := by omega
    subst this
    rfl
  · rw [if_neg hw, if_pos (by unfold repOk; simp; omega), Int.toNat_natCast, e]
theorem fold_len {α : Type} (g : α → Nat) (h : α → Int) : ∀ (l : List α) (f : List Int), (l.foldl (fun f x => f.set (g x) (h x)) f).length = f.length
  | [], _ => rfl
  | x :: xs, f => by rw [List.foldl_cons, fold_len g h xs]; simp
theorem pegF_len {r : Rk} {k : Nat} {load : List (Nat × Int)} {left : Bool} : (pegF r k load left).length = r.w := by
  unfold pegF
  rw [List.length_set, fold_len (fun x : Nat × Int => x.1) (fun x => pegCo (bdOf r k) left x.2)]
  simp
theorem intL_set {l : List Int} {i : Nat} {x : Int} : (intL l).set i (.int x) = intL (l.set i x) := by unfold intL; rw [List.map_set]
theorem s_peg_line {r : Rk} {k : Nat} {load : List (Nat × Int)} {left : Bool} (hr : r.ok) (hk : k < r.bs.length) (hl : ∀ x ∈ load, x.1 < r.t) :
    callN W (n + 2) f_peg_line [r.d, .int (k : Nat), .tup (load.map ldD), wyD left] s = .ok (.tup (intL (pegF r k load left))) s := by
  rw [call1 (fd := f_peg_line) rfl rfl]
  have hw := hr.w7
  have hw2 : 1 ≤ r.w := by have := hr.t1; unfold Rk.w; omega
  have hs : ∀ j : Nat, j ≤ 7 → j ≤ sizeLine := fun j hj => by rw [sizeLine_eq]; omega
  have hb := ix_board hk
  have hwd := wide_rk (W := W) (n := n) (s := s) (r := r)
  have hm : prim s .mul [.tup [.int 0], .int (r.w : Nat)] = some (.tup (List.replicate r.w (.int 0))) := p_mul_rep hw2 (by omega)
  have e0 : (List.replicate r.w (D.int 0)) = intL (List.replicate r.w 0) := by unfold intL; rw [List.map_replicate]
  have step : ∀ x ∈ load, ∀ (v : List Int) (ρ : Env), (∃ o7 o8, ρ = [some r.d, some (.int (k : Nat)), some (.tup (load.map ldD)), some (wyD left), some (.int (bdOf r k).1), some (.int (bdOf r k).2), some (.tup (intL v)), o7, o8] ∧ v.length = r.w) →
      ∃ ρ1 ρ', asg (.tup [.v 7, .v 8]) (ldD x) ρ = some ρ1 ∧ evSs (gOf W (n + 1) f_peg_line) b_peg_line_1 ρ1 s = .fl (.next ρ') s ∧
        (∃ o7 o8, ρ' = [some r.d, some (.int (k : Nat)), some (.tup (load.map ldD)), some (wyD left), some (.int (bdOf r k).1), some (.int (bdOf r k).2), some (.tup (intL (v.set x.1 (pegCo (bdOf r k) left x.2)))), o7, o8] ∧ (v.set x.1 (pegCo (bdOf r k) left x.2)).length = r.w) := by
    rintro x hx v ρ ⟨o7, o8, rfl, hv⟩
    have hxt := hl x hx
    have hc : ∀ c : Int, callN W (n + 1) f_changed [.tup (intL v), .int (x.1 : Nat), .int c] s = .ok (.tup (intL (v.set x.1 c))) s := fun c => by
      rw [s_changed (by rw [intL_len, hv]; unfold Rk.w; omega) (by rw [intL_len, hv]; exact hs _ hw), intL_set]
    refine ⟨_, _, rfl, ?_, some (.int (x.1 : Nat)), some (.int x.2), rfl, by simp [hv]⟩
    unfold b_peg_line_1
    cases left with
    | true => simp [-evSs_cons, evSs_step, eqv_left, hc, pegCo]
    | false => simp [-evSs_cons, evSs_step, eqv_left, hc, pegCo]
  obtain ⟨ρ', ⟨o7, o8, rfl, hv⟩, hf⟩ := for_fold (s := s) ldD (fun f x => f.set x.1 (pegCo (bdOf r k) left x.2)) (fun v ρ => ∃ o7 o8, ρ = [some r.d, some (.int (k : Nat)), some (.tup (load.map ldD)), some (wyD left), some (.int (bdOf r k).1), some (.int (bdOf r k).2), some (.tup (intL v)), o7, o8] ∧ v.length = r.w)
    load (List.replicate r.w 0) [some r.d, some (.int (k : Nat)), some (.tup (load.map ldD)), some (wyD left), some (.int (bdOf r k).1), some (.int (bdOf r k).2), some (.tup (intL (List.replicate r.w 0))), none, none] ⟨_, _, rfl, by simp⟩ step
  have hc2 : ∀ (v : List Int) (c : Int), v.length = r.w → callN W (n + 1) f_changed [.tup (intL v), .int ((r.t + k : Nat) : Int), .int c] s = .ok (.tup (intL (v.set (r.t + k) c))) s := fun v c hv => by
    rw [s_changed (by rw [intL_len, hv]; unfold Rk.w; omega) (by rw [intL_len, hv]; exact hs _ hw), intL_set]
  have hrd : r.d = .tup [.int r.t, .tup (r.bs.map bdD)] := rfl
  have hf2 := evS_forG (g := gOf W (n + 1) f_peg_line) (t := .tup [.v 7, .v 8]) (b := b_peg_line_1) (ρ := [some r.d, some (.int (k : Nat)), some (.tup (load.map ldD)), some (wyD left), some (.int (bdOf r k).1), some (.int (bdOf r k).2), some (.tup (intL (List.replicate r.w 0))), none, none]) (it := .e (.v 2)) (s := s) (xs := load.map ldD) (gv_tup rfl)
  rw [hf] at hf2
  simp only [hrd] at hf2 hwd ⊢
  have ec : ((r.t : Int) + (k : Int)) = ((r.t + k : Nat) : Int) := by omega
  simp [-evSs_cons, evSs_step, rest_cons, hb, hwd, hm, e0, bdD, hf2]
  rw [ec, hc2 _ _ hv]
  simp [pegF]
end BS

namespace BS
open PySem
variable {W n : Nat} {s : Sto} {L k : Nat}
/-- a truth of a list -/
def gB (l : List Bool) (j : Nat) : Bool := l.getD j false
def inB (b : Int × Int) (p : Int) : Bool := decide (b.1 ≤ p) && decide (p ≤ b.2)
def fallC (r : Rk) (hg : List Bool) (p : Int) (j : Nat) : Bool := gB hg j && inB (bdOf r j) p
def fallF (r : Rk) (hg : List Bool) (k : Nat) (p : Int) : Po :=
  match (List.range' (k + 1) (r.bs.length - (k + 1))).find? (fallC r hg p) with
  | some j => .on j p
  | none => .flr p
theorem findSome_find {α β : Type} (p : α → Bool) (f : α → β) : ∀ l : List α, l.findSome? (fun x => if p x = true then some (f x) else none) = (l.find? p).map f
  | [] => rfl
  | x :: xs => by
    rw [List.findSome?_cons, List.find?_cons]
    cases h : p x with
    | true => simp
    | false => simp [findSome_find p f xs]
theorem ix_bl {hg : List Bool} {j : Nat} (h : j < hg.length) : L2.atI (blD hg) (j : Int) = some (.bl (gB hg j)) := by
  rw [atI_nat, blD, List.getElem?_map, List.getElem?_eq_getElem h, gB, List.getD_eq_getElem?_getD, List.getElem?_eq_getElem h]
  rfl
theorem s_beneath {r : Rk} {hg : List Bool} {k : Nat} {p : Int} (hr : r.ok) (hh : hg.length = r.bs.length) (hk : k < r.bs.length) :
    callN W (n + 1) f_beneath [r.d, .tup (blD hg), .int (k : Nat), .int p] s = .ok (fallF r hg k p).d s := by
  rw [call1 (fd := f_beneath) rfl rfl]
  have b3 := hr.b3
  have hrd : r.d = .tup [.int r.t, .tup (r.bs.map bdD)] := rfl
  have h0 : evE (gOf W n f_beneath) (.pr .add [.v 2, .lit (.int 1)]) [some r.d, some (.tup (blD hg)), some (.int (k : Nat)), some (.int p), none, none, none] s = .ok (.int ((k + 1 : Nat) : Int)) s := by
    simp
  have h1 : evE (gOf W n f_beneath) (.pr .len [.pr .ix [.v 0, .lit (.int 1)]]) [some r.d, some (.tup (blD hg)), some (.int (k : Nat)), some (.int p), none, none, none] s = .ok (.int ((r.bs.length : Nat) : Int)) s := by
    simp [hrd]
  obtain ⟨ρ', ⟨o4, o5, o6, rfl⟩, hf⟩ := for_find (s := s) (tg := .v 4) (b := fun ρ s => evSs (gOf W n f_beneath) b_beneath_1 ρ s) (fun i : Nat => D.int (i : Nat)) (fun j => if fallC r hg p j = true then some (Po.on j p).d else none)
    (fun ρ => ∃ o4 o5 o6, ρ = [some r.d, some (.tup (blD hg)), some (.int (k : Nat)), some (.int p), o4, o5, o6]) (List.range' (k + 1) (r.bs.length - (k + 1))) [some r.d, some (.tup (blD hg)), some (.int (k : Nat)), some (.int p), none, none, none] ⟨_, _, _, rfl⟩ (by
      rintro j hj ρ ⟨o4, o5, o6, rfl⟩
      have hj' : j < r.bs.length := by
        have := List.mem_range'_1.mp hj
        omega
      refine ⟨_, _, rfl, ⟨some (.int (j : Nat)), some (.int (bdOf r j).1), some (.int (bdOf r j).2), rfl⟩, ?_⟩
      unfold b_beneath_1
      have hb := ix_board hj'
      have hx := ix_bl (hg := hg) (j := j) (by omega)
      simp only [hrd]
      simp [-evSs_cons, evSs_step, rest_cons, hb, hx, bdD, fallC, inB, Po.d]
      cases gB hg j <;> by_cases q1 : (bdOf r j).1 ≤ p <;> by_cases q2 : p ≤ (bdOf r j).2 <;> simp [q1, q2])
  have hf2 := evS_forG (g := gOf W n f_beneath) (t := .v 4) (b := b_beneath_1) (s := s) (gv_r2 h0 h1 (by omega) (by omega))
  rw [hf, findSome_find] at hf2
  simp only [hrd] at hf2 ⊢
  simp [-evSs_cons, evSs_step]
  rw [hf2]
  unfold fallF
  cases (List.range' (k + 1) (r.bs.length - (k + 1))).find? (fallC r hg p) with
  | some j => simp
  | none => simp [rest_cons, Po.d]
def brokenF (r : Rk) (t : St) (k : Nat) (left : Bool) : St where
  wh := (loadF t.wh k).foldl (fun wh x => wh.set x.1 (fallF r (t.hg.set k false) k x.2)) t.wh
  hg := t.hg.set k false
  pr := t.pr
  st := t.st ++ [(k, left)]
theorem foldP_len {α : Type} (g : α → Nat) (h : α → Po) : ∀ (l : List α) (f : List Po), (l.foldl (fun f x => f.set (g x) (h x)) f).length = f.length
  | [], _ => rfl
  | x :: xs, f => by rw [List.foldl_cons, foldP_len g h xs]; simp
theorem whD_set {l : List Po} {i : Nat} {x : Po} : (whD l).set i x.d = whD (l.set i x) := by unfold whD; rw [List.map_set]
theorem blD_set {l : List Bool} {i : Nat} {x : Bool} : (blD l).set i (.bl x) = blD (l.set i x) := by unfold blD; rw [List.map_set]
theorem s_broken {r : Rk} {t : St} {k : Nat} {left : Bool} (hr : r.ok) (ht : t.ok r) (hk : k < r.bs.length) (hst : t.st.length ≤ 1000) :
    callN W (n + 2) f_broken [r.d, t.d, .int (k : Nat), wyD left] s = .ok (brokenF r t k left).d s := by
  rw [call1 (fd := f_broken) rfl rfl]
  have t4 := hr.t4
  have b3 := hr.b3
  have hs : ∀ j : Nat, j ≤ 2000 → j ≤ sizeLine := fun j hj => by rw [sizeLine_eq]; omega
  have l1 := ht.wh
  have l2 := ht.hg
  have c1 : callN W (n + 1) f_changed [.tup (blD t.hg), .int (k : Nat), .bl false] s = .ok (.tup (blD (t.hg.set k false))) s := by
    rw [s_changed (by unfold blD; simp; omega) (by unfold blD; simp; exact hs _ (by omega)), blD_set]
  have c2 := s_load_on (W := W) (n := n) (s := s) (wh := t.wh) (k := k) (hs _ (by omega))
  have step : ∀ x ∈ loadF t.wh k, ∀ (v : List Po) (ρ : Env), (∃ o8 o9, ρ = [some r.d, some t.d, some (.int (k : Nat)), some (wyD left), some (.tup (whD v)), some (.tup (blD (t.hg.set k false))), some (.tup (blD t.pr)), some (.tup (stD t.st)), o8, o9] ∧ v.length = r.t) →
      ∃ ρ1 ρ', asg (.tup [.v 8, .v 9]) (ldD x) ρ = some ρ1 ∧ evSs (gOf W (n + 1) f_broken) b_broken_1 ρ1 s = .fl (.next ρ') s ∧
        (∃ o8 o9, ρ' = [some r.d, some t.d, some (.int (k : Nat)), some (wyD left), some (.tup (whD (v.set x.1 (fallF r (t.hg.set k false) k x.2)))), some (.tup (blD (t.hg.set k false))), some (.tup (blD t.pr)), some (.tup (stD t.st)), o8, o9] ∧ (v.set x.1 (fallF r (t.hg.set k false) k x.2)).length = r.t) := by
    rintro x hx v ρ ⟨o8, o9, rfl, hv⟩
    have hxt := loadF_mem hx
    have hb := s_beneath (W := W) (n := n) (s := s) (p := x.2) hr (hg := t.hg.set k false) (by simp; omega) hk
    have hc : ∀ c : Po, callN W (n + 1) f_changed [.tup (whD v), .int (x.1 : Nat), c.d] s = .ok (.tup (whD (v.set x.1 c))) s := fun c => by
      rw [s_changed (by unfold whD; simp; omega) (by unfold whD; simp; exact hs _ (by omega)), whD_set]
    refine ⟨_, _, rfl, ?_, some (.int (x.1 : Nat)), some (.int x.2), rfl, by simp [hv]⟩
    unfold b_broken_1
    simp [-evSs_cons, evSs_step, hb, hc]
  obtain ⟨ρ', ⟨o8, o9, rfl, hv⟩, hf⟩ := for_fold (s := s) ldD (fun wh x => wh.set x.1 (fallF r (t.hg.set k false) k x.2)) (fun v ρ => ∃ o8 o9, ρ = [some r.d, some t.d, some (.int (k : Nat)), some (wyD left), some (.tup (whD v)), some (.tup (blD (t.hg.set k false))), some (.tup (blD t.pr)), some (.tup (stD t.st)), o8, o9] ∧ v.length = r.t)
    (loadF t.wh k) t.wh [some r.d, some t.d, some (.int (k : Nat)), some (wyD left), some (.tup (whD t.wh)), some (.tup (blD (t.hg.set k false))), some (.tup (blD t.pr)), some (.tup (stD t.st)), none, none] ⟨_, _, rfl, l1⟩ step
  have hf2 := evS_forG (g := gOf W (n + 1) f_broken) (t := .tup [.v 8, .v 9]) (b := b_broken_1) (ρ := [some r.d, some t.d, some (.int (k : Nat)), some (wyD left), some (.tup (whD t.wh)), some (.tup (blD (t.hg.set k false))), some (.tup (blD t.pr)), some (.tup (stD t.st)), none, none])
    (it := .e (.call f_load_on [.v 4, .v 2])) (s := s) (xs := (loadF t.wh k).map ldD) (gv_tup (by simp [c2]))
  rw [hf] at hf2
  have z : t.st.length + 1 ≤ sizeLine := hs _ (by omega)
  have ed : t.d = .tup [.tup (whD t.wh), .tup (blD t.hg), .tup (blD t.pr), .tup (stD t.st)] := rfl
  have hz : (stD t.st).length + 1 ≤ sizeLine := by unfold stD; simpa using z
  simp only [ed] at hf2 ⊢
  simp [-evSs_cons, evSs_step, rest_cons, c1, hf2, hz]
  simp [St.d, brokenF, stD, brD]
/-- pegs that could break, as they are asked -/
def pegsAt (r : Rk) (t : St) (k : Nat) : List ((Nat × Bool) × List Int) :=
  if (gB t.hg k && !gB t.pr k && !(loadF t.wh k).isEmpty) = true then [((k, true), pegF r k (loadF t.wh k) true), ((k, false), pegF r k (loadF t.wh k) false)] else []
def pegsF (r : Rk) (t : St) : List ((Nat × Bool) × List Int) := (List.range r.bs.length).flatMap (pegsAt r t)
def pgD (x : (Nat × Bool) × List Int) : D := .tup [.int (x.1.1 : Nat), wyD x.1.2, .tup (intL x.2)]
theorem okD_loads {l : List (Nat × Int)} (h : l.length ≤ 7) : okD 7 2 (.tup (l.map ldD)) = true := okD_tupI (by simpa using h) fun x hx => by
  obtain ⟨y, _, rfl⟩ := List.mem_map.mp hx
  exact okD_tupI (by simp) fun z hz => by
    simp at hz
    rcases hz with rfl | rfl <;> rfl
theorem s_pegs_of {r : Rk} {t : St} (hr : r.ok) (ht : t.ok r) : callN W (n + 3) f_pegs_of [r.d, t.d] s = .ok (.lst ((pegsF r t).map pgD)) s := by
  rw [call1 (fd := f_pegs_of) rfl rfl]
  have t4 := hr.t4
  have b3 := hr.b3
  have hs : ∀ j : Nat, j ≤ 2000 → j ≤ sizeLine := fun j hj => by rw [sizeLine_eq]; omega
  have l1 := ht.wh
  have l2 := ht.hg
  have l3 := ht.pr
  have hrd : r.d = .tup [.int r.t, .tup (r.bs.map bdD)] := rfl
  have ed : t.d = .tup [.tup (whD t.wh), .tup (blD t.hg), .tup (blD t.pr), .tup (stD t.st)] := rfl
  have step : ∀ j k', (List.range r.bs.length)[j]? = some k' → ∀ (v : List ((Nat × Bool) × List Int)) (ρ : Env), (∃ o7 o8 o9, ρ = [some r.d, some t.d, some (.tup (whD t.wh)), some (.tup (blD t.hg)), some (.tup (blD t.pr)), some (.tup (stD t.st)), some (.lst (v.map pgD)), o7, o8, o9] ∧ v.length ≤ 2 * (0 + j)) →
      ∃ ρ1 ρ', asg (.v 7) (D.int (k' : Nat)) ρ = some ρ1 ∧ evSs (gOf W (n + 2) f_pegs_of) b_pegs_of_1 ρ1 s = .fl (.next ρ') s ∧
        (∃ o7 o8 o9, ρ' = [some r.d, some t.d, some (.tup (whD t.wh)), some (.tup (blD t.hg)), some (.tup (blD t.pr)), some (.tup (stD t.st)), some (.lst ((v ++ pegsAt r t k').map pgD)), o7, o8, o9] ∧ (v ++ pegsAt r t k').length ≤ 2 * (0 + j + 1)) := by
    rintro j k' hj v ρ ⟨o7, o8, o9, rfl, hv⟩
    have hk' : k' < r.bs.length := by
      have := List.mem_of_getElem? hj
      simpa using this
    have hjl : j < r.bs.length := by
      have := (List.getElem?_eq_some_iff.mp hj).1
      simpa using this
    have c2 : callN W (n + 2) f_load_on [.tup (whD t.wh), .int (k' : Nat)] s = .ok (.tup ((loadF t.wh k').map ldD)) s := s_load_on (W := W) (n := n + 1) (s := s) (wh := t.wh) (k := k') (hs _ (by omega))
    have i1 := ix_bl (hg := t.hg) (j := k') (by omega)
    have i2 := ix_bl (hg := t.pr) (j := k') (by omega)
    have ll : (loadF t.wh k').length ≤ 7 := by have := loadF_len t.wh k'; omega
    have e3 : eqv s (.tup ((loadF t.wh k').map ldD)) (.tup []) = some (loadF t.wh k').isEmpty := by
      rw [eqv_nilT (okD_loads ll) (by decide)]
      cases loadF t.wh k' <;> rfl
    have c4 : ∀ b : Bool, callN W (n + 2) f_peg_line [r.d, .int (k' : Nat), .tup ((loadF t.wh k').map ldD), wyD b] s = .ok (.tup (intL (pegF r k' (loadF t.wh k') b))) s := fun b => s_peg_line hr hk' fun x hx => by have := loadF_mem hx; omega
    have cc : ∀ (o6 o9 : Option D), evE (gOf W (n + 2) f_pegs_of) c_pegs_of_1 [some r.d, some t.d, some (.tup (whD t.wh)), some (.tup (blD t.hg)), some (.tup (blD t.pr)), some (.tup (stD t.st)), o6, some (.int (k' : Nat)), some (.tup ((loadF t.wh k').map ldD)), o9] s =
        .ok (.lst ([((k', true), pegF r k' (loadF t.wh k') true), ((k', false), pegF r k' (loadF t.wh k') false)].map pgD)) s := fun o6 o9 => by
      unfold c_pegs_of_1
      rw [comp_T (ts := [true, false]) wyD (fun b => pgD ((k', b), pegF r k' (loadF t.wh k') b)) (gv_tup rfl) (hs _ (by decide)) fun b hb => ⟨_, rfl, by simp [wipeE, c4, pgD]⟩]
      rfl
    have z : (v.map pgD).length + 2 ≤ sizeLine := by simp; exact hs _ (by omega)
    unfold b_pegs_of_1
    cases hq : (gB t.hg k' && !gB t.pr k' && !(loadF t.wh k').isEmpty) with
    | true =>
      have hq2 := hq
      simp only [Bool.and_eq_true, Bool.not_eq_true'] at hq2
      obtain ⟨⟨q1, q2⟩, q3⟩ := hq2
      have ep : pegsAt r t k' = [((k', true), pegF r k' (loadF t.wh k') true), ((k', false), pegF r k' (loadF t.wh k') false)] := by unfold pegsAt; rw [if_pos hq]
      have z2 : v.length + 2 ≤ sizeLine := by simpa using z
      refine ⟨_, _, rfl, ?_, some (.int (k' : Nat)), some (.tup ((loadF t.wh k').map ldD)), o9, rfl, by rw [ep]; simp; omega⟩
      simp [-evSs_cons, evSs_step, rest_cons, c2, i1, i2, q1, q2, e3, q3, cc, p_add_lstE, z2, ep]
    | false =>
      have ep : pegsAt r t k' = [] := by unfold pegsAt; rw [if_neg (by rw [hq]; exact Bool.false_ne_true)]
      refine ⟨_, _, rfl, ?_, some (.int (k' : Nat)), some (.tup ((loadF t.wh k').map ldD)), o9, rfl, by rw [ep]; simp; omega⟩
      simp [-evSs_cons, evSs_step, rest_cons, c2, i1, i2, e3, ep]
      cases q1 : gB t.hg k' <;> cases q2 : gB t.pr k' <;> cases q3 : (loadF t.wh k').isEmpty <;> simp_all
  obtain ⟨ρ', ⟨o7, o8, o9, rfl, hv⟩, hf⟩ := for_foldI (s := s) (fun i : Nat => D.int (i : Nat)) (fun v k => v ++ pegsAt r t k) (fun i v ρ => ∃ o7 o8 o9, ρ = [some r.d, some t.d, some (.tup (whD t.wh)), some (.tup (blD t.hg)), some (.tup (blD t.pr)), some (.tup (stD t.st)), some (.lst (v.map pgD)), o7, o8, o9] ∧ v.length ≤ 2 * i)
    (List.range r.bs.length) 0 [] [some r.d, some t.d, some (.tup (whD t.wh)), some (.tup (blD t.hg)), some (.tup (blD t.pr)), some (.tup (stD t.st)), some (.lst []), none, none, none] ⟨_, _, _, rfl, by simp⟩ step
  have hf2 := evS_forG (g := gOf W (n + 2) f_pegs_of) (t := .v 7) (b := b_pegs_of_1) (ρ := [some r.d, some t.d, some (.tup (whD t.wh)), some (.tup (blD t.hg)), some (.tup (blD t.pr)), some (.tup (stD t.st)), some (.lst []), none, none, none])
    (it := .r1 (.pr .len [.pr .ix [.v 0, .lit (.int 1)]])) (s := s) (gv_r1 (k := r.bs.length) (by simp [hrd]) (by omega))
  rw [hf, ← List.flatMap_eq_foldl] at hf2
  simp only [ed] at hf2 ⊢
  simp [-evSs_cons, evSs_step, rest_cons, hf2, pegsF]
end BS

namespace BS
open PySem
variable {W n : Nat} {s : Sto} {L k : Nat}
/-! deeds -/
inductive Dd | put (t k : Nat) (p : Int) | off (t : Nat) | prp (b : Bool) (k : Nat) | hang (k : Nat)
  deriving DecidableEq
def Dd.d : Dd → D
  | .put t k p => .tup [.str "put", .int (t : Nat), .int (k : Nat), .int p]
  | .off t => .tup [.str "off", .int (t : Nat)]
  | .prp true k => .tup [.str "prop", .int (k : Nat)]
  | .prp false k => .tup [.str "bare", .int (k : Nat)]
  | .hang k => .tup [.str "hang", .int (k : Nat)]
def Dd.ok (r : Rk) : Dd → Prop
  | .put t k p => t < r.t ∧ k < r.bs.length ∧ inB (bdOf r k) p = true
  | .off t => t < r.t
  | .prp _ k => k < r.bs.length
  | .hang k => k < r.bs.length
def plainF (t : St) : Dd → St
  | .put th k p => { t with wh := t.wh.set th (if gB t.hg k = true then .on k p else .flr p) }
  | .off th => { t with wh := t.wh.set th .off }
  | .prp b k => { t with pr := t.pr.set k b }
  | .hang k => { t with hg := t.hg.set k true }
def firstF (r : Rk) : St := ⟨List.replicate r.t .off, List.replicate r.bs.length true, List.replicate r.bs.length false, []⟩
theorem firstF_ok {r : Rk} : (firstF r).ok r := ⟨by simp [firstF], by simp [firstF], by simp [firstF], fun x hx => by
  simp [firstF] at hx
  rw [hx.2]
  trivial⟩
theorem s_first_standing {r : Rk} (hr : r.ok) : callN W (n + 1) f_first_standing [r.d] s = .ok (firstF r).d s := by
  rw [call1 (fd := f_first_standing) rfl rfl]
  have t1 := hr.t1
  have t4 := hr.t4
  have b1 := hr.b1
  have b3 := hr.b3
  have hrd : r.d = .tup [.int r.t, .tup (r.bs.map bdD)] := rfl
  have m1 : prim s .mul [.tup [.tup []], .int (r.t : Nat)] = _ := p_mul_rep t1 (by omega)
  have m2 : prim s .mul [.tup [.bl true], .int (r.bs.length : Nat)] = _ := p_mul_rep b1 (by omega)
  have m3 : prim s .mul [.tup [.bl false], .int (r.bs.length : Nat)] = _ := p_mul_rep b1 (by omega)
  rw [hrd]
  simp [-evSs_cons, evSs_step, rest_cons, m1, m2, m3]
  simp [firstF, St.d, whD, blD, stD, Po.d]
theorem inB_12 {r : Rk} (hr : r.ok) {k : Nat} (hk : k < r.bs.length) {p : Int} (h : inB (bdOf r k) p = true) : 0 ≤ p ∧ p ≤ 12 := by
  have := bdOf_ok hr hk
  simp [inB] at h
  omega
theorem mem_set_po {l : List Po} {i : Nat} {x y : Po} (h : y ∈ l.set i x) : y = x ∨ y ∈ l := by
  rcases List.mem_or_eq_of_mem_set h with h | h
  · exact .inr h
  · exact .inl h
theorem plainF_ok {r : Rk} {t : St} {d : Dd} (hr : r.ok) (ht : t.ok r) (hd : d.ok r) : (plainF t d).ok r := by
  cases d with
  | put th k p =>
    obtain ⟨h1, h2, h3⟩ := hd
    refine ⟨by simp [plainF, ht.wh], ht.hg, ht.pr, fun x hx => ?_⟩
    rcases mem_set_po hx with rfl | hx
    · split
      · exact ⟨h2, inB_12 hr h2 h3⟩
      · trivial
    · exact ht.pl x hx
  | off th =>
    refine ⟨by simp [plainF, ht.wh], ht.hg, ht.pr, fun x hx => ?_⟩
    rcases mem_set_po hx with rfl | hx
    · trivial
    · exact ht.pl x hx
  | prp b k => exact ⟨ht.wh, ht.hg, by simp [plainF, ht.pr], ht.pl⟩
  | hang k => exact ⟨ht.wh, by simp [plainF, ht.hg], ht.pr, ht.pl⟩
def wq (a b : Str) : Prop := ∀ s : Sto, eqv s (.str a) (.str b) = some (a == b)
theorem wq_of {a b : Str} (ha : PyData.strOk a = true) (hb : PyData.strOk b = true) : wq a b := fun s => eqv_str ha hb
theorem e_pp : eqv s (.str "put") (.str "put") = some true := eqv_str (a := "put") (b := "put") (by decide +kernel) (by decide +kernel)
theorem e_po : eqv s (.str "put") (.str "off") = some false := eqv_str (a := "put") (b := "off") (by decide +kernel) (by decide +kernel)
theorem e_op : eqv s (.str "off") (.str "put") = some false := eqv_str (a := "off") (b := "put") (by decide +kernel) (by decide +kernel)
theorem e_rp : eqv s (.str "prop") (.str "put") = some false := eqv_str (a := "prop") (b := "put") (by decide +kernel) (by decide +kernel)
theorem e_bp : eqv s (.str "bare") (.str "put") = some false := eqv_str (a := "bare") (b := "put") (by decide +kernel) (by decide +kernel)
theorem e_hp : eqv s (.str "hang") (.str "put") = some false := eqv_str (a := "hang") (b := "put") (by decide +kernel) (by decide +kernel)
theorem e_oo : eqv s (.str "off") (.str "off") = some true := eqv_str (a := "off") (b := "off") (by decide +kernel) (by decide +kernel)
theorem e_ro : eqv s (.str "prop") (.str "off") = some false := eqv_str (a := "prop") (b := "off") (by decide +kernel) (by decide +kernel)
theorem e_bo : eqv s (.str "bare") (.str "off") = some false := eqv_str (a := "bare") (b := "off") (by decide +kernel) (by decide +kernel)
theorem e_ho : eqv s (.str "hang") (.str "off") = some false := eqv_str (a := "hang") (b := "off") (by decide +kernel) (by decide +kernel)
theorem e_hh : eqv s (.str "hang") (.str "hang") = some true := eqv_str (a := "hang") (b := "hang") (by decide +kernel) (by decide +kernel)
theorem e_rh : eqv s (.str "prop") (.str "hang") = some false := eqv_str (a := "prop") (b := "hang") (by decide +kernel) (by decide +kernel)
theorem e_bh : eqv s (.str "bare") (.str "hang") = some false := eqv_str (a := "bare") (b := "hang") (by decide +kernel) (by decide +kernel)
theorem e_rr : eqv s (.str "prop") (.str "prop") = some true := eqv_str (a := "prop") (b := "prop") (by decide +kernel) (by decide +kernel)
theorem e_br : eqv s (.str "bare") (.str "prop") = some false := eqv_str (a := "bare") (b := "prop") (by decide +kernel) (by decide +kernel)
theorem s_plain_deed {r : Rk} {t : St} {d : Dd} (hr : r.ok) (ht : t.ok r) (hd : d.ok r) : callN W (n + 2) f_plain_deed [r.d, t.d, d.d] s = .ok (plainF t d).d s := by
  rw [call1 (fd := f_plain_deed) rfl rfl]
  have t4 := hr.t4
  have b3 := hr.b3
  have hs : ∀ j : Nat, j ≤ 2000 → j ≤ sizeLine := fun j hj => by rw [sizeLine_eq]; omega
  have l1 := ht.wh
  have l2 := ht.hg
  have l3 := ht.pr
  have ed : t.d = .tup [.tup (whD t.wh), .tup (blD t.hg), .tup (blD t.pr), .tup (stD t.st)] := rfl
  have cw : ∀ (i : Nat) (c : Po), i < r.t → callN W (n + 1) f_changed [.tup (whD t.wh), .int (i : Nat), c.d] s = .ok (.tup (whD (t.wh.set i c))) s := fun i c hi => by
    rw [s_changed (by unfold whD; simp; omega) (by unfold whD; simp; exact hs _ (by omega)), whD_set]
  have ch : ∀ (i : Nat) (c : Bool), i < r.bs.length → callN W (n + 1) f_changed [.tup (blD t.hg), .int (i : Nat), .bl c] s = .ok (.tup (blD (t.hg.set i c))) s := fun i c hi => by
    rw [s_changed (by unfold blD; simp; omega) (by unfold blD; simp; exact hs _ (by omega)), blD_set]
  have cp : ∀ (i : Nat) (c : Bool), i < r.bs.length → callN W (n + 1) f_changed [.tup (blD t.pr), .int (i : Nat), .bl c] s = .ok (.tup (blD (t.pr.set i c))) s := fun i c hi => by
    rw [s_changed (by unfold blD; simp; omega) (by unfold blD; simp; exact hs _ (by omega)), blD_set]
  rw [ed]
  cases d with
  | put th k p =>
    obtain ⟨h1, h2, h3⟩ := hd
    have c1 := cw th (.on k p) h1
    have c2 := cw th (.flr p) h1
    simp only [Po.d] at c1 c2
    have i1 := ix_bl (hg := t.hg) (j := k) (by omega)
    simp [-evSs_cons, evSs_step, rest_cons, Dd.d, e_pp, i1]
    cases hq : gB t.hg k <;> simp [-evSs_cons, rest_cons, c1, c2, plainF, St.d, hq]
  | off th =>
    have c1 := cw th .off hd
    simp only [Po.d] at c1
    simp [-evSs_cons, evSs_step, rest_cons, Dd.d, e_op, e_oo, c1, plainF, St.d]
  | prp b k =>
    have c1 := fun c => cp k c hd
    cases b with
    | true => simp [-evSs_cons, evSs_step, rest_cons, Dd.d, e_rp, e_ro, e_rh, e_rr, c1, plainF, St.d]
    | false => simp [-evSs_cons, evSs_step, rest_cons, Dd.d, e_bp, e_bo, e_bh, e_br, c1, plainF, St.d]
  | hang k =>
    have c1 := fun c => ch k c hd
    simp [-evSs_cons, evSs_step, rest_cons, Dd.d, e_hp, e_ho, e_hh, c1, plainF, St.d]
end BS

namespace BS
open PySem
variable {W n : Nat} {s : Sto} {L k : Nat}
def brk (r : Rk) (ns : List Int) (t : St) : Option (Nat × Bool) := ((pegsF r t).find? fun x => decide (dot x.2 ns < 0)).map (·.1)
def settleN (r : Rk) (ns : List Int) : Nat → St → St
  | 0, t => t
  | m + 1, t => match brk r ns t with
    | none => t
    | some x => settleN r ns m (brokenF r t x.1 x.2)
def hgN (t : St) : Nat := t.hg.count true
theorem count_set_true : ∀ {l : List Bool} {k : Nat}, gB l k = true → (l.set k false).count true + 1 = l.count true
  | [], k, h => by simp [gB] at h
  | b :: l, 0, h => by
    have : b = true := by simpa [gB] using h
    subst this
    simp
  | b :: l, k + 1, h => by
    have := count_set_true (l := l) (k := k) (by simpa [gB] using h)
    simp only [List.set_cons_succ, List.count_cons]
    omega
theorem pegsAt_mem {r : Rk} {t : St} {k : Nat} {x : (Nat × Bool) × List Int} (h : x ∈ pegsAt r t k) : x.1.1 = k ∧ gB t.hg k = true ∧ x.2 = pegF r k (loadF t.wh k) x.1.2 := by
  unfold pegsAt at h
  split at h
  · rename_i hq
    simp only [Bool.and_eq_true] at hq
    simp at h
    rcases h with rfl | rfl <;> exact ⟨rfl, hq.1.1, rfl⟩
  · cases h
theorem pegsF_mem {r : Rk} {t : St} {x : (Nat × Bool) × List Int} (h : x ∈ pegsF r t) : x.1.1 < r.bs.length ∧ gB t.hg x.1.1 = true ∧ x.2 = pegF r x.1.1 (loadF t.wh x.1.1) x.1.2 := by
  unfold pegsF at h
  obtain ⟨k, h1, h2⟩ := List.mem_flatMap.mp h
  obtain ⟨e1, e2, e3⟩ := pegsAt_mem h2
  subst e1
  exact ⟨by simpa using h1, e2, e3⟩
theorem brk_some {r : Rk} {ns : List Int} {t : St} {x : Nat × Bool} (h : brk r ns t = some x) : x.1 < r.bs.length ∧ gB t.hg x.1 = true := by
  unfold brk at h
  obtain ⟨y, h1, rfl⟩ := Option.map_eq_some_iff.mp h
  have := pegsF_mem (List.mem_of_find?_eq_some h1)
  exact ⟨this.1, this.2.1⟩
theorem fallF_fit {r : Rk} (hr : r.ok) {hg : List Bool} {k : Nat} {p : Int} : (fallF r hg k p).fit r := by
  unfold fallF
  cases h : (List.range' (k + 1) (r.bs.length - (k + 1))).find? (fallC r hg p) with
  | none => trivial
  | some j =>
    have h1 := List.find?_some h
    have h2 := List.mem_range'_1.mp (List.mem_of_find?_eq_some h)
    simp only [fallC, Bool.and_eq_true] at h1
    exact ⟨by omega, inB_12 hr (by omega) h1.2⟩
theorem brokenF_ok {r : Rk} {t : St} {k : Nat} {left : Bool} (hr : r.ok) (ht : t.ok r) : (brokenF r t k left).ok r := by
  refine ⟨?_, by simp [brokenF, ht.hg], ht.pr, ?_⟩
  · unfold brokenF
    dsimp only
    rw [foldP_len (fun x : Nat × Int => x.1) (fun x => fallF r (t.hg.set k false) k x.2)]
    exact ht.wh
  · have key : ∀ (l : List (Nat × Int)) (wh : List Po), (∀ x ∈ wh, x.fit r) → ∀ x ∈ l.foldl (fun wh x => wh.set x.1 (fallF r (t.hg.set k false) k x.2)) wh, x.fit r := by
      intro l
      induction l with
      | nil => intro wh h; exact h
      | cons y ys ih =>
        intro wh h
        rw [List.foldl_cons]
        refine ih _ fun x hx => ?_
        rcases mem_set_po hx with rfl | hx
        · exact fallF_fit hr
        · exact h x hx
    exact key _ _ ht.pl
theorem brokenF_hgN {r : Rk} {t : St} {k : Nat} {left : Bool} (h : gB t.hg k = true) : hgN (brokenF r t k left) + 1 = hgN t := count_set_true h
theorem brk_none {r : Rk} {ns : List Int} {t : St} (h : hgN t = 0) : brk r ns t = none := by
  cases hb : brk r ns t with
  | none => rfl
  | some x =>
    have := brokenF_hgN (r := r) (left := true) (brk_some hb).2
    omega
/-- more turns than shelves change nothing -/
theorem settleN_more {r : Rk} {ns : List Int} : ∀ (m j : Nat) {t : St}, hgN t ≤ m → hgN t ≤ j → settleN r ns m t = settleN r ns j t
  | 0, 0, t, _, _ => rfl
  | 0, j + 1, t, h, _ => by
    simp only [settleN]
    rw [brk_none (by omega)]
  | m + 1, 0, t, _, h => by
    simp only [settleN]
    rw [brk_none (by omega)]
  | m + 1, j + 1, t, h1, h2 => by
    simp only [settleN]
    cases hb : brk r ns t with
    | none => rfl
    | some x =>
      have := brokenF_hgN (r := r) (left := x.2) (brk_some hb).2
      exact settleN_more m j (by omega) (by omega)
theorem fold_small {B : Nat} (g : Nat × Int → Int) : ∀ (l : List (Nat × Int)) (f : List Int), (∀ x ∈ f, x.natAbs ≤ B) → (∀ x ∈ l, (g x).natAbs ≤ B) → ∀ x ∈ l.foldl (fun f x => f.set x.1 (g x)) f, x.natAbs ≤ B
  | [], f, h, _ => h
  | y :: ys, f, h, h2 => by
    rw [List.foldl_cons]
    refine fold_small g ys _ (fun x hx => ?_) fun x hx => h2 x (List.mem_cons_of_mem _ hx)
    rcases List.mem_or_eq_of_mem_set hx with h' | rfl
    · exact h x h'
    · exact h2 y List.mem_cons_self
theorem pegF_small {r : Rk} {t : St} {k : Nat} {left : Bool} (hr : r.ok) (ht : t.ok r) (hk : k < r.bs.length) : ∀ x ∈ pegF r k (loadF t.wh k) left, x.natAbs ≤ 12 := by
  have hb := bdOf_ok hr hk
  intro x hx
  unfold pegF at hx
  rcases List.mem_or_eq_of_mem_set hx with hx | rfl
  · refine fold_small (B := 12) (fun x => pegCo (bdOf r k) left x.2) _ _ (fun y hy => ?_) (fun y hy => ?_) x hx
    · simp at hy; rw [hy.2]; decide
    · have := loadF_fit ht.pl hy
      unfold pegCo
      cases left
      · simp; omega
      · simp; omega
  · omega
theorem s_summed2 {xs ys : List Int} (hx : ∀ x ∈ xs, x.natAbs ≤ 12) (hl : xs.length ≤ 7) : callN W (n + 1) f_summed [.tup (intL xs), .tup (intL ys)] s = .ok (.int (dot xs ys)) s :=
  s_summed (fun x h => by have := hx x h; omega) (by rw [sizeLine_eq]; omega)
/-- one look at all pegs -/
def lookS (r : Rk) (ns : List Int) (v : St × Bool) (x : (Nat × Bool) × List Int) : St × Bool := bif !v.2 && decide (dot x.2 ns < 0) then (brokenF r v.1 x.1.1 x.1.2, true) else v
theorem lookS_t {r : Rk} {ns : List Int} {t : St} {x : (Nat × Bool) × List Int} : lookS r ns (t, true) x = (t, true) := rfl
theorem lookS_y {r : Rk} {ns : List Int} {t : St} {x : (Nat × Bool) × List Int} (h : dot x.2 ns < 0) : lookS r ns (t, false) x = (brokenF r t x.1.1 x.1.2, true) := by unfold lookS; simp [h]
theorem lookS_n {r : Rk} {ns : List Int} {t : St} {x : (Nat × Bool) × List Int} (h : ¬ dot x.2 ns < 0) : lookS r ns (t, false) x = (t, false) := by unfold lookS; simp [h]
theorem look_fold {r : Rk} {ns : List Int} {t : St} : ∀ (l : List ((Nat × Bool) × List Int)),
    l.foldl (lookS r ns) (t, false) = match l.find? fun x => decide (dot x.2 ns < 0) with
      | some x => (brokenF r t x.1.1 x.1.2, true)
      | none => (t, false)
  | [] => rfl
  | x :: xs => by
    have stay : ∀ (l : List ((Nat × Bool) × List Int)) (t : St), l.foldl (lookS r ns) (t, true) = (t, true) := by
      intro l
      induction l with
      | nil => intro t; rfl
      | cons y ys ih => intro t; rw [List.foldl_cons, lookS_t]; exact ih t
    rw [List.foldl_cons, List.find?_cons]
    by_cases h : dot x.2 ns < 0
    · rw [lookS_y h, stay]; simp [h]
    · rw [lookS_n h, look_fold xs]; simp [h]
theorem s_look {r : Rk} {ns : List Int} {t : St} {o3 o4 o5 o6 : Option D} (hr : r.ok) (ht : t.ok r) (hst : t.st.length ≤ 900) :
    ∃ p4 p5 p6, evSs (gOf W (n + 3) f_settled) b_settled_2 [some r.d, some (.tup (intL ns)), some t.d, o3, o4, o5, o6] s = .fl (.next (match brk r ns t with
      | none => [some r.d, some (.tup (intL ns)), some t.d, some (.bl false), p4, p5, p6]
      | some x => [some r.d, some (.tup (intL ns)), some (brokenF r t x.1 x.2).d, some (.bl true), p4, p5, p6])) s := by
  have step : ∀ x ∈ pegsF r t, ∀ (v : St × Bool) (ρ : Env), (∃ o4 o5 o6, ρ = [some r.d, some (.tup (intL ns)), some v.1.d, some (.bl v.2), o4, o5, o6] ∧ (v.2 = false → v.1 = t)) →
      ∃ ρ1 ρ', asg (.tup [.v 4, .v 5, .v 6]) (pgD x) ρ = some ρ1 ∧ evSs (gOf W (n + 3) f_settled) b_settled_1 ρ1 s = .fl (.next ρ') s ∧
        (∃ o4 o5 o6, ρ' = [some r.d, some (.tup (intL ns)), some (lookS r ns v x).1.d, some (.bl (lookS r ns v x).2), o4, o5, o6] ∧ ((lookS r ns v x).2 = false → (lookS r ns v x).1 = t)) := by
    rintro x hx ⟨t', m⟩ ρ ⟨o4, o5, o6, rfl, hv⟩
    obtain ⟨h1, h2, h3⟩ := pegsF_mem hx
    have c1 : callN W (n + 3) f_summed [.tup (intL x.2), .tup (intL ns)] s = .ok (.int (dot x.2 ns)) s := s_summed2 (by rw [h3]; exact pegF_small hr ht h1) (by rw [h3, pegF_len]; exact hr.w7)
    refine ⟨_, _, rfl, ?_, some (.int (x.1.1 : Nat)), some (wyD x.1.2), some (.tup (intL x.2)), rfl, ?_⟩
    · unfold b_settled_1
      cases m with
      | true => rw [lookS_t]; simp [-evSs_cons, evSs_step, rest_cons]
      | false =>
        have e := hv rfl
        dsimp only at e
        subst e
        have c2 : callN W (n + 3) f_broken [r.d, t'.d, .int (x.1.1 : Nat), wyD x.1.2] s = .ok (brokenF r t' x.1.1 x.1.2).d s := s_broken hr ht h1 (by omega)
        by_cases hd : dot x.2 ns < 0
        · rw [lookS_y hd]; simp [-evSs_cons, evSs_step, rest_cons, c1, hd, c2]
        · rw [lookS_n hd]; simp [-evSs_cons, evSs_step, rest_cons, c1, hd]
    · cases m with
      | true => rw [lookS_t]; intro h; cases h
      | false =>
        by_cases hd : dot x.2 ns < 0
        · rw [lookS_y hd]; intro h; cases h
        · rw [lookS_n hd]; exact hv
  obtain ⟨ρ', ⟨p4, p5, p6, rfl, hv⟩, hf⟩ := for_fold (s := s) pgD (lookS r ns)
    (fun v ρ => ∃ o4 o5 o6, ρ = [some r.d, some (.tup (intL ns)), some v.1.d, some (.bl v.2), o4, o5, o6] ∧ (v.2 = false → v.1 = t)) (pegsF r t) (t, false) [some r.d, some (.tup (intL ns)), some t.d, some (.bl false), o4, o5, o6] ⟨_, _, _, rfl, fun _ => rfl⟩ step
  have c0 : callN W (n + 3) f_pegs_of [r.d, t.d] s = .ok (.lst ((pegsF r t).map pgD)) s := s_pegs_of hr ht
  have hf2 := evS_forG (g := gOf W (n + 3) f_settled) (t := .tup [.v 4, .v 5, .v 6]) (b := b_settled_1) (ρ := [some r.d, some (.tup (intL ns)), some t.d, some (.bl false), o4, o5, o6]) (it := .e (.call f_pegs_of [.v 0, .v 2])) (s := s) (xs := (pegsF r t).map pgD) (gv_lst (by simp [c0]))
  rw [hf, look_fold] at hf2
  refine ⟨p4, p5, p6, ?_⟩
  unfold b_settled_2
  simp [-evSs_cons, evSs_step, rest_cons, hf2]
  unfold brk
  cases (pegsF r t).find? fun x => decide (dot x.2 ns < 0) <;> rfl
theorem s_settle_loop {r : Rk} {ns : List Int} (hr : r.ok) : ∀ (m : Nat) {t : St} {o4 o5 o6 : Option D} {K : Nat}, t.ok r → hgN t ≤ m → t.st.length + m ≤ 900 → m + 2 ≤ K →
    ∃ p4 p5 p6, whileLoop (fun ρ s => evE (gOf W (n + 3) f_settled) (.v 3) ρ s) (fun ρ s => evSs (gOf W (n + 3) f_settled) b_settled_2 ρ s) K [some r.d, some (.tup (intL ns)), some t.d, some (.bl true), o4, o5, o6] s =
      .fl (.next [some r.d, some (.tup (intL ns)), some (settleN r ns m t).d, some (.bl false), p4, p5, p6]) s := by
  intro m
  induction m with
  | zero =>
    intro t o4 o5 o6 K ht hm hst hK
    match K, hK with
    | K + 2, _ =>
      obtain ⟨p4, p5, p6, e⟩ := s_look (W := W) (n := n) (s := s) (ns := ns) (o3 := some (.bl true)) (o4 := o4) (o5 := o5) (o6 := o6) hr ht (by omega)
      rw [brk_none (by omega)] at e
      exact ⟨p4, p5, p6, by simp [whileLoop, e, settleN]⟩
  | succ m ih =>
    intro t o4 o5 o6 K ht hm hst hK
    match K, hK with
    | K + 1, hK =>
      obtain ⟨p4, p5, p6, e⟩ := s_look (W := W) (n := n) (s := s) (ns := ns) (o3 := some (.bl true)) (o4 := o4) (o5 := o5) (o6 := o6) hr ht (by omega)
      cases hb : brk r ns t with
      | none =>
        rw [hb] at e
        match K, hK with
        | K + 1, _ => exact ⟨p4, p5, p6, by simp [whileLoop, e, settleN, hb]⟩
      | some x =>
        rw [hb] at e
        have h1 := brk_some hb
        have h2 := brokenF_hgN (r := r) (left := x.2) h1.2
        have h3 : (brokenF r t x.1 x.2).st.length = t.st.length + 1 := by simp [brokenF]
        obtain ⟨q4, q5, q6, e2⟩ := ih (t := brokenF r t x.1 x.2) (o4 := p4) (o5 := p5) (o6 := p6) (K := K) (brokenF_ok hr ht) (by omega) (by omega) (by omega)
        refine ⟨q4, q5, q6, ?_⟩
        simp only [settleN, hb]
        rw [← e2]
        simp [whileLoop, e]
def settleF (r : Rk) (ns : List Int) (t : St) : St := settleN r ns r.bs.length t
theorem hgN_le {r : Rk} {t : St} (ht : t.ok r) : hgN t ≤ r.bs.length := by rw [← ht.hg]; exact List.count_le_length
theorem s_settled {r : Rk} {ns : List Int} {t : St} (hW : 5 ≤ W) (hr : r.ok) (ht : t.ok r) (hst : t.st.length ≤ 800) : callN W (n + 4) f_settled [r.d, .tup (intL ns), t.d] s = .ok (settleF r ns t).d s := by
  rw [call1 (fd := f_settled) rfl rfl]
  have b3 := hr.b3
  obtain ⟨p4, p5, p6, e⟩ := s_settle_loop (W := W) (n := n) (s := s) (ns := ns) hr r.bs.length (t := t) (o4 := none) (o5 := none) (o6 := none) (K := W) ht (hgN_le ht) (by omega) (by omega)
  have e2 : evS (gOf W (n + 3) f_settled) (.while_ (.v 3) b_settled_2) [some r.d, some (.tup (intL ns)), some t.d, some (.bl true), none, none, none] s = _ := (evS_while ..).trans e
  simp [-evSs_cons, -evS_while, evSs_step, rest_cons, e2, settleF]
theorem settleN_ok {r : Rk} {ns : List Int} (hr : r.ok) : ∀ (m : Nat) {t : St}, t.ok r → (settleN r ns m t).ok r ∧ (settleN r ns m t).st.length ≤ t.st.length + m
  | 0, t, h => ⟨h, Nat.le_refl _⟩
  | m + 1, t, h => by
    simp only [settleN]
    cases hb : brk r ns t with
    | none => exact ⟨h, by dsimp only; omega⟩
    | some x =>
      obtain ⟨h1, h2⟩ := settleN_ok hr m (brokenF_ok hr h (k := x.1) (left := x.2))
      have h3 : (brokenF r t x.1 x.2).st.length = t.st.length + 1 := by simp [brokenF]
      exact ⟨h1, by dsimp only; omega⟩
def doneF (r : Rk) (ns : List Int) (t : St) (d : Dd) : St := settleF r ns (plainF t d)
theorem plainF_st {t : St} {d : Dd} : (plainF t d).st = t.st := by cases d <;> rfl
theorem doneF_ok {r : Rk} {ns : List Int} {t : St} {d : Dd} (hr : r.ok) (ht : t.ok r) (hd : d.ok r) : (doneF r ns t d).ok r ∧ (doneF r ns t d).st.length ≤ t.st.length + 3 := by
  have h := settleN_ok (ns := ns) hr r.bs.length (plainF_ok hr ht hd)
  have b3 := hr.b3
  rw [plainF_st] at h
  exact ⟨h.1, by have := h.2; unfold doneF settleF; omega⟩
theorem s_done {r : Rk} {ns : List Int} {t : St} {d : Dd} (hW : 5 ≤ W) (hr : r.ok) (ht : t.ok r) (hd : d.ok r) (hst : t.st.length ≤ 800) : callN W (n + 5) f_done [r.d, .tup (intL ns), t.d, d.d] s = .ok (doneF r ns t d).d s := by
  rw [call1 (fd := f_done) rfl rfl]
  have c1 : callN W (n + 4) f_plain_deed [r.d, t.d, d.d] s = .ok (plainF t d).d s := s_plain_deed hr ht hd
  have c2 := s_settled (W := W) (n := n) (s := s) (ns := ns) hW hr (plainF_ok hr ht hd) (by rw [plainF_st]; exact hst)
  simp [-evSs_cons, evSs_step, rest_cons, c1, c2, doneF]
def runF (r : Rk) (ns : List Int) (ds : List Dd) : St := ds.foldl (doneF r ns) (firstF r)
theorem s_standing_by {r : Rk} {ns : List Int} {ds : List Dd} (hW : 5 ≤ W) (hr : r.ok) (hd : ∀ d ∈ ds, d.ok r) (hl : ds.length ≤ 200) : callN W (n + 6) f_standing_by [r.d, .tup (intL ns), .tup (ds.map Dd.d)] s = .ok (runF r ns ds).d s := by
  rw [call1 (fd := f_standing_by) rfl rfl]
  have step : ∀ j d, ds[j]? = some d → ∀ (t : St) (ρ : Env), (∃ o, ρ = [some r.d, some (.tup (intL ns)), some (.tup (ds.map Dd.d)), some t.d, o] ∧ t.ok r ∧ t.st.length ≤ 3 * (0 + j)) →
      ∃ ρ1 ρ', asg (.v 4) (Dd.d d) ρ = some ρ1 ∧ evSs (gOf W (n + 5) f_standing_by) b_standing_by_1 ρ1 s = .fl (.next ρ') s ∧ (∃ o, ρ' = [some r.d, some (.tup (intL ns)), some (.tup (ds.map Dd.d)), some (doneF r ns t d).d, o] ∧ (doneF r ns t d).ok r ∧ (doneF r ns t d).st.length ≤ 3 * (0 + j + 1)) := by
    rintro j d hj t ρ ⟨o, rfl, ht, hs⟩
    have hdo := hd d (List.mem_of_getElem? hj)
    have hjl := (List.getElem?_eq_some_iff.mp hj).1
    have c1 := s_done (W := W) (n := n) (s := s) (ns := ns) hW hr ht hdo (by omega)
    have q := doneF_ok (ns := ns) hr ht hdo
    refine ⟨_, _, rfl, ?_, some d.d, rfl, q.1, by omega⟩
    unfold b_standing_by_1
    simp [-evSs_cons, evSs_step, rest_cons, c1]
  obtain ⟨ρ', ⟨o, rfl, hv⟩, hf⟩ := for_foldI (s := s) Dd.d (doneF r ns) (fun i (t : St) ρ => ∃ o, ρ = [some r.d, some (.tup (intL ns)), some (.tup (ds.map Dd.d)), some t.d, o] ∧ t.ok r ∧ t.st.length ≤ 3 * i) ds 0 (firstF r)
    [some r.d, some (.tup (intL ns)), some (.tup (ds.map Dd.d)), some (firstF r).d, none] ⟨_, rfl, firstF_ok, by simp [firstF]⟩ step
  have hf2 := evS_forG (g := gOf W (n + 5) f_standing_by) (t := .v 4) (b := b_standing_by_1) (ρ := [some r.d, some (.tup (intL ns)), some (.tup (ds.map Dd.d)), some (firstF r).d, none]) (it := .e (.v 2)) (s := s) (xs := ds.map Dd.d) (gv_tup rfl)
  rw [hf] at hf2
  have c1 : callN W (n + 5) f_first_standing [r.d] s = .ok (firstF r).d s := s_first_standing hr
  simp [-evSs_cons, evSs_step, rest_cons, c1, hf2, runF]
end BS

namespace BS
open PySem
variable {W n : Nat} {s : Sto} {L k : Nat}
theorem isNum_nat {i : Nat} {b : Int} (h : (i : Int) ≤ b) : isNum (.int (i : Nat)) 0 b = true := by
  simp [isNum]; omega
theorem gDeed_ok {r : Rk} {d : Dd} (hd : d.ok r) : gDeed r d.d = true := by
  cases d with
  | put th k p =>
    obtain ⟨h1, h2, h3⟩ := hd
    have e : r.bs[k]? = some (bdOf r k) := bdOf_get h2
    have h4 : isNum (.int p) (bdOf r k).1 (bdOf r k).2 = true := h3
    simp [Dd.d, gDeed, gPut, isSt_, e, h4]
    exact isNum_nat (by omega)
  | off th =>
    have h1 : isNum (.int (th : Nat)) 0 (r.t - 1) = true := isNum_nat (by have : th < r.t := hd; omega)
    have q1 : (("off" : Str) == ("off" : Str)) = true := by decide +kernel
    simp only [Dd.d, gDeed]
    rw [q1, ifB_true, h1]
  | prp b k =>
    have h1 : isNum (.int (k : Nat)) 0 (r.bs.length - 1) = true := isNum_nat (by have : k < r.bs.length := hd; omega)
    have q1 : (("prop" : Str) == ("off" : Str)) = false := by decide +kernel
    have q2 : (("bare" : Str) == ("off" : Str)) = false := by decide +kernel
    have q3 : sw.any (· == ("prop" : Str)) = true := by decide +kernel
    have q4 : sw.any (· == ("bare" : Str)) = true := by decide +kernel
    cases b
    · simp only [Dd.d, gDeed]
      rw [q2, ifB_false, q4, h1]; rfl
    · simp only [Dd.d, gDeed]
      rw [q1, ifB_false, q3, h1]; rfl
  | hang k =>
    have h1 : isNum (.int (k : Nat)) 0 (r.bs.length - 1) = true := isNum_nat (by have : k < r.bs.length := hd; omega)
    have q1 : (("hang" : Str) == ("off" : Str)) = false := by decide +kernel
    have q3 : sw.any (· == ("hang" : Str)) = true := by decide +kernel
    simp only [Dd.d, gDeed]
    rw [q1, ifB_false, q3, h1]; rfl
theorem okD_w2 {w : Str} {i : Int} (h : PyData.strOk w = true) : okD 7 1 (.tup [.str w, .int i]) = true := okD_tupI (by simp) fun x hx => by
  simp at hx
  rcases hx with rfl | rfl
  · exact h
  · rfl
theorem deed_okD {d : Dd} : okD 7 1 d.d = true := by
  cases d with
  | put th k p =>
    refine okD_tupI (by simp) fun x hx => ?_
    simp at hx
    rcases hx with rfl | rfl | rfl | rfl
    · exact sOk_put
    · rfl
    · rfl
    · rfl
  | off th => exact okD_w2 sOk_off
  | prp b k => cases b <;> exact okD_w2 (by decide +kernel)
  | hang k => exact okD_w2 (by decide +kernel)
theorem deeds_okD {ds : List Dd} (h : ds.length ≤ 7) : okD 7 2 (.tup (ds.map Dd.d)) = true := okD_tupI (by simpa using h) fun x hx => by
  obtain ⟨d, _, rfl⟩ := List.mem_map.mp hx
  exact deed_okD
theorem gScript_ok {r : Rk} {ds : List Dd} (hd : ∀ d ∈ ds, d.ok r) (h : ds.length ≤ 6) : gScript r (.tup (ds.map Dd.d)) = true := by
  simp [gScript]
  refine ⟨by omega, ?_⟩
  rw [allB_iff]
  intro x hx
  obtain ⟨d, h1, rfl⟩ := List.mem_map.mp hx
  exact gDeed_ok (hd d h1)
theorem s_need_numbers {r : Rk} {ns : List Int} (hr : r.ok) (hn : NumsOk r.w ns) : callN W (n + 5) f_need_numbers [r.d, .tup (intL ns)] s = .ok .non s := by
  rw [call1 (fd := f_need_numbers) rfl rfl]
  have c1 : callN W (n + 4) f_are_good_numbers [r.d, .tup (intL ns)] s = _ := gN_rk (W := W) (n := n) (s := s) (r := r) (nums_ok hr.w7 hn) s7
  simp [-evSs_cons, evSs_step, rest_cons, c1, gNums_ns hn]
theorem s_need_script {r : Rk} {ds : List Dd} (hr : r.ok) (hd : ∀ d ∈ ds, d.ok r) (h : ds.length ≤ 6) : callN W (n + 5) f_need_script [r.d, .tup (ds.map Dd.d)] s = .ok .non s := by
  rw [call1 (fd := f_need_script) rfl rfl]
  have c1 : callN W (n + 4) f_is_good_script [r.d, .tup (ds.map Dd.d)] s = _ := s_is_good_script (W := W) (n := n) (s := s) (r := r) hr (deeds_okD (by omega)) s7
  simp [-evSs_cons, evSs_step, rest_cons, c1, gScript_ok hd h]
theorem s_story {r : Rk} {ns : List Int} {ds : List Dd} (hW : 5 ≤ W) (hr : r.ok) (hn : NumsOk r.w ns) (hd : ∀ d ∈ ds, d.ok r) (h : ds.length ≤ 6) : callN W (n + 7) f_story [r.d, .tup (intL ns), .tup (ds.map Dd.d)] s = .ok (.tup (stD (runF r ns ds).st)) s := by
  rw [call1 (fd := f_story) rfl rfl]
  have c1 : callN W (n + 6) f_need_rack [r.d] s = .ok .non s := s_need_rack hr
  have c2 : callN W (n + 6) f_need_numbers [r.d, .tup (intL ns)] s = .ok .non s := s_need_numbers hr hn
  have c3 : callN W (n + 6) f_need_script [r.d, .tup (ds.map Dd.d)] s = .ok .non s := s_need_script hr hd h
  have c4 := s_standing_by (W := W) (n := n) (s := s) (ns := ns) hW hr hd (by omega)
  simp [-evSs_cons, evSs_step, rest_cons, c1, c2, c3, c4, St.d]
def endD (t : St) : D := .tup [.tup (whD t.wh), .tup (blD t.hg)]
theorem s_end_of {r : Rk} {ns : List Int} {ds : List Dd} (hW : 5 ≤ W) (hr : r.ok) (hn : NumsOk r.w ns) (hd : ∀ d ∈ ds, d.ok r) (h : ds.length ≤ 6) : callN W (n + 7) f_end_of [r.d, .tup (intL ns), .tup (ds.map Dd.d)] s = .ok (endD (runF r ns ds)) s := by
  rw [call1 (fd := f_end_of) rfl rfl]
  have c1 : callN W (n + 6) f_need_rack [r.d] s = .ok .non s := s_need_rack hr
  have c2 : callN W (n + 6) f_need_numbers [r.d, .tup (intL ns)] s = .ok .non s := s_need_numbers hr hn
  have c3 : callN W (n + 6) f_need_script [r.d, .tup (ds.map Dd.d)] s = .ok .non s := s_need_script hr hd h
  have c4 := s_standing_by (W := W) (n := n) (s := s) (ns := ns) hW hr hd (by omega)
  have c5 : ∀ xs : List D, cutD xs none (some 2) = xs.take 2 := fun xs => cut_to 2
  simp [-evSs_cons, evSs_step, rest_cons, c1, c2, c3, c4, St.d, bnd, slcD, c5, endD]
end BS

namespace BS
open PySem
variable {W n : Nat} {s : Sto} {L k : Nat}
theorem script_satD {m : Nat} {r : Rk} {mx : Nat} (hr : r.ok) (hs : Srce s m) (hm : mx ≤ 6) : (callN W (n + 3) f__law_script [.obj m, r.d, .int (mx : Nat)] s).sat fun d s' => ∃ ds : List Dd, d = .tup (ds.map Dd.d) ∧ (∀ x ∈ ds, x.ok r) ∧ ds.length ≤ mx ∧ Srce s' m := by
  rw [call1 (fd := f__law_script) rfl rfl, fin_sat]
  simp [seq_sat]
  refine for_sat (r1_sat ?_)
  simp [sat_bind]
  refine (draw_sat (many := mx + 1) hs (by omega) (by omega)).mono fun d s2 h => ?_
  obtain ⟨q, rfl, hq, hs2⟩ := h
  refine ⟨q, by simp, by omega, _, rfl, ?_⟩
  refine for_inv (fun i ρ s => ∃ (ds : List Dd) (o4 o5 o6 o7 o8 o9 o10 o11 : Option D), ρ = [some (.obj m), some r.d, some (.int (mx : Nat)), some (.tup (ds.map Dd.d)), o4, o5, o6, o7, o8, o9, o10, o11] ∧ ds.length = i ∧ (∀ x ∈ ds, x.ok r) ∧ Srce s m) ⟨[], none, none, none, none, none, none, none, none, rfl, rfl, (fun _ h => nomatch h), hs2⟩ ?_ ?_
  · rintro i x0 ρ s hx ⟨ds, o4, o5, o6, o7, o8, o9, o10, o11, rfl, hb, hbd, hs⟩
    have hi : i < q := by
      have := (List.getElem?_eq_some_iff.mp hx).1
      simpa using this
    have t1 := hr.t1
    have t4 := hr.t4
    have b1' := hr.b1
    have b3 := hr.b3
    refine ⟨_, rfl, ?_⟩
    unfold b__law_script_1
    have snoc : ∀ x : Dd, x.ok r → ∀ y ∈ ds ++ [x], y.ok r := fun x hx y hy => by
      rcases List.mem_append.mp hy with h | h
      · exact hbd _ h
      · rw [List.mem_singleton.mp h]; exact hx
    have hsz : ds.length + 1 ≤ sizeLine := by rw [sizeLine_eq]; omega
    simp [-evSs_cons, evSs_step, seq_sat, so_sat, sat_bind, Rk.d]
    refine (draw_sat (many := r.bs.length) hs (by omega) (by omega)).mono fun d s1 h => ?_
    obtain ⟨sh, rfl, hsh, hs1⟩ := h
    rw [rest_cons]
    simp [-evSs_cons, seq_sat, so_sat, sat_bind]
    refine (draw_sat (many := r.t) hs1 (by omega) (by omega)).mono fun d s2 h => ?_
    obtain ⟨th, rfl, hth, hs2⟩ := h
    have hsh' : sh < r.bs.length := by omega
    have e := ix_board hsh'
    have bd := bdOf_ok hr hsh'
    rw [rest_cons]
    simp [-evSs_cons, seq_sat, so_sat, sat_bind, e, bdD]
    rw [rest_cons]
    simp [-evSs_cons, seq_sat, so_sat, sat_bind]
    refine (draw_sat (many := (bdOf r sh).2 - (bdOf r sh).1 + 1) hs2 (by omega) (by omega)).mono fun d s3 h => ?_
    obtain ⟨pl, rfl, hpl, hs3⟩ := h
    simp [so_sat]
    rw [rest_cons]
    simp [-evSs_cons, seq_sat, so_sat, sat_bind]
    refine (of_sat hs3 (by simp) (by simp)).mono fun d s4 h => ?_
    obtain ⟨hd, hs4⟩ := h
    have ip : inB (bdOf r sh) ((bdOf r sh).1 + pl) = true := by simp [inB]; omega
    have o1 : (Dd.put th sh ((bdOf r sh).1 + pl)).ok r := ⟨by omega, hsh', ip⟩
    have o2 : (Dd.off th).ok r := by show th < r.t; omega
    simp at hd
    rcases hd with rfl | rfl | rfl | rfl | rfl
    · rw [rest_cons]
      simp [-evSs_cons, seq_sat, so_sat, sat_bind, e_pp, e_po]
      rw [rest_cons]
      simp [-evSs_cons, seq_sat, so_sat, sat_bind, e_pp]
      rw [rest_cons]
      simp [-evSs_cons, seq_sat, so_sat, sat_bind, hsz]
      exact ⟨ds ++ [.put th sh ((bdOf r sh).1 + pl)], by simp [Dd.d], by simp [hb], snoc _ o1, hs4⟩
    · rw [rest_cons]
      simp [-evSs_cons, seq_sat, so_sat, sat_bind, e_oo]
      rw [rest_cons]
      simp [-evSs_cons, seq_sat, so_sat, sat_bind, e_op]
      rw [rest_cons]
      simp [-evSs_cons, seq_sat, so_sat, sat_bind, hsz]
      exact ⟨ds ++ [.off th], by simp [Dd.d], by simp [hb], snoc _ o2, hs4⟩
    · rw [rest_cons]
      simp [-evSs_cons, seq_sat, so_sat, sat_bind, e_ro]
      rw [rest_cons]
      simp [-evSs_cons, seq_sat, so_sat, sat_bind, e_rp]
      rw [rest_cons]
      simp [-evSs_cons, seq_sat, so_sat, sat_bind, hsz]
      exact ⟨ds ++ [.prp true sh], by simp [Dd.d], by simp [hb], snoc (.prp true sh) hsh', hs4⟩
    · rw [rest_cons]
      simp [-evSs_cons, seq_sat, so_sat, sat_bind, e_bo]
      rw [rest_cons]
      simp [-evSs_cons, seq_sat, so_sat, sat_bind, e_bp]
      rw [rest_cons]
      simp [-evSs_cons, seq_sat, so_sat, sat_bind, hsz]
      exact ⟨ds ++ [.prp false sh], by simp [Dd.d], by simp [hb], snoc (.prp false sh) hsh', hs4⟩
    · rw [rest_cons]
      simp [-evSs_cons, seq_sat, so_sat, sat_bind, e_ho]
      rw [rest_cons]
      simp [-evSs_cons, seq_sat, so_sat, sat_bind, e_hp]
      rw [rest_cons]
      simp [-evSs_cons, seq_sat, so_sat, sat_bind, hsz]
      exact ⟨ds ++ [.hang sh], by simp [Dd.d], by simp [hb], snoc (.hang sh) hsh', hs4⟩
  · rintro ρ s ⟨ds, o4, o5, o6, o7, o8, o9, o10, o11, rfl, hb, hbd, hs⟩
    simp at hb
    simp
    exact ⟨ds, rfl, hbd, by omega, hs⟩
end BS

namespace BS
open PySem
variable {W n : Nat} {s : Sto} {L k : Nat}
/-! lists of the store -/
theorem get_push {m : Nat} {o x : Ob} (h : s[m]? = some o) : (s ++ [x])[m]? = some o := by
  rw [List.getElem?_append_left (List.getElem?_eq_some_iff.mp h).1]; exact h
theorem get_push2 {m : Nat} {o x y : Ob} (h : s[m]? = some o) : (s ++ [x, y])[m]? = some o := by
  rw [List.getElem?_append_left (List.getElem?_eq_some_iff.mp h).1]; exact h
theorem get_last {x : Ob} : (s ++ [x])[s.length]? = some x := by rw [List.getElem?_append_right (Nat.le_refl _)]; simp
theorem get_other {m j : Nat} {o x : Ob} (hj : m ≠ j) (h : s[m]? = some o) : (s.set j x)[m]? = some o := by rw [List.getElem?_set_ne (Ne.symm hj)]; exact h
theorem isObj_of {m : Nat} {ds : List D} (h : s[m]? = some (Ob.lst ds)) : isObjL s (.obj m) = true := by unfold isObjL; rw [vL_obj h]; rfl
theorem p_append {m : Nat} {ds : List D} {d : D} (h : s[m]? = some (Ob.lst ds)) (hz : ds.length < sizeLine) : primM s .append [.obj m, d] = .ok .non (s.set m (.lst (ds ++ [d]))) := by
  simp only [primM, h]
  rw [if_pos hz]
theorem set_last {x y : Ob} : (s ++ [x]).set s.length y = s ++ [y] := by
  rw [List.set_append_right _ _ (Nat.le_refl _)]; simp
theorem out_eq {α : Type} {o : Out α} {x : α} {y : Sto} (h : o.sat fun a s' => a = x ∧ s' = y) : o = .ok x y := by
  obtain ⟨a, s', e, rfl, rfl⟩ := h.get
  exact e
theorem p_len_obj {m : Nat} {ds : List D} (h : s[m]? = some (Ob.lst ds)) : prim s .len [.obj m] = some (.int ds.length) := by
  show (lenD s (.obj m)).map _ = _
  simp only [lenD, vL_obj h]
  rfl
theorem setIx_obj {m i : Nat} {ds : List D} {d : D} (h : s[m]? = some (Ob.lst ds)) (hi : i < ds.length) : setIx s (.obj m) (.int (i : Nat)) d = some (s.set m (.lst (ds.set i d))) := by
  simp only [setIx, h]
  unfold L2.ixN
  rw [if_pos (Int.natCast_nonneg i), if_pos (by omega)]
  simp
theorem ix_obj {m i : Nat} {ds : List D} {d : D} (h : s[m]? = some (Ob.lst ds)) (hi : ds[i]? = some d) : prim s .ix [.obj m, .int (i : Nat)] = some d := by
  rw [p_ix_obj h, atI_nat, hi]
theorem for_sat2 {g : G} {ρ : Env} {t : Tg} {it : I} {b : List S} {Q : Flow → Sto → Prop} {src : Src} (hI : evI g it ρ s = .ok src s) (h : (forSrc src t (fun ρ s => evSs g b ρ s) ρ s).sat Q) : (evS g (.for_ t it b) ρ s).sat Q := by
  rw [evS_for, hI]
  exact h
/-- the load as the law lists it -/
theorem l_load {a : Nat} {wh : List Po} {k : Nat} (ha : s[a]? = some (.lst (whD wh))) (hl : wh.length ≤ 100) : callN W (n + 1) f__law_load [.obj a, .int (k : Nat)] s = .ok (.obj s.length) (s ++ [.lst ((loadF wh k).map ldD)]) := by
  refine out_eq ?_
  rw [call1 (fd := f__law_load) rfl rfl, fin_sat]
  have hal : a < s.length := (List.getElem?_eq_some_iff.mp ha).1
  simp [-evSs_cons, evSs_step, seq_sat, so_sat, sat_bind, mkL]
  rw [rest_cons, seq_sat]
  refine for_sat2 (src := .enum (.obj a)) (by simp [vS_obj (get_push ha)]) ?_
  refine for_walk (xs := enumD 0 (whD wh)) (fun i ρ s' => ∃ o3 o4, ρ = [some (.obj a), some (.int (k : Nat)), some (.obj s.length), o3, o4] ∧ s' = s ++ [.lst ((((enumF 0 wh).take i).filterMap (onB k)).map ldD)])
    (fun i ρ s' h => by obtain ⟨_, _, _, rfl⟩ := h; exact walk_enum (get_push ha)) ⟨_, _, rfl, by simp⟩ ?_ ?_
  · rintro i x ρ s' hx ⟨o3, o4, rfl, rfl⟩
    rw [whD, enumD_F, List.getElem?_map] at hx
    obtain ⟨⟨j, p⟩, h1, rfl⟩ := Option.map_eq_some_iff.mp hx
    refine ⟨_, rfl, ?_⟩
    have hi : i < (enumF 0 wh).length := (List.getElem?_eq_some_iff.mp h1).1
    have htk : (enumF 0 wh).take (i + 1) = (enumF 0 wh).take i ++ [(j, p)] := by
      rw [List.take_add_one, h1]; rfl
    have hz : ((((enumF 0 wh).take i).filterMap (onB k)).map ldD).length < sizeLine := by
      rw [List.length_map, sizeLine_eq]
      have := List.length_filterMap_le (onB k) ((enumF 0 wh).take i)
      rw [enumF_len] at hi
      simp at this ⊢
      omega
    unfold b__law_load_1
    have miss : onB k (j, p) = none → (((enumF 0 wh).take i).filterMap (onB k)).map ldD = (((enumF 0 wh).take (i + 1)).filterMap (onB k)).map ldD := fun h => by
      rw [htk, List.filterMap_append]
      simp [h]
    cases p with
    | off =>
      simp [-evSs_cons, evSs_step, seq_sat, so_sat, sat_bind, Po.d]
      exact miss rfl
    | flr q =>
      simp [-evSs_cons, evSs_step, seq_sat, so_sat, sat_bind, Po.d]
      exact miss rfl
    | on k' q =>
      by_cases hk : k' = k
      · subst hk
        simp [-evSs_cons, evSs_step, seq_sat, so_sat, sat_bind, Po.d, isObj_of (get_last (s := s)), p_append (get_last (s := s)) hz, set_last]
        rw [htk, List.filterMap_append]
        simp [onB, ldD]
      · have : ((k' : Int) == (k : Int)) = false := by simp; omega
        simp [-evSs_cons, evSs_step, seq_sat, so_sat, sat_bind, Po.d, this]
        exact miss (by simp [onB, hk])
  · rintro ρ s' ⟨o3, o4, rfl, rfl⟩
    have e : (enumD 0 (whD wh)).length = (enumF 0 wh).length := by rw [enumD_len, enumF_len]; simp [whD]
    simp [rest_cons, so_sat, seq_sat, loadF, e]
theorem find_range {P : Nat → Bool} {m j : Nat} (h : j + 1 ≤ m) : (List.range m).find? (fun i => decide (j < i) && P i) = (List.range' (j + 1) (m - (j + 1))).find? P := by
  have e : List.range m = List.range (j + 1) ++ List.range' (j + 1) (m - (j + 1)) := by
    have h2 := List.range'_append_1 (s := 0) (m := j + 1) (n := m - (j + 1))
    rw [Nat.zero_add] at h2
    rw [List.range_eq_range', List.range_eq_range', h2]
    congr 1
    omega
  rw [e, List.find?_append]
  have h1 : (List.range (j + 1)).find? (fun i => decide (j < i) && P i) = none := by
    rw [List.find?_eq_none]
    intro x hx
    simp at hx ⊢
    omega
  rw [h1, Option.none_or]
  have : ∀ l : List Nat, (∀ x ∈ l, j < x) → l.find? (fun i => decide (j < i) && P i) = l.find? P := by
    intro l
    induction l with
    | nil => intro _; rfl
    | cons x xs ih =>
      intro hl
      rw [List.find?_cons, List.find?_cons, ih fun y hy => hl y (List.mem_cons_of_mem _ hy)]
      simp [hl x List.mem_cons_self]
  exact this _ fun x hx => by have := List.mem_range'_1.mp hx; omega
theorem enum_boards {r : Rk} : enumD 0 (r.bs.map bdD) = (List.range r.bs.length).map fun j => D.tup [.int (j : Nat), bdD (bdOf r j)] := by
  apply List.ext_getElem?
  intro i
  rw [enumD_get, List.getElem?_map, List.getElem?_map]
  by_cases h : i < r.bs.length
  · rw [bdOf_get h, List.getElem?_range h]; simp
  · rw [List.getElem?_eq_none (by omega), List.getElem?_eq_none (by simpa using h)]; rfl
theorem l_fall {r : Rk} {hg : List Bool} {b k : Nat} {p : Int} (hb : s[b]? = some (.lst (blD hg))) (hh : hg.length = r.bs.length) (hk : k < r.bs.length) :
    callN W (n + 1) f__law_fall [r.d, .obj b, .int (k : Nat), .int p] s = .ok (fallF r hg k p).d s := by
  rw [call1 (fd := f__law_fall) rfl rfl]
  have hrd : r.d = .tup [.int r.t, .tup (r.bs.map bdD)] := rfl
  obtain ⟨ρ', ⟨o4, o5, o6, rfl⟩, hf⟩ := for_find (s := s) (tg := .tup [.v 4, .tup [.v 5, .v 6]]) (b := fun ρ s => evSs (gOf W n f__law_fall) b__law_fall_1 ρ s) (fun j : Nat => D.tup [.int (j : Nat), bdD (bdOf r j)]) (fun j => if (decide (k < j) && fallC r hg p j) = true then some (Po.on j p).d else none)
    (fun ρ => ∃ o4 o5 o6, ρ = [some r.d, some (.obj b), some (.int (k : Nat)), some (.int p), o4, o5, o6]) (List.range r.bs.length) [some r.d, some (.obj b), some (.int (k : Nat)), some (.int p), none, none, none] ⟨_, _, _, rfl⟩ (by
      rintro j hj ρ ⟨o4, o5, o6, rfl⟩
      have hj' : j < r.bs.length := by simpa using hj
      refine ⟨_, _, rfl, ⟨some (.int (j : Nat)), some (.int (bdOf r j).1), some (.int (bdOf r j).2), rfl⟩, ?_⟩
      unfold b__law_fall_1
      have hx : prim s .ix [.obj b, .int (j : Nat)] = some (.bl (gB hg j)) := by rw [p_ix_obj hb, ix_bl (by omega)]
      simp only [hrd]
      simp [-evSs_cons, evSs_step, rest_cons, hx, bdD, fallC, inB, Po.d]
      by_cases q0 : k < j <;> cases gB hg j <;> by_cases q1 : (bdOf r j).1 ≤ p <;> by_cases q2 : p ≤ (bdOf r j).2 <;> simp [q0, q1, q2])
  have hf2 := evS_forG (g := gOf W n f__law_fall) (t := .tup [.v 4, .tup [.v 5, .v 6]]) (b := b__law_fall_1) (s := s) (ρ := [some r.d, some (.obj b), some (.int (k : Nat)), some (.int p), none, none, none]) (it := .enum (.pr .ix [.v 0, .lit (.int 1)])) (gv_enum (k := false) (xs := r.bs.map bdD) (by simp [hrd, seqD]))
  rw [enum_boards, hf, findSome_find, find_range (by omega)] at hf2
  simp only [hrd] at hf2 ⊢
  simp [-evSs_cons, evSs_step]
  rw [hf2]
  unfold fallF
  cases (List.range' (k + 1) (r.bs.length - (k + 1))).find? (fallC r hg p) with
  | some j => simp
  | none => simp [rest_cons, Po.d]
end BS

namespace BS
open PySem
variable {W n : Nat} {s : Sto} {L k : Nat}
def lawFar (b : Int × Int) (left : Bool) (p : Int) : Int := bif left then b.2 - p else p - b.1
/-- a number of a line -/
def gI (l : List Int) (j : Nat) : Int := l.getD j 0
def lawStep (b : Int × Int) (left : Bool) (f : List Int) (x : Nat × Int) : List Int := f.set x.1 (gI f x.1 - lawFar b left x.2)
theorem gI_set {f : List Int} {i j : Nat} {v : Int} (h : i ≠ j) : gI (f.set i v) j = gI f j := by
  unfold gI
  rw [List.getD_eq_getElem?_getD, List.getD_eq_getElem?_getD, List.getElem?_set_ne h]
theorem lawStep_fold {b : Int × Int} {left : Bool} : ∀ (l : List (Nat × Int)) (f : List Int), (l.map (·.1)).Nodup → (∀ x ∈ l, gI f x.1 = 0) → l.foldl (lawStep b left) f = l.foldl (fun f x => f.set x.1 (pegCo b left x.2)) f
  | [], f, _, _ => rfl
  | x :: xs, f, hn, h0 => by
    simp only [List.map_cons, List.nodup_cons] at hn
    have e : lawStep b left f x = f.set x.1 (pegCo b left x.2) := by
      unfold lawStep
      rw [h0 x List.mem_cons_self]
      congr 1
      unfold lawFar pegCo
      cases left
      · simp; omega
      · simp; omega
    rw [List.foldl_cons, List.foldl_cons, e]
    exact lawStep_fold xs _ hn.2 fun y hy => by
      rw [gI_set (fun z => hn.1 (by rw [z]; exact List.mem_map_of_mem hy))]
      exact h0 y (List.mem_cons_of_mem _ hy)
theorem fold_set {g : Nat × Int → Int} {j : Nat} {v : Int} : ∀ (l : List (Nat × Int)) (f : List Int), (∀ x ∈ l, x.1 ≠ j) → l.foldl (fun f x => f.set x.1 (g x)) (f.set j v) = (l.foldl (fun f x => f.set x.1 (g x)) f).set j v
  | [], f, _ => rfl
  | x :: xs, f, h => by
    rw [List.foldl_cons, List.foldl_cons, List.set_comm _ _ (Ne.symm (h x List.mem_cons_self))]
    exact fold_set xs _ fun y hy => h y (List.mem_cons_of_mem _ hy)
theorem law_peg_eq {r : Rk} {k : Nat} {load : List (Nat × Int)} {left : Bool} (hn : (load.map (·.1)).Nodup) (hl : ∀ x ∈ load, x.1 < r.t) :
    load.foldl (lawStep (bdOf r k) left) ((List.replicate r.w 0).set (r.t + k) ((bdOf r k).2 - (bdOf r k).1)) = pegF r k load left := by
  rw [lawStep_fold load _ hn fun x hx => ?_, fold_set load _ fun x hx => by have := hl x hx; omega]
  · rfl
  · rw [gI_set (by have := hl x hx; omega)]
    unfold gI
    rw [List.getD_eq_getElem?_getD, List.getElem?_replicate]
    split <;> rfl
theorem lawFold_len {b : Int × Int} {left : Bool} : ∀ (l : List (Nat × Int)) (f : List Int), (l.foldl (lawStep b left) f).length = f.length
  | [], f => rfl
  | x :: xs, f => by rw [List.foldl_cons, lawFold_len xs]; simp [lawStep]
theorem law_wide_rk2 {r : Rk} : callN W (n + 1) f__law_wide [r.d] s = .ok (.int (r.w : Nat)) s := law_wide_rk
theorem l_peg {r : Rk} {k q : Nat} {load : List (Nat × Int)} {left : Bool} (hr : r.ok) (hk : k < r.bs.length) (hq : s[q]? = some (.lst (load.map ldD))) (hn : (load.map (·.1)).Nodup) (hl : ∀ x ∈ load, x.1 < r.t) :
    callN W (n + 2) f__law_peg [r.d, .int (k : Nat), .obj q, wyD left] s = .ok (.obj (s.length + 1)) (s ++ [.lst [.int 0], .lst (intL (pegF r k load left))]) := by
  rw [← law_peg_eq hn hl]
  refine out_eq ?_
  rw [call1 (fd := f__law_peg) rfl rfl, fin_sat]
  have hw := hr.w7
  have hw2 : 1 ≤ r.w := by have := hr.t1; unfold Rk.w; omega
  have hb := ix_board hk
  have hrd : r.d = .tup [.int r.t, .tup (r.bs.map bdD)] := rfl
  have hwd := fun s => law_wide_rk (W := W) (n := n) (s := s) (r := r)
  have e0 : (List.replicate r.w [D.int 0]).flatten = intL (List.replicate r.w 0) := by
    unfold intL
    rw [List.map_replicate]
    generalize r.w = w
    induction w with
    | zero => rfl
    | succ w ih => rw [List.replicate_succ, List.flatten_cons, ih]; rfl
  have g1 : (s ++ [Ob.lst [D.int 0]])[s.length]? = some (.lst [.int 0]) := get_last
  have hm : primL (s ++ [Ob.lst [D.int 0]]) .mul [.obj s.length, .int (r.w : Nat)] = some (intL (List.replicate r.w 0)) := by
    simp only [primL, vL_obj g1, Option.bind_some]
    rw [if_pos, Int.toNat_natCast, e0]
    simp only [Bool.and_eq_true, decide_eq_true_eq, Int.natAbs_natCast, Int.toNat_natCast]
    refine ⟨Nat.ble_eq_true_of_le (by omega), ?_⟩
    rw [sizeLine_eq]
    simp
    omega
  have g2 : (s ++ [Ob.lst [D.int 0], Ob.lst (intL (List.replicate r.w 0))])[s.length + 1]? = some (.lst (intL (List.replicate r.w 0))) := by
    rw [List.getElem?_append_right (by omega)]; simp
  have g3 := setIx_obj (i := r.t + k) (d := .int ((bdOf r k).2 - (bdOf r k).1)) g2 (by rw [intL_len, List.length_replicate]; unfold Rk.w; omega)
  have ec : ((r.t : Int) + (k : Int)) = ((r.t + k : Nat) : Int) := by omega
  have e3 : ∀ y : Ob, (s ++ [Ob.lst [D.int 0], Ob.lst (intL (List.replicate r.w 0))]).set (s.length + 1) y = s ++ [Ob.lst [D.int 0], y] := fun y => by
    rw [List.set_append_right _ _ (by omega)]; simp
  simp only [hrd] at hwd ⊢
  simp [-evSs_cons, evSs_step, seq_sat, so_sat, sat_bind, hb, bdD]
  rw [rest_cons]
  simp [-evSs_cons, evSs_step, seq_sat, so_sat, sat_bind, mkL, hwd, hm]
  rw [rest_cons]
  rw [← ec] at g3
  simp [-evSs_cons, evSs_step, seq_sat, so_sat, sat_bind, g3, e3, intL_set]
  rw [rest_cons, seq_sat]
  have hqn : ∀ y : Ob, (s ++ [Ob.lst [D.int 0], y])[q]? = some (.lst (load.map ldD)) := fun y => get_push2 hq
  refine for_sat2 (src := .seq (.obj q)) (by simp [vS_obj (hqn _)]) ?_
  refine for_walk (xs := load.map ldD) (fun i ρ s' => ∃ o7 o8 o9, ρ = [some (.tup [.int r.t, .tup (r.bs.map bdD)]), some (.int (k : Nat)), some (.obj q), some (wyD left), some (.int (bdOf r k).1), some (.int (bdOf r k).2), some (.obj (s.length + 1)), o7, o8, o9] ∧
      s' = s ++ [.lst [.int 0], .lst (intL ((load.take i).foldl (lawStep (bdOf r k) left) ((List.replicate r.w 0).set (r.t + k) ((bdOf r k).2 - (bdOf r k).1))))])
    (fun i ρ s' h => by obtain ⟨_, _, _, _, rfl⟩ := h; exact walk_obj (hqn _)) ⟨_, _, _, rfl, by simp⟩ ?_ ?_
  · rintro i x ρ s' hx ⟨o7, o8, o9, rfl, rfl⟩
    rw [List.getElem?_map] at hx
    obtain ⟨y, h1, rfl⟩ := Option.map_eq_some_iff.mp hx
    refine ⟨_, rfl, ?_⟩
    have hyt := hl y (List.mem_of_getElem? h1)
    have htk : load.take (i + 1) = load.take i ++ [y] := by rw [List.take_add_one, h1]; rfl
    generalize hf : (load.take i).foldl (lawStep (bdOf r k) left) ((List.replicate r.w 0).set (r.t + k) ((bdOf r k).2 - (bdOf r k).1)) = f
    have hfl : f.length = r.w := by rw [← hf, lawFold_len]; simp
    have hyl : y.1 < f.length := by rw [hfl]; unfold Rk.w; omega
    have g4 : (s ++ [Ob.lst [D.int 0], Ob.lst (intL f)])[s.length + 1]? = some (.lst (intL f)) := by
      rw [List.getElem?_append_right (by omega)]; simp
    have g5 : prim (s ++ [Ob.lst [D.int 0], Ob.lst (intL f)]) .ix [.obj (s.length + 1), .int (y.1 : Nat)] = some (.int (gI f y.1)) := by
      refine ix_obj g4 ?_
      unfold intL gI
      rw [List.getElem?_map, List.getElem?_eq_getElem hyl, List.getD_eq_getElem?_getD, List.getElem?_eq_getElem hyl]
      rfl
    have g6 := fun c : Int => setIx_obj (i := y.1) (d := .int c) g4 (by rw [intL_len]; exact hyl)
    have e6 : ∀ y : Ob, (s ++ [Ob.lst [D.int 0], Ob.lst (intL f)]).set (s.length + 1) y = s ++ [Ob.lst [D.int 0], y] := fun y => by
      rw [List.set_append_right _ _ (by omega)]; simp
    unfold b__law_peg_1
    have fin : lawStep (bdOf r k) left f y = (load.take (i + 1)).foldl (lawStep (bdOf r k) left) ((List.replicate r.w 0).set (r.t + k) ((bdOf r k).2 - (bdOf r k).1)) := by
      rw [htk, List.foldl_append, hf]; rfl
    rw [← fin]
    unfold lawStep lawFar
    cases left with
    | true => simp [-evSs_cons, evSs_step, rest_cons, seq_sat, so_sat, sat_bind, eqv_left, g5, g6, e6, intL_set]
    | false => simp [-evSs_cons, evSs_step, rest_cons, seq_sat, so_sat, sat_bind, eqv_left, g5, g6, e6, intL_set]
  · rintro ρ s' ⟨o7, o8, o9, rfl, rfl⟩
    simp [rest_cons, so_sat, seq_sat]
/-! what the law's lists hold -/
structure Lw (s : Sto) (m a b c d e B : Nat) (t : St) : Prop where
  src : Srce s m
  wh : s[a]? = some (.lst (whD t.wh))
  hg : s[b]? = some (.lst (blD t.hg))
  pr : s[c]? = some (.lst (blD t.pr))
  st : s[d]? = some (.lst (stD t.st))
  ts : ∃ ls : List Nat, s[e]? = some (.lst (ls.map D.obj)) ∧ (∀ i ∈ ls, e < i ∧ ∃ l : List Int, s[i]? = some (.lst (intL l)) ∧ l.length ≤ 7) ∧ ls.length ≤ B
  ord : m < a ∧ a < b ∧ b < c ∧ c < d ∧ d < e
section
variable {m a b c d e B : Nat} {t : St}
theorem Lw.push (h : Lw s m a b c d e B t) (x : Ob) : Lw (s ++ [x]) m a b c d e B t := by
  obtain ⟨⟨u, v, h1, h2⟩, hw, hh, hp, hs, ⟨ls, l1, l2, l3⟩, o⟩ := h
  exact ⟨⟨u, v, get_push h1, h2⟩, get_push hw, get_push hh, get_push hp, get_push hs, ⟨ls, get_push l1, fun i hi => ⟨(l2 i hi).1, let ⟨l, q, z⟩ := (l2 i hi).2; ⟨l, get_push q, z⟩⟩, l3⟩, o⟩
theorem Lw.more (h : Lw s m a b c d e B t) {B' : Nat} (hB : B ≤ B') : Lw s m a b c d e B' t :=
  ⟨h.src, h.wh, h.hg, h.pr, h.st, let ⟨ls, l1, l2, l3⟩ := h.ts; ⟨ls, l1, l2, Nat.le_trans l3 hB⟩, h.ord⟩
theorem Srce.other {j : Nat} {x : Ob} (h : Srce s m) (hj : m ≠ j) : Srce (s.set j x) m := let ⟨u, v, h1, h2⟩ := h; ⟨u, v, get_other hj h1, h2⟩
theorem Lw.setWh (h : Lw s m a b c d e B t) (wh : List Po) : Lw (s.set a (.lst (whD wh))) m a b c d e B { t with wh := wh } := by
  obtain ⟨h0, hw, hh, hp, hs, ⟨ls, l1, l2, l3⟩, o⟩ := h
  exact ⟨h0.other (by omega), get_set hw, get_other (by omega) hh, get_other (by omega) hp, get_other (by omega) hs, ⟨ls, get_other (by omega) l1, fun i hi => ⟨(l2 i hi).1, let ⟨l, q, z⟩ := (l2 i hi).2; ⟨l, get_other (by have := (l2 i hi).1; omega) q, z⟩⟩, l3⟩, o⟩
theorem Lw.setHg (h : Lw s m a b c d e B t) (hg : List Bool) : Lw (s.set b (.lst (blD hg))) m a b c d e B { t with hg := hg } := by
  obtain ⟨h0, hw, hh, hp, hs, ⟨ls, l1, l2, l3⟩, o⟩ := h
  exact ⟨h0.other (by omega), get_other (by omega) hw, get_set hh, get_other (by omega) hp, get_other (by omega) hs, ⟨ls, get_other (by omega) l1, fun i hi => ⟨(l2 i hi).1, let ⟨l, q, z⟩ := (l2 i hi).2; ⟨l, get_other (by have := (l2 i hi).1; omega) q, z⟩⟩, l3⟩, o⟩
theorem Lw.setPr (h : Lw s m a b c d e B t) (pr : List Bool) : Lw (s.set c (.lst (blD pr))) m a b c d e B { t with pr := pr } := by
  obtain ⟨h0, hw, hh, hp, hs, ⟨ls, l1, l2, l3⟩, o⟩ := h
  exact ⟨h0.other (by omega), get_other (by omega) hw, get_other (by omega) hh, get_set hp, get_other (by omega) hs, ⟨ls, get_other (by omega) l1, fun i hi => ⟨(l2 i hi).1, let ⟨l, q, z⟩ := (l2 i hi).2; ⟨l, get_other (by have := (l2 i hi).1; omega) q, z⟩⟩, l3⟩, o⟩
theorem Lw.setSt (h : Lw s m a b c d e B t) (st : List (Nat × Bool)) : Lw (s.set d (.lst (stD st))) m a b c d e B { t with st := st } := by
  obtain ⟨h0, hw, hh, hp, hs, ⟨ls, l1, l2, l3⟩, o⟩ := h
  exact ⟨h0.other (by omega), get_other (by omega) hw, get_other (by omega) hh, get_other (by omega) hp, get_set hs, ⟨ls, get_other (by omega) l1, fun i hi => ⟨(l2 i hi).1, let ⟨l, q, z⟩ := (l2 i hi).2; ⟨l, get_other (by have := (l2 i hi).1; omega) q, z⟩⟩, l3⟩, o⟩
def nowD (a b c d : Nat) : D := .lst [.obj a, .obj b, .obj c, .obj d]
/-- a deed, done on the law's lists -/
theorem l_deed {r : Rk} {x : Dd} (h : Lw s m a b c d e B t) (ht : t.ok r) (hx : x.ok r) : (callN W (n + 1) f__law_deed [nowD a b c d, x.d] s).sat fun _ s' => Lw s' m a b c d e B (plainF t x) := by
  rw [call1 (fd := f__law_deed) rfl rfl, fin_sat]
  have l1 := ht.wh
  have l2 := ht.hg
  have l3 := ht.pr
  cases x with
  | put th k p =>
    obtain ⟨h1, h2, h3⟩ := hx
    have i1 : prim s .ix [.obj b, .int (k : Nat)] = some (.bl (gB t.hg k)) := by rw [p_ix_obj h.hg, ix_bl (by omega)]
    have s1 := fun q : Po => setIx_obj (i := th) (d := q.d) h.wh (by unfold whD; simp; omega)
    have c1 : cutD [D.int (k : Nat), .int p] (some 1) none = [.int p] := rfl
    have s2 := s1 (.on k p)
    have s3 := s1 (.flr p)
    rw [whD_set] at s2 s3
    simp only [Po.d] at s2 s3
    simp [-evSs_cons, evSs_step, rest_cons, seq_sat, so_sat, sat_bind, Dd.d, e_pp, i1, nowD, bnd, slcD, c1]
    cases hq : gB t.hg k with
    | true =>
      simp [-evSs_cons, evSs_step, rest_cons, seq_sat, so_sat, sat_bind, s2, plainF, hq]
      exact h.setWh _
    | false =>
      simp [-evSs_cons, evSs_step, rest_cons, seq_sat, so_sat, sat_bind, s3, plainF, hq]
      exact h.setWh _
  | off th =>
    have s1 := setIx_obj (i := th) (d := Po.off.d) h.wh (by unfold whD; have : th < r.t := hx; simp; omega)
    rw [whD_set] at s1
    simp only [Po.d] at s1
    simp [-evSs_cons, evSs_step, rest_cons, seq_sat, so_sat, sat_bind, Dd.d, e_op, e_oo, nowD, s1, plainF]
    exact h.setWh _
  | prp q k =>
    have hk : k < r.bs.length := hx
    have s1 := fun q : Bool => setIx_obj (i := k) (d := .bl q) h.pr (by unfold blD; simp; omega)
    cases q with
    | true =>
      have s2 := s1 true
      rw [blD_set] at s2
      simp [-evSs_cons, evSs_step, rest_cons, seq_sat, so_sat, sat_bind, Dd.d, e_rp, e_ro, e_rh, e_rr, nowD, s2, plainF]
      exact h.setPr _
    | false =>
      have s2 := s1 false
      rw [blD_set] at s2
      simp [-evSs_cons, evSs_step, rest_cons, seq_sat, so_sat, sat_bind, Dd.d, e_bp, e_bo, e_bh, e_br, nowD, s2, plainF]
      exact h.setPr _
  | hang k =>
    have hk : k < r.bs.length := hx
    have s1 := setIx_obj (i := k) (d := .bl true) h.hg (by unfold blD; simp; omega)
    rw [blD_set] at s1
    simp [-evSs_cons, evSs_step, rest_cons, seq_sat, so_sat, sat_bind, Dd.d, e_hp, e_ho, e_hh, nowD, s1, plainF]
    exact h.setHg _
end
end BS

namespace BS
open PySem
variable {W n : Nat} {s : Sto} {L k : Nat}
theorem l_sumO {i : Nat} {xs ys : List Int} (hi : s[i]? = some (.lst (intL xs))) (hx : ∀ x ∈ xs, x.natAbs < 2 ^ 64) (hl : xs.length ≤ sizeLine) : callN W (n + 1) f__law_sum [.obj i, .tup (intL ys)] s = .ok (.int (dot xs ys)) s := by
  rw [call1 (fd := f__law_sum) rfl rfl]
  have hc : ∀ ρ1 ρ2, evE (gOf W n f__law_sum) c__law_sum_1 [some (.obj i), some (.tup (intL ys)), ρ1, ρ2] s = .ok (.lst (intL (List.zipWith (· * ·) xs ys))) s := fun ρ1 ρ2 => by
    unfold c__law_sum_1
    have hv : vS s (.tup (intL ys)) = some (intL ys) := rfl
    have hI : evI (gOf W n f__law_sum) (.zip (.v 0) (.v 1)) [some (.obj i), some (.tup (intL ys)), ρ1, ρ2] s = .ok (.zip (.obj i) (.tup (intL ys))) s := by simp [vS_obj hi, hv]
    have e0 : List.zipWith (fun x y => D.tup [x, y]) (intL xs) (intL ys) = (xs.zip ys).map fun p : Int × Int => D.tup [.int p.1, .int p.2] := dot_z
    rw [comp_mapW (src := .zip (.obj i) (.tup (intL ys))) (xs := (xs.zip ys).map fun p : Int × Int => D.tup [.int p.1, .int p.2]) (fun d => match d with | .tup [.int u, .int v] => .int (u * v) | d => d) hI (by rw [← e0]; exact walk_zipO hi) (by simp [List.length_zip]; omega) fun x hx2 => ?_]
    · rw [mkL_false, List.map_map]
      congr 2
      unfold intL
      rw [List.zip, List.map_zipWith, List.map_zipWith]
      rfl
    · obtain ⟨p, hp, rfl⟩ := List.mem_map.mp hx2
      refine ⟨_, rfl, ?_⟩
      have h1 := hx p.1 (List.of_mem_zip hp).1
      have h2 : mulOk p.1 p.2 = true := by unfold mulOk; simp [h1]
      simp [wipeE, p_mul_int h2]
  simp [-evSs_cons, evSs_step, hc, dot]
theorem und_obj {i : Nat} {ds : List D} (h : s[i]? = some (.lst ds)) : und s (.obj i) = .lst ds := by simp only [und, h]
theorem eqv_objNil {i : Nat} {ds : List D} {L k : Nat} (h : s[i]? = some (.lst ds)) (ho : okD L k (.lst ds) = true) (hk : k ≤ 64) : eqv s (.obj i) (.lst []) = some ds.isEmpty := by
  rw [← eqv_nilL (s := s) ho hk]
  unfold eqv
  rw [und_obj h]
  rfl
theorem okD_ints {l : List Int} {L : Nat} (h : l.length ≤ L) : okD L 1 (.lst (intL l)) = true := okD_lstI (by simpa using h) fun x hx => by
  obtain ⟨i, _, rfl⟩ := List.mem_map.mp hx
  rfl
/-- whether a line was met ahead, is told -/
theorem in_lines {e i : Nat} {ls : List Nat} {l : List Int} (he : s[e]? = some (.lst (ls.map D.obj))) (hls : ∀ j ∈ ls, e < j ∧ ∃ l : List Int, s[j]? = some (.lst (intL l)) ∧ l.length ≤ 7) (hB : ls.length ≤ 1000) (hi : s[i]? = some (.lst (intL l))) (hl : l.length ≤ 7) :
    ∃ b, inD s (.obj i) (.obj e) = some b := by
  unfold inD
  obtain ⟨p, p1, p2⟩ := okD_shp (okD_ints hl) (by decide)
  have q : ∃ qs, pyDs ((ls.map D.obj).map (und s)) = some qs ∧ SeqAt.shaped (.list qs) = true := by
    have h0 : okD 1000 2 (.lst ((ls.map D.obj).map (und s))) = true := okD_lstI (by simpa using hB) fun x hx => by
      obtain ⟨y, hy, rfl⟩ := List.mem_map.mp hx
      obtain ⟨j, hj, rfl⟩ := List.mem_map.mp hy
      obtain ⟨_, l', h1, h2⟩ := hls j hj
      rw [und_obj h1]
      exact okD_ints (by omega)
    obtain ⟨p, h1, h2⟩ := okD_shp h0 (by decide)
    simp only [pyD, Option.map_eq_some_iff] at h1
    obtain ⟨qs, e1, rfl⟩ := h1
    refine ⟨qs, e1, ?_⟩
    unfold shp at h2
    simp only [pyD, e1, Option.map] at h2
    split at h2
    · assumption
    · cases h2
  obtain ⟨qs, q1, q2⟩ := q
  rw [und_obj hi, p2, vS_obj he]
  dsimp only
  rw [q1]
  dsimp only
  rw [if_pos q2]
  exact ⟨_, rfl⟩
section
variable {m a b c d e B : Nat} {t : St} {r : Rk} {ns : List Int}
def wyO (x : Option Bool) : D := match x with | some w => wyD w | none => .non
theorem l_way {q : Nat} {w : Bool} {A : D} {o9 o10 o11 o12 : Option D} (hr : r.ok) (ht : t.ok r) (hk : k < r.bs.length) (h : Lw s m a b c d e B t) (hB : B ≤ 900) (hq : s[q]? = some (.lst ((loadF t.wh k).map ldD))) (hqe : e < q) (hne : (loadF t.wh k).isEmpty = false) :
    (evSs (gOf W (n + 2) f__law_settle) b__law_settle_1 [some r.d, some (nowD a b c d), some A, some (.tup (intL ns)), some (.obj e), some (.int (k : Nat)), some (.obj q), some .non, some (wyD w), o9, o10, o11, o12] s).sat fun fl s' =>
      ∃ p9 p10, fl = .next [some r.d, some (nowD a b c d), some A, some (.tup (intL ns)), some (.obj e), some (.int (k : Nat)), some (.obj q), some (wyO (if dot (pegF r k (loadF t.wh k) w) ns < 0 then some w else none)), some (wyD w), p9, p10, o11, o12] ∧
        Lw s' m a b c d e (B + 1) t ∧ s'[q]? = some (.lst ((loadF t.wh k).map ldD)) := by
  have t4 := hr.t4
  have l1 := ht.wh
  have ll : (loadF t.wh k).length ≤ 7 := by have := loadF_len t.wh k; omega
  have hol : okD 7 2 (.lst ((loadF t.wh k).map ldD)) = true := okD_lstI (by simpa using ll) fun x hx => by
    obtain ⟨y, _, rfl⟩ := List.mem_map.mp hx
    exact okD_tupI (by simp) fun z hz => by
      simp at hz
      rcases hz with rfl | rfl <;> rfl
  have e1 : eqv s (.obj q) (.lst []) = some false := by rw [eqv_objNil hq hol (by decide)]; rw [List.isEmpty_map, hne]
  have c1 := l_peg (W := W) (n := n) (left := w) hr hk hq (loadF_nodup t.wh k) fun x hx => by have := loadF_mem hx; omega
  generalize hl : pegF r k (loadF t.wh k) w = l at c1 ⊢
  have hll : l.length ≤ 7 := by rw [← hl, pegF_len]; exact hr.w7
  have hls : ∀ x ∈ l, x.natAbs < 2 ^ 64 := fun x hx => by rw [← hl] at hx; have := pegF_small hr ht hk x hx; omega
  have h1 : Lw (s ++ [Ob.lst [D.int 0], Ob.lst (intL l)]) m a b c d e B t := by
    have := (h.push (Ob.lst [D.int 0])).push (Ob.lst (intL l))
    simpa using this
  have g1 : (s ++ [Ob.lst [D.int 0], Ob.lst (intL l)])[s.length + 1]? = some (.lst (intL l)) := by rw [List.getElem?_append_right (by omega)]; simp
  have gq : (s ++ [Ob.lst [D.int 0], Ob.lst (intL l)])[q]? = some (.lst ((loadF t.wh k).map ldD)) := get_push2 hq
  have hel : e < s.length := let ⟨ls, z, _⟩ := h.ts; (List.getElem?_eq_some_iff.mp z).1
  generalize hs1 : s ++ [Ob.lst [D.int 0], Ob.lst (intL l)] = s1 at c1 h1 g1 gq ⊢
  obtain ⟨ls, t1, t2, t3⟩ := h1.ts
  obtain ⟨bq, hbq⟩ := in_lines t1 t2 (by omega) g1 hll
  -- what follows, wherever the lines stand
  have rest1 : ∀ s2 : Sto, Lw s2 m a b c d e (B + 1) t → s2[q]? = some (.lst ((loadF t.wh k).map ldD)) → s2[s.length + 1]? = some (.lst (intL l)) → (rest (gOf W (n + 2) f__law_settle) [
      .ite (.and_ (.pr .isN [.v 3]) (.pr .ge [.pm .index (.v 4) [.v 9], .pr .len [.v 2]])) [.ret (.lit (.bl false))] [],
      .ite (.pr .isN [.v 3]) [.set (.v 10) (.pr .ix [.v 2, .pm .index (.v 4) [.v 9]])] [.set (.v 10) (.pr .ge [.call f__law_sum [.v 9, .v 3], .lit (.int 0)])],
      .set (.v 7) (.ite (.v 10) (.lit (.non)) (.v 8))] [some r.d, some (nowD a b c d), some A, some (.tup (intL ns)), some (.obj e), some (.int (k : Nat)), some (.obj q), some .non, some (wyD w), some (.obj (s.length + 1)), o10, o11, o12] s2).sat fun fl s' =>
      ∃ p9 p10, fl = .next [some r.d, some (nowD a b c d), some A, some (.tup (intL ns)), some (.obj e), some (.int (k : Nat)), some (.obj q), some (wyO (if dot l ns < 0 then some w else none)), some (wyD w), p9, p10, o11, o12] ∧
        Lw s' m a b c d e (B + 1) t ∧ s'[q]? = some (.lst ((loadF t.wh k).map ldD)) := by
    intro s2 h2 q2 i2
    have c2 : callN W (n + 2) f__law_sum [.obj (s.length + 1), .tup (intL ns)] s2 = .ok (.int (dot l ns)) s2 := l_sumO i2 hls (by rw [sizeLine_eq]; omega)
    rw [rest_cons]
    simp [-evSs_cons, evSs_step, seq_sat, so_sat, sat_bind]
    rw [rest_cons]
    simp [-evSs_cons, evSs_step, seq_sat, so_sat, sat_bind, c2]
    rw [rest_cons]
    by_cases hd : dot l ns < 0
    · have hd2 : ¬ 0 ≤ dot l ns := by omega
      simp [-evSs_cons, evSs_step, seq_sat, so_sat, sat_bind, hd, hd2, wyO]
      exact ⟨h2, q2⟩
    · have hd2 : 0 ≤ dot l ns := by omega
      simp [-evSs_cons, evSs_step, seq_sat, so_sat, sat_bind, hd, hd2, wyO]
      exact ⟨h2, q2⟩
  unfold b__law_settle_1
  simp [-evSs_cons, evSs_step, seq_sat, so_sat, sat_bind, e1, c1]
  rw [rest_cons]
  simp [-evSs_cons, evSs_step, seq_sat, so_sat, sat_bind, hbq]
  cases bq with
  | true =>
    simp [-evSs_cons, evSs_step, seq_sat, so_sat, sat_bind]
    refine (rest1 s1 (h1.more (by omega)) gq g1).mono fun fl s' hh => ?_
    cases fl <;> simpa using hh
  | false =>
    have pa := p_append (d := .obj (s.length + 1)) t1 (by rw [List.length_map, sizeLine_eq]; omega)
    simp [-evSs_cons, evSs_step, seq_sat, so_sat, sat_bind, isObj_of t1, pa]
    have hd := h1.ord
    have q := rest1 (s1.set e (.lst (ls.map D.obj ++ [.obj (s.length + 1)]))) ?_ (get_other (by omega) gq) (get_other (by omega) g1)
    · refine q.mono fun fl s' hh => ?_
      cases fl <;> simpa using hh
    · refine ⟨h1.src.other (by omega), get_other (by omega) h1.wh, get_other (by omega) h1.hg, get_other (by omega) h1.pr, get_other (by omega) h1.st, ⟨ls ++ [s.length + 1], ?_, ?_, by simp; omega⟩, hd⟩
      · rw [get_set t1]; simp
      · intro j hj
        rcases List.mem_append.mp hj with hj | hj
        · obtain ⟨z1, l', z2, z3⟩ := t2 j hj
          exact ⟨z1, l', get_other (by omega) z2, z3⟩
        · rw [List.mem_singleton.mp hj]
          exact ⟨by omega, l, get_other (by omega) g1, hll⟩
/-- a look that does nothing -/
theorem l_skip {w : Bool} {A x y : D} {o9 o10 o11 o12 : Option D} (h : y ≠ .non ∨ (y = .non ∧ eqv s x (.lst []) = some true)) :
    evSs (gOf W (n + 2) f__law_settle) b__law_settle_1 [some r.d, some (nowD a b c d), some A, some (.tup (intL ns)), some (.obj e), some (.int (k : Nat)), some x, some y, some (wyD w), o9, o10, o11, o12] s =
      .fl (.next [some r.d, some (nowD a b c d), some A, some (.tup (intL ns)), some (.obj e), some (.int (k : Nat)), some x, some y, some (wyD w), o9, o10, o11, o12]) s := by
  unfold b__law_settle_1
  rcases h with h | ⟨rfl, h⟩
  · cases y <;> first | exact absurd rfl h | simp [-evSs_cons, evSs_step]
  · simp [-evSs_cons, evSs_step, h]
end
end BS

namespace BS
open PySem
variable {W n : Nat} {s : Sto} {L k : Nat}
section
variable {m a b c d e B : Nat} {t : St} {r : Rk} {ns : List Int}
/-- whether a shelf breaks -/
def brkAt (r : Rk) (ns : List Int) (t : St) (k : Nat) : Option Bool := ((pegsAt r t k).find? fun x => decide (dot x.2 ns < 0)).map (·.1.2)
theorem brkAt_no (h : (gB t.hg k && !gB t.pr k && !(loadF t.wh k).isEmpty) = false) : brkAt r ns t k = none := by
  unfold brkAt pegsAt
  rw [if_neg (by rw [h]; exact Bool.false_ne_true)]
  rfl
theorem brkAt_yes (h : (gB t.hg k && !gB t.pr k && !(loadF t.wh k).isEmpty) = true) : brkAt r ns t k = if dot (pegF r k (loadF t.wh k) true) ns < 0 then some true else if dot (pegF r k (loadF t.wh k) false) ns < 0 then some false else none := by
  unfold brkAt pegsAt
  rw [if_pos h, List.find?_cons, List.find?_cons]
  by_cases h1 : dot (pegF r k (loadF t.wh k) true) ns < 0 <;> by_cases h2 : dot (pegF r k (loadF t.wh k) false) ns < 0 <;> simp [h1, h2]
theorem brk_at : brk r ns t = (List.range r.bs.length).findSome? fun k => (brkAt r ns t k).map fun w => (k, w) := by
  unfold brk pegsF
  rw [List.find?_flatMap]
  have : ∀ l : List Nat, (l.findSome? fun x => (pegsAt r t x).find? fun x => decide (dot x.2 ns < 0)).map (·.1) = l.findSome? fun k => (brkAt r ns t k).map fun w => (k, w) := by
    intro l
    induction l with
    | nil => rfl
    | cons x xs ih =>
      rw [List.findSome?_cons, List.findSome?_cons]
      cases h : (pegsAt r t x).find? fun x => decide (dot x.2 ns < 0) with
      | none =>
        have e : brkAt r ns t x = none := by unfold brkAt; rw [h]; rfl
        rw [e]
        exact ih
      | some y =>
        have e : brkAt r ns t x = some y.1.2 := by unfold brkAt; rw [h]; rfl
        have := pegsAt_mem (List.mem_of_find?_eq_some h)
        rw [e]
        show some y.1 = some (x, y.1.2)
        rw [← this.1]
  exact this _
/-- both pegs of a shelf looked at -/
theorem l_ways {x : D} {A : D} {o8 o9 o10 o11 o12 : Option D} (hr : r.ok) (ht : t.ok r) (hk : k < r.bs.length) (h : Lw s m a b c d e B t) (hB : B ≤ 800)
    (hx : (∃ q, x = .obj q ∧ e < q ∧ s[q]? = some (.lst ((loadF t.wh k).map ldD)) ∧ (gB t.hg k && !gB t.pr k) = true) ∨ (x = .lst [] ∧ (gB t.hg k && !gB t.pr k) = false)) :
    (evS (gOf W (n + 2) f__law_settle) (.for_ (.v 8) (.e (.lst false [.lit (.str "left"), .lit (.str "right")])) b__law_settle_1) [some r.d, some (nowD a b c d), some A, some (.tup (intL ns)), some (.obj e), some (.int (k : Nat)), some x, some .non, o8, o9, o10, o11, o12] s).sat fun fl s' =>
      ∃ p8 p9 p10, fl = .next [some r.d, some (nowD a b c d), some A, some (.tup (intL ns)), some (.obj e), some (.int (k : Nat)), some x, some (wyO (brkAt r ns t k)), p8, p9, p10, o11, o12] ∧
        Lw s' m a b c d e (B + 2) t ∧ (∀ q, x = .obj q → s'[q]? = some (.lst ((loadF t.wh k).map ldD))) := by
  have t4 := hr.t4
  have l1 := ht.wh
  have ll : (loadF t.wh k).length ≤ 7 := by have := loadF_len t.wh k; omega
  have hol : okD 7 2 (.lst ((loadF t.wh k).map ldD)) = true := okD_lstI (by simpa using ll) fun x hx => by
    obtain ⟨y, _, rfl⟩ := List.mem_map.mp hx
    exact okD_tupI (by simp) fun z hz => by
      simp at hz
      rcases hz with rfl | rfl <;> rfl
  rw [evS_forG (xs := [wyD true, wyD false]) (gv_lst rfl)]
  -- nothing lies there
  have idle : eqv s x (.lst []) = some true → (gB t.hg k && !gB t.pr k && !(loadF t.wh k).isEmpty) = false → (∀ q, x = .obj q → s[q]? = some (.lst ((loadF t.wh k).map ldD))) → (forItems (.v 8) (fun ρ s => evSs (gOf W (n + 2) f__law_settle) b__law_settle_1 ρ s) [wyD true, wyD false] [some r.d, some (nowD a b c d), some A, some (.tup (intL ns)), some (.obj e), some (.int (k : Nat)), some x, some .non, o8, o9, o10, o11, o12] s).sat fun fl s' =>
      ∃ p8 p9 p10, fl = .next [some r.d, some (nowD a b c d), some A, some (.tup (intL ns)), some (.obj e), some (.int (k : Nat)), some x, some (wyO (brkAt r ns t k)), p8, p9, p10, o11, o12] ∧
        Lw s' m a b c d e (B + 2) t ∧ (∀ q, x = .obj q → s'[q]? = some (.lst ((loadF t.wh k).map ldD))) := by
    intro h1 h2 h3
    have e1 := fun (w : Bool) (o9 o10 o11 o12 : Option D) => l_skip (W := W) (n := n) (s := s) (a := a) (b := b) (c := c) (d := d) (e := e) (r := r) (ns := ns) (k := k) (w := w) (A := A) (x := x) (y := .non) (o9 := o9) (o10 := o10) (o11 := o11) (o12 := o12) (.inr ⟨rfl, h1⟩)
    simp only [forItems, asg_v, List.set_cons_succ, List.set_cons_zero, e1, ssat_fl]
    rw [brkAt_no h2]
    exact ⟨_, _, _, rfl, h.more (by omega), h3⟩
  rcases hx with ⟨q, rfl, hqe, hq, hgp⟩ | ⟨rfl, hgp⟩
  · have hq' : ∀ (q' : Nat) (s' : Sto), D.obj q = .obj q' → s'[q]? = some (Ob.lst ((loadF t.wh k).map ldD)) → s'[q']? = some (Ob.lst ((loadF t.wh k).map ldD)) := fun q' s' z y => by cases z; exact y
    cases hne : (loadF t.wh k).isEmpty with
    | true =>
      refine idle (by rw [eqv_objNil hq hol (by decide), List.isEmpty_map, hne]) (by rw [hne]; simp) fun q' z => hq' q' s z hq
    | false =>
      have hyes : (gB t.hg k && !gB t.pr k && !(loadF t.wh k).isEmpty) = true := by rw [hgp, hne]; rfl
      rw [brkAt_yes hyes]
      have w1 := l_way (W := W) (n := n) (ns := ns) (w := true) (A := A) (o9 := o9) (o10 := o10) (o11 := o11) (o12 := o12) hr ht hk h (by omega) hq hqe hne
      cases ho1 : evSs (gOf W (n + 2) f__law_settle) b__law_settle_1 [some r.d, some (nowD a b c d), some A, some (.tup (intL ns)), some (.obj e), some (.int (k : Nat)), some (.obj q), some .non, some (wyD true), o9, o10, o11, o12] s with
      | fl f1 s1 =>
        rw [ho1] at w1
        obtain ⟨p9, p10, rfl, h1, q1⟩ := w1
        simp only [forItems, asg_v, List.set_cons_succ, List.set_cons_zero, ho1]
        by_cases d1 : dot (pegF r k (loadF t.wh k) true) ns < 0
        · have e1 := l_skip (W := W) (n := n) (s := s1) (a := a) (b := b) (c := c) (d := d) (e := e) (r := r) (ns := ns) (k := k) (w := false) (A := A) (x := .obj q) (y := wyD true) (o9 := p9) (o10 := p10) (o11 := o11) (o12 := o12) (.inl (fun z => nomatch z))
          simp only [d1, if_true, wyO, e1, ssat_fl]
          exact ⟨_, _, _, rfl, h1.more (by omega), fun q' z => hq' q' s1 z q1⟩
        · have w2 := l_way (W := W) (n := n) (ns := ns) (w := false) (A := A) (o9 := p9) (o10 := p10) (o11 := o11) (o12 := o12) hr ht hk h1 (by omega) q1 hqe hne
          simp only [d1, if_false, wyO]
          cases ho2 : evSs (gOf W (n + 2) f__law_settle) b__law_settle_1 [some r.d, some (nowD a b c d), some A, some (.tup (intL ns)), some (.obj e), some (.int (k : Nat)), some (.obj q), some .non, some (wyD false), p9, p10, o11, o12] s1 with
          | fl f2 s2 =>
            rw [ho2] at w2
            obtain ⟨u9, u10, rfl, h2, q2⟩ := w2
            exact ⟨_, _, _, rfl, h2.more (by omega), fun q' z => hq' q' s2 z q2⟩
          | ex => rw [ho2] at w2; exact w2.elim
          | no => rw [ho2] at w2; exact w2.elim
      | ex => rw [ho1] at w1; exact w1.elim
      | no => rw [ho1] at w1; exact w1.elim
  · exact idle (by rw [eqv_nilL (L := 7) (k := 1) (by rfl) (by decide)]; rfl) (by rw [hgp]; rfl) fun q z => nomatch z
theorem stD_snoc {l : List (Nat × Bool)} {x : Nat × Bool} : stD l ++ [brD x] = stD (l ++ [x]) := by simp [stD]
/-- all that lay there falls -/
theorem l_falls {q : Nat} {load : List (Nat × Int)} {A y : D} {o8 o9 o10 o11 o12 : Option D} (hr : r.ok) (hh : t.hg.length = r.bs.length) (hw : t.wh.length = r.t) (hk : k < r.bs.length) (h : Lw s m a b c d e B t) (hq : s[q]? = some (.lst (load.map ldD))) (hqe : e < q) (hl : ∀ x ∈ load, x.1 < r.t) :
    (evS (gOf W (n + 2) f__law_settle) (.for_ (.tup [.v 11, .v 12]) (.e (.v 6)) b__law_settle_2) [some r.d, some (nowD a b c d), some A, some (.tup (intL ns)), some (.obj e), some (.int ((k : Int) + 1)), some (.obj q), some y, o8, o9, o10, o11, o12] s).sat fun fl s' =>
      ∃ p11 p12, fl = .next [some r.d, some (nowD a b c d), some A, some (.tup (intL ns)), some (.obj e), some (.int ((k : Int) + 1)), some (.obj q), some y, o8, o9, o10, p11, p12] ∧
        Lw s' m a b c d e B { t with wh := load.foldl (fun wh x => wh.set x.1 (fallF r t.hg k x.2)) t.wh } := by
  have t4 := hr.t4
  refine for_sat2 (src := .seq (.obj q)) (by simp [vS_obj hq]) ?_
  refine for_walk (xs := load.map ldD) (fun i ρ s' => ∃ p11 p12, ρ = [some r.d, some (nowD a b c d), some A, some (.tup (intL ns)), some (.obj e), some (.int ((k : Int) + 1)), some (.obj q), some y, o8, o9, o10, p11, p12] ∧
      Lw s' m a b c d e B { t with wh := (load.take i).foldl (fun wh x => wh.set x.1 (fallF r t.hg k x.2)) t.wh } ∧ s'[q]? = some (.lst (load.map ldD)))
    (fun i ρ s' h => by obtain ⟨_, _, _, _, h⟩ := h; exact walk_obj h) ⟨_, _, rfl, h, hq⟩ ?_ ?_
  · rintro i x ρ s' hx ⟨p11, p12, rfl, h', hq'⟩
    rw [List.getElem?_map] at hx
    obtain ⟨y, h1, rfl⟩ := Option.map_eq_some_iff.mp hx
    refine ⟨_, rfl, ?_⟩
    have hyt := hl y (List.mem_of_getElem? h1)
    have htk : load.take (i + 1) = load.take i ++ [y] := by rw [List.take_add_one, h1]; rfl
    have c1 := l_fall (W := W) (n := n + 1) (s := s') (r := r) (k := k) (p := y.2) h'.hg hh hk
    dsimp only at c1
    have hlen : ((load.take i).foldl (fun wh x => wh.set x.1 (fallF r t.hg k x.2)) t.wh).length = r.t := by
      rw [foldP_len (fun x : Nat × Int => x.1) (fun x => fallF r t.hg k x.2)]; exact hw
    have x1 := setIx_obj (i := y.1) (d := (fallF r t.hg k y.2).d) h'.wh (by unfold whD; rw [List.length_map]; dsimp only; omega)
    rw [whD_set] at x1
    have ek : (k : Int) + 1 - 1 = (k : Int) := by omega
    have h2 := h'.setWh (((load.take i).foldl (fun wh x => wh.set x.1 (fallF r t.hg k x.2)) t.wh).set y.1 (fallF r t.hg k y.2))
    have ord := h.ord
    unfold b__law_settle_2
    simp [-evSs_cons, evSs_step, seq_sat, so_sat, sat_bind, nowD, ek, c1, x1]
    rw [htk, List.foldl_append]
    exact ⟨h2, get_other (by omega) hq'⟩
  · rintro ρ s' ⟨p11, p12, rfl, h', hq'⟩
    rw [List.length_map, List.take_length] at h'
    exact ⟨_, _, rfl, h'⟩
/-- one shelf looked at -/
theorem l_turn {A : D} {o6 o7 o8 o9 o10 o11 o12 : Option D} (hr : r.ok) (ht : t.ok r) (hk : k < r.bs.length) (h : Lw s m a b c d e B t) (hB : B ≤ 800) (hst : t.st.length ≤ 900) :
    (evSs (gOf W (n + 2) f__law_settle) b__law_settle_3 [some r.d, some (nowD a b c d), some A, some (.tup (intL ns)), some (.obj e), some (.int (k : Nat)), o6, o7, o8, o9, o10, o11, o12] s).sat fun fl s' =>
      ∃ p6 p7 p8 p9 p10 p11 p12, fl = .next [some r.d, some (nowD a b c d), some A, some (.tup (intL ns)), some (.obj e), some (.int ((match brkAt r ns t k with | none => k + 1 | some _ => 0 : Nat) : Int)), p6, p7, p8, p9, p10, p11, p12] ∧
        Lw s' m a b c d e (B + 2) (match brkAt r ns t k with | none => t | some w => brokenF r t k w) := by
  have t4 := hr.t4
  have l1 := ht.wh
  have l2 := ht.hg
  have l3 := ht.pr
  have ll : (loadF t.wh k).length ≤ 7 := by have := loadF_len t.wh k; omega
  have c1 := l_load (W := W) (n := n + 1) (k := k) h.wh (by omega)
  have i1 : prim (s ++ [Ob.lst ((loadF t.wh k).map ldD)]) .ix [.obj b, .int (k : Nat)] = some (.bl (gB t.hg k)) := by rw [p_ix_obj (get_push h.hg), ix_bl (by omega)]
  have i2 : prim (s ++ [Ob.lst ((loadF t.wh k).map ldD)]) .ix [.obj c, .int (k : Nat)] = some (.bl (gB t.pr k)) := by rw [p_ix_obj (get_push h.pr), ix_bl (by omega)]
  have h1 := h.push (Ob.lst ((loadF t.wh k).map ldD))
  have hel : e < s.length := let ⟨ls, z, _⟩ := h.ts; (List.getElem?_eq_some_iff.mp z).1
  have gq : (s ++ [Ob.lst ((loadF t.wh k).map ldD)])[s.length]? = some (.lst ((loadF t.wh k).map ldD)) := get_last
  generalize hs1 : s ++ [Ob.lst ((loadF t.wh k).map ldD)] = s1 at *
  -- behind the looks
  have behind : ∀ x : D, ((∃ q, x = .obj q ∧ e < q ∧ s1[q]? = some (.lst ((loadF t.wh k).map ldD)) ∧ (gB t.hg k && !gB t.pr k) = true) ∨ (x = .lst [] ∧ (gB t.hg k && !gB t.pr k) = false)) →
      (rest (gOf W (n + 2) f__law_settle) [
        .for_ (.v 8) (.e (.lst false [.lit (.str "left"), .lit (.str "right")])) b__law_settle_1,
        .set (.v 5) (.pr .add [.v 5, .lit (.int 1)]),
        .ite (.pr .notN [.v 7]) [
          .setIx (.pr .ix [.v 1, .lit (.int 1)]) (.pr .sub [.v 5, .lit (.int 1)]) (.lit (.bl false)),
          .ex (.pm .append (.pr .ix [.v 1, .lit (.int 3)]) [.tup [.pr .sub [.v 5, .lit (.int 1)], .v 7]]),
          .for_ (.tup [.v 11, .v 12]) (.e (.v 6)) b__law_settle_2,
          .set (.v 5) (.lit (.int 0))] []] [some r.d, some (nowD a b c d), some A, some (.tup (intL ns)), some (.obj e), some (.int (k : Nat)), some x, some .non, o8, o9, o10, o11, o12] s1).sat fun fl s' =>
      ∃ p6 p7 p8 p9 p10 p11 p12, fl = .next [some r.d, some (nowD a b c d), some A, some (.tup (intL ns)), some (.obj e), some (.int ((match brkAt r ns t k with | none => k + 1 | some _ => 0 : Nat) : Int)), p6, p7, p8, p9, p10, p11, p12] ∧
        Lw s' m a b c d e (B + 2) (match brkAt r ns t k with | none => t | some w => brokenF r t k w) := by
    intro x hx
    rw [rest_cons, seq_sat]
    refine (l_ways (W := W) (n := n) (ns := ns) (A := A) (o8 := o8) (o9 := o9) (o10 := o10) (o11 := o11) (o12 := o12) hr ht hk h1 hB hx).mono fun fl s2 hh => ?_
    obtain ⟨p8, p9, p10, rfl, h2, q2⟩ := hh
    dsimp only
    rw [rest_cons]
    simp [-evSs_cons, evSs_step, seq_sat, so_sat, sat_bind]
    rw [rest_cons]
    cases hb : brkAt r ns t k with
    | none =>
      simp [-evSs_cons, evSs_step, seq_sat, so_sat, sat_bind, wyO]
      exact h2
    | some w =>
      have hyes : (gB t.hg k && !gB t.pr k && !(loadF t.wh k).isEmpty) = true := by
        cases hc : (gB t.hg k && !gB t.pr k && !(loadF t.wh k).isEmpty) with
        | true => rfl
        | false => rw [brkAt_no hc] at hb; cases hb
      obtain ⟨q, rfl, hqe, hq, hgp⟩ : ∃ q, x = .obj q ∧ e < q ∧ s1[q]? = some (.lst ((loadF t.wh k).map ldD)) ∧ (gB t.hg k && !gB t.pr k) = true := by
        rcases hx with hx | ⟨_, hx⟩
        · exact hx
        · rw [hx] at hyes; cases hyes
      have gq2 := q2 q rfl
      have x1 := setIx_obj (i := k) (d := .bl false) h2.hg (by unfold blD; simp; omega)
      rw [blD_set] at x1
      have h3 := h2.setHg (t.hg.set k false)
      have ord := h2.ord
      have gq3 : (s2.set b (.lst (blD (t.hg.set k false))))[q]? = some (.lst ((loadF t.wh k).map ldD)) := get_other (by omega) gq2
      have y1 := p_append (d := .tup [.int (k : Nat), wyD w]) h3.st (by simp [stD, sizeLine_eq]; omega)
      have y2 : stD t.st ++ [D.tup [.int (k : Nat), wyD w]] = stD (t.st ++ [(k, w)]) := stD_snoc (x := (k, w))
      dsimp only at y1
      rw [y2] at y1
      have h4 := h3.setSt (t.st ++ [(k, w)])
      have gq4 : ((s2.set b (.lst (blD (t.hg.set k false)))).set d (.lst (stD (t.st ++ [(k, w)]))))[q]? = some (.lst ((loadF t.wh k).map ldD)) := get_other (by omega) gq3
      have io := isObj_of h3.st
      have ek : (k : Int) + 1 - 1 = (k : Int) := by omega
      have fin := l_falls (t := ⟨t.wh, t.hg.set k false, t.pr, t.st ++ [(k, w)]⟩) (load := loadF t.wh k) (W := W) (n := n) (ns := ns) (A := A) (y := wyD w) (o8 := p8) (o9 := p9) (o10 := p10) (o11 := o11) (o12 := o12) hr (by simpa using l2) l1 hk h4 gq4 hqe fun x hx => by have := loadF_mem hx; omega
      have hnn : prim s2 .notN [wyD w] = some (.bl true) := rfl
      simp [-p_notN, -evSs_cons, evSs_step, seq_sat, so_sat, sat_bind, wyO, hnn, nowD, ek, x1]
      rw [rest_cons]
      simp [-p_notN, -evSs_cons, evSs_step, seq_sat, so_sat, sat_bind, ek, io, y1]
      rw [rest_cons, seq_sat]
      refine fin.mono fun fl s' hh => ?_
      obtain ⟨p11, p12, rfl, hh⟩ := hh
      simp [rest_cons, nowD, brokenF]
      exact hh
  unfold b__law_settle_3
  simp [-evSs_cons, evSs_step, seq_sat, so_sat, sat_bind, nowD, c1]
  rw [rest_cons]
  simp [-evSs_cons, evSs_step, seq_sat, so_sat, sat_bind, i1, i2]
  have fin : ∀ x : D, ((∃ q, x = .obj q ∧ e < q ∧ s1[q]? = some (.lst ((loadF t.wh k).map ldD)) ∧ (gB t.hg k && !gB t.pr k) = true) ∨ (x = .lst [] ∧ (gB t.hg k && !gB t.pr k) = false)) → _ := fun x hx => (behind x hx).mono fun fl s' hh => (show (∃ x x_1 x_2 x_3 x_4 x_5 x_6, fl = Flow.next [some r.d, some (D.lst [D.obj a, D.obj b, D.obj c, D.obj d]), some A, some (D.tup (intL ns)), some (D.obj e), some (D.int ((match brkAt r ns t k with | none => k + 1 | some _ => 0 : Nat) : Int)), x, x_1, x_2, x_3, x_4, x_5, x_6]) ∧
      Lw s' m a b c d e (B + 2) (match brkAt r ns t k with | none => t | some w => brokenF r t k w) from by
    obtain ⟨p6, p7, p8, p9, p10, p11, p12, rfl, hh⟩ := hh
    exact ⟨⟨_, _, _, _, _, _, _, rfl⟩, hh⟩)
  cases q1 : gB t.hg k with
  | true =>
    cases q2 : gB t.pr k with
    | true => simp only [ifB_true]; exact fin (.lst []) (.inr ⟨rfl, by rw [q1, q2]; rfl⟩)
    | false => simp only [ifB_true, ifB_false]; exact fin (.obj s.length) (.inl ⟨_, rfl, hel, gq, by rw [q1, q2]; rfl⟩)
  | false => simp only [ifB_false]; exact fin (.lst []) (.inr ⟨rfl, by rw [q1]; rfl⟩)
/-- the looks until nothing breaks -/
theorem l_loop {A : D} (hr : r.ok) (j : Nat) : ∀ {K k B : Nat} {t : St} {s : Sto} {o6 o7 o8 o9 o10 o11 o12 : Option D}, hgN t * (r.bs.length + 1) + (r.bs.length - k) ≤ j → j + 1 ≤ K → k ≤ r.bs.length → t.ok r → (∀ i, i < k → brkAt r ns t i = none) → Lw s m a b c d e B t → B + 2 * j ≤ 800 → t.st.length + j ≤ 900 →
    (whileLoop (fun ρ s => evE (gOf W (n + 2) f__law_settle) (.pr .lt [.v 5, .pr .len [.pr .ix [.v 0, .lit (.int 1)]]]) ρ s) (fun ρ s => evSs (gOf W (n + 2) f__law_settle) b__law_settle_3 ρ s) K [some r.d, some (nowD a b c d), some A, some (.tup (intL ns)), some (.obj e), some (.int (k : Nat)), o6, o7, o8, o9, o10, o11, o12] s).sat fun fl s' =>
      ∃ ρ', fl = .next ρ' ∧ Lw s' m a b c d e (B + 2 * j) (settleN r ns (hgN t) t) := by
  induction j with
  | zero =>
    intro K k B t s o6 o7 o8 o9 o10 o11 o12 hj hK hk ht hno h hB hst
    have hkn : k = r.bs.length := by omega
    have h0 : hgN t = 0 := by
      cases hq : hgN t with
      | zero => rfl
      | succ q => rw [hq, Nat.succ_mul] at hj; omega
    match K, hK with
    | K + 1, _ =>
      have hrd : r.d = .tup [.int r.t, .tup (r.bs.map bdD)] := rfl
      simp [whileLoop, hrd, hkn]
      rw [h0]
      exact h.more (by omega)
  | succ j ih =>
    intro K k B t s o6 o7 o8 o9 o10 o11 o12 hj hK hk ht hno h hB hst
    match K, hK with
    | K + 1, hK =>
      have hrd : r.d = .tup [.int r.t, .tup (r.bs.map bdD)] := rfl
      by_cases hkn : k < r.bs.length
      · have hc : evE (gOf W (n + 2) f__law_settle) (.pr .lt [.v 5, .pr .len [.pr .ix [.v 0, .lit (.int 1)]]]) [some r.d, some (nowD a b c d), some A, some (.tup (intL ns)), some (.obj e), some (.int (k : Nat)), o6, o7, o8, o9, o10, o11, o12] s = .ok (.bl true) s := by
          simp [hrd, hkn]
        have w := l_turn (W := W) (n := n) (ns := ns) (A := A) (o6 := o6) (o7 := o7) (o8 := o8) (o9 := o9) (o10 := o10) (o11 := o11) (o12 := o12) hr ht hkn h (by omega) (by omega)
        unfold whileLoop
        rw [hc]
        simp only [so_ok, truD_bl]
        cases ho : evSs (gOf W (n + 2) f__law_settle) b__law_settle_3 [some r.d, some (nowD a b c d), some A, some (.tup (intL ns)), some (.obj e), some (.int (k : Nat)), o6, o7, o8, o9, o10, o11, o12] s with
        | ex => rw [ho] at w; exact w.elim
        | no => rw [ho] at w; exact w.elim
        | fl f s1 =>
          rw [ho] at w
          obtain ⟨p6, p7, p8, p9, p10, p11, p12, rfl, h1⟩ := w
          dsimp only
          cases hb : brkAt r ns t k with
          | none =>
            rw [hb] at h1
            dsimp only at h1 ⊢
            refine (ih (K := K) (k := k + 1) (by omega) (by omega) hkn ht (fun i hi => ?_) h1 (by omega) (by omega)).mono fun fl s' hh => ?_
            · rcases Nat.lt_succ_iff_lt_or_eq.mp hi with hi | rfl
              · exact hno i hi
              · exact hb
            · obtain ⟨ρ', e1, e2⟩ := hh
              exact ⟨ρ', e1, e2.more (by omega)⟩
          | some w =>
            rw [hb] at h1
            dsimp only at h1 ⊢
            have hbrk : brk r ns t = some (k, w) := by
              rw [brk_at]
              have e : List.range r.bs.length = List.range k ++ k :: List.range' (k + 1) (r.bs.length - (k + 1)) := by
                have h2 := List.range'_append_1 (s := 0) (m := k) (n := r.bs.length - k)
                rw [Nat.zero_add] at h2
                rw [List.range_eq_range', List.range_eq_range']
                rw [show r.bs.length = k + (r.bs.length - k) by omega, ← h2]
                congr 1
                rw [show k + (r.bs.length - k) - (k + 1) = r.bs.length - k - 1 by omega]
                rw [show r.bs.length - k = (r.bs.length - k - 1) + 1 by omega, List.range'_succ]
                congr 2
              rw [e, List.findSome?_append]
              have e2 : ((List.range k).findSome? fun k => (brkAt r ns t k).map fun w => (k, w)) = none := by
                rw [List.findSome?_eq_none_iff]
                intro i hi
                rw [hno i (by simpa using hi)]
                rfl
              rw [e2, List.findSome?_cons, hb]
              rfl
            have hg := brokenF_hgN (r := r) (left := w) (brk_some hbrk).2
            have hle := hgN_le ht
            have h3 : (brokenF r t k w).st.length = t.st.length + 1 := by simp [brokenF]
            dsimp only at hg
            have hm : hgN (brokenF r t k w) * (r.bs.length + 1) + (r.bs.length - 0) ≤ j := by
              have : hgN t * (r.bs.length + 1) = hgN (brokenF r t k w) * (r.bs.length + 1) + (r.bs.length + 1) := by rw [← hg, Nat.succ_mul]
              omega
            refine (ih (K := K) (k := 0) hm (by omega) (Nat.zero_le _) (brokenF_ok hr ht) (fun i hi => absurd hi (Nat.not_lt_zero _)) h1 (by omega) (by omega)).mono fun fl s' hh => ?_
            obtain ⟨ρ', e1, e2⟩ := hh
            refine ⟨ρ', e1, ?_⟩
            have e3 : settleN r ns (hgN t) t = settleN r ns (hgN (brokenF r t k w)) (brokenF r t k w) := by
              rw [← hg]
              simp only [settleN, hbrk]
            rw [e3]
            exact e2.more (by omega)
      · have hkn : k = r.bs.length := by omega
        have hbrk : brk r ns t = none := by
          rw [brk_at, List.findSome?_eq_none_iff]
          intro i hi
          rw [hno i (by rw [hkn]; simpa using hi)]
          rfl
        have e3 : settleN r ns (hgN t) t = t := by
          cases hgN t with
          | zero => rfl
          | succ q => simp only [settleN, hbrk]
        simp [whileLoop, hrd, hkn, e3]
        exact h.more (by omega)
theorem l_settle {A : D} (hW : 20 ≤ W) (hr : r.ok) (ht : t.ok r) (h : Lw s m a b c d e B t) (hB : B ≤ 700) (hst : t.st.length ≤ 800) : (callN W (n + 3) f__law_settle [r.d, nowD a b c d, A, .tup (intL ns), .obj e] s).sat fun v s' => v = .bl true ∧ Lw s' m a b c d e (B + 40) (settleF r ns t) := by
  rw [call1 (fd := f__law_settle) rfl rfl, fin_sat]
  have b3 := hr.b3
  have hle := hgN_le ht
  have hj : hgN t * (r.bs.length + 1) + (r.bs.length - 0) ≤ 15 := by
    have : hgN t * (r.bs.length + 1) ≤ 3 * 4 := Nat.mul_le_mul (by omega) (by omega)
    omega
  simp [-evSs_cons, -evS_while, evSs_step, seq_sat, so_sat, sat_bind]
  rw [rest_cons, seq_sat, evS_while]
  refine (l_loop (W := W) (n := n) (ns := ns) (A := A) hr 15 (K := W) (k := 0) (o6 := none) (o7 := none) (o8 := none) (o9 := none) (o10 := none) (o11 := none) (o12 := none) hj (by omega) (Nat.zero_le _) ht (fun i hi => absurd hi (Nat.not_lt_zero _)) h (by omega) (by omega)).mono fun fl s' hh => ?_
  obtain ⟨ρ', rfl, h1⟩ := hh
  have e : settleF r ns t = settleN r ns (hgN t) t := settleN_more _ _ (hgN_le ht) (Nat.le_refl _)
  rw [e]
  simp [rest_cons, so_sat, seq_sat]
  exact h1.more (by omega)
end
end BS

namespace BS
open PySem
variable {W n : Nat} {s : Sto} {L k : Nat}
theorem eqv_same {d : D} {L k : Nat} (h : okD L k d = true) (hk : k ≤ 64) : eqv s d d = some true := by
  obtain ⟨p, h1, h2, _⟩ := okD_py h
  rw [eqvOk h h hk h1 h1]
  congr 1
  exact SeqAt.eqv_refl p h2
theorem wy_okD {b : Bool} {L k : Nat} : okD L k (wyD b) = true := by
  have : PyData.strOk (bif b then "left" else "right" : Str) = true := by cases b <;> decide +kernel
  cases k <;> exact this
theorem st_okD {l : List (Nat × Bool)} (h : l.length ≤ 900) : okD 900 2 (.tup (stD l)) = true := okD_tupI (by simpa [stD] using h) fun x hx => by
  obtain ⟨y, _, rfl⟩ := List.mem_map.mp hx
  exact okD_tupI (by simp) fun z hz => by
    simp at hz
    rcases hz with rfl | rfl
    · rfl
    · exact wy_okD
theorem po_okD {x : Po} : okD 900 1 x.d = true := by
  cases x with
  | off =>
    refine okD_tupI (by simp) fun z hz => ?_
    simp at hz
  | flr p =>
    refine okD_tupI (by simp) fun z hz => ?_
    simp at hz
    subst hz; rfl
  | on k p =>
    refine okD_tupI (by simp) fun z hz => ?_
    simp at hz
    rcases hz with rfl | rfl <;> rfl
theorem wh_okD {l : List Po} (h : l.length ≤ 900) : okD 900 2 (.tup (whD l)) = true := okD_tupI (by simpa [whD] using h) fun x hx => by
  obtain ⟨y, _, rfl⟩ := List.mem_map.mp hx
  exact po_okD
theorem bl_okD {l : List Bool} (h : l.length ≤ 900) : okD 900 1 (.tup (blD l)) = true := okD_tupI (by simpa [blD] using h) fun x hx => by
  obtain ⟨y, _, rfl⟩ := List.mem_map.mp hx
  rfl
theorem end_okD {t : St} (h1 : t.wh.length ≤ 900) (h2 : t.hg.length ≤ 900) : okD 900 3 (endD t) = true := okD_tupI (by simp) fun x hx => by
  simp at hx
  rcases hx with rfl | rfl
  · exact wh_okD h1
  · exact okD_le (bl_okD h2) (by decide)
theorem p_lmul {m w : Nat} {x : D} (h : s[m]? = some (.lst [x])) (hw : w ≤ 1000) : primL s .mul [.obj m, .int (w : Nat)] = some (List.replicate w x) := by
  have e0 : (List.replicate w [x]).flatten = List.replicate w x := by
    clear hw
    induction w with
    | zero => rfl
    | succ w ih => rw [List.replicate_succ, List.flatten_cons, ih]; rfl
  simp only [primL, vL_obj h, Option.bind_some]
  rw [if_pos, Int.toNat_natCast, e0]
  simp only [Bool.and_eq_true, decide_eq_true_eq, Int.natAbs_natCast, Int.toNat_natCast]
  refine ⟨Nat.ble_eq_true_of_le (by omega), ?_⟩
  rw [sizeLine_eq]
  simp
  omega
theorem p_toTup_obj {m : Nat} {ds : List D} (h : s[m]? = some (Ob.lst ds)) : prim s .toTup [.obj m] = some (.tup ds) := by
  show (vS s (.obj m)).map D.tup = _
  rw [vS_obj h]
  rfl
/-- [x] * w, a new list of the store -/
theorem ev_rep {g : G} {ρ : Env} {e f : E} {x : D} {w : Nat} (he : ∀ s, evE g e ρ s = .ok x s) (hf : ∀ s, evE g f ρ s = .ok (.int (w : Nat)) s) (hw : w ≤ 1000) :
    evE g (.pl true .mul [.lst true [e], f]) ρ s = .ok (.obj (s.length + 1)) (s ++ [.lst [x], .lst (List.replicate w x)]) := by
  have h := p_lmul (s := s ++ [Ob.lst [x]]) (m := s.length) (w := w) get_last hw
  simp [he, hf, mkL, h]
section
variable {m : Nat} {r : Rk} {ns : List Int} {ds : List Dd}
theorem l_run (hW : 20 ≤ W) (hr : r.ok) (hs : Srce s m) (hd : ∀ d ∈ ds, d.ok r) (hl : ds.length ≤ 10) : (callN W (n + 4) f__law_run [r.d, .tup (ds.map Dd.d), .tup [], .tup (intL ns)] s).sat fun v s' => ∃ x, v = .tup [endD (runF r ns ds), .tup (stD (runF r ns ds).st), .tup (blD (runF r ns ds).pr), x] ∧ Srce s' m := by
  rw [call1 (fd := f__law_run) rfl rfl, fin_sat]
  have t4 := hr.t4
  have b3 := hr.b3
  have hrd : r.d = .tup [.int r.t, .tup (r.bs.map bdD)] := rfl
  have e1 : ∀ (o : Option D) (s : Sto), evE (gOf W (n + 3) f__law_run) (.pl true .mul [.lst true [.tup []], .pr .ix [.v 0, .lit (.int 0)]]) [some r.d, some (.tup (ds.map Dd.d)), some (.tup []), some (.tup (intL ns)), o, none, none, none] s = .ok (.obj (s.length + 1)) (s ++ [.lst [.tup []], .lst (List.replicate r.t (.tup []))]) := fun o s =>
    ev_rep (fun s => rfl) (fun s => by simp [hrd]) (by omega)
  have e2 : ∀ (q : Bool) (s : Sto), evE (gOf W (n + 3) f__law_run) (.pl true .mul [.lst true [.lit (.bl q)], .v 4]) [some r.d, some (.tup (ds.map Dd.d)), some (.tup []), some (.tup (intL ns)), some (.int (r.bs.length : Nat)), none, none, none] s = .ok (.obj (s.length + 1)) (s ++ [.lst [.bl q], .lst (List.replicate r.bs.length (.bl q))]) := fun q s =>
    ev_rep (fun s => rfl) (fun s => rfl) (by omega)
  have ml : s.length > m := let ⟨u, v, z, _⟩ := hs; (List.getElem?_eq_some_iff.mp z).1
  obtain ⟨s8, hs8⟩ : ∃ s8 : Sto, s8 = s ++ [.lst [.tup []], .lst (List.replicate r.t (.tup []))] ++ [.lst [.bl true], .lst (List.replicate r.bs.length (.bl true))] ++ [.lst [.bl false], .lst (List.replicate r.bs.length (.bl false))] ++ [.lst []] ++ [.lst []] := ⟨_, rfl⟩
  have at8 : ∀ (i : Nat) (o : Ob), ([Ob.lst [.tup []], .lst (List.replicate r.t (.tup [])), .lst [.bl true], .lst (List.replicate r.bs.length (.bl true)), .lst [.bl false], .lst (List.replicate r.bs.length (.bl false)), .lst [], .lst []] : List Ob)[i]? = some o → s8[s.length + i]? = some o := fun i o h => by
    rw [hs8]
    simp only [List.append_assoc]
    rw [List.getElem?_append_right (by omega)]
    simpa using h
  have h0 : Lw s8 m (s.length + 1) (s.length + 3) (s.length + 5) (s.length + 6) (s.length + 7) 0 (firstF r) := by
    refine ⟨?_, ?_, ?_, ?_, at8 6 _ rfl, ⟨[], at8 7 _ rfl, (fun _ h => nomatch h), Nat.le_refl _⟩, by omega⟩
    · obtain ⟨u, v, z1, z2⟩ := hs
      refine ⟨u, v, ?_, z2⟩
      rw [hs8]
      simp only [List.append_assoc]
      rw [List.getElem?_append_left ml]
      exact z1
    · rw [at8 1 _ rfl]; simp [firstF, whD, Po.d]
    · rw [at8 3 _ rfl]; simp [firstF, blD]
    · rw [at8 5 _ rfl]; simp [firstF, blD]
  have hpar : evS (gOf W (n + 3) f__law_run) (.par [5, 6] [.lst false [.pl true .mul [.lst true [.tup []], .pr .ix [.v 0, .lit (.int 0)]], .pl true .mul [.lst true [.lit (.bl true)], .v 4], .pl true .mul [.lst true [.lit (.bl false)], .v 4], .lst true []], .lst true []])
      [some r.d, some (.tup (ds.map Dd.d)), some (.tup []), some (.tup (intL ns)), some (.int (r.bs.length : Nat)), none, none, none] s =
      .fl (.next [some r.d, some (.tup (ds.map Dd.d)), some (.tup []), some (.tup (intL ns)), some (.int (r.bs.length : Nat)), some (nowD (s.length + 1) (s.length + 3) (s.length + 5) (s.length + 6)), some (.obj (s.length + 7)), none]) s8 := by
    have n1 : evE (gOf W (n + 3) f__law_run) (.lst true []) [some r.d, some (.tup (ds.map Dd.d)), some (.tup []), some (.tup (intL ns)), some (.int (r.bs.length : Nat)), none, none, none] = fun s => .ok (.obj s.length) (s ++ [.lst []]) := by
      funext s; simp [mkL]
    rw [evS_par, evEs_cons, evE_lst, evEs_cons, e1, bind_ok, evEs_cons, e2, bind_ok, evEs_cons, e2, bind_ok, evEs_cons, n1]
    simp only [bind_ok, evEs_nil, mkL_false, evEs_cons, n1]
    simp [nowD, hs8]
  have step : ∀ j : Nat, ∀ t : St, t.ok r → t.st.length ≤ 3 * j → j ≤ 10 → ∀ (d : Dd) (s' : Sto) (o : Option D), d.ok r → Lw s' m (s.length + 1) (s.length + 3) (s.length + 5) (s.length + 6) (s.length + 7) (40 * j) t →
      (evSs (gOf W (n + 3) f__law_run) b__law_run_1 [some r.d, some (.tup (ds.map Dd.d)), some (.tup []), some (.tup (intL ns)), some (.int (r.bs.length : Nat)), some (nowD (s.length + 1) (s.length + 3) (s.length + 5) (s.length + 6)), some (.obj (s.length + 7)), some d.d] s').sat fun fl s'' =>
        fl = .next [some r.d, some (.tup (ds.map Dd.d)), some (.tup []), some (.tup (intL ns)), some (.int (r.bs.length : Nat)), some (nowD (s.length + 1) (s.length + 3) (s.length + 5) (s.length + 6)), some (.obj (s.length + 7)), some d.d] ∧ Lw s'' m (s.length + 1) (s.length + 3) (s.length + 5) (s.length + 6) (s.length + 7) (40 * (j + 1)) (doneF r ns t d) := by
    intro j t ht hst hj d s' o hdo h
    unfold b__law_run_1
    simp [-evSs_cons, evSs_step, seq_sat, so_sat, sat_bind]
    refine (l_deed (W := W) (n := n + 2) h ht hdo).mono fun v s1 h1 => ?_
    rw [rest_cons]
    simp [-evSs_cons, evSs_step, seq_sat, so_sat, sat_bind]
    refine (l_settle (W := W) (n := n) (ns := ns) (A := .tup []) hW hr (plainF_ok hr ht hdo) h1 (by omega) (by rw [plainF_st]; omega)).mono fun v s2 h2 => ?_
    obtain ⟨rfl, h2⟩ := h2
    simp [-evSs_cons, evSs_step, seq_sat, so_sat, sat_bind]
    exact h2.more (by omega)
  simp [-evSs_cons, -evS_par, evSs_step, seq_sat, so_sat, sat_bind, hrd]
  rw [← hrd, rest_cons, seq_sat, hpar]
  simp only [ssat_fl]
  rw [rest_cons, seq_sat]
  refine for_sat2 (src := .seq (.tup (ds.map Dd.d))) rfl ?_
  rw [forSrc_items (xs := ds.map Dd.d) rfl]
  refine for_inv (fun i ρ s' => ∃ o, ρ = [some r.d, some (.tup (ds.map Dd.d)), some (.tup []), some (.tup (intL ns)), some (.int (r.bs.length : Nat)), some (nowD (s.length + 1) (s.length + 3) (s.length + 5) (s.length + 6)), some (.obj (s.length + 7)), o] ∧
    ((ds.take i).foldl (doneF r ns) (firstF r)).ok r ∧ ((ds.take i).foldl (doneF r ns) (firstF r)).st.length ≤ 3 * i ∧ Lw s' m (s.length + 1) (s.length + 3) (s.length + 5) (s.length + 6) (s.length + 7) (40 * i) ((ds.take i).foldl (doneF r ns) (firstF r))) ⟨_, rfl, firstF_ok, by simp [firstF], h0⟩ ?_ ?_
  · rintro i x ρ s' hx ⟨o, rfl, ht, hst, h⟩
    rw [List.getElem?_map] at hx
    obtain ⟨d, h1, rfl⟩ := Option.map_eq_some_iff.mp hx
    have hdo := hd d (List.mem_of_getElem? h1)
    have hi := (List.getElem?_eq_some_iff.mp h1).1
    have htk : ds.take (i + 1) = ds.take i ++ [d] := by rw [List.take_add_one, h1]; rfl
    have q := doneF_ok (ns := ns) hr ht hdo
    refine ⟨_, rfl, ?_⟩
    refine (step i _ ht hst (by omega) d s' o hdo h).mono fun fl s'' hh => ?_
    obtain ⟨rfl, hh⟩ := hh
    refine ⟨_, rfl, ?_⟩
    rw [htk, List.foldl_append]
    exact ⟨q.1, by have := q.2; show (doneF r ns _ d).st.length ≤ _; omega, hh⟩
  · rintro ρ s' ⟨o, rfl, ht, hst, h⟩
    rw [List.length_map, List.take_length] at h ht hst
    have a1 := p_toTup_obj h.wh
    have a2 := p_toTup_obj h.hg
    have a3 := p_toTup_obj h.pr
    have a4 := p_toTup_obj h.st
    simp [rest_cons, so_sat, seq_sat, nowD, a1, a2, a3, a4, sat_bind, endD, runF]
    exact h.src
end
end BS

namespace BS
open PySem
variable {W n : Nat} {s : Sto} {L k : Nat}
theorem sat_of_eq {o : SO} {f : Flow} {s : Sto} {Q : Flow → Sto → Prop} (h : o = .fl f s) (q : Q f s) : o.sat Q := by rw [h]; exact q
theorem turn_sat {m : Nat} {a b : D} {o3 o4 o5 o6 o7 o8 o9 o10 o11 o12 o13 : Option D} (hW : 20 ≤ W) (hs : Srce s m) :
    (evSs (gOf W (n + 20) f_law) b_law_1 [some a, some b, some (.obj m), o3, o4, o5, o6, o7, o8, o9, o10, o11, o12, o13] s).sat fun fl s' => ∃ o3 o4 o5 o6 o7 o8 o9 o10 o11 o12 o13, fl = .next [some a, some b, some (.obj m), o3, o4, o5, o6, o7, o8, o9, o10, o11, o12, o13] ∧ Srce s' m := by
  unfold b_law_1
  simp [-evSs_cons, evSs_step, seq_sat, so_sat, sat_bind]
  refine (rack_sat (n := n + 18) hs).mono fun d s1 h => ?_
  obtain ⟨r, rfl, hr, hs1⟩ := h
  obtain ⟨d2, s2, e2, ns, rfl, hn, hs2⟩ := (numbers_sat (W := W) (n := n + 17) hr hs1).get
  obtain ⟨d3, s3, e3, ds, rfl, hd, hl, hs3⟩ := (script_satD (W := W) (n := n + 17) (mx := 6) hr hs2 (by decide)).get
  rw [rest_cons]
  have e2' : callN W (n + 20) f__law_numbers [.obj m, r.d] s1 = .ok (.tup (intL ns)) s2 := e2
  have e3' : callN W (n + 20) f__law_script [.obj m, r.d, .int 6] s2 = .ok (.tup (ds.map Dd.d)) s3 := e3
  simp [-evSs_cons, evSs_step, seq_sat, so_sat, sat_bind, e2', e3']
  rw [rest_cons]
  simp [-evSs_cons, evSs_step, seq_sat, so_sat, sat_bind]
  refine (l_run (W := W) (n := n + 16) (ns := ns) hW hr hs3 hd (by omega)).mono fun d s4 h => ?_
  obtain ⟨x, rfl, hs4⟩ := h
  have c1 : callN W (n + 20) f_story [r.d, .tup (intL ns), .tup (ds.map Dd.d)] s4 = _ := s_story (W := W) (n := n + 13) (s := s4) (by omega) hr hn hd hl
  have c2 : callN W (n + 20) f_end_of [r.d, .tup (intL ns), .tup (ds.map Dd.d)] s4 = _ := s_end_of (W := W) (n := n + 13) (s := s4) (by omega) hr hn hd hl
  have hrun : (runF r ns ds).ok r ∧ (runF r ns ds).st.length ≤ 3 * ds.length := by
    have key : ∀ (l : List Dd) (t : St) (j : Nat), (∀ d ∈ l, d.ok r) → t.ok r → t.st.length ≤ 3 * j → (l.foldl (doneF r ns) t).ok r ∧ (l.foldl (doneF r ns) t).st.length ≤ 3 * (j + l.length) := by
      intro l
      induction l with
      | nil => intro t j _ h1 h2; exact ⟨h1, h2⟩
      | cons d l ih =>
        intro t j hd h1 h2
        have q := doneF_ok (ns := ns) hr h1 (hd d List.mem_cons_self)
        have := ih (doneF r ns t d) (j + 1) (fun x hx => hd x (List.mem_cons_of_mem _ hx)) q.1 (by omega)
        rw [List.foldl_cons, List.length_cons]
        exact ⟨this.1, by have := this.2; omega⟩
    have := key ds (firstF r) 0 hd firstF_ok (by simp [firstF])
    exact ⟨this.1, by have := this.2; unfold runF; omega⟩
  have t4 := hr.t4
  have b3 := hr.b3
  have l1 := hrun.1.wh
  have l2 := hrun.1.hg
  have q1 : eqv s4 (.tup (stD (runF r ns ds).st)) (.tup (stD (runF r ns ds).st)) = some true := eqv_same (st_okD (by omega)) (by decide)
  have q2 : eqv s4 (endD (runF r ns ds)) (endD (runF r ns ds)) = some true := eqv_same (end_okD (by omega) (by omega)) (by decide)
  simp only [asg_t, asgs_cons, asgs_nil, ssat_fl, List.set_cons_succ, List.set_cons_zero]
  rw [rest_cons]
  simp [-evSs_cons, evSs_step, seq_sat, so_sat, sat_bind, c1, q1]
  rw [rest_cons]
  simp [-evSs_cons, evSs_step, seq_sat, so_sat, sat_bind, c2, q2]
  exact hs4
def lvl : Nat := 21
def fuel : Nat := 20
theorem law_true : ∀ ns : List Int, ns.length ≤ 63 → ∃ s', callN fuel lvl f_law [.scr ns] [] = .ok (.bl true) s' := by
  intro ns hns
  suffices h : (callN fuel lvl f_law [.scr ns] []).sat fun d _ => d = .bl true by
    obtain ⟨a, s, h1, rfl⟩ := h.get
    exact ⟨s, h1⟩
  show (callN fuel (20 + 1) f_law [.scr ns] []).sat _
  rw [call1 (fd := f_law) rfl rfl, fin_sat]
  simp [-evSs_cons, evSs_step, seq_sat]
  refine for_sat (r1_sat ?_)
  simp [sat_bind]
  have hm : (if ((10 : Int) < (ns.length : Int)) then (10 : Int) else (ns.length : Int)) = ((if 10 < ns.length then 10 else ns.length : Nat) : Int) := by
    split <;> split <;> omega
  refine ⟨1 + (if 10 < ns.length then 10 else ns.length : Nat), by rw [hm]; omega, by split <;> omega, _, rfl, ?_⟩
  refine for_inv (fun i ρ s => ∃ o1 o2 o3 o4 o5 o6 o7 o8 o9 o10 o11 o12 o13, ρ = [some (.scr ns), o1, o2, o3, o4, o5, o6, o7, o8, o9, o10, o11, o12, o13]) ⟨_, _, _, _, _, _, _, _, _, _, _, _, _, rfl⟩ ?_ ?_
  · rintro i x ρ s00 hx ⟨o1, o2, o3, o4, o5, o6, o7, o8, o9, o10, o11, o12, o13, rfl⟩
    have hi : i < 11 := by
      have := (List.getElem?_eq_some_iff.mp hx).1
      simp at this
      split at this <;> omega
    have hxi : x = .int (i : Nat) := by
      simp [List.getElem?_map] at hx
      obtain ⟨j, hj, rfl⟩ := hx
      rw [List.getElem?_range] at hj
      · cases hj; rfl
      · have := (List.getElem?_eq_some_iff.mp hj).1
        simpa using this
    subst hxi
    refine ⟨_, rfl, ?_⟩
    unfold b_law_2
    obtain ⟨d1, s1, e1, rfl, hs1⟩ := (source_sat (W := fuel) (n := 19) (s := s00) (ns := ns) (k := i) (by omega)).get
    simp [-evSs_cons, evSs_step, rest_cons, seq_sat, so_sat, sat_bind, e1]
    refine for_sat (r1_sat ?_)
    simp
    refine ⟨6, rfl, by decide, _, rfl, ?_⟩
    refine for_inv (fun _ ρ s => ∃ o3 o4 o5 o6 o7 o8 o9 o10 o11 o12 o13, ρ = [some (.scr ns), some (.int (i : Nat)), some (.obj s00.length), o3, o4, o5, o6, o7, o8, o9, o10, o11, o12, o13] ∧ Srce s s00.length) ⟨_, _, _, _, _, _, _, _, _, _, _, rfl, hs1⟩ ?_ ?_
    · rintro j v ρ s hv ⟨o3, o4, o5, o6, o7, o8, o9, o10, o11, o12, o13, rfl, hs⟩
      refine ⟨_, rfl, ?_⟩
      refine (turn_sat (W := fuel) (n := 0) (by decide) hs).mono fun fl s h => ?_
      obtain ⟨p3, p4, p5, p6, p7, p8, p9, p10, p11, p12, p13, rfl, hs'⟩ := h
      exact ⟨_, _, _, _, _, _, _, _, _, _, _, rfl, hs'⟩
    · rintro ρ s ⟨o3, o4, o5, o6, o7, o8, o9, o10, o11, o12, o13, rfl, hs⟩
      exact ⟨_, _, _, _, _, _, _, _, _, _, _, _, _, rfl⟩
  · rintro ρ s ⟨o1, o2, o3, o4, o5, o6, o7, o8, o9, o10, o11, o12, o13, rfl⟩
    dsimp only
    exact sat_of_eq (f := .ret (.bl true)) (s := s) (by kernel_rfl) rfl
end BS


namespace BS
open PySem PySem.Spec PyProof.Rows L2
def top (i : Nat) : Stmt := PySem.Challenge.pw_boardsure_k03_breaking_with_told_numbers.main.body.getD i (.Pass ⟨0, 0, 0, 0⟩)
def bts : List Str := ["isinstance", "int", "bool", "tuple", "len", "str", "all", "zip", "range", "sum", "list", "abs", "min", "enumerate"]
def gls : List (Str × Lit) := [("LARGEST", .int 1000000000000)]
def gts : List (Str × List Lit) := []
def muts : List (Nat × Nat) := [(225, 19), (225, 35), (225, 50), (225, 66), (225, 71), (130, 15), (131, 11), (170, 11), (192, 12)]

def e_is_number : Ent := ⟨"is_number", top 7, ["value", "least", "most"], ["value", "least", "most"], f_is_number⟩
def e_is_tuple : Ent := ⟨"is_tuple", top 8, ["value", "least", "most"], ["value", "least", "most"], f_is_tuple⟩
def e_is_board : Ent := ⟨"is_board", top 9, ["value"], ["value", "place"], f_is_board⟩
def e_is_good_rack : Ent := ⟨"is_good_rack", top 10, ["value"], ["value", "board"], f_is_good_rack⟩
def e_wide_of : Ent := ⟨"wide_of", top 11, ["rack"], ["rack"], f_wide_of⟩
def e_are_good_numbers : Ent := ⟨"are_good_numbers", top 12, ["rack", "value"], ["rack", "value", "one"], f_are_good_numbers⟩
def e_is_put : Ent := ⟨"is_put", top 13, ["rack", "value"], ["rack", "value", "left", "right"], f_is_put⟩
def e_is_deed : Ent := ⟨"is_deed", top 14, ["rack", "value"], ["rack", "value"], f_is_deed⟩
def e_is_good_script : Ent := ⟨"is_good_script", top 15, ["rack", "value"], ["rack", "value", "deed"], f_is_good_script⟩
def e_summed : Ent := ⟨"summed", top 16, ["line", "numbers"], ["line", "numbers", "factor", "number"], f_summed⟩
def e_need_rack : Ent := ⟨"need_rack", top 17, ["value"], ["value"], f_need_rack⟩
def e_need_numbers : Ent := ⟨"need_numbers", top 18, ["rack", "value"], ["rack", "value"], f_need_numbers⟩
def e_need_script : Ent := ⟨"need_script", top 19, ["rack", "value"], ["rack", "value"], f_need_script⟩
def e_first_standing : Ent := ⟨"first_standing", top 21, ["rack"], ["rack", "many"], f_first_standing⟩
def e_changed : Ent := ⟨"changed", top 22, ["items", "place", "item"], ["items", "place", "item"], f_changed⟩
def e_peg_line : Ent := ⟨"peg_line", top 23, ["rack", "shelf", "load", "way"], ["rack", "shelf", "load", "way", "left", "right", "found", "thing", "place"], f_peg_line⟩
def e_load_on : Ent := ⟨"load_on", top 24, ["where", "shelf"], ["where", "shelf", "some", "thing", "place"], f_load_on⟩
def e_beneath : Ent := ⟨"beneath", top 25, ["rack", "hanging", "shelf", "place"], ["rack", "hanging", "shelf", "place", "other", "left", "right"], f_beneath⟩
def e_broken : Ent := ⟨"broken", top 26, ["rack", "standing", "shelf", "way"], ["rack", "standing", "shelf", "way", "where", "hanging", "propped", "story", "thing", "place"], f_broken⟩
def e_pegs_of : Ent := ⟨"pegs_of", top 27, ["rack", "standing"], ["rack", "standing", "where", "hanging", "propped", "story", "found", "shelf", "load", "way"], f_pegs_of⟩
def e_plain_deed : Ent := ⟨"plain_deed", top 28, ["rack", "standing", "deed"], ["rack", "standing", "deed", "where", "hanging", "propped", "story", "place"], f_plain_deed⟩
def e_settled : Ent := ⟨"settled", top 29, ["rack", "numbers", "standing"], ["rack", "numbers", "standing", "more", "shelf", "way", "line"], f_settled⟩
def e_done : Ent := ⟨"done", top 30, ["rack", "numbers", "standing", "deed"], ["rack", "numbers", "standing", "deed"], f_done⟩
def e_standing_by : Ent := ⟨"standing_by", top 31, ["rack", "numbers", "script"], ["rack", "numbers", "script", "standing", "deed"], f_standing_by⟩
def e_story : Ent := ⟨"story", top 32, ["rack", "numbers", "script"], ["rack", "numbers", "script"], f_story⟩
def e_end_of : Ent := ⟨"end_of", top 33, ["rack", "numbers", "script"], ["rack", "numbers", "script"], f_end_of⟩
def e__law_source : Ent := ⟨"_law_source", top 35, ["script", "k"], ["script", "k", "cell"], f__law_source⟩
def e__law_draw : Ent := ⟨"_law_draw", top 36, ["source", "many"], ["source", "many", "found"], f__law_draw⟩
def e__law_of : Ent := ⟨"_law_of", top 37, ["source", "items"], ["source", "items"], f__law_of⟩
def e__law_sum : Ent := ⟨"_law_sum", top 38, ["line", "numbers"], ["line", "numbers", "factor", "number"], f__law_sum⟩
def e__law_wide : Ent := ⟨"_law_wide", top 39, ["rack"], ["rack"], f__law_wide⟩
def e__law_rack : Ent := ⟨"_law_rack", top 40, ["source", "most", "shelves"], ["source", "most", "shelves", "boards", "turn", "left"], f__law_rack⟩
def e__law_numbers : Ent := ⟨"_law_numbers", top 41, ["source", "rack"], ["source", "rack", "found", "at"], f__law_numbers⟩
def e__law_script : Ent := ⟨"_law_script", top 42, ["source", "rack", "most"], ["source", "rack", "most", "found", "turn", "shelf", "thing", "left", "right", "place", "word", "deed"], f__law_script⟩
def e__law_peg : Ent := ⟨"_law_peg", top 43, ["rack", "shelf", "load", "way"], ["rack", "shelf", "load", "way", "left", "right", "line", "thing", "place", "far"], f__law_peg⟩
def e__law_fall : Ent := ⟨"_law_fall", top 44, ["rack", "hangs", "shelf", "place"], ["rack", "hangs", "shelf", "place", "other", "left", "right"], f__law_fall⟩
def e__law_deed : Ent := ⟨"_law_deed", top 45, ["now", "deed"], ["now", "deed", "place"], f__law_deed⟩
def e__law_load : Ent := ⟨"_law_load", top 46, ["where", "shelf"], ["where", "shelf", "found", "thing", "spot"], f__law_load⟩
def e__law_settle : Ent := ⟨"_law_settle", top 47, ["rack", "now", "answers", "numbers", "tests"], ["rack", "now", "answers", "numbers", "tests", "shelf", "load", "broke", "way", "line", "good", "thing", "place"], f__law_settle⟩
def e__law_run : Ent := ⟨"_law_run", top 48, ["rack", "script", "answers", "numbers"], ["rack", "script", "answers", "numbers", "many", "now", "tests", "deed"], f__law_run⟩
def e_law : Ent := ⟨"law", top 49, ["script"], ["script", "k", "source", "turn", "rack", "numbers", "deeds", "end", "story_so", "props", "tests", "put", "again", "low"], f_law⟩
def ents : List Ent := [e_is_number, e_is_tuple, e_is_board, e_is_good_rack, e_wide_of, e_are_good_numbers, e_is_put, e_is_deed, e_is_good_script, e_summed, e_need_rack, e_need_numbers, e_need_script, e_first_standing, e_changed, e_peg_line, e_load_on, e_beneath, e_broken, e_pegs_of, e_plain_deed, e_settled, e_done, e_standing_by, e_story, e_end_of, e__law_source, e__law_draw, e__law_of, e__law_sum, e__law_wide, e__law_rack, e__law_numbers, e__law_script, e__law_peg, e__law_fall, e__law_deed, e__law_load, e__law_settle, e__law_run, e_law]

def md : Md := ⟨ents, gls, gts, bts, muts⟩
theorem ok_is_number : EntOk md e_is_number := ⟨⟨rfl, rfl, rfl, by decide +kernel, rfl, by decide +kernel, by decide +kernel⟩, fun _ _ _ _ _ _ us hl => match us, hl with | [_, _, _], _ => rfl, by kernel_rfl⟩
theorem ok_is_tuple : EntOk md e_is_tuple := ⟨⟨rfl, rfl, rfl, by decide +kernel, rfl, by decide +kernel, by decide +kernel⟩, fun _ _ _ _ _ _ us hl => match us, hl with | [_, _, _], _ => rfl, by kernel_rfl⟩
theorem ok_is_board : EntOk md e_is_board := ⟨⟨rfl, rfl, rfl, by decide +kernel, rfl, by decide +kernel, by decide +kernel⟩, fun _ _ _ _ _ _ us hl => match us, hl with | [_], _ => rfl, by kernel_rfl⟩
theorem ok_is_good_rack : EntOk md e_is_good_rack := ⟨⟨rfl, rfl, rfl, by decide +kernel, rfl, by decide +kernel, by decide +kernel⟩, fun _ _ _ _ _ _ us hl => match us, hl with | [_], _ => rfl, by kernel_rfl⟩
theorem ok_wide_of : EntOk md e_wide_of := ⟨⟨rfl, rfl, rfl, by decide +kernel, rfl, by decide +kernel, by decide +kernel⟩, fun _ _ _ _ _ _ us hl => match us, hl with | [_], _ => rfl, by kernel_rfl⟩
theorem ok_are_good_numbers : EntOk md e_are_good_numbers := ⟨⟨rfl, rfl, rfl, by decide +kernel, rfl, by decide +kernel, by decide +kernel⟩, fun _ _ _ _ _ _ us hl => match us, hl with | [_, _], _ => rfl, by kernel_rfl⟩
theorem ok_is_put : EntOk md e_is_put := ⟨⟨rfl, rfl, rfl, by decide +kernel, rfl, by decide +kernel, by decide +kernel⟩, fun _ _ _ _ _ _ us hl => match us, hl with | [_, _], _ => rfl, by kernel_rfl⟩
theorem ok_is_deed : EntOk md e_is_deed := ⟨⟨rfl, rfl, rfl, by decide +kernel, rfl, by decide +kernel, by decide +kernel⟩, fun _ _ _ _ _ _ us hl => match us, hl with | [_, _], _ => rfl, by kernel_rfl⟩
theorem ok_is_good_script : EntOk md e_is_good_script := ⟨⟨rfl, rfl, rfl, by decide +kernel, rfl, by decide +kernel, by decide +kernel⟩, fun _ _ _ _ _ _ us hl => match us, hl with | [_, _], _ => rfl, by kernel_rfl⟩
theorem ok_summed : EntOk md e_summed := ⟨⟨rfl, rfl, rfl, by decide +kernel, rfl, by decide +kernel, by decide +kernel⟩, fun _ _ _ _ _ _ us hl => match us, hl with | [_, _], _ => rfl, by kernel_rfl⟩
theorem ok_need_rack : EntOk md e_need_rack := ⟨⟨rfl, rfl, rfl, by decide +kernel, rfl, by decide +kernel, by decide +kernel⟩, fun _ _ _ _ _ _ us hl => match us, hl with | [_], _ => rfl, by kernel_rfl⟩
theorem ok_need_numbers : EntOk md e_need_numbers := ⟨⟨rfl, rfl, rfl, by decide +kernel, rfl, by decide +kernel, by decide +kernel⟩, fun _ _ _ _ _ _ us hl => match us, hl with | [_, _], _ => rfl, by kernel_rfl⟩
theorem ok_need_script : EntOk md e_need_script := ⟨⟨rfl, rfl, rfl, by decide +kernel, rfl, by decide +kernel, by decide +kernel⟩, fun _ _ _ _ _ _ us hl => match us, hl with | [_, _], _ => rfl, by kernel_rfl⟩
theorem ok_first_standing : EntOk md e_first_standing := ⟨⟨rfl, rfl, rfl, by decide +kernel, rfl, by decide +kernel, by decide +kernel⟩, fun _ _ _ _ _ _ us hl => match us, hl with | [_], _ => rfl, by kernel_rfl⟩
theorem ok_changed : EntOk md e_changed := ⟨⟨rfl, rfl, rfl, by decide +kernel, rfl, by decide +kernel, by decide +kernel⟩, fun _ _ _ _ _ _ us hl => match us, hl with | [_, _, _], _ => rfl, by kernel_rfl⟩
theorem ok_peg_line : EntOk md e_peg_line := ⟨⟨rfl, rfl, rfl, by decide +kernel, rfl, by decide +kernel, by decide +kernel⟩, fun _ _ _ _ _ _ us hl => match us, hl with | [_, _, _, _], _ => rfl, by kernel_rfl⟩
theorem ok_load_on : EntOk md e_load_on := ⟨⟨rfl, rfl, rfl, by decide +kernel, rfl, by decide +kernel, by decide +kernel⟩, fun _ _ _ _ _ _ us hl => match us, hl with | [_, _], _ => rfl, by kernel_rfl⟩
theorem ok_beneath : EntOk md e_beneath := ⟨⟨rfl, rfl, rfl, by decide +kernel, rfl, by decide +kernel, by decide +kernel⟩, fun _ _ _ _ _ _ us hl => match us, hl with | [_, _, _, _], _ => rfl, by kernel_rfl⟩
theorem ok_broken : EntOk md e_broken := ⟨⟨rfl, rfl, rfl, by decide +kernel, rfl, by decide +kernel, by decide +kernel⟩, fun _ _ _ _ _ _ us hl => match us, hl with | [_, _, _, _], _ => rfl, by kernel_rfl⟩
theorem ok_pegs_of : EntOk md e_pegs_of := ⟨⟨rfl, rfl, rfl, by decide +kernel, rfl, by decide +kernel, by decide +kernel⟩, fun _ _ _ _ _ _ us hl => match us, hl with | [_, _], _ => rfl, by kernel_rfl⟩
theorem ok_plain_deed : EntOk md e_plain_deed := ⟨⟨rfl, rfl, rfl, by decide +kernel, rfl, by decide +kernel, by decide +kernel⟩, fun _ _ _ _ _ _ us hl => match us, hl with | [_, _, _], _ => rfl, by kernel_rfl⟩
theorem ok_settled : EntOk md e_settled := ⟨⟨rfl, rfl, rfl, by decide +kernel, rfl, by decide +kernel, by decide +kernel⟩, fun _ _ _ _ _ _ us hl => match us, hl with | [_, _, _], _ => rfl, by kernel_rfl⟩
theorem ok_done : EntOk md e_done := ⟨⟨rfl, rfl, rfl, by decide +kernel, rfl, by decide +kernel, by decide +kernel⟩, fun _ _ _ _ _ _ us hl => match us, hl with | [_, _, _, _], _ => rfl, by kernel_rfl⟩
theorem ok_standing_by : EntOk md e_standing_by := ⟨⟨rfl, rfl, rfl, by decide +kernel, rfl, by decide +kernel, by decide +kernel⟩, fun _ _ _ _ _ _ us hl => match us, hl with | [_, _, _], _ => rfl, by kernel_rfl⟩
theorem ok_story : EntOk md e_story := ⟨⟨rfl, rfl, rfl, by decide +kernel, rfl, by decide +kernel, by decide +kernel⟩, fun _ _ _ _ _ _ us hl => match us, hl with | [_, _, _], _ => rfl, by kernel_rfl⟩
theorem ok_end_of : EntOk md e_end_of := ⟨⟨rfl, rfl, rfl, by decide +kernel, rfl, by decide +kernel, by decide +kernel⟩, fun _ _ _ _ _ _ us hl => match us, hl with | [_, _, _], _ => rfl, by kernel_rfl⟩
theorem ok__law_source : EntOk md e__law_source := ⟨⟨rfl, rfl, rfl, by decide +kernel, rfl, by decide +kernel, by decide +kernel⟩, fun _ _ _ _ _ _ us hl => match us, hl with | [_, _], _ => rfl, by kernel_rfl⟩
theorem ok__law_draw : EntOk md e__law_draw := ⟨⟨rfl, rfl, rfl, by decide +kernel, rfl, by decide +kernel, by decide +kernel⟩, fun _ _ _ _ _ _ us hl => match us, hl with | [_, _], _ => rfl, by kernel_rfl⟩
theorem ok__law_of : EntOk md e__law_of := ⟨⟨rfl, rfl, rfl, by decide +kernel, rfl, by decide +kernel, by decide +kernel⟩, fun _ _ _ _ _ _ us hl => match us, hl with | [_, _], _ => rfl, by kernel_rfl⟩
theorem ok__law_sum : EntOk md e__law_sum := ⟨⟨rfl, rfl, rfl, by decide +kernel, rfl, by decide +kernel, by decide +kernel⟩, fun _ _ _ _ _ _ us hl => match us, hl with | [_, _], _ => rfl, by kernel_rfl⟩
theorem ok__law_wide : EntOk md e__law_wide := ⟨⟨rfl, rfl, rfl, by decide +kernel, rfl, by decide +kernel, by decide +kernel⟩, fun _ _ _ _ _ _ us hl => match us, hl with | [_], _ => rfl, by kernel_rfl⟩
theorem ok__law_rack : EntOk md e__law_rack := ⟨⟨rfl, rfl, rfl, by decide +kernel, rfl, by decide +kernel, by decide +kernel⟩, fun _ _ _ _ _ _ us hl => match us, hl with | [_, _, _], _ => rfl, by kernel_rfl⟩
theorem ok__law_numbers : EntOk md e__law_numbers := ⟨⟨rfl, rfl, rfl, by decide +kernel, rfl, by decide +kernel, by decide +kernel⟩, fun _ _ _ _ _ _ us hl => match us, hl with | [_, _], _ => rfl, by kernel_rfl⟩
theorem ok__law_script : EntOk md e__law_script := ⟨⟨rfl, rfl, rfl, by decide +kernel, rfl, by decide +kernel, by decide +kernel⟩, fun _ _ _ _ _ _ us hl => match us, hl with | [_, _, _], _ => rfl, by kernel_rfl⟩
theorem ok__law_peg : EntOk md e__law_peg := ⟨⟨rfl, rfl, rfl, by decide +kernel, rfl, by decide +kernel, by decide +kernel⟩, fun _ _ _ _ _ _ us hl => match us, hl with | [_, _, _, _], _ => rfl, by kernel_rfl⟩
theorem ok__law_fall : EntOk md e__law_fall := ⟨⟨rfl, rfl, rfl, by decide +kernel, rfl, by decide +kernel, by decide +kernel⟩, fun _ _ _ _ _ _ us hl => match us, hl with | [_, _, _, _], _ => rfl, by kernel_rfl⟩
theorem ok__law_deed : EntOk md e__law_deed := ⟨⟨rfl, rfl, rfl, by decide +kernel, rfl, by decide +kernel, by decide +kernel⟩, fun _ _ _ _ _ _ us hl => match us, hl with | [_, _], _ => rfl, by kernel_rfl⟩
theorem ok__law_load : EntOk md e__law_load := ⟨⟨rfl, rfl, rfl, by decide +kernel, rfl, by decide +kernel, by decide +kernel⟩, fun _ _ _ _ _ _ us hl => match us, hl with | [_, _], _ => rfl, by kernel_rfl⟩
theorem ok__law_settle : EntOk md e__law_settle := ⟨⟨rfl, rfl, rfl, by decide +kernel, rfl, by decide +kernel, by decide +kernel⟩, fun _ _ _ _ _ _ us hl => match us, hl with | [_, _, _, _, _], _ => rfl, by kernel_rfl⟩
theorem ok__law_run : EntOk md e__law_run := ⟨⟨rfl, rfl, rfl, by decide +kernel, rfl, by decide +kernel, by decide +kernel⟩, fun _ _ _ _ _ _ us hl => match us, hl with | [_, _, _, _], _ => rfl, by kernel_rfl⟩
theorem ok_law : EntOk md e_law := ⟨⟨rfl, rfl, rfl, by decide +kernel, rfl, by decide +kernel, by decide +kernel⟩, fun _ _ _ _ _ _ us hl => match us, hl with | [_], _ => rfl, by kernel_rfl⟩
theorem ok_all : ∀ e ∈ md.ents, EntOk md e := by
  intro e he
  simp only [md, ents, List.mem_cons, List.not_mem_nil, or_false] at he
  rcases he with rfl | rfl | rfl | rfl | rfl | rfl | rfl | rfl | rfl | rfl | rfl | rfl | rfl | rfl | rfl | rfl | rfl | rfl | rfl | rfl | rfl | rfl | rfl | rfl | rfl | rfl | rfl | rfl | rfl | rfl | rfl | rfl | rfl | rfl | rfl | rfl | rfl | rfl | rfl | rfl | rfl
  · exact ok_is_number
  · exact ok_is_tuple
  · exact ok_is_board
  · exact ok_is_good_rack
  · exact ok_wide_of
  · exact ok_are_good_numbers
  · exact ok_is_put
  · exact ok_is_deed
  · exact ok_is_good_script
  · exact ok_summed
  · exact ok_need_rack
  · exact ok_need_numbers
  · exact ok_need_script
  · exact ok_first_standing
  · exact ok_changed
  · exact ok_peg_line
  · exact ok_load_on
  · exact ok_beneath
  · exact ok_broken
  · exact ok_pegs_of
  · exact ok_plain_deed
  · exact ok_settled
  · exact ok_done
  · exact ok_standing_by
  · exact ok_story
  · exact ok_end_of
  · exact ok__law_source
  · exact ok__law_draw
  · exact ok__law_of
  · exact ok__law_sum
  · exact ok__law_wide
  · exact ok__law_rack
  · exact ok__law_numbers
  · exact ok__law_script
  · exact ok__law_peg
  · exact ok__law_fall
  · exact ok__law_deed
  · exact ok__law_load
  · exact ok__law_settle
  · exact ok__law_run
  · exact ok_law

abbrev Rw : PySem.W.OpenRow := PySem.W.OpenLaw.row PySem.Challenge.rw_boardsure_k03_breaking_with_told_numbers
abbrev hk : PySem.W.Hook := He.hookX 4 md.fa md.dds [] [] md.ex
def ob (s : PySem.W.SharedT) : He.AlX := He.obsX 4 md.fa md.dds [] [] md.ex (HandSHeadRun.getT s)
theorem ob_eq (s : PySem.W.SharedT) : ob s = hk.obs s.abs := He.obsX_eq (HandSHeadRun.getT_eq s)
def loose : List PySem.Str := (["BoardError", "InvalidRack", "InvalidNumbers", "InvalidScript", "LARGEST", "is_number", "is_tuple", "is_board", "is_good_rack", "wide_of", "are_good_numbers", "is_put", "is_deed", "is_good_script", "summed", "need_rack", "need_numbers", "need_script", "first_standing", "changed", "peg_line", "load_on", "beneath", "broken", "pegs_of", "plain_deed", "settled", "done", "standing_by", "story"] : List PySem.Str) ++ (["end_of", "_law_source", "_law_draw", "_law_of", "_law_sum", "_law_wide", "_law_rack", "_law_numbers", "_law_script", "_law_peg", "_law_fall", "_law_deed", "_law_load", "_law_settle", "_law_run"] : List PySem.Str)
theorem run (w : World) : HandSHeadRun.RunEq Rw (PySem.W.view Rw.prog [49]) hk ob 20000 loose w := by
  intro os
  kernel_rfl
end BS
open PySem PySem.W PySem.Calls PyProof.Rows
theorem PySem.Challenge.cw_boardsure_k03_breaking_with_told_numbers_holds : PySem.Challenge.rw_boardsure_k03_breaking_with_told_numbers.Holds := by
  w_on; o_law
  refine HandSHeadRun.head_any (r := OpenLaw.row PySem.Challenge.rw_boardsure_k03_breaking_with_told_numbers) (q := view (OpenLaw.row PySem.Challenge.rw_boardsure_k03_breaking_with_told_numbers).prog [49]) (H := BS.hk) (ob := BS.ob) (M := 20000) (loose := BS.loose) (d := HandSHeadRun.topDef (OpenLaw.row PySem.Challenge.rw_boardsure_k03_breaking_with_told_numbers).prog 49) (kwd := []) BS.ob_eq
    (by kernel_rfl) (fun s => by kernel_rfl) BS.run (by kernel_rfl) (by kernel_rfl) (by kernel_rfl) (by rfl) (by first | assumption | decide +kernel) (by decide +kernel) ⟨rfl, rfl, rfl, rfl, rfl, by decide +kernel⟩ ?hw ?hc
  case hw => w_witness2
  case hc =>
    refine BS.walk_own (l := PySem.Challenge.rw_boardsure_k03_breaking_with_told_numbers) (n := 63) (k := BS.lvl) (x := "script") rfl (by decide) (by kernel_rfl) ⟨rfl, by decide, by decide⟩ ?F
    case F =>
      intro w mg fa h Y G hmg0
      obtain ⟨K, KX, c⟩ := Y
      have hmg : mg ("law" : PySem.Str) = some (.ref fa) := by
        have e : (HandSHeadRun.topDef (OpenLaw.row PySem.Challenge.rw_boardsure_k03_breaking_with_told_numbers).prog 49).name = ("law" : PySem.Str) := by kernel_rfl
        rw [← e]
        exact hmg0
      exact BS.law_fn (M := BS.md) (e := BS.e_law) (n := 63) (W := BS.fuel) KX G c (by decide +kernel) BS.ok_all (by simp [BS.md, BS.ents]) rfl hmg BS.law_true
